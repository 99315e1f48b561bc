import PyProof.Rows.All
import Wide.All
import OpenK.AllK
import Wide.FinOn
import HandS.ForMost
import HandS.ForExc
import HandS.Property
import HandS.IsInst
import HandS.TryMany
import HandS.Zip
import HandS.Style
import HandS.NoneIn
import HandS.More
import HandS.Defaults
import HandS.Deep
import HandS.TupAny
import HandS.Wide
import HandS.Star
import HandS.CallSlots
import HandS.Small
import KE.KExcSuper
import KE.GoesNew
import KE.KDictZip
import HandS.ExcIs
import HandS.ExcField
import HandS.OwnEq
import HandS.DictEq
import KE.RegKIsAll
import KE.RegKSuper
import KE.RegKTryMore
import PySem.Challenge.RW_counterbook_k01_rules_refused
set_option linter.all false
/-! Mp: values, owned objects; what nodes compute. Core Lean alone. -/
namespace Mp

/-- pure data, by value -/
inductive D where
  | non | bl (b : Bool) | int (i : Int) | str (s : String)
  | tup (xs : List D) | lst (xs : List D)
  | ins (c : Nat) (fs : List (Nat × D))
  | dic (kvs : List (D × D))
instance : Inhabited D := ⟨.non⟩
/-- a value: data, an owned object, the list that stands at a place of an owned object -/
inductive W where
  | d (x : D) | own (l : Nat) | ptr (l : Nat) (i : Nat)
instance : Inhabited W := ⟨.d .non⟩
inductive Cell where
  | d (x : D) | sub (xs : List D)
/-- an owned object -/
inductive Ob where
  | dead | lst (cs : List Cell) | ins (c : Nat) (fs : List (Nat × Cell)) | dic (kvs : List (D × D))
abbrev Mem := List Ob
structure Exc where
  cls : Nat
  fs : List (Nat × D)
inductive R (α : Type) where
  | ok (a : α) | exc (e : Exc)
abbrev Ans (α : Type) := Option (R α × Mem)
abbrev Env := List (Option W)
def LIM : Nat := 16777216

def bnd {α β : Type} (x : Ans α) (f : α → Mem → Ans β) : Ans β :=
  match x with
  | none => none
  | some (.exc e, μ) => some (.exc e, μ)
  | some (.ok a, μ) => f a μ
def nop : W → Bool
  | .ptr _ _ => false
  | _ => true
/-- the same, the value a place in an owned object only where s -/
def bndg {β : Type} (s : Bool) (x : Ans W) (f : W → Mem → Ans β) : Ans β :=
  match x with
  | none => none
  | some (.exc e, μ) => some (.exc e, μ)
  | some (.ok a, μ) => if (nop a || s) = true then f a μ else none
def ret {α : Type} (a : α) (μ : Mem) : Ans α := some (.ok a, μ)
/-- a pure outcome -/
def opt {α : Type} (o : Option α) (μ : Mem) : Ans α := match o with | none => none | some a => some (.ok a, μ)

/-! ### views -/
def cellsD : List Cell → Option (List D)
  | [] => some []
  | .d x :: r => match cellsD r with | some xs => some (x :: xs) | none => none
  | .sub _ :: _ => none
def cellsF : List (Nat × Cell) → Option (List (Nat × D))
  | [] => some []
  | (f, .d x) :: r => match cellsF r with | some xs => some ((f, x) :: xs) | none => none
  | (_, .sub _) :: _ => none
/-- a list's items -/
def asL (μ : Mem) : W → Option (List D)
  | .d (.lst xs) => some xs
  | .own l => match μ[l]? with | some (.lst cs) => cellsD cs | _ => none
  | .ptr l i => match μ[l]? with
    | some (.lst cs) => match cs[i]? with | some (.sub xs) => some xs | _ => none
    | some (.ins _ fs) => match fs.lookup i with | some (.sub xs) => some xs | _ => none
    | _ => none
  | _ => none
/-- a list's or a tuple's items -/
def asS (μ : Mem) : W → Option (List D)
  | .d (.tup xs) => some xs
  | w => asL μ w
/-- a value as data -/
def asD (μ : Mem) : W → Option D
  | .d x => some x
  | w => match asL μ w with | some xs => some (.lst xs) | none => none
def asK (μ : Mem) : W → Option (List (D × D))
  | .d (.dic kvs) => some kvs
  | .own l => match μ[l]? with | some (.dic kvs) => some kvs | _ => none
  | _ => none

/-! ### equality -/
mutual
/-- what may be compared: no instances, no dicts; of small depth -/
def fl : Nat → D → Bool
  | _, .non => true | _, .bl _ => true | _, .int _ => true | _, .str _ => true
  | 0, .tup _ => false | 0, .lst _ => false
  | n + 1, .tup xs => flA n xs | n + 1, .lst xs => flA n xs
  | _, .ins _ _ => false | _, .dic _ => false
def flA : Nat → List D → Bool
  | _, [] => true
  | n, x :: xs => fl n x && flA n xs
end
mutual
def eqD : D → D → Bool
  | .non, .non => true
  | .bl a, .bl b => a == b
  | .bl a, .int j => (if a then 1 else 0) == j
  | .int i, .bl b => i == (if b then 1 else 0)
  | .int i, .int j => i == j
  | .str x, .str y => x == y
  | .lst xs, .lst ys => eqA xs ys
  | .tup xs, .tup ys => eqA xs ys
  | _, _ => false
def eqA : List D → List D → Bool
  | [], [] => true
  | x :: xs, y :: ys => eqD x y && eqA xs ys
  | _, _ => false
end
/-- == of two data -/
def eqO (x y : D) : Option Bool := if fl 8 x && fl 8 y then some (eqD x y) else none
/-- keys of dicts: toInts and texts -/
def kq : D → D → Bool
  | .int i, .int j => i == j
  | .str s, .str t => s == t
  | _, _ => false
def okK : D → Bool
  | .int _ => true | .str _ => true | _ => false
def dget (kvs : List (D × D)) (k : D) : Option D := (kvs.find? fun kv => kq kv.1 k).map (·.2)
def dput (kvs : List (D × D)) (k v : D) : List (D × D) :=
  if kvs.any fun kv => kq kv.1 k then kvs.map fun kv => if kq kv.1 k then (kv.1, v) else kv else kvs ++ [(k, v)]

/-- what is told of the written dicts: some value is not flat, or there is no key 'check' -/
def kdM (kvs : List (D × D)) : Bool := (kvs.any fun kv => !fl 0 kv.2) || !(kvs.any fun kv => kq kv.1 (.str "check"))

/-! ### places -/
def ixn (n : Nat) (i : Int) : Option Nat := if 0 ≤ i then (if i < n then some i.toNat else none) else if -(n : Int) ≤ i then some (i + n).toNat else none
def atN {α : Type} (xs : List α) (i : Int) : Option α := match ixn xs.length i with | some j => xs[j]? | none => none
def sIx (n d : Nat) : Option Int → Nat
  | none => d
  | some v => if v < 0 then (v + (n : Int)).toNat else min v.toNat n
def cut {α : Type} (xs : List α) (lo hi : Option Int) : List α := (xs.drop (sIx xs.length 0 lo)).take (sIx xs.length xs.length hi - sIx xs.length 0 lo)

/-! ### truth, types -/
def truth (μ : Mem) : W → Option Bool
  | .d .non => some false
  | .d (.bl b) => some b
  | .d (.int i) => some (i != 0)
  | .d (.str s) => if s.length ≤ LIM then some (s.length != 0) else none
  | .d (.tup xs) => some (!xs.isEmpty)
  | w => match asL μ w with | some xs => some (!xs.isEmpty) | none => none
inductive Ty where
  | int | bool | str | tuple | list | dict | cls (c : Nat)
  deriving DecidableEq
/-- isinstance of one type -/
def isTy (μ : Mem) (w : W) (t : Ty) : Option Bool :=
  match w with
  | .d .non => some false
  | .d (.bl _) => some (t == .bool || t == .int)
  | .d (.int _) => some (t == .int)
  | .d (.str _) => some (t == .str)
  | .d (.tup _) => some (t == .tuple)
  | .d (.lst _) => some (t == .list)
  | .d (.dic _) => some (t == .dict)
  | .d (.ins c _) => if t = .cls c then some true else none
  | .own l => match μ[l]? with
    | some (.lst _) => some (t == .list)
    | some (.dic _) => some (t == .dict)
    | some (.ins c _) => if t = .cls c then some true else none
    | _ => none
  | .ptr _ _ => none
def isAny (μ : Mem) (w : W) : List Ty → Option Bool
  | [] => some false
  | t :: ts => match isTy μ w t, isAny μ w ts with | some a, some b => some (a || b) | _, _ => none
def clsOf (μ : Mem) : W → Option Nat
  | .d (.ins c _) => some c
  | .own l => match μ[l]? with | some (.ins c _) => some c | _ => none
  | _ => none

/-! ### operators -/
inductive BOp where
  | add | sub | mul | fdiv | mod | pow
  deriving DecidableEq
inductive COp where
  | lt | le | gt | ge | eq | ne | is | isN | inn | nin
  deriving DecidableEq
def P64 : Int := 18446744073709551616
def addW (μ : Mem) : W → W → Option D
  | .d (.int i), .d (.int j) => some (.int (i + j))
  | .d (.str s), .d (.str t) => if s.length + t.length ≤ LIM then some (.str (s ++ t)) else none
  | .d (.tup xs), .d (.tup ys) => if xs.length + ys.length ≤ LIM then some (.tup (xs ++ ys)) else none
  | a, b => match asL μ a, asL μ b with | some xs, some ys => if xs.length + ys.length ≤ LIM then some (.lst (xs ++ ys)) else none | _, _ => none
def subW : W → W → Option D
  | .d (.int i), .d (.int j) => some (.int (i - j))
  | _, _ => none
def mulW : W → W → Option D
  | .d (.int i), .d (.int j) => if (-P64 < i ∧ i < P64) ∨ (-P64 < j ∧ j < P64) then some (.int (i * j)) else none
  | .d (.lst xs), .d (.int k) => if 0 ≤ k ∧ k < 1000 ∧ xs.length ≤ 1000 then some (.lst (List.replicate k.toNat xs).flatten) else none
  | .d (.str s), .d (.int k) => if 0 ≤ k ∧ k < 1000 ∧ s.length ≤ 1000 then some (.str (String.ofList (List.replicate k.toNat s.toList).flatten)) else none
  | _, _ => none
def fdivW : W → W → Option D
  | .d (.int i), .d (.int j) => if 0 < j ∧ j < 1073741824 then some (.int (i / j)) else none
  | _, _ => none
def modW : W → W → Option D
  | .d (.int i), .d (.int j) => if 0 < j then some (.int (i % j)) else none
  | _, _ => none
def powW : W → W → Option D
  | .d (.int i), .d (.int j) => if 0 ≤ j ∧ j ≤ 1000 ∧ 0 ≤ i ∧ i < 1000 then some (.int (i ^ j.toNat)) else none
  | _, _ => none
def bin (μ : Mem) : BOp → W → W → Option D
  | .add, a, b => addW μ a b
  | .sub, a, b => subW a b
  | .mul, a, b => mulW a b
  | .fdiv, a, b => fdivW a b
  | .mod, a, b => modW a b
  | .pow, a, b => powW a b
def eqW (μ : Mem) (a b : W) : Option Bool := match asD μ a, asD μ b with | some x, some y => eqO x y | _, _ => none
def inW (μ : Mem) (a b : W) : Option Bool :=
  match b with
  | .d (.str t) => match a with | .d (.str s) => if s.length = 1 then some (t.toList.any fun c => s.toList == [c]) else none | _ => none
  | .d (.dic kvs) => match a with | .d (.str s) => some (dget kvs (.str s)).isSome | _ => none
  | .own l => match μ[l]? with
    | some (.dic kvs) => match a with | .d k => if okK k then some (dget kvs k).isSome else none | _ => none
    | some (.lst cs) => match a, cellsD cs with | .d x, some ys => if fl 8 x && flA 8 ys then some (ys.any fun y => eqD y x) else none | _, _ => none
    | _ => none
  | .d (.tup ys) => match a with | .d x => if fl 0 x && flA 0 ys then some (ys.any fun y => eqD y x) else none | _ => none
  | w => match a, asL μ w with | .d x, some ys => if fl 8 x && flA 8 ys then some (ys.any fun y => eqD y x) else none | _, _ => none
def ordW (p : Int → Int → Bool) : W → W → Option Bool
  | .d (.int i), .d (.int j) => some (p i j)
  | _, _ => none
def isW (μ : Mem) : W → W → Option Bool
  | .d .non, .d .non => some true
  | .d _, .d .non => some false
  | .own l, .d .non => match μ[l]? with | some (.lst _) => some false | some (.ins _ _) => some false | some (.dic _) => some false | _ => none
  | _, _ => none
def cmp (μ : Mem) : COp → W → W → Option Bool
  | .lt, a, b => ordW (fun i j => decide (i < j)) a b
  | .le, a, b => ordW (fun i j => decide (i ≤ j)) a b
  | .gt, a, b => ordW (fun i j => decide (j < i)) a b
  | .ge, a, b => ordW (fun i j => decide (j ≤ i)) a b
  | .eq, a, b => eqW μ a b
  | .ne, a, b => (eqW μ a b).map fun k => !k
  | .is, a, b => isW μ a b
  | .isN, a, b => (isW μ a b).map fun k => !k
  | .inn, a, b => inW μ a b
  | .nin, a, b => (inW μ a b).map fun k => !k

/-! ### syntax -/
/-- a target: a name's slot, or a row of targets -/
inductive Tg where
  | var (i : Nat) | nil | cons (a b : Tg)
inductive Out where
  | nx | bk | ct | rt (w : W) | ex (e : Exc)
abbrev XA := Option (Out × Env × Mem)

/-! ### what only makes, and changes nothing that stands -/
/-! ### the interpreter -/
def post (t : Bool) (x : Ans W) : Ans W :=
  match t with
  | false => x
  | true => match x with
    | some (.ok w, μ) => match truth μ w with | some b => some (.ok (.d (.bl b)), μ) | none => none
    | o => o
def okLen {α : Type} (xs : List α) : Bool := decide (xs.length ≤ LIM)
def toDs : List W → Option (List D)
  | [] => some []
  | .d x :: r => match toDs r with | some xs => some (x :: xs) | none => none
  | _ :: _ => none
/-- the items of an owned list's display: owned lists of data move in -/
def toCells (μ : Mem) : List W → Option (List Cell × Mem)
  | [] => some ([], μ)
  | .d x :: r => match toCells μ r with | some (cs, μ') => some (.d x :: cs, μ') | none => none
  | .own l :: r => match μ[l]? with
    | some (.lst cs) => match cellsD cs with
      | some xs => match toCells (μ.set l .dead) r with | some (cs', μ') => some (.sub xs :: cs', μ') | none => none
      | none => none
    | _ => none
  | .ptr _ _ :: _ => none
def mkL (own : Bool) (ws : List W) (μ : Mem) : Ans W :=
  if own then match toCells μ ws with
    | some (cs, μ') => if okLen cs then some (.ok (.own μ'.length), μ' ++ [.lst cs]) else none
    | none => none
  else match toDs ws with | some xs => if okLen xs then ret (.d (.lst xs)) μ else none | none => none
def pairUp : List D → Option (List (D × D))
  | [] => some []
  | [_] => none
  | k :: v :: r => if okK k then match pairUp r with | some kvs => some ((k, v) :: kvs) | none => none else none
def pairsOf : List D → Option (List (D × D))
  | [] => some []
  | .tup [k, v] :: r => if okK k then match pairsOf r with | some kvs => some ((k, v) :: kvs) | none => none else none
  | _ :: _ => none
def merge (kvs more : List (D × D)) : List (D × D) := more.foldl (fun acc kv => dput acc kv.1 kv.2) kvs
def getI (μ : Mem) (a i : W) : Option W :=
  match a, i with
  | .d (.dic kvs), .d (.str s) => (dget kvs (.str s)).map W.d
  | .d (.str s), .d (.int k) => if s.length ≤ LIM then (atN s.toList k).map fun c => .d (.str (String.ofList [c])) else none
  | .d (.tup xs), .d (.int k) => (atN xs k).map W.d
  | .d (.lst xs), .d (.int k) => (atN xs k).map W.d
  | .own l, .d k => match μ[l]? with
    | some (.lst cs) => match k with
      | .int k => match ixn cs.length k with
        | some j => match cs[j]? with | some (.d x) => some (.d x) | some (.sub _) => some (.ptr l j) | none => none
        | none => none
      | _ => none
    | some (.dic kvs) => if okK k then (dget kvs k).map W.d else none
    | _ => none
  | .ptr l j, .d (.int k) => match asL μ (.ptr l j) with | some xs => (atN xs k).map W.d | none => none
  | _, _ => none
def getF (μ : Mem) (a : W) (f : Nat) : Option W :=
  match a with
  | .d (.ins _ fs) => (fs.lookup f).map W.d
  | .own l => match μ[l]? with
    | some (.ins _ fs) => match fs.lookup f with | some (.d x) => some (.d x) | some (.sub _) => some (.ptr l f) | none => none
    | _ => none
  | _ => none
def slice (μ : Mem) (a : W) (lo hi : Option Int) : Option D :=
  match a with
  | .d (.tup xs) => some (.tup (cut xs lo hi))
  | w => match asL μ w with | some xs => some (.lst (cut xs lo hi)) | none => none
def toInts : List D → Option (List Int)
  | [] => some []
  | .int i :: r => match toInts r with | some xs => some (i :: xs) | none => none
  | _ :: _ => none
def toBools : List D → Option (List Bool)
  | [] => some []
  | .bl i :: r => match toBools r with | some xs => some (i :: xs) | none => none
  | _ :: _ => none
def toStrs : List D → Option (List String)
  | [] => some []
  | .str i :: r => match toStrs r with | some xs => some (i :: xs) | none => none
  | _ :: _ => none
def minI : List Int → Option Int
  | [] => none
  | [x] => some x
  | x :: y :: r => match minI (y :: r) with | some m => some (if m < x then m else x) | none => none
def joinS (s : String) : List String → String
  | [] => ""
  | [x] => x
  | x :: y :: r => x ++ s ++ joinS s (y :: r)
/-- a text cut at one sign -/
def splitC (c : Char) : List Char → List (List Char)
  | [] => [[]]
  | x :: r => if x = c then [] :: splitC c r else match splitC c r with | y :: ys => (x :: y) :: ys | [] => [[x]]
def digit (c : Char) : Bool := decide (48 ≤ c.toNat ∧ c.toNat ≤ 57)
def natOf (cs : List Char) : Nat := cs.foldl (fun n c => n * 10 + (c.toNat - 48)) 0
def idxOf (x : D) : List D → Option Nat
  | [] => none
  | y :: ys => if eqD y x then some 0 else match idxOf x ys with | some j => some (j + 1) | none => none
/-! a built-in function of values -/
def b_len (μ : Mem) : List W → Option D
  | [w] => match w with
    | .d (.str s) => if s.length ≤ LIM then some (.int s.length) else none
    | .d (.dic kvs) => some (.int kvs.length)
    | .own l => match μ[l]? with | some (.dic kvs) => some (.int kvs.length) | some (.lst cs) => some (.int cs.length) | _ => none
    | w => match asS μ w with | some xs => some (.int xs.length) | none => none
  | _ => none
def b_int (μ : Mem) : List W → Option D
  | [.d (.int i)] => some (.int i)
  | [.d (.bl b)] => some (.int (if b then 1 else 0))
  | _ => none
def b_intS (μ : Mem) : List W → Option D
  | [.d (.str s)] => if s.length ≤ 640 && !s.toList.isEmpty && s.toList.all digit then some (.int (natOf s.toList)) else none
  | _ => none
def b_str (μ : Mem) : List W → Option D
  | [.d (.int i)] => if i.natAbs < 2 ^ 512 then some (.str (toString i)) else none
  | _ => none
def b_tuple (μ : Mem) : List W → Option D
  | [w] => match asS μ w with | some xs => some (.tup xs) | none => none
  | _ => none
def b_min2 (μ : Mem) : List W → Option D
  | [.d (.int i), .d (.int j)] => some (.int (if j < i then j else i))
  | _ => none
def b_max2 (μ : Mem) : List W → Option D
  | [.d (.int i), .d (.int j)] => some (.int (if j > i then j else i))
  | _ => none
def b_minL (μ : Mem) : List W → Option D
  | [w] => match asL μ w with | some xs => (match toInts xs with | some ns => (minI ns).map D.int | none => none) | none => none
  | _ => none
def b_sum (μ : Mem) : List W → Option D
  | [w] => match asL μ w with | some xs => (match toInts xs with | some ns => some (.int ns.sum) | none => none) | none => none
  | _ => none
def b_any (μ : Mem) : List W → Option D
  | [w] => match asL μ w with | some xs => (match toBools xs with | some bs => some (.bl (bs.any id)) | none => none) | none => none
  | _ => none
def b_all (μ : Mem) : List W → Option D
  | [w] => match asL μ w with | some xs => (match toBools xs with | some bs => some (.bl (bs.all id)) | none => none) | none => none
  | _ => none
def enum (i : Nat) : List D → List D
  | [] => []
  | x :: r => .tup [.int i, x] :: enum (i + 1) r
def zipD : List D → List D → List D
  | x :: xs, y :: ys => .tup [x, y] :: zipD xs ys
  | _, _ => []
def wipe (ρ : Env) : List Nat → Env
  | [] => ρ
  | v :: vs => (wipe ρ vs).set v none
/-- a store: of a value (left), of a row (right) -/
def asgR : Tg → D ⊕ List D → Env → Option Env
  | .var i, .inl x, ρ => if i < ρ.length then some (ρ.set i (some (.d x))) else none
  | .nil, .inr [], ρ => some ρ
  | .cons a b, .inr (x :: xs), ρ => match asgR a (.inl x) ρ with | some ρ' => asgR b (.inr xs) ρ' | none => none
  | .cons a b, .inl (.tup (x :: xs)), ρ => match asgR a (.inl x) ρ with | some ρ' => asgR b (.inr xs) ρ' | none => none
  | .cons a b, .inl (.lst (x :: xs)), ρ => match asgR a (.inl x) ρ with | some ρ' => asgR b (.inr xs) ρ' | none => none
  | _, _, _ => none
abbrev asgT (t : Tg) (x : D) (ρ : Env) : Option Env := asgR t (.inl x) ρ
/-- a comprehension's turns -/
def compL (t : Tg) (cond : Env → Mem → Ans W) (elt : Env → Mem → Ans W) (ρ : Env) : List D → Mem → Ans (List D)
  | [], μ => ret [] μ
  | x :: xs, μ => match asgT t x ρ with
    | none => none
    | some ρ' => match cond ρ' μ with
      | some (.ok (.d (.bl true)), μ1) => match elt ρ' μ1 with
        | some (.ok (.d y), μ2) => match compL t cond elt ρ xs μ2 with
          | some (.ok ys, μ3) => some (.ok (y :: ys), μ3)
          | _ => none
        | _ => none
      | some (.ok (.d (.bl false)), μ1) => compL t cond elt ρ xs μ1
      | _ => none
def comp2L (i : Nat) (inner : Env → Mem → Ans (List D)) (ρ : Env) : List D → Mem → Ans (List D)
  | [], μ => ret [] μ
  | x :: xs, μ => if i < ρ.length then match inner (ρ.set i (some (.d x))) μ with
      | some (.ok ys, μ1) => match comp2L i inner ρ xs μ1 with
        | some (.ok zs, μ2) => some (.ok (ys ++ zs), μ2)
        | _ => none
      | _ => none
    else none

/-- what zip walks: on the left a list, a tuple, a dict's keys; on the right a list, a tuple -/
def zipR : W → Option (List D)
  | .d (.lst xs) => some xs | .d (.tup xs) => some xs | _ => none
def zipL : W → Option (List D)
  | .d (.dic kvs) => some (kvs.map fun kv => kv.1)
  | w => zipR w
/-! ### statements -/
def exm (c k : Nat) : Bool := k == 0 || k == c
def unset (ρ : Env) : Option Nat → Env
  | none => ρ
  | some i => ρ.set i none
def xnx (ρ : Env) (μ : Mem) : XA := some (.nx, ρ, μ)
/-- behind an expression -/
def xb {α : Type} (x : Ans α) (ρ : Env) (f : α → Mem → XA) : XA :=
  match x with
  | none => none
  | some (.exc e, μ) => some (.ex e, ρ, μ)
  | some (.ok a, μ) => f a μ
def xbg (s : Bool) (x : Ans W) (ρ : Env) (f : W → Mem → XA) : XA :=
  match x with
  | none => none
  | some (.exc e, μ) => some (.ex e, ρ, μ)
  | some (.ok a, μ) => if (nop a || s) = true then f a μ else none
/-- behind a statement -/
def xs (x : XA) (f : Env → Mem → XA) : XA :=
  match x with
  | some (.nx, ρ, μ) => f ρ μ
  | o => o
def put (ρ : Env) (i : Nat) (w : W) : Option Env := match w with | .ptr _ _ => none | _ => if i < ρ.length then some (ρ.set i (some w)) else none
def puts (ρ : Env) : List Nat → List W → Option Env
  | [], [] => some ρ
  | i :: is, w :: ws => match put ρ i w with | some ρ' => puts ρ' is ws | none => none
  | _, _ => none
def setI (μ : Mem) (a : W) (k v : D) : Option Mem :=
  match a with
  | .own l => match μ[l]? with
    | some (.lst cs) => match k with
      | .int k => match ixn cs.length k with
        | some j => match cs[j]? with | some (.d _) => some (μ.set l (.lst (cs.set j (.d v)))) | _ => none
        | none => none
      | _ => none
    | some (.dic kvs) => if okK k && decide (kvs.length < LIM) then some (μ.set l (.dic (dput kvs k v))) else none
    | _ => none
  | .ptr l i => match k, asL μ (.ptr l i) with
    | .int k, some xs => match ixn xs.length k with
      | some j => match μ[l]? with
        | some (.lst cs) => some (μ.set l (.lst (cs.set i (.sub (xs.set j v)))))
        | _ => none
      | none => none
    | _, _ => none
  | _ => none
def putFl {α : Type} (f : Nat) (v : α) : List (Nat × α) → List (Nat × α)
  | [] => [(f, v)]
  | (g, x) :: r => if g = f then (g, v) :: r else (g, x) :: putFl f v r
def setF (μ : Mem) (a : W) (f : Nat) (v : W) : Option Mem :=
  match a with
  | .own l => match μ[l]? with
    | some (.ins c fs) => if fs.length < 100 then match v with
      | .d x => some (μ.set l (.ins c (putFl f (.d x) fs)))
      | .own k => if k = l then none else match μ[k]? with
        | some (.lst cs) => match cellsD cs with | some xs => some ((μ.set k .dead).set l (.ins c (putFl f (.sub xs) fs))) | none => none
        | _ => none
      | .ptr _ _ => none
      else none
    | _ => none
  | _ => none
def append (μ : Mem) (a : W) (v : List D) : Option Mem :=
  match a with
  | .own l => match μ[l]? with
    | some (.lst cs) => if cs.length + v.length ≤ LIM then some (μ.set l (.lst (cs ++ v.map Cell.d))) else none
    | _ => none
  | .ptr l i => match asL μ (.ptr l i), μ[l]? with
    | some xs, some (.lst cs) => if xs.length + v.length ≤ LIM then some (μ.set l (.lst (cs.set i (.sub (xs ++ v))))) else none
    | some xs, some (.ins c fs) => if xs.length + v.length ≤ LIM then some (μ.set l (.ins c (putFl i (.sub (xs ++ v)) fs))) else none
    | _, _ => none
  | _ => none
/-- self.f.append(self.g.pop()) -/
def move (μ : Mem) (a : W) (f g : Nat) : Option Mem :=
  match a with
  | .own l => match μ[l]? with
    | some (.ins c fs) => match fs.lookup f, fs.lookup g with
      | some (.sub xs), some (.sub ys) => if f ≠ g ∧ xs.length < LIM then match ys.getLast? with
        | some y => some (μ.set l (.ins c (putFl f (.sub (xs ++ [y])) (putFl g (.sub ys.dropLast) fs))))
        | none => none
        else none
      | _, _ => none
    | _ => none
  | _ => none
def freeze (μ : Mem) (ρ : Env) (i : Nat) : Option (Env × Mem) :=
  match ρ[i]? with
  | some (some (.own l)) => match μ[l]? with
    | some (.lst cs) => match cellsD cs with | some xs => some (ρ.set i (some (.d (.lst xs))), μ.set l .dead) | none => none
    | some (.dic kvs) => some (ρ.set i (some (.d (.dic kvs))), μ.set l .dead)
    | _ => none
  | _ => none
def forL (t : Tg) (body : Env → Mem → XA) : List D → Env → Mem → XA
  | [], ρ, μ => xnx ρ μ
  | x :: r, ρ, μ => match asgT t x ρ with
    | none => none
    | some ρ1 => match body ρ1 μ with
      | some (.nx, ρ2, μ2) => forL t body r ρ2 μ2
      | some (.ct, ρ2, μ2) => forL t body r ρ2 μ2
      | some (.bk, ρ2, μ2) => xnx ρ2 μ2
      | o => o
def whileL (cond : Env → Mem → Ans W) (body : Env → Mem → XA) : Nat → Env → Mem → XA
  | 0, _, _ => none
  | n + 1, ρ, μ => xb (cond ρ μ) ρ fun w μ => match w with
    | .d (.bl false) => xnx ρ μ
    | .d (.bl true) => match body ρ μ with
      | some (.nx, ρ2, μ2) => whileL cond body n ρ2 μ2
      | some (.ct, ρ2, μ2) => whileL cond body n ρ2 μ2
      | some (.bk, ρ2, μ2) => xnx ρ2 μ2
      | o => o
    | _ => none
/-! ### calls -/
/-- what a call leaves: the frame's own objects go, but the one that is handed back -/
def leave (b : Nat) (w : W) (μ : Mem) : Ans W :=
  match w with
  | .d x => ret (.d x) (μ.take b)
  | .own l => if l < b then ret (.own l) (μ.take b) else match μ[l]? with | some o => ret (.own b) (μ.take b ++ [o]) | none => none
  | .ptr _ _ => none

/-! ### what nodes compute -/
def andK (f : Env → Mem → Ans W) (ρ : Env) : W → Mem → Ans W := fun x μ => match x with | .d (.bl true) => f ρ μ | .d (.bl false) => ret (.d (.bl false)) μ | _ => none
def orK (f : Env → Mem → Ans W) (ρ : Env) : W → Mem → Ans W := fun x μ => match x with | .d (.bl false) => f ρ μ | .d (.bl true) => ret (.d (.bl true)) μ | _ => none
def notK : W → Mem → Ans W := fun x μ => match x with | .d (.bl k) => ret (.d (.bl !k)) μ | _ => none
def iteK (f g : Env → Mem → Ans W) (ρ : Env) : W → Mem → Ans W := fun x μ => match x with | .d (.bl true) => f ρ μ | .d (.bl false) => g ρ μ | _ => none
def newK (c : Nat) (frozen : Bool) (l : Nat) (r : Ans W) : Ans W := match r with
    | some (.ok (.d .non), μ') => if frozen then match μ'[l]? with
        | some (.ins c' fs) => match cellsF fs with | some fs' => if c' = c then ret (.d (.ins c fs')) (μ'.take l) else none | none => none
        | _ => none
      else ret (.own l) μ'
    | some (.exc e, μ') => some (.exc e, μ'.take l)
    | _ => none
def seqI (w : W) (μ : Mem) : Ans (List D) := match w with
    | .d (.lst xs) => ret xs μ
    | .d (.tup xs) => ret xs μ
    | .d (.str s) => ret (s.toList.map fun c => .str (String.ofList [c])) μ
    | _ => none
def rngI (w : W) (μ : Mem) : Ans (List D) := match w with
    | .d (.int j) => if j < 4611686018427387904 ∧ -4611686018427387904 ≤ j then ret ((List.range j.toNat).map fun (k : Nat) => .int (0 + (k : Int))) μ else none
    | _ => none
def rngI2 (x y : W) (μ : Mem) : Ans (List D) := match x, y with
    | .d (.int i), .d (.int j) => if (i < 4611686018427387904 ∧ -4611686018427387904 ≤ i) ∧ (j < 4611686018427387904 ∧ -4611686018427387904 ≤ j) then
        ret ((List.range (j - i).toNat).map fun (k : Nat) => .int (i + (k : Int))) μ else none
    | _, _ => none
def enmI (w : W) (μ : Mem) : Ans (List D) := match w with
    | .d (.lst xs) => ret (enum 0 xs) μ
    | _ => none
def zipI (x y : W) (μ : Mem) : Ans (List D) := match x, y with
    | .d (.lst xs), .d (.lst ys) => if xs.length = ys.length then ret (zipD xs ys) μ else none
    | .d (.tup xs), .d (.tup ys) => if xs.length = ys.length then ret (zipD xs ys) μ else none
    | _, _ => none
def frzK (i : Nat) (g : Env → Mem → XA) (ρ : Env) (μ : Mem) : XA := match freeze μ ρ i with | some (ρ', μ') => g ρ' μ' | none => none
def setFK (f : Nat) (w : W) (ρ : Env) (x : W) (μ : Mem) : XA := match setF μ x f w with | some μ' => xnx ρ μ' | none => none
def setIK (v : W) (x : W) (ρ : Env) (y : W) (μ : Mem) : XA := match y, v with
  | .d k, .d v => (match setI μ x k v with | some μ' => xnx ρ μ' | none => none)
  | _, _ => none
def compD (ys : List D) (μ : Mem) : Ans W := if okLen ys then ret (.d (.lst ys)) μ else none
def compO (ys : List D) (μ : Mem) : Ans W := if okLen ys then some (.ok (.own μ.length), μ ++ [.lst (ys.map Cell.d)]) else none
def rseK (c : Nat) (f : Nat) (ρ : Env) (ws : List W) (μ : Mem) : XA := match ws with | [.d x] => some (.ex ⟨c, [(f, x)]⟩, ρ, μ) | _ => none
def zipKI (ks : List String) (y : W) (μ : Mem) : Ans (List D) := match y with
    | .d (.tup ys) => if ks.length = ys.length then ret (zipD (ks.map D.str) ys) μ else none
    | _ => none
def dzipK (ks : List String) (y : W) (μ : Mem) : Ans W := match y with
    | .d (.tup ys) => if ks.length = ys.length then ret (.d (.dic ((ks.map D.str).zip ys))) μ else none
    | _ => none
structure Hk where
  k : Nat
  nm : Option Nat
  act : (Nat × (Exc → Option D)) ⊕ D
def handleK : List Hk → Exc → Env → Mem → XA
  | [], e, ρ, μ => some (.ex e, ρ, μ)
  | h :: r, e, ρ, μ => if exm e.cls h.k = true then (match h.act with
      | .inl (j, f) => match f e with | some x => if j < ρ.length then xnx (unset (ρ.set j (some (.d x))) h.nm) μ else none | none => none
      | .inr x => some (.rt (.d x), unset ρ h.nm, μ)) else handleK r e ρ μ
def tryK (n : Nat) (hs : List Hk) : XA → XA
  | some (.ex e, ρ, μ) => if ρ.length = n then handleK hs e ρ μ else none
  | r => r
def eqIK (cf : Nat → List W → Mem → Ans W) (f c : Nat) (x y : W) (μ : Mem) : Ans W :=
  if clsOf μ x = some c ∧ ((isTy μ y .int).isSome || (isTy μ y (.cls c)).isSome) = true then (match cf f [x, y] μ with | some (.ok (.d (.bl k)), μ') => some (.ok (.d (.bl k)), μ') | _ => none) else none
def flK : List (D × D) → Bool
  | [] => true
  | (k, v) :: r => okK k && (fl 0 v && flK r)
def eqK : List (D × D) → List (D × D) → Bool
  | [], _ => true
  | (k, v) :: r, b => match dget b k with | some y => eqD v y && eqK r b | none => false
def eqDK (x y : W) (μ : Mem) : Ans W := match x, y with
  | .d (.dic a), .d (.dic b) => if flK a && flK b && !kdM a && !kdM b then ret (.d (.bl (a.length == b.length && eqK a b))) μ else none
  | _, _ => none
def varK (i : Nat) (ρ : Env) (μ : Mem) : Ans W := match ρ[i]? with | some (some w) => ret w μ | _ => none
def dupdK (i j : Nat) (ρ : Env) (x : W) (μ : Mem) : Ans W := match x, ρ[i]?, ρ[j]? with
    | .d (.dic kvs), some (some (.d k)), some (some (.d v)) => if okK k && decide (kvs.length ≤ 1000) && !kdM kvs then ret (.d (.dic (dput kvs k v))) μ else none
    | _, _, _ => none
def yesK (_ : Env) (μ : Mem) : Ans W := ret (.d (.bl true)) μ
def someK (w : W) (μ : Mem) : Ans (Option Int) := match w with | .d (.int i) => ret (some i) μ | _ => none
def slL (x : W) (lo hi : Option Int) (μ : Mem) : Ans W := match asL μ x with | some xs => ret (.d (.lst (cut xs lo hi))) μ | none => none
def bltK (g : Mem → List W → Option D) (ws : List W) (μ : Mem) : Ans W := opt ((g μ ws).map W.d) μ
def lenG (μ : Mem) (ws : List W) : Option D := match ws with | [.d (.dic _)] => none | _ => b_len μ ws
def lenU (w : W) (μ : Mem) : Ans W := match w with
  | .ptr l i => (match asL μ (.ptr l i) with | some xs => ret (.d (.int xs.length)) μ | none => none)
  | w => opt ((lenG μ [w]).map W.d) μ
def lstD (w : W) (μ : Mem) : Ans W := match asS μ w with | some xs => ret (.d (.lst xs)) μ | none => none
def lstO (w : W) (μ : Mem) : Ans W := match asS μ w with | some xs => some (.ok (.own μ.length), μ ++ [.lst (xs.map Cell.d)]) | none => none
def putsK (is : List Nat) (ρ : Env) (ws : List W) (μ : Mem) : XA := match puts ρ is ws with | some ρ' => xnx ρ' μ | none => none
def callB (np nv : Nat) (f : Env → Mem → XA) (ws : List W) (μ : Mem) : Ans W :=
  if ws.length = np then
    match f (ws.map some ++ List.replicate (nv - np) none) μ with
    | some (.rt w, _, μ') => leave μ.length w μ'
    | some (.nx, _, μ') => ret (.d .non) (μ'.take μ.length)
    | some (.ex e, _, μ') => some (.exc e, μ'.take μ.length)
    | _ => none
  else none
abbrev SE := Env → Mem → Ans W
abbrev SA := Env → Mem → Ans (List W)
abbrev SI := Env → Mem → Ans (List D)
abbrev SO := Env → Mem → Ans (Option Int)
abbrev SX := Env → Mem → XA
def eC (x : D) : SE := fun _ μ => ret (.d x) μ
def eV (i : Nat) : SE := fun ρ μ => match ρ[i]? with | some (some w) => ret w μ | _ => none
def negK (w : W) (μ : Mem) : Ans W := match w with | .d (.int i) => ret (.d (.int (-i))) μ | _ => none
def eNeg (fa : SE) : SE := fun ρ μ => bnd (fa ρ μ) negK
def binG : BOp → Mem → W → W → Option D
  | .mul, _, a, b => (match a with | .d (.str _) => none | _ => mulW a b)
  | op, μ, a, b => bin μ op a b
def eBin (op : BOp) (sb : Bool) (fa fb : SE) : SE := fun ρ μ => bndg sb (fa ρ μ) fun x μ => bnd (fb ρ μ) fun y μ => opt ((binG op μ x y).map W.d) μ
def eCmp (op : COp) (sb : Bool) (fa fb : SE) : SE := fun ρ μ => bndg sb (fa ρ μ) fun x μ => bnd (fb ρ μ) fun y μ => opt ((cmp μ op x y).map fun k => .d (.bl k)) μ
def eChn (o1 o2 : COp) (sb sc : Bool) (fa fb fc : SE) : SE := fun ρ μ => bndg sb (fa ρ μ) fun x μ => bndg sc (fb ρ μ) fun y μ => match cmp μ o1 x y with
      | some true => bnd (fc ρ μ) fun z μ => opt ((cmp μ o2 y z).map fun k => .d (.bl k)) μ
      | some false => ret (.d (.bl false)) μ
      | none => none
def eAnd (fa fb : SE) : SE := fun ρ μ => bnd (fa ρ μ) (andK fb ρ)
def eOr (fa fb : SE) : SE := fun ρ μ => bnd (fa ρ μ) (orK fb ρ)
def eNot (fa : SE) : SE := fun ρ μ => bnd (fa ρ μ) notK
def eIte (fc fa fb : SE) : SE := fun ρ μ => bnd (fc ρ μ) (iteK fa fb ρ)
def ePost (fa : SE) : SE := fun ρ μ => post true (fa ρ μ)
def tupK (ws : List W) (μ : Mem) : Ans W := match toDs ws with | some xs => if okLen xs then ret (.d (.tup xs)) μ else none | none => none
def eTup (fs : SA) : SE := fun ρ μ => bnd (fs ρ μ) tupK
def eLst (own : Bool) (fs : SA) : SE := fun ρ μ => bnd (fs ρ μ) fun ws μ => mkL own ws μ
def eSub (sb : Bool) (fa fb : SE) : SE := fun ρ μ => bndg sb (fa ρ μ) fun x μ => bnd (fb ρ μ) fun y μ => opt (getI μ x y) μ
def eSlc (s : Bool) (fa : SE) (fl fh : SO) : SE := fun ρ μ => bndg s (fa ρ μ) fun x μ => bnd (fl ρ μ) fun l μ => bnd (fh ρ μ) fun u μ => slL x l u μ
def eFld (f : Nat) (fa : SE) : SE := fun ρ μ => bnd (fa ρ μ) fun w μ => opt (getF μ w f) μ
def eCall (cf : Nat → List W → Mem → Ans W) (f : Nat) (fs : SA) : SE := fun ρ μ => bnd (fs ρ μ) fun ws μ => cf f ws μ
def eMeth (cf : Nat → List W → Mem → Ans W) (c f : Nat) (fa : SE) (fs : SA) : SE := fun ρ μ => bndg false (fa ρ μ) fun w μ => if clsOf μ w = some c then bnd (fs ρ μ) fun ws μ => cf f (w :: ws) μ else none
def propK (cf : Nat → List W → Mem → Ans W) (c f : Nat) (w : W) (μ : Mem) : Ans W := if clsOf μ w = some c then match cf f [w] μ with | some (.ok w, μ') => some (.ok w, μ') | _ => none else none
def eProp (cf : Nat → List W → Mem → Ans W) (c f : Nat) (fa : SE) : SE := fun ρ μ => bnd (fa ρ μ) (propK cf c f)
def eNew (cf : Nat → List W → Mem → Ans W) (c f : Nat) (fz : Bool) (fs : SA) : SE := fun ρ μ => bnd (fs ρ μ) fun ws μ => newK c fz μ.length (cf f (.own μ.length :: ws) (μ ++ [.ins c []]))
def eIsi (ts : List Ty) (fa : SE) : SE := fun ρ μ => bnd (fa ρ μ) fun w μ => opt ((isAny μ w ts).map fun k => .d (.bl k)) μ
def eBlt (g : Mem → List W → Option D) (fs : SA) : SE := fun ρ μ => bnd (fs ρ μ) (bltK g)
def eUn (k : W → Mem → Ans W) (fa : SE) : SE := fun ρ μ => bnd (fa ρ μ) k
def eDupd (i j : Nat) (fa : SE) : SE := fun ρ μ => bnd (fa ρ μ) (dupdK i j ρ)
def eEqI (cf : Nat → List W → Mem → Ans W) (f c : Nat) (fa fb : SE) : SE := fun ρ μ => bndg false (fa ρ μ) fun x μ => bndg false (fb ρ μ) fun y μ => eqIK cf f c x y μ
def eEqD (fa fb : SE) : SE := fun ρ μ => bndg false (fa ρ μ) fun x μ => bnd (fb ρ μ) fun y μ => eqDK x y μ
def eComp (own : Bool) (t : Tg) (vs : List Nat) (fi : SI) (fc fe : SE) : SE := fun ρ μ => bnd (fi ρ μ) fun xs μ => bnd (compL t fc fe (Mp.wipe ρ vs) xs μ) (if own then compO else compD)
def eNone : SE := fun _ _ => none
def aNil : SA := fun _ μ => ret [] μ
def aCons (fa : SE) (fs : SA) : SA := fun ρ μ => bndg false (fa ρ μ) fun w μ => bnd (fs ρ μ) fun ws μ => ret (w :: ws) μ
def starK (fs : SA) (ρ : Env) (w : W) (μ : Mem) : Ans (List W) := match asS μ w with | some xs => bnd (fs ρ μ) fun ws μ => ret (xs.map W.d ++ ws) μ | none => none
def aStar (fa : SE) (fs : SA) : SA := fun ρ μ => bnd (fa ρ μ) (starK fs ρ)
def oNo : SO := fun _ μ => ret none μ
def oYes (fa : SE) : SO := fun ρ μ => bnd (fa ρ μ) someK
def iUn (k : W → Mem → Ans (List D)) (fa : SE) : SI := fun ρ μ => bnd (fa ρ μ) k
def iTwo (k : W → W → Mem → Ans (List D)) (fa fb : SE) : SI := fun ρ μ => bndg false (fa ρ μ) fun x μ => bnd (fb ρ μ) fun y μ => k x y μ
def sNil : SX := fun ρ μ => xnx ρ μ
def sSeq (f g : SX) : SX := fun ρ μ => xs (f ρ μ) g
def sExp (fa : SE) : SX := fun ρ μ => xb (fa ρ μ) ρ fun _ μ => xnx ρ μ
def sRet (fa : SE) : SX := fun ρ μ => xb (fa ρ μ) ρ fun w μ => some (.rt w, ρ, μ)
def sRetN : SX := fun ρ μ => some (.rt (.d .non), ρ, μ)
def ifK (f g : SX) (ρ : Env) (w : W) (μ : Mem) : XA := match w with | .d (.bl true) => f ρ μ | .d (.bl false) => g ρ μ | _ => none
def sIf (fc : SE) (f g : SX) : SX := fun ρ μ => xb (fc ρ μ) ρ (ifK f g ρ)
def asgK (i : Nat) (ρ : Env) (w : W) (μ : Mem) : XA := match put ρ i w with | some ρ' => xnx ρ' μ | none => none
def sAsg (i : Nat) (fa : SE) : SX := fun ρ μ => xb (fa ρ μ) ρ (asgK i ρ)
def asgTK (t : Tg) (ρ : Env) (w : W) (μ : Mem) : XA := match w with | .d x => (match asgT t x ρ with | some ρ' => xnx ρ' μ | none => none) | _ => none
def sAsgT (t : Tg) (fa : SE) : SX := fun ρ μ => xb (fa ρ μ) ρ (asgTK t ρ)
def sPar (is : List Nat) (fs : SA) : SX := fun ρ μ => xb (fs ρ μ) ρ (putsK is ρ)
def sFor (t : Tg) (fi : SI) (f : SX) : SX := fun ρ μ => xb (fi ρ μ) ρ fun xs μ => forL t f xs ρ μ
def sWhile (fc : SE) (f : SX) (n : Nat) : SX := fun ρ μ => whileL fc f n ρ μ
def sSetF (f : Nat) (fe fo : SE) : SX := fun ρ μ => xbg false (fe ρ μ) ρ fun w μ => xb (fo ρ μ) ρ (setFK f w ρ)
def sSetI (sb : Bool) (fe fo fi : SE) : SX := fun ρ μ => xbg false (fe ρ μ) ρ fun v μ => xbg sb (fo ρ μ) ρ fun x μ => xb (fi ρ μ) ρ (setIK v x ρ)
def sRse (c f : Nat) (fs : SA) : SX := fun ρ μ => xb (fs ρ μ) ρ (rseK c f ρ)
def sRse0 (c : Nat) : SX := fun ρ μ => some (.ex ⟨c, []⟩, ρ, μ)
def sTry (n : Nat) (l : List Hk) (f : SX) : SX := fun ρ μ => tryK n l (f ρ μ)
def sNone : SX := fun _ _ => none
def uC (x : D) : Exc → Option D := fun _ => some x
def uF (f : Nat) : Exc → Option D := fun e => e.fs.lookup f
def uNil : Exc → Option (List D) := fun _ => some []
def uCons (f : Exc → Option D) (g : Exc → Option (List D)) : Exc → Option (List D) := fun x => (f x).bind fun y => (g x).map fun ys => y :: ys
def uTup (g : Exc → Option (List D)) : Exc → Option D := fun x => (g x).bind fun ys => if okLen ys then some (.tup ys) else none
def uLst (g : Exc → Option (List D)) : Exc → Option D := fun x => (g x).bind fun ys => if okLen ys then some (.lst ys) else none
end Mp
set_option Elab.async false
set_option linter.all false
set_option maxRecDepth 100000
set_option maxHeartbeats 1000000
/-! Mp: how data and owned objects stand in the abstract heap of HandS. -/
namespace Mp
open PySem PySem.Spec PyProof.Rows L2

/-- what is known of the module -/
structure Glo where
  K : PySem.W.Frag
  w : World
  cls : Nat → Option Addr
  xcl : Nat → Option Addr
  fnm : List Str
  nd : fnm.Nodup
abbrev toS (s : String) : Str := Str.ofString s
def keyOf : D → Option Key
  | .int i => some (.inl i)
  | .str s => some (.inr (toS s))
  | _ => none
/-- the names of attributes by their ids -/
def Nms (G : Glo) (ns : List Str) (fs : List Nat) : Prop := fs.map (fun f => G.fnm[f]?) = ns.map some
def Kys (ks : List Key) (ds : List D) : Prop := ds.map keyOf = ks.map some
/-- a dict of the written part, with text keys -/
structure KD (G : Glo) (a : Addr) (ks : List String) (us : List Value) : Prop where
  at_ : ∃ es n, G.K.lookup a = some ⟨.type "dict", none, .dict es n, #[]⟩ ∧ PySem.W.KeysLit G.w.params es.toList ∧ es.toList.map (·.val) = us ∧ Paired (fun (e : DictEntry) (k : String) => ∃ t, e.key = .str (toS k) t) es.toList ks
  low : (a == sysModules) = false
/-- a tuple of the written part -/
def KT (G : Glo) (a : Addr) (xs : List V) : Prop :=
  ∃ (o : Obj) (its : Array Value) (n : Nat), G.K.lookup a = some o ∧ o.cls = .type "tuple" ∧ o.data = .seq its n ∧ its.size ≤ sizeLine ∧ Vals xs its.toList
mutual
/-- v stands for the data x; O: the owned addresses -/
inductive RV (G : Glo) (O : List Addr) (H : Hp) : V → D → Prop
  | non : RV G O H .non .non
  | bl (b : Bool) : RV G O H (.bl b) (.bl b)
  | int (i : Int) : RV G O H (.int i) (.int i)
  | str (s : String) : RV G O H (.str (toS s)) (.str s)
  | tup {a : Addr} {vs : List V} {xs : List D} : Rd H a (.tup vs) → a ∉ O → RVs G O H vs xs → RV G O H (.ref a) (.tup xs)
  | tupK {a : Addr} {vs : List V} {xs : List D} : KT G a vs → RVs G O H vs xs → RV G O H (.ref a) (.tup xs)
  | lst {a : Addr} {vs : List V} {xs : List D} : Rd H a (.lst vs) → a ∉ O → RVs G O H vs xs → RV G O H (.ref a) (.lst xs)
  | ins {a C dx : Addr} {vfs : List (Str × V)} {c : Nat} {fs : List (Nat × D)} : H a = some (.ins C dx vfs) → a ∉ O → G.cls c = some C → Nms G (vfs.map (·.1)) (fs.map (·.1)) → RVs G O H (vfs.map (·.2)) (fs.map (·.2)) → RV G O H (.ref a) (.ins c fs)
  | dic {a : Addr} {vks : List (Key × V)} {kvs : List (D × D)} : Rd H a (.dK vks) → a ∉ O → Kys (vks.map (·.1)) (kvs.map (·.1)) → RVs G O H (vks.map (·.2)) (kvs.map (·.2)) → RV G O H (.ref a) (.dic kvs)
  | dicK {a : Addr} {ks : List String} {us : List Value} {vs : List V} {kvs : List (D × D)} : KD G a ks us → kvs.map (·.1) = ks.map D.str → Vals vs us → kdM kvs = true → RVs G O H vs (kvs.map (·.2)) → RV G O H (.ref a) (.dic kvs)
inductive RVs (G : Glo) (O : List Addr) (H : Hp) : List V → List D → Prop
  | nil : RVs G O H [] []
  | cons {v : V} {vs : List V} {x : D} {xs : List D} : RV G O H v x → RVs G O H vs xs → RVs G O H (v :: vs) (x :: xs)
end
/-- what is tracked and not owned stays -/
def Keep (O O' : List Addr) (H H' : Hp) : Prop := ∀ a o, H a = some o → a ∉ O → H' a = some o ∧ a ∉ O'
theorem Keep.refl {O : List Addr} {H : Hp} : Keep O O H H := fun _ _ e n => ⟨e, n⟩
theorem Keep.trans {O O' O'' : List Addr} {H H' H'' : Hp} (a : Keep O O' H H') (b : Keep O' O'' H' H'') : Keep O O'' H H'' := fun x o e n =>
  let ⟨e1, n1⟩ := a x o e n
  b x o e1 n1
theorem Keep.rd {O O' : List Addr} {H H' : Hp} (k : Keep O O' H H') {a : Addr} {u : HO} (r : Rd H a u) (n : a ∉ O) : Rd H' a u ∧ a ∉ O' := by
  rcases r with r | ⟨o, r⟩
  · exact ⟨.inl (k a _ r n).1, (k a _ r n).2⟩
  · exact ⟨.inr ⟨o, (k a _ r n).1⟩, (k a _ r n).2⟩
section
variable {G : Glo} {O O' : List Addr} {H H' : Hp}
mutual
theorem RV.mono (k : Keep O O' H H') : ∀ {v : V} {x : D}, RV G O H v x → RV G O' H' v x
  | _, _, .non => .non
  | _, _, .bl b => .bl b
  | _, _, .int i => .int i
  | _, _, .str s => .str s
  | _, _, .tup r n h => .tup (k.rd r n).1 (k.rd r n).2 (RVs.mono k h)
  | _, _, .tupK r h => .tupK r (RVs.mono k h)
  | _, _, .lst r n h => .lst (k.rd r n).1 (k.rd r n).2 (RVs.mono k h)
  | _, _, .ins e n c m h => .ins (k _ _ e n).1 (k _ _ e n).2 c m (RVs.mono k h)
  | _, _, .dic r n m h => .dic (k.rd r n).1 (k.rd r n).2 m (RVs.mono k h)
  | _, _, .dicK r m e z h => .dicK r m e z (RVs.mono k h)
theorem RVs.mono (k : Keep O O' H H') : ∀ {vs : List V} {xs : List D}, RVs G O H vs xs → RVs G O' H' vs xs
  | _, _, .nil => .nil
  | _, _, .cons a b => .cons (RV.mono k a) (RVs.mono k b)
end
theorem RVs.length : ∀ {vs : List V} {xs : List D}, RVs G O H vs xs → vs.length = xs.length
  | _, _, .nil => rfl
  | _, _, .cons _ b => by simp [RVs.length b]
theorem RVs.get : ∀ {vs : List V} {xs : List D} {i : Nat} {x : D}, RVs G O H vs xs → xs[i]? = some x → ∃ v, vs[i]? = some v ∧ RV G O H v x
  | _, _, _, _, .nil, e => by simp at e
  | _, _, 0, _, .cons a _, e => by simp at e; subst e; exact ⟨_, rfl, a⟩
  | _, _, i + 1, _, .cons _ b, e => by
    obtain ⟨v, e1, r⟩ := RVs.get b (i := i) (by simpa using e)
    exact ⟨v, by simpa using e1, r⟩
theorem RVs.getV : ∀ {vs : List V} {xs : List D} {i : Nat} {v : V}, RVs G O H vs xs → vs[i]? = some v → ∃ x, xs[i]? = some x ∧ RV G O H v x
  | _, _, _, _, .nil, e => by simp at e
  | _, _, 0, _, .cons a _, e => by simp at e; subst e; exact ⟨_, rfl, a⟩
  | _, _, i + 1, _, .cons _ b, e => by
    obtain ⟨v, e1, r⟩ := RVs.getV b (i := i) (by simpa using e)
    exact ⟨v, by simpa using e1, r⟩
theorem RVs.append : ∀ {vs us : List V} {xs ys : List D}, RVs G O H vs xs → RVs G O H us ys → RVs G O H (vs ++ us) (xs ++ ys)
  | _, _, _, _, .nil, h => h
  | _, _, _, _, .cons a b, h => .cons a (RVs.append b h)
theorem RVs.take : ∀ {vs : List V} {xs : List D} (n : Nat), RVs G O H vs xs → RVs G O H (vs.take n) (xs.take n)
  | _, _, 0, _ => .nil
  | _, _, _ + 1, .nil => .nil
  | _, _, n + 1, .cons a b => .cons a (RVs.take n b)
theorem RVs.drop : ∀ {vs : List V} {xs : List D} (n : Nat), RVs G O H vs xs → RVs G O H (vs.drop n) (xs.drop n)
  | _, _, 0, h => h
  | _, _, _ + 1, .nil => .nil
  | _, _, n + 1, .cons _ b => RVs.drop n b
theorem RVs.set {v : V} {x : D} (r : RV G O H v x) : ∀ {vs : List V} {xs : List D} (i : Nat), RVs G O H vs xs → RVs G O H (vs.set i v) (xs.set i x)
  | _, _, _, .nil => .nil
  | _, _, 0, .cons _ b => .cons r b
  | _, _, i + 1, .cons a b => .cons a (RVs.set r i b)
theorem RVs.dropLast {vs : List V} {xs : List D} (h : RVs G O H vs xs) : RVs G O H vs.dropLast xs.dropLast := by
  rw [List.dropLast_eq_take, List.dropLast_eq_take, h.length]
  exact h.take _
theorem RVs.last {vs : List V} {xs : List D} {x : D} (h : RVs G O H vs xs) (e : xs.getLast? = some x) : ∃ v, vs[vs.length - 1]? = some v ∧ RV G O H v x := by
  rw [List.getLast?_eq_getElem?] at e
  rw [h.length]
  exact h.get e
theorem RVs.isEmpty {vs : List V} {xs : List D} (h : RVs G O H vs xs) : vs.isEmpty = xs.isEmpty := by
  cases h <;> rfl
theorem RVs.snoc {vs : List V} {xs : List D} {v : V} {x : D} (h : RVs G O H vs xs) (r : RV G O H v x) : RVs G O H (vs ++ [v]) (xs ++ [x]) := h.append (.cons r .nil)
end

/-! ### owned objects -/
section
variable (G : Glo) (O : List Addr) (H : Hp)
inductive CR_ : List V → List Cell → List Addr → Prop
  | nil : CR_ [] [] []
  | d {v : V} {x : D} {vs : List V} {cs : List Cell} {as : List Addr} : RV G O H v x → CR_ vs cs as → CR_ (v :: vs) (.d x :: cs) as
  | sub {p : Addr} {ws : List V} {xs : List D} {vs : List V} {cs : List Cell} {as : List Addr} : H p = some (.lst ws) → RVs G O H ws xs → CR_ vs cs as → CR_ (.ref p :: vs) (.sub xs :: cs) (p :: as)
def OR_ (as : List Addr) : Ob → Prop
  | .dead => ∀ a ∈ as, ∃ o, H a = some o
  | .lst cs => ∃ a r vs, as = a :: r ∧ H a = some (.lst vs) ∧ CR_ G O H vs cs r
  | .ins c fs => ∃ a r C dx vfs, as = a :: r ∧ G.cls c = some C ∧ H a = some (.ins C dx vfs) ∧ Nms G (vfs.map (·.1)) (fs.map (·.1)) ∧ CR_ G O H (vfs.map (·.2)) (fs.map (·.2)) r
  | .dic kvs => ∃ a vks, as = [a] ∧ H a = some (.dK vks) ∧ Kys (vks.map (·.1)) (kvs.map (·.1)) ∧ RVs G O H (vks.map (·.2)) (kvs.map (·.2))
end
/-- the memory; m: the addresses of each object (its own, then those of the lists within) -/
structure MS (G : Glo) (m : List (List Addr)) (H : Hp) (μ : Mem) : Prop where
  len : m.length = μ.length
  obj : ∀ (l : Nat) (o : Ob) (as : List Addr), μ[l]? = some o → m[l]? = some as → OR_ G m.flatten H as o
  nd : m.flatten.Nodup
  /-- place 0: what is aside -/
  g0 : μ[0]? = some .dead
def RW (G : Glo) (m : List (List Addr)) (H : Hp) (v : V) : W → Prop
  | .d x => RV G m.flatten H v x
  | .own l => (0 < l ∧ l < m.length) ∧ ∀ (a : Addr) (r : List Addr), m[l]? = some (a :: r) → v = .ref a
  | .ptr l i => ∃ (a : Addr) (r : List Addr), m[l]? = some (a :: r) ∧ ((∃ vs : List V, H a = some (.lst vs) ∧ vs[i]? = some v) ∨ ∃ (C dx : Addr) (vfs : List (Str × V)) (x : Str), H a = some (.ins C dx vfs) ∧ G.fnm[i]? = some x ∧ vfs.lookup x = some v)
def npt : W → Prop
  | .ptr _ _ => False
  | _ => True
structure Sim (G : Glo) (m : List (List Addr)) (σ : L2.St) (H : Hp) (ρ : Env) (μ : Mem) : Prop where
  ms : MS G m H μ
  len : σ.length = ρ.length
  env : ∀ (i : Nat) (w : W), ρ[i]? = some (some w) → npt w ∧ ∃ v, σ[i]? = some (some v) ∧ RW G m H v w
/-- later on; st: nothing that was tracked has changed -/
structure Lat (st : Bool) (m : List (List Addr)) (H : Hp) (m' : List (List Addr)) (H' : Hp) : Prop where
  keep : Keep m.flatten m'.flatten H H'
  len : m.length ≤ m'.length
  root : ∀ (l : Nat) (a : Addr) (r : List Addr), l < m.length → m'[l]? = some (a :: r) → ∃ r', m[l]? = some (a :: r')
  same : st = true → (∀ a o, H a = some o → H' a = some o) ∧ ∀ (l : Nat) (as : List Addr), m[l]? = some as → m'[l]? = some as
  gst : m'[0]? = m[0]? ∧ ∀ (as : List Addr), m[0]? = some as → ∀ a ∈ as, ∀ o, H a = some o → H' a = some o
section
variable {G : Glo} {m m' m'' : List (List Addr)} {H H' H'' : Hp} {μ μ' : Mem} {σ : L2.St} {ρ : Env} {st st' : Bool}
theorem Lat.refl : Lat st m H m H := ⟨.refl, Nat.le_refl _, fun _ _ r _ e => ⟨r, e⟩, fun _ => ⟨fun _ _ e => e, fun _ _ e => e⟩, rfl, fun _ _ _ _ _ e => e⟩
theorem Lat.trans (a : Lat st m H m' H') (b : Lat st' m' H' m'' H'') : Lat (st && st') m H m'' H'' where
  keep := a.keep.trans b.keep
  len := Nat.le_trans a.len b.len
  root := fun l x r hl e => by
    obtain ⟨r', e'⟩ := b.root l x r (Nat.lt_of_lt_of_le hl a.len) e
    exact a.root l x r' hl e'
  same := fun h => by
    have h1 : st = true := by cases st <;> simp_all
    have h2 : st' = true := by cases st' <;> simp_all
    exact ⟨fun x o e => (b.same h2).1 x o ((a.same h1).1 x o e), fun l as e => (b.same h2).2 l as ((a.same h1).2 l as e)⟩
  gst := ⟨b.gst.1.trans a.gst.1, fun as e x hx o eo => b.gst.2 as (a.gst.1.trans e) x hx o (a.gst.2 as e x hx o eo)⟩
theorem Lat.weak (a : Lat st m H m' H') (h : st' = true → st = true) : Lat st' m H m' H' := ⟨a.keep, a.len, a.root, fun e => a.same (h e), a.gst⟩
theorem RW.later (a : Lat st m H m' H') {v : V} : ∀ {w : W}, (npt w ∨ st = true) → RW G m H v w → RW G m' H' v w
  | .d _, _, h => RV.mono a.keep h
  | .own l, _, h => ⟨⟨h.1.1, Nat.lt_of_lt_of_le h.1.2 a.len⟩, fun x r e => by
      obtain ⟨r', e'⟩ := a.root l x r h.1.2 e
      exact h.2 x r' e'⟩
  | .ptr l i, k, h => by
      have k' : st = true := k.resolve_left fun z => z
      obtain ⟨x, r, e, q⟩ := h
      refine ⟨x, r, (a.same k').2 _ _ e, ?_⟩
      rcases q with ⟨vs, e1, e2⟩ | ⟨C, dx, vfs, y, e1, e2, e3⟩
      · exact .inl ⟨vs, (a.same k').1 _ _ e1, e2⟩
      · exact .inr ⟨C, dx, vfs, y, (a.same k').1 _ _ e1, e2, e3⟩
/-- the same, what is aside let aside -/
theorem RW.move (k : Keep m.flatten m'.flatten H H') (hl : m.length ≤ m'.length) (root : ∀ (l : Nat) (a : Addr) (r : List Addr), 0 < l → l < m.length → m'[l]? = some (a :: r) → ∃ r', m[l]? = some (a :: r')) {v : V} : ∀ {w : W}, npt w → RW G m H v w → RW G m' H' v w
  | .d _, _, h => RV.mono k h
  | .own l, _, h => ⟨⟨h.1.1, Nat.lt_of_lt_of_le h.1.2 hl⟩, fun x r e => by
      obtain ⟨r', e'⟩ := root l x r h.1.1 h.1.2 e
      exact h.2 x r' e'⟩
theorem CR_.mono {O O' : List Addr} (k : Keep O O' H H') : ∀ {vs : List V} {cs : List Cell} {as : List Addr}, CR_ G O H vs cs as → (∀ a ∈ as, ∀ o, H a = some o → H' a = some o) → CR_ G O' H' vs cs as
  | _, _, _, .nil, _ => .nil
  | _, _, _, .d r h, q => .d (RV.mono k r) (CR_.mono k h q)
  | _, _, _, .sub e r h, q => .sub (q _ List.mem_cons_self _ e) (RVs.mono k r) (CR_.mono k h fun a ha => q a (List.mem_cons_of_mem _ ha))
theorem OR_.mono {O O' : List Addr} (k : Keep O O' H H') {as : List Addr} : ∀ {o : Ob}, OR_ G O H as o → (∀ a ∈ as, ∀ o, H a = some o → H' a = some o) → OR_ G O' H' as o
  | .dead, h, q => fun a ha => let ⟨o, e⟩ := h a ha; ⟨o, q a ha o e⟩
  | .lst cs, ⟨a, r, vs, e, h, c⟩, q => ⟨a, r, vs, e, q a (by rw [e]; exact List.mem_cons_self) _ h, c.mono k fun b hb => q b (by rw [e]; exact List.mem_cons_of_mem _ hb)⟩
  | .ins c fs, ⟨a, r, C, dx, vfs, e, hc, h, n, z⟩, q => ⟨a, r, C, dx, vfs, e, hc, q a (by rw [e]; exact List.mem_cons_self) _ h, n, z.mono k fun b hb => q b (by rw [e]; exact List.mem_cons_of_mem _ hb)⟩
  | .dic kvs, ⟨a, vks, e, h, n, z⟩, q => ⟨a, vks, e, q a (by rw [e]; exact List.mem_cons_self) _ h, n, RVs.mono k z⟩
/-- what is owned is tracked -/
theorem CR_.trk {O : List Addr} : ∀ {vs : List V} {cs : List Cell} {as : List Addr}, CR_ G O H vs cs as → ∀ a ∈ as, ∃ o, H a = some o
  | _, _, _, .nil, _, h => nomatch h
  | _, _, _, .d _ h, a, ha => CR_.trk h a ha
  | _, _, _, .sub e _ h, a, ha => by
    rcases List.mem_cons.mp ha with rfl | ha
    · exact ⟨_, e⟩
    · exact CR_.trk h a ha
theorem OR_.trk {O : List Addr} {as : List Addr} : ∀ {o : Ob}, OR_ G O H as o → ∀ a ∈ as, ∃ o, H a = some o
  | .dead, h, a, ha => h a ha
  | .lst cs, ⟨b, r, vs, e, h, c⟩, a, ha => by
    rw [e] at ha
    rcases List.mem_cons.mp ha with rfl | ha
    · exact ⟨_, h⟩
    · exact c.trk a ha
  | .ins _ _, ⟨b, r, C, dx, vfs, e, _, h, _, c⟩, a, ha => by
    rw [e] at ha
    rcases List.mem_cons.mp ha with rfl | ha
    · exact ⟨_, h⟩
    · exact c.trk a ha
  | .dic _, ⟨b, vks, e, h, _, _⟩, a, ha => by
    rw [e] at ha
    rcases List.mem_cons.mp ha with rfl | ha
    · exact ⟨_, h⟩
    · cases ha
theorem MS.trk (M : MS G m H μ) {a : Addr} (ha : a ∈ m.flatten) : ∃ o, H a = some o := by
  obtain ⟨as, h1, h2⟩ := List.mem_flatten.mp ha
  obtain ⟨l, hl, e⟩ := List.getElem_of_mem h1
  have hl' : l < μ.length := by rw [← M.len]; exact hl
  exact (M.obj l μ[l] as (by simp [hl']) (by rw [← e]; simp [hl])).trk a h2
theorem MS.pos (M : MS G m H μ) : 0 < μ.length := (List.getElem?_eq_some_iff.mp M.g0).1
theorem MS.free (M : MS G m H μ) {p : Addr} (hp : H p = none) : p ∉ m.flatten := fun ha => by
  obtain ⟨o, e⟩ := M.trk ha
  rw [hp] at e; cases e
theorem keep_new {O : List Addr} {p : Addr} {o : HO} (hp : H p = none) : Keep O O H (upd H p o) := fun a u e n => by
  rw [upd_ne (ne_of_none e hp)]
  exact ⟨e, n⟩
theorem lat_new {p : Addr} {o : HO} (hp : H p = none) : Lat st m H m (upd H p o) :=
  ⟨keep_new hp, Nat.le_refl _, fun _ _ r _ e => ⟨r, e⟩, fun _ => ⟨fun a u e => by rw [upd_ne (ne_of_none e hp)]; exact e, fun _ _ e => e⟩, rfl, fun _ _ a _ u e => by rw [upd_ne (ne_of_none e hp)]; exact e⟩
/-- nothing owned has changed -/
theorem MS.same (M : MS G m H μ) (k : Keep m.flatten m.flatten H H') (q : ∀ a ∈ m.flatten, ∀ o, H a = some o → H' a = some o) : MS G m H' μ :=
  ⟨M.len, fun l o as e1 e2 => (M.obj l o as e1 e2).mono k fun a ha => q a (List.mem_flatten.mpr ⟨as, List.mem_of_getElem? e2, ha⟩), M.nd, M.g0⟩
theorem MS.new (M : MS G m H μ) {p : Addr} {o : HO} (hp : H p = none) : MS G m (upd H p o) μ :=
  M.same (keep_new hp) fun a _ u e => by rw [upd_ne (ne_of_none e hp)]; exact e
theorem Sim.lat (S : Sim G m σ H ρ μ) (a : Lat st m H m' H') (M : MS G m' H' μ') : Sim G m' σ H' ρ μ' :=
  ⟨M, S.len, fun i w e => by
    obtain ⟨n, v, e1, r⟩ := S.env i w e
    exact ⟨n, v, e1, r.later a (.inl n)⟩⟩
theorem Sim.move (S : Sim G m σ H ρ μ) (k : Keep m.flatten m'.flatten H H') (hl : m.length ≤ m'.length) (root : ∀ (l : Nat) (a : Addr) (r : List Addr), 0 < l → l < m.length → m'[l]? = some (a :: r) → ∃ r', m[l]? = some (a :: r')) (M : MS G m' H' μ') : Sim G m' σ H' ρ μ' :=
  ⟨M, S.len, fun i w e => by
    obtain ⟨n, v, e1, r⟩ := S.env i w e
    exact ⟨n, v, e1, r.move k hl root n⟩⟩
theorem Sim.new (S : Sim G m σ H ρ μ) {p : Addr} {o : HO} (hp : H p = none) : Sim G m σ (upd H p o) ρ μ := S.lat (st := true) (lat_new hp) (S.ms.new hp)
end
end Mp
set_option Elab.async false
set_option linter.all false
set_option maxRecDepth 100000
set_option maxHeartbeats 1000000
/-! Mp: readings by the interpreter; the rules of expressions. -/
namespace Mp
open PySem PySem.Spec PyProof.Rows L2

/-- an exception's own dict -/
def XR (G : Glo) (O : List Addr) (H : Hp) (d : Option Addr) (e : Exc) : Prop :=
  (e.fs = [] ∧ d = none) ∨ ∃ dx vfs, d = some dx ∧ H dx = some (.xd vfs) ∧ Nms G (vfs.map (·.1)) (e.fs.map (·.1)) ∧ RVs G O H (vfs.map (·.2)) (e.fs.map (·.2))
/-- behind an answer that is given at (m, H) -/
def tK {α β : Type} (G : Glo) (Wx : WX) (Rel : List (List Addr) → Hp → β → α → Prop) (st : Bool) (r : Ans α) (σ : L2.St) (m : List (List Addr)) (H : Hp) (Q : β → Hp → Prop) : Prop :=
  ∃ a μ', r = some (a, μ') ∧ match a with
    | .ok w => ∀ v m' H', MS G m' H' μ' → Lat st m H m' H' → Rel m' H' v w → Q v H'
    | .exc e => ∀ m' H' C d, MS G m' H' μ' → Lat false m H m' H' → G.xcl e.cls = some C → XR G m'.flatten H' d e → Wx (.ref C) d σ H'
def RB (_ : List (List Addr)) (_ : Hp) (b : Bool) (w : W) : Prop := w = .d (.bl b)
def RWs (G : Glo) (m : List (List Addr)) (H : Hp) (vs : List V) (ws : List W) : Prop := Paired (fun v w => npt w ∧ RW G m H v w) vs ws
def RO (_ : List (List Addr)) (_ : Hp) (o : Option Int) (p : Option Int) : Prop := o = p
def tG {α β : Type} (G : Glo) (Wx : WX) (Rel : List (List Addr) → Hp → β → α → Prop) (st : Bool) (f : Env → Mem → Ans α) : L2.St → Hp → (β → Hp → Prop) → Prop :=
  fun σ H Q => ∃ m ρ μ, Sim G m σ H ρ μ ∧ tK G Wx Rel st (f ρ μ) σ m H Q
abbrev tE (G : Glo) (Wx : WX) (st : Bool) (f : Env → Mem → Ans W) : TE := tG G Wx (RW G) st f
abbrev tT (G : Glo) (Wx : WX) (st : Bool) (f : Env → Mem → Ans W) : TT := tG G Wx RB st f
abbrev tA (G : Glo) (Wx : WX) (st : Bool) (f : Env → Mem → Ans (List W)) : TA := tG G Wx (RWs G) st f
abbrev tP (G : Glo) (Wx : WX) (st : Bool) (f : Env → Mem → Ans (Option Int)) : TO := tG G Wx RO st f

section
variable {G : Glo} {Wx : WX} {α β γ δ : Type} {Rel : List (List Addr) → Hp → β → α → Prop} {Rel' : List (List Addr) → Hp → δ → γ → Prop} {st st1 st2 : Bool} {σ : L2.St} {m : List (List Addr)} {H : Hp} {μ : Mem} {ρ : Env} {Q : β → Hp → Prop} {Q' : δ → Hp → Prop}
/-- first x, then g -/
theorem tK.bnd {x : Ans γ} {g : γ → Mem → Ans α} (h : tK G Wx Rel st (bnd x g) σ m H Q) (h1 : st = true → st1 = true) (h2 : st = true → st2 = true)
    (k : ∀ v m1 H1 w μ1, MS G m1 H1 μ1 → Lat st1 m H m1 H1 → Rel' m1 H1 v w → tK G Wx Rel st2 (g w μ1) σ m1 H1 Q → Q' v H1) : tK G Wx Rel' st1 x σ m H Q' := by
  obtain ⟨a, μ', e, h⟩ := h
  cases x with
  | none => cases e
  | some p =>
    obtain ⟨r, μ1⟩ := p
    cases r with
    | exc e1 =>
      cases e
      exact ⟨_, _, rfl, h⟩
    | ok w =>
      refine ⟨_, _, rfl, fun v m1 H1 M1 L1 r1 => k v m1 H1 w μ1 M1 L1 r1 ⟨a, μ', e, ?_⟩⟩
      cases a with
      | ok w2 => exact fun v2 m2 H2 M2 L2 r2 => h v2 m2 H2 M2 ((L1.trans L2).weak fun z => by rw [h1 z, h2 z]; rfl) r2
      | exc e2 => exact fun m2 H2 C d M2 L2 hc hx => h m2 H2 C d M2 ((L1.trans L2).weak fun z => nomatch z) hc hx
theorem bndg_eq {s : Bool} {x : Ans W} {f : W → Mem → Ans α} {a : R α × Mem} (h : bndg s x f = some a) : Mp.bnd x f = some a ∧ ∀ w μ, x = some (.ok w, μ) → nop w = true ∨ s = true := by
  cases x with
  | none => cases h
  | some p =>
    obtain ⟨r, μ1⟩ := p
    cases r with
    | exc e1 => exact ⟨h, fun _ _ z => by cases z⟩
    | ok w =>
      by_cases c : (nop w || s) = true
      · refine ⟨?_, fun w' μ' z => ?_⟩
        · have : bndg s (some (.ok w, μ1)) f = f w μ1 := if_pos c
          rw [this] at h
          exact h
        · cases z
          simpa using c
      · have : bndg s (some (.ok w, μ1)) f = none := if_neg c
        rw [this] at h; cases h
theorem npt_of {w : W} (h : nop w = true) : npt w := by cases w <;> first | trivial | cases h
theorem tK.bndg {s : Bool} {x : Ans W} {g : W → Mem → Ans α} {Q' : V → Hp → Prop} (h : tK G Wx Rel st (bndg s x g) σ m H Q) (h1 : st = true → st1 = true) (h2 : st = true → st2 = true)
    (k : ∀ v m1 H1 w μ1, MS G m1 H1 μ1 → Lat st1 m H m1 H1 → (npt w ∨ s = true) → RW G m1 H1 v w → tK G Wx Rel st2 (g w μ1) σ m1 H1 Q → Q' v H1) : tK G Wx (RW G) st1 x σ m H Q' := by
  obtain ⟨a, μ', e, h⟩ := h
  obtain ⟨e', n⟩ := bndg_eq e
  cases x with
  | none => cases e
  | some p =>
    obtain ⟨r, μ1⟩ := p
    cases r with
    | exc e1 =>
      cases e'
      exact ⟨_, _, rfl, h⟩
    | ok w =>
      refine ⟨_, _, rfl, fun v m1 H1 M1 L1 r1 => k v m1 H1 w μ1 M1 L1 ((n _ _ rfl).imp npt_of id) r1 ⟨a, μ', e', ?_⟩⟩
      cases a with
      | ok w2 => exact fun v2 m2 H2 M2 L2 r2 => h v2 m2 H2 M2 ((L1.trans L2).weak fun z => by rw [h1 z, h2 z]; rfl) r2
      | exc e2 => exact fun m2 H2 C d M2 L2 hc hx => h m2 H2 C d M2 ((L1.trans L2).weak fun z => nomatch z) hc hx
/-- a value that is there -/
theorem tK.now {w : α} {v : β} (h : tK G Wx Rel st (ret w μ) σ m H Q) (M : MS G m H μ) (r : Rel m H v w) : Q v H := by
  obtain ⟨a, μ', e, h⟩ := h
  cases e
  exact h v m H M .refl r
theorem tK.optd {o : Option W} {Q : V → Hp → Prop} (h : tK G Wx (RW G) st (opt o μ) σ m H Q) : ∃ w, o = some w ∧ tK G Wx (RW G) st (ret w μ) σ m H Q := by
  cases o with
  | none => obtain ⟨_, _, e, _⟩ := h; cases e
  | some w => exact ⟨w, rfl, h⟩
theorem tK.not_none (h : tK G Wx Rel st none σ m H Q) : False := by obtain ⟨_, _, e, _⟩ := h; cases e
/-- a new object is laid, not owned -/
theorem tK.lay {w : α} {p : Addr} {o : HO} {v : β} (h : tK G Wx Rel st (ret w μ) σ m H Q) (M : MS G m H μ) (hp : H p = none) (r : Rel m (upd H p o) v w) : Q v (upd H p o) := by
  obtain ⟨a, μ', e, h⟩ := h
  cases e
  exact h v m _ (M.new hp) (lat_new hp) r
end

/-! ### what a value is -/
section
variable {G : Glo} {m : List (List Addr)} {H : Hp} {μ : Mem} {O : List Addr}
theorem RV.non_ {v : V} (h : RV G O H v .non) : v = .non := by cases h; rfl
theorem RV.bl_ {v : V} {b : Bool} (h : RV G O H v (.bl b)) : v = .bl b := by cases h; rfl
theorem RV.int_ {v : V} {i : Int} (h : RV G O H v (.int i)) : v = .int i := by cases h; rfl
theorem RV.str_ {v : V} {s : String} (h : RV G O H v (.str s)) : v = .str (toS s) := by cases h; rfl
theorem RV.tup_ {v : V} {xs : List D} (h : RV G O H v (.tup xs)) : ∃ a vs, v = .ref a ∧ SqT G.K H a vs ∧ RVs G O H vs xs := by
  cases h with
  | tup r n h => exact ⟨_, _, rfl, .inl r, h⟩
  | tupK r h => exact ⟨_, _, rfl, .inr r, h⟩
theorem RV.lst_ {v : V} {xs : List D} (h : RV G O H v (.lst xs)) : ∃ a vs, v = .ref a ∧ Rd H a (.lst vs) ∧ RVs G O H vs xs := by
  cases h with
  | lst r n h => exact ⟨_, _, rfl, r, h⟩
/-- a list that is read, owned or not -/
def LV (G : Glo) (m : List (List Addr)) (H : Hp) (v : V) (xs : List D) : Prop := ∃ a vs, v = .ref a ∧ Rd H a (.lst vs) ∧ RVs G m.flatten H vs xs
def SV (G : Glo) (m : List (List Addr)) (H : Hp) (v : V) (xs : List D) : Prop := ∃ a vs, v = .ref a ∧ (SqL G.K H a vs ∨ SqT G.K H a vs) ∧ RVs G m.flatten H vs xs
theorem MS.own (M : MS G m H μ) {l : Nat} {o : Ob} (e : μ[l]? = some o) : ∃ as, m[l]? = some as ∧ OR_ G m.flatten H as o := by
  have hl : l < m.length := by rw [M.len]; exact (List.getElem?_eq_some_iff.mp e).1
  exact ⟨m[l], by simp [hl], M.obj l o _ e (by simp [hl])⟩
theorem CR_.data {O : List Addr} : ∀ {cs : List Cell} {vs : List V} {as : List Addr} {xs : List D}, CR_ G O H vs cs as → cellsD cs = some xs → RVs G O H vs xs ∧ as = []
  | [], _, _, _, .nil, e => by simp [cellsD] at e; subst e; exact ⟨.nil, rfl⟩
  | .d x :: cs, _, _, _, .d r h, e => by
    unfold cellsD at e
    cases q : cellsD cs with
    | none => rw [q] at e; cases e
    | some ys =>
      rw [q] at e
      cases e
      obtain ⟨h1, h2⟩ := CR_.data h q
      exact ⟨.cons r h1, h2⟩
  | .sub _ :: _, _, _, _, .sub _ _ _, e => by cases e
theorem CR_.get {O : List Addr} : ∀ {cs : List Cell} {vs : List V} {as : List Addr} {i : Nat} {c : Cell}, CR_ G O H vs cs as → cs[i]? = some c → ∃ v, vs[i]? = some v ∧
    match c with | .d x => RV G O H v x | .sub xs => ∃ p ws, v = .ref p ∧ p ∈ as ∧ H p = some (.lst ws) ∧ RVs G O H ws xs
  | _, _, _, _, _, .nil, e => by simp at e
  | _, _, _, 0, _, .d r h, e => by simp at e; subst e; exact ⟨_, rfl, r⟩
  | _, _, _, 0, _, .sub e1 r h, e => by simp at e; subst e; exact ⟨_, rfl, _, _, rfl, List.mem_cons_self, e1, r⟩
  | _, _, _, i + 1, c, .d _ h, e => by
    obtain ⟨v, e1, q⟩ := CR_.get h (i := i) (by simpa using e)
    exact ⟨v, by simpa using e1, q⟩
  | _, _, _, i + 1, c, .sub _ _ h, e => by
    obtain ⟨v, e1, q⟩ := CR_.get h (i := i) (by simpa using e)
    refine ⟨v, by simpa using e1, ?_⟩
    cases c with
    | d x => exact q
    | sub xs =>
      obtain ⟨p, ws, e2, e3, e4⟩ := q
      exact ⟨p, ws, e2, List.mem_cons_of_mem _ e3, e4⟩
theorem CR_.length {O : List Addr} : ∀ {cs : List Cell} {vs : List V} {as : List Addr}, CR_ G O H vs cs as → vs.length = cs.length
  | _, _, _, .nil => rfl
  | _, _, _, .d _ h => by simp [CR_.length h]
  | _, _, _, .sub _ _ h => by simp [CR_.length h]
/-- names and ids: a lookup -/
theorem nms_look {α β : Type} : ∀ {vfs : List (Str × α)} {fs : List (Nat × β)} {f : Nat} {c : β}, Nms G (vfs.map (·.1)) (fs.map (·.1)) → fs.lookup f = some c →
    ∃ (i : Nat) (x : Str), G.fnm[f]? = some x ∧ fs[i]? = some (f, c) ∧ ∃ v, vfs[i]? = some (x, v) ∧ vfs.lookup x = some v
  | [], [], _, _, _, e => by simp at e
  | [], (_ :: _), _, _, n, _ => by unfold Nms at n; simp at n
  | (_ :: _), [], _, _, n, _ => by unfold Nms at n; simp at n
  | (x, v) :: vfs, (g, c0) :: fs, f, c, n, e => by
    unfold Nms at n
    simp only [List.map_cons, List.cons.injEq] at n
    obtain ⟨n1, n2⟩ := n
    by_cases hg : f = g
    · subst hg
      have e' : c0 = c := by simpa [List.lookup_cons] using e
      subst e'
      exact ⟨0, x, n1, rfl, v, rfl, by simp [List.lookup_cons]⟩
    · have e' : fs.lookup f = some c := by
        rw [List.lookup_cons] at e
        have : (f == g) = false := by simpa using hg
        rw [this] at e
        exact e
      obtain ⟨i, y, h1, h2, u, h3, h4⟩ := nms_look (vfs := vfs) (fs := fs) n2 e'
      refine ⟨i + 1, y, h1, by simpa using h2, u, by simpa using h3, ?_⟩
      have hxy : y ≠ x := by
        rintro rfl
        obtain ⟨l1, q1⟩ := List.getElem?_eq_some_iff.mp h1
        obtain ⟨l2, q2⟩ := List.getElem?_eq_some_iff.mp n1
        exact hg ((List.getElem_inj G.nd).mp (q1.trans q2.symm))
      rw [List.lookup_cons]
      have : (y == x) = false := by simpa using hxy
      rw [this]
      exact h4
theorem RW.lst_ (M : MS G m H μ) {v : V} {w : W} {xs : List D} (r : RW G m H v w) (e : asL μ w = some xs) : LV G m H v xs := by
  cases w with
  | d x =>
    cases x <;> first | cases e | skip
    exact RV.lst_ r
  | own l =>
    simp only [asL] at e
    cases q : μ[l]? with
    | none => rw [q] at e; cases e
    | some o =>
      rw [q] at e
      cases o with
      | lst cs =>
        obtain ⟨as, ea, a, rr, vs, e1, e2, c⟩ := M.own q
        subst e1
        exact ⟨a, vs, r.2 a rr ea, .inl e2, (c.data e).1⟩
      | _ => cases e
  | ptr l i =>
    simp only [asL] at e
    obtain ⟨a, rr, ea, z⟩ := r
    cases q : μ[l]? with
    | none => rw [q] at e; cases e
    | some o =>
      rw [q] at e
      cases o with
      | lst cs =>
        obtain ⟨as, ea', a', rr', vs, e1, e2, c⟩ := M.own q
        rw [ea] at ea'; cases ea'; cases e1
        dsimp only at e
        cases qi : cs[i]? with
        | none => rw [qi] at e; cases e
        | some cc =>
          rw [qi] at e
          cases cc with
          | d _ => cases e
          | sub ys =>
            cases e
            obtain ⟨v', ev, p, ws, rfl, hp, hw, hr⟩ := c.get qi
            rcases z with ⟨vs', ez, ev'⟩ | ⟨C, dx, vfs, y, ez, _, _⟩
            · rw [e2] at ez; cases ez
              rw [ev] at ev'; cases ev'
              exact ⟨p, ws, rfl, .inl hw, hr⟩
            · rw [e2] at ez; cases ez
      | ins cc fs =>
        obtain ⟨as, ea', a', rr', C, dx, vfs, e1, hC, e2, n, c⟩ := M.own q
        rw [ea] at ea'; cases ea'; cases e1
        dsimp only at e
        cases qi : fs.lookup i with
        | none => rw [qi] at e; cases e
        | some cl =>
          rw [qi] at e
          cases cl with
          | d _ => cases e
          | sub ys =>
            cases e
            obtain ⟨j, y, hy, hj, u, hu, hl⟩ := nms_look n qi
            obtain ⟨v', ev, p, ws, rfl, hp, hw, hr⟩ := c.get (i := j) (c := .sub xs) (by rw [List.getElem?_map, hj]; rfl)
            rcases z with ⟨vs', ez, ev'⟩ | ⟨C', dx', vfs', y', ez, hy', hl'⟩
            · rw [e2] at ez; cases ez
            · rw [e2] at ez; cases ez
              rw [hy] at hy'; cases hy'
              rw [hl] at hl'; cases hl'
              rw [List.getElem?_map, hu] at ev
              cases ev
              exact ⟨p, ws, rfl, .inl hw, hr⟩
      | _ => cases e
theorem RW.seq_ (M : MS G m H μ) {v : V} {w : W} {xs : List D} (r : RW G m H v w) (e : asS μ w = some xs) : SV G m H v xs := by
  by_cases h : ∃ ys, w = .d (.tup ys)
  · obtain ⟨ys, rfl⟩ := h
    cases e
    obtain ⟨a, vs, e1, e2, e3⟩ := RV.tup_ r
    exact ⟨a, vs, e1, .inr e2, e3⟩
  · have e' : asL μ w = some xs := by
      unfold asS at e
      split at e
      · exact (h ⟨_, rfl⟩).elim
      · exact e
    obtain ⟨a, vs, e1, e2, e3⟩ := RW.lst_ M r e'
    exact ⟨a, vs, e1, .inl (.inl e2), e3⟩
end
end Mp
set_option Elab.async false
set_option linter.all false
set_option maxRecDepth 100000
set_option maxHeartbeats 1000000
/-! Mp: operators by values. -/
namespace Mp
open PySem PySem.Spec PyProof.Rows L2

/-! ### texts -/
theorem toS_cps (s : String) : (toS s).cps = (s.toList.map Char.toNat).toArray := by
  show (Str.ofString s).cps = _
  rw [Str.ofString_eq_toList]
theorem toS_inj {s t : String} (h : toS s = toS t) : s = t := by
  have e : (s.toList.map Char.toNat).toArray = (t.toList.map Char.toNat).toArray := by rw [← toS_cps, ← toS_cps, h]
  have e' : s.toList.map Char.toNat = t.toList.map Char.toNat := by simpa using congrArg Array.toList e
  have : ∀ (a b : List Char), a.map Char.toNat = b.map Char.toNat → a = b := by
    intro a
    induction a with
    | nil => intro b hb; cases b with
      | nil => rfl
      | cons _ _ => simp at hb
    | cons x xs ih => intro b hb; cases b with
      | nil => simp at hb
      | cons y ys =>
        simp only [List.map_cons, List.cons.injEq] at hb
        rw [ih ys hb.2]
        have : x = y := by
          apply Char.ext
          exact UInt32.toNat_inj.mp hb.1
        rw [this]
  have := this _ _ e'
  have h2 := congrArg String.ofList this
  simpa using h2
theorem toS_append (s t : String) : toS s ++ toS t = toS (s ++ t) := by
  show Str.append _ _ = _
  unfold Str.append
  rw [toS_cps, toS_cps]
  show _ = Str.ofString (s ++ t)
  rw [Str.ofString_eq_toList]
  simp
theorem toS_length (s : String) : (toS s).length = s.length := by
  show (toS s).cps.size = _
  rw [toS_cps]
  simp [String.length_toList]
theorem toS_beq (s t : String) : (toS s == toS t) = (s == t) := by
  by_cases h : s = t
  · subst h; simp
  · have : toS s ≠ toS t := fun e => h (toS_inj e)
    rw [beq_eq_false_iff_ne.mpr this, beq_eq_false_iff_ne.mpr h]

/-! ### data as the library's data -/
mutual
def pyD : D → PyData
  | .non => .none | .bl b => .bool b | .int i => .int i | .str s => .str (toS s)
  | .tup xs => .tuple (pyA xs) | .lst xs => .list (pyA xs)
  | .ins _ _ => .none | .dic _ => .none
def pyA : List D → List PyData
  | [] => []
  | x :: xs => pyD x :: pyA xs
end
theorem pyA_map : ∀ xs : List D, pyA xs = xs.map pyD
  | [] => by rw [pyA]; rfl
  | x :: xs => by rw [pyA, pyA_map xs]; rfl
mutual
theorem eqD_py : ∀ (n : Nat) (x y : D), fl n x = true → fl n y = true → PyData.eqv (pyD x) (pyD y) = eqD x y
  | n, .ins _ _, _, h, _ => by cases n <;> simp [fl] at h
  | n, .dic _, _, h, _ => by cases n <;> simp [fl] at h
  | n, .non, y, _, h => by cases y <;> first | (cases n <;> simp [fl] at h; done) | simp [pyD, eqD, PyData.eqv]
  | n, .bl b, y, _, h => by cases y <;> first | (cases n <;> simp [fl] at h; done) | simp [pyD, eqD, PyData.eqv]
  | n, .int b, y, _, h => by cases y <;> first | (cases n <;> simp [fl] at h; done) | simp [pyD, eqD, PyData.eqv]
  | n, .str b, y, _, h => by cases y <;> first | (cases n <;> simp [fl] at h; done) | simp [pyD, eqD, PyData.eqv, toS_beq]
  | 0, .tup xs, y, h, _ => by simp [fl] at h
  | 0, .lst xs, y, h, _ => by simp [fl] at h
  | n + 1, .tup xs, y, h, h' => by
    cases y with
    | tup ys =>
      rw [pyD, pyD, eqD, PyData.eqv]
      exact eqA_py n xs ys (by simpa [fl] using h) (by simpa [fl] using h')
    | ins _ _ => simp [fl] at h'
    | dic _ => simp [fl] at h'
    | _ => simp [pyD, eqD, PyData.eqv]
  | n + 1, .lst xs, y, h, h' => by
    cases y with
    | lst ys =>
      rw [pyD, pyD, eqD, PyData.eqv]
      exact eqA_py n xs ys (by simpa [fl] using h) (by simpa [fl] using h')
    | ins _ _ => simp [fl] at h'
    | dic _ => simp [fl] at h'
    | _ => simp [pyD, eqD, PyData.eqv]
theorem eqA_py : ∀ (n : Nat) (xs ys : List D), flA n xs = true → flA n ys = true → PyData.eqvAll (pyA xs) (pyA ys) = eqA xs ys
  | _, [], [], _, _ => by rw [pyA, eqA, PyData.eqvAll]
  | _, [], _ :: _, _, _ => by rw [pyA, pyA, eqA, PyData.eqvAll] <;> simp
  | _, _ :: _, [], _, _ => by rw [pyA, pyA, eqA, PyData.eqvAll] <;> simp
  | n, x :: xs, y :: ys, h, h' => by
    rw [pyA, pyA, eqA, PyData.eqvAll]
    have h1 : fl n x = true ∧ flA n xs = true := by simpa [flA] using h
    have h2 : fl n y = true ∧ flA n ys = true := by simpa [flA] using h'
    rw [eqD_py n x y h1.1 h2.1, eqA_py n xs ys h1.2 h2.2]
end
theorem strOk_toS (s : String) : PyData.strOk (toS s) = true := by
  unfold PyData.strOk
  rw [toS_cps]
  simp only [List.all_toArray, List.all_map, List.all_eq_true, Function.comp_apply]
  intro c _
  have h := c.valid
  simp only [UInt32.isValidChar, Nat.isValidChar] at h
  have : c.toNat = c.val.toNat := rfl
  rw [decide_eq_true_eq, this]
  omega
mutual
theorem canLay_py : ∀ (n : Nat) (x : D), fl n x = true → (pyD x).canLay0 = true ∧ (pyD x).depth ≤ n
  | n, .ins _ _, h => by cases n <;> simp [fl] at h
  | n, .dic _, h => by cases n <;> simp [fl] at h
  | n, .non, _ => by simp [pyD, PyData.canLay0, PyData.depth]
  | n, .bl b, _ => by simp [pyD, PyData.canLay0, PyData.depth]
  | n, .int i, _ => by simp [pyD, PyData.canLay0, PyData.depth]
  | n, .str s, _ => by simp [pyD, PyData.canLay0, PyData.depth, strOk_toS]
  | 0, .tup xs, h => by simp [fl] at h
  | 0, .lst xs, h => by simp [fl] at h
  | n + 1, .tup xs, h => by
    have := canLayA_py n xs (by simpa [fl] using h)
    simp only [pyD, PyData.canLay0, PyData.depth]
    exact ⟨this.1, by have := this.2; omega⟩
  | n + 1, .lst xs, h => by
    have := canLayA_py n xs (by simpa [fl] using h)
    simp only [pyD, PyData.canLay0, PyData.depth]
    exact ⟨this.1, by have := this.2; omega⟩
theorem canLayA_py : ∀ (n : Nat) (xs : List D), flA n xs = true → PyData.canLayAll0 (pyA xs) = true ∧ PyData.depthAll (pyA xs) ≤ n
  | _, [], _ => by simp [pyA, PyData.canLayAll0, PyData.depthAll]
  | n, x :: xs, h => by
    have h1 : fl n x = true ∧ flA n xs = true := by simpa [flA] using h
    have a := canLay_py n x h1.1
    have b := canLayA_py n xs h1.2
    simp only [pyA, PyData.canLayAll0, PyData.depthAll, a.1, b.1, Bool.and_self, true_and]
    exact Nat.max_le.mpr ⟨a.2, b.2⟩
end
theorem shaped_py {n : Nat} {x : D} (h : fl n x = true) (hn : n ≤ 64) : SeqAt.shaped (pyD x) = true := by
  have := canLay_py n x h
  unfold SeqAt.shaped
  rw [this.1, Bool.true_and]
  exact decide_eq_true (Nat.le_trans this.2 hn)
section
variable {G : Glo} {O : List Addr} {H : Hp}
mutual
theorem RV.dp : ∀ {v : V} {x : D} (n : Nat), RV G O H v x → fl n x = true → Dp G.K H v (pyD x)
  | _, _, _, .non, _ => by rw [pyD]; exact .non
  | _, _, _, .bl b, _ => by rw [pyD]; exact .bl b
  | _, _, _, .int b, _ => by rw [pyD]; exact .int b
  | _, _, _, .str b, _ => by rw [pyD]; exact .str _
  | _, _, n, .tup r _ h, f => by
    rw [pyD]
    cases n with
    | zero => simp [fl] at f
    | succ n => exact .tup (.inl r) (RVs.dp n h (by simpa [fl] using f))
  | _, _, n, .tupK r h, f => by
    rw [pyD]
    cases n with
    | zero => simp [fl] at f
    | succ n => exact .tup (.inr r) (RVs.dp n h (by simpa [fl] using f))
  | _, _, n, .lst r _ h, f => by
    rw [pyD]
    cases n with
    | zero => simp [fl] at f
    | succ n => exact .lst (.inl r) (RVs.dp n h (by simpa [fl] using f))
  | _, _, n, .ins _ _ _ _ _, f => by cases n <;> simp [fl] at f
  | _, _, n, .dic _ _ _ _, f => by cases n <;> simp [fl] at f
  | _, _, n, .dicK _ _ _ _ _, f => by cases n <;> simp [fl] at f
theorem RVs.dp : ∀ {vs : List V} {xs : List D} (n : Nat), RVs G O H vs xs → flA n xs = true → DpAll G.K H vs (pyA xs)
  | _, _, _, .nil, _ => by rw [pyA]; exact .nil
  | _, _, n, .cons a b, f => by
    have h1 := f
    simp only [flA, Bool.and_eq_true] at h1
    rw [pyA]
    exact .cons (RV.dp n a h1.1) (RVs.dp n b h1.2)
end
theorem flat_of {v : V} {x : D} (r : RV G O H v x) (f : fl 0 x = true) : flatV v = true := by
  cases r <;> first | rfl | simp [fl] at f
theorem flats_of : ∀ {vs : List V} {xs : List D}, RVs G O H vs xs → flA 0 xs = true → vs.all flatV = true
  | _, _, .nil, _ => rfl
  | _, _, .cons a b, f => by
    simp only [flA, Bool.and_eq_true] at f
    rw [List.all_cons, flat_of a f.1, flats_of b f.2]
    rfl
theorem eqV_of {v u : V} {x y : D} (r : RV G O H v x) (q : RV G O H u y) (f : fl 0 x = true) (g : fl 0 y = true) : eqV v u = eqD x y := by
  cases r <;> cases q <;> first | (simp [fl] at f; done) | (simp [fl] at g; done) | simp [eqV, eqD, toS_beq]
theorem any_of {v : V} {x : D} (r : RV G O H v x) (f : fl 0 x = true) : ∀ {vs : List V} {xs : List D}, RVs G O H vs xs → flA 0 xs = true → (vs.any fun y => eqV y v) = xs.any fun y => eqD y x
  | _, _, .nil, _ => rfl
  | _, _, .cons a b, g => by
    simp only [flA, Bool.and_eq_true] at g
    rw [List.any_cons, List.any_cons, eqV_of a r g.1 f, any_of r f b g.2]
end

/-! ### two-place operators -/
section
variable {G : Glo} {X : Cx}
/-- what an operator that only makes must give -/
def rOp (G : Glo) (g : Mem → W → W → Option D) : R2 := fun x y H Q => ∃ m μ a b d, MS G m H μ ∧ RW G m H x a ∧ RW G m H y b ∧ g μ a b = some d ∧
  ∀ v m' H', MS G m' H' μ → Lat true m H m' H' → RV G m'.flatten H' v d → Q v H'
theorem op_catR : OpR X (binaryOp .Add) (fun x y H Q => ∃ l b xs zs, x = .ref l ∧ y = .ref b ∧ Rd H l (.lst xs) ∧ Rd H b (.lst zs) ∧ xs.length + zs.length ≤ sizeLine ∧ ∀ p, H p = none → Q (.ref p) (upd H p (.lst (xs ++ zs)))) := by
  intro pins s σ H x y v u Q I rx ry h
  obtain ⟨l, b, xs, zs, rfl, rfl, hH, hB, hz, q⟩ := h
  cases rx
  cases ry
  obtain ⟨z, its, n, r, e⟩ := hH.ok I.hok
  obtain ⟨z2, its2, n2, r2, e2⟩ := hB.ok I.hok
  have hl := r.length
  have hl2 := r2.length
  refine PySem.P.add_list e e2 ?_ (by rw [List.size_toArray, List.size_toArray]; omega)
  have ea : its.toArray ++ its2.toArray = (its ++ its2).toArray := by simp
  rw [ea]
  exact ⟨.ref _, _, I.lnew (t' := s.toks) (r.append r2) (by rw [List.length_append]; omega), rfl, q _ I.fresh⟩
theorem lim_eq : LIM = sizeLine := by rw [sizeLine_eq]; rfl
theorem snd_add (hK : X.K = G.K) : OpR X (binaryOp .Add) (rOp G addW) := by
  intro pins s σ H x y v u Q I rx ry h
  obtain ⟨m, μ, a, b, d, M, ra, rb, e, k⟩ := h
  unfold addW at e
  split at e
  all_goals first | (cases e; done) | skip
  · -- ints
    cases e
    obtain rfl := RV.int_ ra
    obtain rfl := RV.int_ rb
    exact op_add pins s σ H _ _ v u Q I rx ry ⟨_, _, rfl, rfl, k _ m H M .refl (.int _)⟩
  · -- texts
    split at e
    · rename_i hl
      cases e
      obtain rfl := RV.str_ ra
      obtain rfl := RV.str_ rb
      refine op_add_str pins s σ H _ _ v u Q I rx ry ⟨_, _, rfl, rfl, by rw [toS_length, toS_length, ← lim_eq]; exact hl, ?_⟩
      rw [toS_append]
      exact k _ m H M .refl (.str _)
    · cases e
  · -- tuples
    split at e
    · rename_i hl
      cases e
      obtain ⟨a1, vs, rfl, h1, r1⟩ := RV.tup_ ra
      obtain ⟨a2, us, rfl, h2, r2⟩ := RV.tup_ rb
      refine op_catA pins s σ H _ _ v u Q I rx ry ⟨a1, a2, vs, us, rfl, rfl, hK ▸ h1, hK ▸ h2, by rw [r1.length, r2.length, ← lim_eq]; exact hl, fun ev => ?_, fun _ eu => ?_, fun _ _ p hp => ?_⟩
      · subst ev
        cases r1
        exact k _ m H M .refl rb
      · subst eu
        cases r2
        rw [List.append_nil] at k
        exact k _ m H M .refl ra
      · exact k _ m _ (M.new hp) (lat_new hp) (.tup (.inl upd_same) (M.free hp) ((r1.append r2).mono (keep_new hp)))
    · cases e
  · -- lists
    split at e
    · rename_i xs ys h1 h2
      split at e
      · rename_i hl
        cases e
        obtain ⟨a1, vs, rfl, q1, r1⟩ := RW.lst_ M ra h1
        obtain ⟨a2, us, rfl, q2, r2⟩ := RW.lst_ M rb h2
        refine op_catR pins s σ H _ _ v u Q I rx ry ⟨a1, a2, vs, us, rfl, rfl, q1, q2, by rw [r1.length, r2.length, ← lim_eq]; exact hl, fun p hp => ?_⟩
        exact k _ m _ (M.new hp) (lat_new hp) (.lst (.inl upd_same) (M.free hp) ((r1.append r2).mono (keep_new hp)))
      · cases e
    · cases e
theorem snd_sub : OpR X (binaryOp .Sub) (rOp G fun _ => subW) := by
  intro pins s σ H x y v u Q I rx ry h
  obtain ⟨m, μ, a, b, d, M, ra, rb, e, k⟩ := h
  dsimp only at e
  unfold subW at e
  split at e
  · cases e
    obtain rfl := RV.int_ ra
    obtain rfl := RV.int_ rb
    exact op_sub pins s σ H _ _ v u Q I rx ry ⟨_, _, rfl, rfl, k _ m H M .refl (.int _)⟩
  · cases e
theorem snd_fdiv : OpR X (binaryOp .FloorDiv) (rOp G fun _ => fdivW) := by
  intro pins s σ H x y v u Q I rx ry h
  obtain ⟨m, μ, a, b, d, M, ra, rb, e, k⟩ := h
  dsimp only at e
  unfold fdivW at e
  split at e
  · split at e
    · rename_i hc
      cases e
      obtain rfl := RV.int_ ra
      obtain rfl := RV.int_ rb
      exact op_fdiv pins s σ H _ _ v u Q I rx ry ⟨_, _, rfl, rfl, hc, k _ m H M .refl (.int _)⟩
    · cases e
  · cases e
theorem snd_mod : OpR X (binaryOp .Mod) (rOp G fun _ => modW) := by
  intro pins s σ H x y v u Q I rx ry h
  obtain ⟨m, μ, a, b, d, M, ra, rb, e, k⟩ := h
  dsimp only at e
  unfold modW at e
  split at e
  · split at e
    · rename_i hc
      cases e
      obtain rfl := RV.int_ ra
      obtain rfl := RV.int_ rb
      exact op_mod pins s σ H _ _ v u Q I rx ry ⟨_, _, rfl, rfl, hc, k _ m H M .refl (.int _)⟩
    · cases e
  · cases e
theorem snd_pow : OpR X (binaryOp .Pow) (rOp G fun _ => powW) := by
  intro pins s σ H x y v u Q I rx ry h
  obtain ⟨m, μ, a, b, d, M, ra, rb, e, k⟩ := h
  dsimp only at e
  unfold powW at e
  split at e
  · split at e
    · rename_i hc
      cases e
      obtain rfl := RV.int_ ra
      obtain rfl := RV.int_ rb
      exact op_pow pins s σ H _ _ v u Q I rx ry ⟨_, _, rfl, rfl, ⟨hc.1, by omega, by omega⟩, k _ m H M .refl (.int _)⟩
    · cases e
  · cases e
theorem op_repR : OpR X (binaryOp .Mult) (fun x y H Q => ∃ l k xs, x = .ref l ∧ y = .int k ∧ Rd H l (.lst xs) ∧ -(2 ^ 63) ≤ k ∧ k < 2 ^ 63 ∧ xs.length * k.toNat ≤ sizeLine ∧
  ∀ p, H p = none → Q (.ref p) (upd H p (.lst (List.replicate k.toNat xs).flatten))) := by
  intro pins s σ H x y v u Q I rx ry h
  obtain ⟨l, k, xs, rfl, rfl, hH, h1, h2, hz, q⟩ := h
  cases rx
  obtain ⟨t, rfl⟩ := ry
  obtain ⟨z, its, n, r, e⟩ := hH.ok I.hok
  have hl := r.length
  have hlen : its.toArray.size * k.toNat ≤ sizeLine := by rw [List.size_toArray, ← hl]; exact hz
  have hcap : ¬ its.toArray.size * k.toNat > (2 ^ 63 - 1) / 8 := by
    have : (sizeLine : Nat) ≤ (2 ^ 63 - 1) / 8 := by decide
    omega
  have hfit : ¬ (!Builtin.List.listFitsIndex k) = true := by
    rw [fitsIndex_both h1 h2]
    exact Bool.false_ne_true
  have hlong : ¬ Builtin.List.listTooLong (its.toArray.size * k.toNat) = true := by
    rw [notLongL hlen]
    exact Bool.false_ne_true
  have hnew : List.foldl (fun x1 x2 => x1 ++ x2) #[] (List.replicate (if its.toArray.isEmpty = true then 0 else k.toNat) its.toArray) = (List.replicate k.toNat its).flatten.toArray := by
    have f0 : ∀ m : Nat, List.foldl (fun x1 x2 => x1 ++ x2) #[] (List.replicate m its.toArray) = (List.replicate m its).flatten.toArray := fun m => by
      have := foldl_rep its m []
      rw [List.nil_append] at this
      exact this
    rw [f0]
    cases its with
    | nil => simp
    | cons a r' => rw [if_neg (by simp)]
  refine wpAny_binaryOp_repeat_ref (T := "list") (U := "int") (by decide) ⟨_, e, rfl⟩ (fun s' => typeIs_int s' k t) noFill_list_mul F.fills_int_mul F.slot_int_rmul repeat_list F.slot_int_index.lookup
    (call_meets F.slot_int_rmul (typeIs_int s k t) F.entry_int_rmul (F.args_int_rmul_2 _ _) (int___rmul___int_list k t l its.toArray n)
      ⟨e, rfl, ⟨_, e, rfl⟩, call_meets F.slot_list_mul ⟨_, e, rfl⟩ F.entry_list_mul (F.args_list_mul_2 _ _) (AutoListH.list___mul___list_int_3 l its.toArray n k t hfit hcap hlong) ⟨e, ?_⟩⟩)
  rw [hnew]
  exact ⟨.ref _, _, I.lnew (t' := s.toks) (r.rep k.toNat) (by rw [PyProof.Rows.lm_len_rep_flat, Nat.mul_comm]; exact hz), rfl, q _ I.fresh⟩
theorem RVs.rep {O : List Addr} {H : Hp} {vs : List V} {xs : List D} (h : RVs G O H vs xs) : ∀ k : Nat, RVs G O H (List.replicate k vs).flatten (List.replicate k xs).flatten
  | 0 => .nil
  | k + 1 => by
    rw [List.replicate_succ, List.replicate_succ, List.flatten_cons, List.flatten_cons]
    exact h.append (RVs.rep h k)
theorem snd_mul (nostr : True) : OpR X (binaryOp .Mult) (rOp G fun _ a b => match a with | .d (.str _) => none | _ => mulW a b) := by
  intro pins s σ H x y v u Q I rx ry h
  obtain ⟨m, μ, a, b, d, M, ra, rb, e, k⟩ := h
  dsimp only at e
  split at e
  · cases e
  rename_i hs
  unfold mulW at e
  split at e
  · split at e
    · rename_i hc
      cases e
      obtain rfl := RV.int_ ra
      obtain rfl := RV.int_ rb
      exact op_mul pins s σ H _ _ v u Q I rx ry ⟨_, _, rfl, rfl, by simpa [P64, CMul] using hc, k _ m H M .refl (.int _)⟩
    · cases e
  · rename_i xs0 kk
    split at e
    · rename_i hc
      cases e
      obtain ⟨a1, vs, rfl, q1, r1⟩ := RV.lst_ ra
      obtain rfl := RV.int_ rb
      have hl := r1.length
      refine op_repR pins s σ H _ _ v u Q I rx ry ⟨a1, _, vs, rfl, rfl, q1, by omega, by omega, ?_, fun p hp => ?_⟩
      · rw [sizeLine_eq]
        have h1 : vs.length ≤ 1000 := by omega
        have h2 : kk.toNat ≤ 1000 := by omega
        exact Nat.le_trans (Nat.mul_le_mul h1 h2) (by decide)
      · exact k _ m _ (M.new hp) (lat_new hp) (.lst (.inl upd_same) (M.free hp) ((r1.rep _).mono (keep_new hp)))
    · cases e
  · exact (hs _ rfl).elim
  · cases e
end
end Mp
set_option Elab.async false
set_option linter.all false
set_option maxRecDepth 100000
set_option maxHeartbeats 1000000
/-! Mp: comparisons, dicts, truth by values. -/
namespace Mp
open PySem PySem.Spec PyProof.Rows L2
section
variable {G : Glo} {O : List Addr} {H : Hp} {m : List (List Addr)} {μ : Mem}
/-! ### keys -/
theorem keyOf_ok {x : D} (h : okK x = true) : ∃ k, keyOf x = some k := by
  cases x <;> first | exact ⟨_, rfl⟩ | cases h
theorem kq_key {x y : D} {a b : Key} (hx : keyOf x = some a) (hy : keyOf y = some b) : kq x y = decide (a = b) := by
  cases x <;> cases hx <;> cases y <;> cases hy
  · rename_i i j
    by_cases e : i = j
    · subst e; simp [kq]
    · simp [kq, e]
  · simp [kq]
  · simp [kq]
  · rename_i s t
    by_cases e : s = t
    · subst e; simp [kq]
    · have : toS s ≠ toS t := fun z => e (toS_inj z)
      simp [kq, e, this]
theorem RV.key {v : V} {x : D} {k : Key} (r : RV G O H v x) (e : keyOf x = some k) : v = kV k := by
  cases r <;> cases e <;> rfl
theorem dget_of {x : D} {k : Key} (e : keyOf x = some k) : ∀ {vks : List (Key × V)} {kvs : List (D × D)}, Kys (vks.map (·.1)) (kvs.map (·.1)) → RVs G O H (vks.map (·.2)) (kvs.map (·.2)) →
    match dget kvs x, valV vks k with | none, none => True | some d, some v => RV G O H v d | _, _ => False
  | [], [], _, _ => by simp [dget, valV]
  | [], _ :: _, h, _ => by unfold Kys at h; simp at h
  | _ :: _, [], h, _ => by unfold Kys at h; simp at h
  | (a, v) :: vks, (y, d) :: kvs, h, r => by
    unfold Kys at h
    simp only [List.map_cons, List.cons.injEq] at h
    obtain ⟨h1, h2⟩ := h
    simp only [List.map_cons] at r
    cases r with
    | cons r1 r2 =>
      have ih := dget_of e (vks := vks) (kvs := kvs) h2 r2
      have kk := kq_key h1 e
      by_cases c : a = k
      · have : kq y x = true := by rw [kk]; exact decide_eq_true c
        have e1 : dget ((y, d) :: kvs) x = some d := by simp [dget, List.find?_cons, this]
        have e2 : valV ((a, v) :: vks) k = some v := valV_pos c
        rw [e1, e2]
        exact r1
      · have : kq y x = false := by rw [kk]; exact decide_eq_false c
        have e1 : dget ((y, d) :: kvs) x = dget kvs x := by simp [dget, List.find?_cons, this]
        have e2 : valV ((a, v) :: vks) k = valV vks k := valV_neg c
        rw [e1, e2]
        exact ih
/-- a dict that is read (tracked) -/
def DV (G : Glo) (m : List (List Addr)) (H : Hp) (v : V) (kvs : List (D × D)) : Prop := ∃ a vks, v = .ref a ∧ Rd H a (.dK vks) ∧ Kys (vks.map (·.1)) (kvs.map (·.1)) ∧ RVs G m.flatten H (vks.map (·.2)) (kvs.map (·.2))
/-- a dict of the written part -/
def DVK (G : Glo) (m : List (List Addr)) (H : Hp) (v : V) (kvs : List (D × D)) : Prop := ∃ a ks us vs, v = .ref a ∧ KD G a ks us ∧ kvs.map (·.1) = ks.map D.str ∧ Vals vs us ∧ RVs G m.flatten H vs (kvs.map (·.2))
theorem RV.dic_ {v : V} {kvs : List (D × D)} (r : RV G m.flatten H v (.dic kvs)) : DV G m H v kvs ∨ DVK G m H v kvs := by
  cases r with
  | dic r n k h => exact .inl ⟨_, _, rfl, r, k, h⟩
  | dicK d k v z h => exact .inr ⟨_, _, _, _, rfl, d, k, v, h⟩
theorem RV.dicF {v : V} {kvs : List (D × D)} (r : RV G m.flatten H v (.dic kvs)) (hk : kdM kvs = false) : DV G m H v kvs := by
  cases r with
  | dic r n k h => exact ⟨_, _, rfl, r, k, h⟩
  | dicK d k v z h => rw [hk] at z; cases z
theorem RW.dic_ (M : MS G m H μ) {v : V} {w : W} {kvs : List (D × D)} (r : RW G m H v w) (e : asK μ w = some kvs) : DV G m H v kvs ∨ DVK G m H v kvs := by
  cases w with
  | d x =>
    cases x <;> first | cases e | skip
    exact RV.dic_ r
  | own l =>
    simp only [asK] at e
    cases q : μ[l]? with
    | none => rw [q] at e; cases e
    | some o =>
      rw [q] at e
      cases o with
      | dic _ =>
        cases e
        obtain ⟨as, ea, a, vks, e1, e2, c, h⟩ := M.own q
        subst e1
        exact .inl ⟨a, vks, r.2 a [] ea, .inl e2, c, h⟩
      | _ => cases e
  | ptr _ _ => cases e
/-- the names of a written dict -/
theorem kd_find {G : Glo} {m : List (List Addr)} {H : Hp} {s : String} : ∀ {es : List DictEntry} {ks : List String} {vs : List V} {kvs : List (D × D)}, Paired (fun (e : DictEntry) (k : String) => ∃ t, e.key = .str (toS k) t) es ks → kvs.map (·.1) = ks.map D.str → Vals vs (es.map (·.val)) → RVs G m.flatten H vs (kvs.map (·.2)) →
    (es.any (·.refKey) = false) ∧ match dget kvs (.str s), es.find? (·.key.isStr (toS s)) with | none, none => True | some d, some e => ∃ v, RelV v e.val ∧ RV G m.flatten H v d | _, _ => False
  | [], _, _, kvs, .nil, hk, _, _ => by
    have : kvs = [] := by simpa using hk
    subst this
    exact ⟨rfl, by simp [dget]⟩
  | e :: es, k :: ks, vs, kvs, .cons ⟨t, he⟩ hr, hk, hv, hd => by
    cases kvs with
    | nil => simp at hk
    | cons kv kvs =>
      obtain ⟨y, d⟩ := kv
      simp only [List.map_cons, List.cons.injEq] at hk
      obtain ⟨rfl, hk⟩ := hk
      simp only [List.map_cons] at hv hd
      cases hv with
      | cons hv1 hv2 =>
        cases hd with
        | cons hd1 hd2 =>
          have ih := kd_find (s := s) hr hk hv2 hd2
          refine ⟨?_, ?_⟩
          · rw [List.any_cons, ih.1, Bool.or_false]
            unfold DictEntry.refKey
            rw [he]
          · have q : e.key.isStr (toS s) = (k == s) := by
              rw [he]
              show (toS k == toS s) = _
              rw [toS_beq]
            by_cases c : k = s
            · have e1 : dget ((D.str k, d) :: kvs) (.str s) = some d := by simp [dget, List.find?_cons, kq, c]
              have e2 : (e :: es).find? (·.key.isStr (toS s)) = some e := by rw [List.find?_cons, q]; simp [c]
              rw [e1, e2]
              exact ⟨_, hv1, hd1⟩
            · have e1 : dget ((D.str k, d) :: kvs) (.str s) = dget kvs (.str s) := by simp [dget, List.find?_cons, kq, c]
              have e2 : (e :: es).find? (·.key.isStr (toS s)) = es.find? (·.key.isStr (toS s)) := by
                have c' : (k == s) = false := beq_eq_false_iff_ne.mpr c
                rw [List.find?_cons, q, c']
              rw [e1, e2]
              exact ih.2
theorem dvk_int {v : V} {kvs : List (D × D)} {ks : List String} (hk : kvs.map (·.1) = ks.map D.str) (i : Int) : dget kvs (.int i) = none := by
  induction kvs generalizing ks with
  | nil => rfl
  | cons kv kvs ih =>
    cases ks with
    | nil => simp at hk
    | cons k ks =>
      obtain ⟨y, d⟩ := kv
      simp only [List.map_cons, List.cons.injEq] at hk
      obtain ⟨rfl, hk⟩ := hk
      have := ih hk
      have e : dget ((D.str k, d) :: kvs) (.int i) = dget kvs (.int i) := by unfold dget; rw [List.find?_cons]; rfl
      rw [e]
      exact this
theorem dvk_ns {v : V} {kvs : List (D × D)} {s : String} (h : DVK G m H v kvs) : ∃ a es n, v = .ref a ∧ KDict G.K G.w a es n ∧
    match dget kvs (.str s) with
    | none => PySem.W.nsIn G.K a (toS s) = some none
    | some d => ∃ u v0, PySem.W.nsIn G.K a (toS s) = some (some u) ∧ RelV v0 u ∧ RV G m.flatten H v0 d := by
  obtain ⟨a, ks, us, vs, rfl, ⟨⟨es, n, hl, hlit, hus, hp⟩, hlow⟩, hk, hv, hd⟩ := h
  subst hus
  have q := kd_find (s := s) hp hk hv hd
  refine ⟨a, es, n, rfl, ⟨hl, hlit, hlow⟩, ?_⟩
  have hns : PySem.W.nsIn G.K a (toS s) = match es.toList.find? (·.key.isStr (toS s)) with | some e => some (some e.val) | none => if es.toList.any (·.refKey) then none else some none := by
    unfold PySem.W.nsIn
    rw [hl]
    rfl
  obtain ⟨q1, q2⟩ := q
  cases c1 : dget kvs (.str s) with
  | none =>
    rw [c1] at q2
    cases c2 : es.toList.find? (·.key.isStr (toS s)) with
    | none =>
      dsimp only
      rw [hns, c2]
      simp [q1]
    | some e => rw [c2] at q2; exact q2.elim
  | some d =>
    rw [c1] at q2
    cases c2 : es.toList.find? (·.key.isStr (toS s)) with
    | none => rw [c2] at q2; exact q2.elim
    | some e =>
      rw [c2] at q2
      obtain ⟨v0, h1, h2⟩ := q2
      dsimp only
      exact ⟨e.val, v0, by rw [hns, c2], h1, h2⟩
/-! ### data at any depth -/
theorem RW.dat (M : MS G m H μ) {v : V} {w : W} {x : D} {n : Nat} (r : RW G m H v w) (e : asD μ w = some x) (f : fl n x = true) : Dp G.K H v (pyD x) := by
  by_cases h : ∃ y, w = .d y
  · obtain ⟨y, rfl⟩ := h
    cases e
    exact RV.dp n r f
  · unfold asD at e
    split at e
    · exact (h ⟨_, rfl⟩).elim
    · split at e
      · rename_i xs q
        cases e
        obtain ⟨a, vs, rfl, h1, h2⟩ := RW.lst_ M r q
        rw [pyD]
        cases n with
        | zero => simp [fl] at f
        | succ n => exact .lst (.inl h1) (RVs.dp n h2 (by simpa [fl] using f))
      · cases e
end
section
variable {G : Glo} {X : Cx}
def rCm (G : Glo) (g : Mem → W → W → Option Bool) : R2 := fun x y H Q => ∃ m μ a b k, MS G m H μ ∧ RW G m H x a ∧ RW G m H y b ∧ g μ a b = some k ∧ Q (.bl k) H
theorem cm_ord {f : Value → Value → Sem Value} {p : Int → Int → Bool} (h : OpR X f (rI0 fun i j => .bl (p i j))) : OpR X f (rCm G fun _ => ordW p) := by
  intro pins s σ H x y v u Q I rx ry ⟨m, μ, a, b, d, M, ra, rb, e, k⟩
  dsimp only at e
  unfold ordW at e
  split at e
  · cases e
    obtain rfl := RV.int_ ra
    obtain rfl := RV.int_ rb
    exact h pins s σ H _ _ v u Q I rx ry ⟨_, _, rfl, rfl, k⟩
  · cases e
theorem eqW_of {m : List (List Addr)} {H : Hp} {μ : Mem} {x y : V} {a b : W} {k : Bool} (M : MS G m H μ) (ra : RW G m H x a) (rb : RW G m H y b) (e : eqW μ a b = some k) :
    ∃ d d', Dp G.K H x d ∧ Dp G.K H y d' ∧ SeqAt.shaped d = true ∧ SeqAt.shaped d' = true ∧ PyData.eqv d d' = k := by
  unfold eqW at e
  split at e
  · rename_i p q h1 h2
    unfold eqO at e
    split at e
    · rename_i hf
      cases e
      simp only [Bool.and_eq_true] at hf
      exact ⟨_, _, RW.dat M ra h1 hf.1, RW.dat M rb h2 hf.2, shaped_py hf.1 (by decide), shaped_py hf.2 (by decide), eqD_py 8 _ _ hf.1 hf.2⟩
    · cases e
  · cases e
theorem cm_eq (hK : X.K = G.K) (hu : X.A.units + 64 < cLine) : OpR X (compareOp .Eq) (rCm G eqW) := by
  intro pins s σ H x y v u Q I rx ry ⟨m, μ, a, b, k, M, ra, rb, e, q⟩
  obtain ⟨d, d', h1, h2, h3, h4, h5⟩ := eqW_of M ra rb e
  exact op_eqD hu pins s σ H x y v u Q I rx ry ⟨d, d', hK ▸ h1, hK ▸ h2, h3, h4, by rw [h5]; exact q⟩
theorem cm_ne (hK : X.K = G.K) (hu : X.A.units + 64 < cLine) : OpR X (compareOp .NotEq) (rCm G fun μ a b => (eqW μ a b).map fun k => !k) := by
  intro pins s σ H x y v u Q I rx ry ⟨m, μ, a, b, k, M, ra, rb, e, q⟩
  cases c : eqW μ a b with
  | none => dsimp only at e; rw [c] at e; cases e
  | some k0 =>
    dsimp only at e
    rw [c] at e
    cases e
    obtain ⟨d, d', h1, h2, h3, h4, h5⟩ := eqW_of M ra rb c
    exact op_neD hu pins s σ H x y v u Q I rx ry ⟨d, d', hK ▸ h1, hK ▸ h2, h3, h4, by rw [h5]; exact q⟩
theorem isW_of {m : List (List Addr)} {H : Hp} {μ : Mem} {x y : V} {a b : W} {k : Bool} (M : MS G m H μ) (ra : RW G m H x a) (rb : RW G m H y b) (e : isW μ a b = some k) : y = .non ∧ k = decide (x = .non) := by
  unfold isW at e
  split at e
  · cases e
    exact ⟨RV.non_ rb, by rw [RV.non_ ra]; rfl⟩
  · rename_i hn
    cases e
    refine ⟨RV.non_ rb, ?_⟩
    symm
    apply decide_eq_false
    rintro rfl
    cases ra
    exact hn rfl
  · rename_i l
    have z : ∀ o as, μ[l]? = some o → m[l]? = some as → as ≠ [] → x ≠ .non := fun o as _ ea hne => by
      cases as with
      | nil => exact (hne rfl).elim
      | cons a r => rw [ra.2 a r ea]; exact fun z => nomatch z
    cases q : μ[l]? with
    | none => rw [q] at e; cases e
    | some o =>
      rw [q] at e
      obtain ⟨as, ea, h⟩ := M.own q
      cases o with
      | dead => cases e
      | lst cs => cases e; obtain ⟨a, r, vs, e1, _⟩ := h; exact ⟨RV.non_ rb, (decide_eq_false (z _ _ q ea (by rw [e1]; exact List.cons_ne_nil _ _))).symm⟩
      | ins c fs => cases e; obtain ⟨a, r, C, dx, vfs, e1, _⟩ := h; exact ⟨RV.non_ rb, (decide_eq_false (z _ _ q ea (by rw [e1]; exact List.cons_ne_nil _ _))).symm⟩
      | dic kvs => cases e; obtain ⟨a, vks, e1, _⟩ := h; exact ⟨RV.non_ rb, (decide_eq_false (z _ _ q ea (by rw [e1]; exact List.cons_ne_nil _ _))).symm⟩
  · cases e
theorem cm_is : OpR X (compareOp .Is) (rCm G isW) := by
  intro pins s σ H x y v u Q I rx ry ⟨m, μ, a, b, k, M, ra, rb, e, q⟩
  obtain ⟨e1, e2⟩ := isW_of M ra rb e
  exact op_isN pins s σ H x y v u Q I rx ry ⟨e1, by rw [← e2]; exact q⟩
theorem cm_isN : OpR X (compareOp .IsNot) (rCm G fun μ a b => (isW μ a b).map fun k => !k) := by
  intro pins s σ H x y v u Q I rx ry ⟨m, μ, a, b, k, M, ra, rb, e, q⟩
  dsimp only at e
  cases c : isW μ a b with
  | none => rw [c] at e; cases e
  | some k0 =>
    rw [c] at e
    cases e
    obtain ⟨e1, e2⟩ := isW_of M ra rb c
    exact op_notN pins s σ H x y v u Q I rx ry ⟨e1, by rw [← e2]; exact q⟩
/-! ### in -/
/-- what membership comes down to -/
inductive InC (G : Glo) (H : Hp) (x y : V) (k : Bool) : Prop
  | deep {d : PyData} {ds : List PyData} (h1 : Dp G.K H x d) (h2 : Dp G.K H y (.list ds)) (h3 : SeqAt.shaped d = true) (h4 : SeqAt.shaped (.list ds) = true) (h5 : (ds.any fun z => PyData.eqv z d) = k)
  | flat {p : Addr} {xs : List V} (h1 : y = .ref p) (h2 : SqT G.K H p xs) (h3 : flatV x = true) (h4 : xs.all flatV = true) (h5 : inV x xs = k)
  | sign {c : Nat} {z : Str} (h1 : x = .str ⟨#[c]⟩) (h2 : y = .str z) (h3 : decide (c ∈ z.cps.toList) = k)
  | dic {a : Addr} {o : Option V} (h1 : y = .ref a) (h2 : DGet H a x o) (h3 : o.isSome = k)
  | dicK {a : Addr} {es : Array DictEntry} {n : Nat} {z : Str} {r : Option Value} (h0 : KDict G.K G.w a es n) (h1 : y = .ref a) (h2 : x = .str z) (h3 : PySem.W.nsIn G.K a z = some r) (h4 : r.isSome = k)
theorem toS_one {c : Char} : toS (String.ofList [c]) = ⟨#[c.toNat]⟩ := by
  have e := toS_cps (String.ofList [c])
  have : (String.ofList [c]).toList = [c] := by simp
  rw [this] at e
  show (⟨(toS (String.ofList [c])).cps⟩ : Str) = _
  rw [e]
  rfl
theorem one_of {s : String} (h : s.length = 1) : ∃ c, s = String.ofList [c] := by
  have : s.toList.length = 1 := by rw [String.length_toList]; exact h
  match hl : s.toList, this with
  | [c], _ =>
    refine ⟨c, ?_⟩
    rw [← hl]
    simp
theorem in_dicH {m : List (List Addr)} {H : Hp} {x y : V} {kd : D} {kvs : List (D × D)} (rx : RV G m.flatten H x kd) (hk : okK kd = true) (h : DV G m H y kvs) : InC G H x y (dget kvs kd).isSome := by
  obtain ⟨k, ek⟩ := keyOf_ok hk
  obtain ⟨a, vks, rfl, r, c, q⟩ := h
  have := dget_of ek c q
  refine .dic rfl (o := valV vks k) (.inl ⟨vks, k, r, rx.key ek, rfl⟩) ?_
  cases h1 : dget kvs kd <;> cases h2 : valV vks k <;> rw [h1, h2] at this <;> first | rfl | exact this.elim
theorem in_dic {m : List (List Addr)} {H : Hp} {x y : V} {s : String} {kvs : List (D × D)} (rx : RV G m.flatten H x (.str s)) (h : DV G m H y kvs ∨ DVK G m H y kvs) : InC G H x y (dget kvs (.str s)).isSome := by
  rcases h with h | h
  · exact in_dicH rx rfl h
  · obtain rfl := RV.str_ rx
    obtain ⟨a, es, n, rfl, D, q⟩ := dvk_ns (s := s) h
    cases c : dget kvs (.str s) with
    | none => rw [c] at q; exact .dicK D rfl rfl q rfl
    | some d => rw [c] at q; obtain ⟨u, v0, q1, _⟩ := q; exact .dicK D rfl rfl q1 rfl
theorem anyD_py {x : D} (f : fl 8 x = true) : ∀ {ys : List D}, flA 8 ys = true → ((pyA ys).any fun z => PyData.eqv z (pyD x)) = ys.any fun y => eqD y x
  | [], _ => by rw [pyA]; rfl
  | y :: ys, h => by
    have h1 : fl 8 y = true ∧ flA 8 ys = true := by simpa [flA] using h
    rw [pyA, List.any_cons, List.any_cons, eqD_py 8 y x h1.1 f, anyD_py f h1.2]
theorem in_lst {m : List (List Addr)} {H : Hp} {x y : V} {d : D} {ys : List D} (rx : RV G m.flatten H x d) (h : LV G m H y ys) (f : fl 8 d = true) (g : flA 8 ys = true) : InC G H x y (ys.any fun y => eqD y d) := by
  obtain ⟨a, vs, rfl, r, q⟩ := h
  refine .deep (RV.dp 8 rx f) (.lst (.inl r) (RVs.dp 8 q g)) (shaped_py f (by decide)) ?_ (anyD_py f g)
  have := shaped_py (n := 9) (x := .lst ys) (by simpa [fl] using g) (by decide)
  rwa [pyD] at this
/-- x in y where y is a K dict and x an int: not asked -/
theorem inW_of {m : List (List Addr)} {H : Hp} {μ : Mem} {x y : V} {a b : W} {k : Bool} (M : MS G m H μ) (ra : RW G m H x a) (rb : RW G m H y b) (e : inW μ a b = some k) : InC G H x y k := by
  unfold inW at e
  split at e
  · -- a text
    rename_i t
    split at e
    · rename_i s
      split at e
      · rename_i hl
        cases e
        obtain ⟨c, rfl⟩ := one_of hl
        refine .sign (c := c.toNat) (z := toS t) (by rw [RV.str_ ra, toS_one]) (RV.str_ rb) ?_
        rw [toS_cps]
        have hl' : (String.ofList [c]).toList = [c] := by simp
        rw [hl']
        have hz : ∀ cs : List Char, decide (c.toNat ∈ cs.map Char.toNat) = cs.any fun d => [c] == [d] := by
          intro cs
          induction cs with
          | nil => simp
          | cons d cs ih =>
            rw [List.any_cons, ← ih]
            by_cases q : c = d
            · subst q; simp
            · have : c.toNat ≠ d.toNat := fun z => q (Char.ext (UInt32.toNat_inj.mp z))
              simp [this, q]
        exact hz _
      · cases e
    · cases e
  · -- a dict
    split at e
    · cases e
      exact in_dic ra (RV.dic_ rb)
    · cases e
  · -- owned
    rename_i l
    split at e
    · rename_i kvs q
      split at e
      · rename_i kd
        split at e
        · rename_i hk
          cases e
          have := RW.dic_ (w := .own l) (kvs := kvs) M rb (by simp only [asK]; rw [q])
          obtain ⟨as, ea, a, vks, e1, e2, c, h⟩ := M.own q
          subst e1
          exact in_dicH ra hk ⟨a, vks, rb.2 a [] ea, .inl e2, c, h⟩
        · cases e
      · cases e
    · rename_i cs q
      split at e
      · rename_i d ys hy
        split at e
        · rename_i hf
          cases e
          simp only [Bool.and_eq_true] at hf
          exact in_lst ra (RW.lst_ (w := .own l) M rb (by simp only [asL]; rw [q]; exact hy)) hf.1 hf.2
        · cases e
      · cases e
    · cases e
  · -- a tuple
    split at e
    · rename_i d
      split at e
      · rename_i hf
        cases e
        simp only [Bool.and_eq_true] at hf
        obtain ⟨p, vs, rfl, r, q⟩ := RV.tup_ rb
        exact .flat rfl r (flat_of ra hf.1) (flats_of q hf.2) (any_of ra hf.1 q hf.2)
      · cases e
    · cases e
  · -- a list
    split at e
    · rename_i d ys hy
      split at e
      · rename_i hf
        cases e
        simp only [Bool.and_eq_true] at hf
        exact in_lst ra (RW.lst_ M rb hy) hf.1 hf.2
      · cases e
    · cases e
theorem cm_in (hK : X.K = G.K) (hw : X.w = G.w) (hu : X.A.units + 65 < cLine) : OpR X (compareOp .In) (rCm G inW) := by
  intro pins s σ H x y v u Q I rx ry ⟨m, μ, a, b, k, M, ra, rb, e, q⟩
  have z := inW_of M ra rb e
  cases z with
  | deep h1 h2 h3 h4 h5 => exact op_inD hu pins s σ H x y v u Q I rx ry ⟨_, _, hK ▸ h1, hK ▸ h2, h3, h4, by rw [h5]; exact q⟩
  | flat h1 h2 h3 h4 h5 => exact op_in_seq pins s σ H x y v u Q I rx ry ⟨_, _, h1, .inr (hK ▸ h2), h3, h4, by rw [h5]; exact q⟩
  | sign h1 h2 h3 => exact op_in_sign pins s σ H x y v u Q I rx ry ⟨_, _, h1, h2, by rw [h3]; exact q⟩
  | dic h1 h2 h3 =>
    subst h1
    cases ry
    exact d_in (by omega) I h2 rx fun s' I' => ⟨.bl _, H, I', rfl, by rw [h3]; exact q⟩
  | dicK h0 h1 h2 h3 h4 => exact op_in_kd (hw ▸ hK ▸ h0) pins s σ H x y v u Q I rx ry ⟨_, _, h2, h1, hK ▸ h3, by rw [h4]; exact q⟩
theorem cm_nin (hK : X.K = G.K) (hw : X.w = G.w) (hu : X.A.units + 65 < cLine) : OpR X (compareOp .NotIn) (rCm G fun μ a b => (inW μ a b).map fun k => !k) := by
  intro pins s σ H x y v u Q I rx ry ⟨m, μ, a, b, k, M, ra, rb, e, q⟩
  dsimp only at e
  cases c : inW μ a b with
  | none => rw [c] at e; cases e
  | some k0 =>
    rw [c] at e
    cases e
    have z := inW_of M ra rb c
    cases z with
    | deep h1 h2 h3 h4 h5 => exact op_notInD hu pins s σ H x y v u Q I rx ry ⟨_, _, hK ▸ h1, hK ▸ h2, h3, h4, by rw [h5]; exact q⟩
    | flat h1 h2 h3 h4 h5 => exact op_notIn_seq pins s σ H x y v u Q I rx ry ⟨_, _, h1, .inr (hK ▸ h2), h3, h4, by rw [if_pos rfl, h5]; exact q⟩
    | sign h1 h2 h3 => exact op_notIn_sign pins s σ H x y v u Q I rx ry ⟨_, _, h1, h2, by rw [h3]; exact q⟩
    | dic h1 h2 h3 =>
      subst h1
      cases ry
      exact d_notIn (by omega) I h2 rx fun s' I' => ⟨.bl _, H, I', rfl, by rw [h3]; exact q⟩
    | dicK h0 h1 h2 h3 h4 => exact op_notIn_kd (hw ▸ hK ▸ h0) pins s σ H x y v u Q I rx ry ⟨_, _, h2, h1, hK ▸ h3, by rw [h4]; exact q⟩
/-- any comparison -/
def opC : COp → CmpOp
  | .lt => .Lt | .le => .LtE | .gt => .Gt | .ge => .GtE | .eq => .Eq | .ne => .NotEq | .is => .Is | .isN => .IsNot | .inn => .In | .nin => .NotIn
theorem snd_cmp (hK : X.K = G.K) (hw : X.w = G.w) (hu : X.A.units + 65 < cLine) : ∀ op : COp, OpR X (compareOp (opC op)) (rCm G fun μ => cmp μ op)
  | .lt => cm_ord op_lt
  | .le => cm_ord op_le
  | .gt => cm_ord op_gt
  | .ge => cm_ord op_ge
  | .eq => cm_eq hK (by omega)
  | .ne => cm_ne hK (by omega)
  | .is => cm_is
  | .isN => cm_isN
  | .inn => cm_in hK hw hu
  | .nin => cm_nin hK hw hu
def opB : BOp → Operator
  | .add => .Add | .sub => .Sub | .mul => .Mult | .fdiv => .FloorDiv | .mod => .Mod | .pow => .Pow
theorem rOp.eq {f : Value → Value → Sem Value} {g g' : Mem → W → W → Option D} (h : OpR X f (rOp G g)) (e : ∀ μ a b d, g' μ a b = some d → g μ a b = some d) : OpR X f (rOp G g') :=
  fun pins s σ H x y v u Q I rx ry ⟨m, μ, a, b, d, M, ra, rb, q, k⟩ => h pins s σ H x y v u Q I rx ry ⟨m, μ, a, b, d, M, ra, rb, e _ _ _ _ q, k⟩
end
end Mp
set_option Elab.async false
set_option linter.all false
set_option maxRecDepth 100000
set_option maxHeartbeats 1000000
/-! Mp: the rules of expressions, node by node. -/
namespace Mp
open PySem PySem.Spec PyProof.Rows L2
theorem PE.imp {X : Cx} {e : Expr} {t t' : TE} (h : PE X e t) (k : ∀ σ H Q, t' σ H Q → t σ H Q) : PE X e t' := ⟨fun pins s σ H Q I q => h.run pins s σ H Q I (k _ _ _ q)⟩
theorem PT.imp {X : Cx} {e : Expr} {t t' : TT} (h : PT X e t) (k : ∀ σ H Q, t' σ H Q → t σ H Q) : PT X e t' := ⟨fun pins s σ H Q I q => h.run pins s σ H Q I (k _ _ _ q)⟩
theorem PW.imp {X : Cx} {e : Expr} {t t' : TT} (h : PW X e t) (k : ∀ σ H Q, t' σ H Q → t σ H Q) : PW X e t' := ⟨fun wh pins s σ H Q I q => h.run wh pins s σ H Q I (k _ _ _ q)⟩
theorem PA.imp {X : Cx} {e : List Expr} {t t' : TA} (h : PA X e t) (k : ∀ σ H Q, t' σ H Q → t σ H Q) : PA X e t' := ⟨fun pos pins s σ H Q I q => h.run pos pins s σ H Q I (k _ _ _ q)⟩
section
variable {G : Glo} {X : Cx} {Wx : WX} {st sa sb sc : Bool} {fa fb fc : Env → Mem → Ans W} {a b c : Expr} {pos : Pos}
theorem and_l {a b : Bool} (h : (a && b) = true) : a = true := by cases a <;> simp_all
theorem and_r {a b : Bool} (h : (a && b) = true) : b = true := by cases b <;> simp_all
/-- a value that is data, made at once -/
theorem n_cst {e : Expr} {v : V} {x : D} (he : PE X e (tC v)) (r : ∀ O H, RV G O H v x) : PE X e (tE G Wx true fun _ μ => ret (.d x) μ) := by
  refine PE.imp he fun σ H Q ⟨m, ρ, μ, S, h⟩ => ?_
  exact h.now S.ms (r _ _)
theorem n_var {i : Nat} {x : Str} {pos : Pos} (hN : X.N[i]? = some x) (hv : Vis X.env.scope x) (hd : (x == ("__debug__" : Str)) = false) (hcd : (x == ("__classdict__" : Str)) = false) :
    PE X (.Name x pos) (tE G Wx true fun ρ μ => match ρ[i]? with | some (some w) => ret w μ | _ => none) := by
  refine PE.imp (pe_var hN hv hd hcd) fun σ H Q ⟨m, ρ, μ, S, h⟩ => ?_
  dsimp only at h
  cases q : ρ[i]? with
  | none => rw [q] at h; exact h.not_none.elim
  | some o =>
    cases o with
    | none => rw [q] at h; exact h.not_none.elim
    | some w =>
      rw [q] at h
      obtain ⟨_, v, e, r⟩ := S.env i w q
      exact ⟨v, e, h.now S.ms r⟩
theorem n_neg (ha : PE X a (tE G Wx sa fa)) : PE X (.UnaryOp .USub a pos) (tE G Wx sa fun ρ μ => bnd (fa ρ μ) fun w μ => match w with | .d (.int i) => ret (.d (.int (-i))) μ | _ => none) := by
  refine PE.imp (pe_un un_neg ha) fun σ H Q ⟨m, ρ, μ, S, h⟩ => ?_
  refine ⟨m, ρ, μ, S, h.bnd (st2 := true) id (fun _ => rfl) fun x m1 H1 w μ1 M1 L1 r1 h1 => ?_⟩
  split at h1
  · exact ⟨_, RV.int_ r1, h1.now M1 (.int _)⟩
  · exact h1.not_none.elim
theorem n_bin {op : BOp} (hop : OpR X (binaryOp (opB op)) (rOp G fun μ => bin μ op)) (ha : PE X a (tE G Wx sa fa)) (hb : PE X b (tE G Wx sb fb)) :
    PE X (.BinOp a (opB op) b pos) (tE G Wx (sa && sb) fun ρ μ => bndg sb (fa ρ μ) fun x μ => bnd (fb ρ μ) fun y μ => opt ((bin μ op x y).map W.d) μ) := by
  refine PE.imp (pe_op hop ha hb) fun σ H Q ⟨m, ρ, μ, S, h⟩ => ?_
  refine ⟨m, ρ, μ, S, h.bndg (st2 := sb) and_l and_r fun x m1 H1 wa μ1 M1 L1 n1 r1 h1 => ?_⟩
  refine ⟨m1, ρ, μ1, S.lat L1 M1, h1.bnd (st2 := true) id (fun _ => rfl) fun y m2 H2 wb μ2 M2 L2 r2 h2 => ?_⟩
  obtain ⟨w, e, h3⟩ := h2.optd
  cases q : bin μ2 op wa wb with
  | none => rw [q] at e; cases e
  | some d =>
    rw [q] at e
    cases e
    obtain ⟨_, _, e4, h4⟩ := h3
    cases e4
    exact ⟨m2, μ2, wa, wb, d, M2, r1.later L2 n1, r2, q, fun v m' H' M' L' rv => h4 v m' H' M' L' rv⟩
/-- a comparison's reading -/
theorem cmp_red {op : COp} {σ : L2.St} {H : Hp} {Q : VK} {m : List (List Addr)} {ρ : Env} {μ : Mem} (S : Sim G m σ H ρ μ)
    (h : tK G Wx RB (sa && sb) (bndg sb (fa ρ μ) fun x μ => bnd (fb ρ μ) fun y μ => opt ((cmp μ op x y).map fun k => .d (.bl k)) μ) σ m H fun k H' => Q (.bl k) H') :
    tOp (rCm G fun μ => cmp μ op) (tE G Wx sa fa) (tE G Wx sb fb) σ H Q := by
  refine ⟨m, ρ, μ, S, tK.bndg (st2 := sb) h and_l and_r fun x m1 H1 wa μ1 M1 L1 n1 r1 h1 => ?_⟩
  refine ⟨m1, ρ, μ1, S.lat L1 M1, tK.bnd (st2 := true) h1 id (fun _ => rfl) fun y m2 H2 wb μ2 M2 L2 r2 h2 => ?_⟩
  cases q : cmp μ2 op wa wb with
  | none => rw [q] at h2; exact h2.not_none.elim
  | some k =>
    rw [q] at h2
    exact ⟨m2, μ2, wa, wb, k, M2, r1.later L2 n1, r2, q, h2.now M2 rfl⟩
theorem tK.rb {st : Bool} {r : Ans W} {σ : L2.St} {m : List (List Addr)} {H : Hp} {Q : VK} (h : tK G Wx (RW G) st r σ m H Q) (hb : ∀ w μ', r = some (.ok w, μ') → ∃ k, w = .d (.bl k)) : tK G Wx RB st r σ m H fun k H' => Q (.bl k) H' := by
  obtain ⟨a, μ', e, h⟩ := h
  refine ⟨a, μ', e, ?_⟩
  cases a with
  | exc _ => exact h
  | ok w =>
    intro k m' H' M L r
    cases r
    exact h _ m' H' M L (.bl k)
theorem bnd_bl {x : Ans W} {f : W → Mem → Ans W} (h : ∀ a μ w μ', f a μ = some (.ok w, μ') → ∃ k, w = .d (.bl k)) : ∀ w μ', bnd x f = some (.ok w, μ') → ∃ k, w = .d (.bl k) := by
  intro w μ' e
  cases x with
  | none => cases e
  | some p =>
    obtain ⟨r, μ1⟩ := p
    cases r with
    | exc _ => cases e
    | ok a => exact h a μ1 w μ' e
theorem bndg_bl {s : Bool} {x : Ans W} {f : W → Mem → Ans W} (h : ∀ a μ w μ', f a μ = some (.ok w, μ') → ∃ k, w = .d (.bl k)) : ∀ w μ', bndg s x f = some (.ok w, μ') → ∃ k, w = .d (.bl k) := by
  intro w μ' e
  exact bnd_bl h w μ' (bndg_eq e).1
theorem opt_bl {o : Option Bool} {μ : Mem} : ∀ w μ', opt (o.map fun k => W.d (.bl k)) μ = some (.ok w, μ') → ∃ k, w = .d (.bl k) := by
  intro w μ' e
  cases o with
  | none => cases e
  | some k => cases e; exact ⟨k, rfl⟩
theorem cmp_bl {op : COp} {ρ : Env} {μ : Mem} : ∀ w μ', (bndg sb (fa ρ μ) fun x μ => bnd (fb ρ μ) fun y μ => opt ((cmp μ op x y).map fun k => W.d (.bl k)) μ) = some (.ok w, μ') → ∃ k, w = .d (.bl k) :=
  bndg_bl fun _ _ => bnd_bl fun _ _ => opt_bl
theorem n_cmp {op : COp} (hop : OpR X (compareOp (opC op)) (rCm G fun μ => cmp μ op)) (ha : PE X a (tE G Wx sa fa)) (hb : PE X b (tE G Wx sb fb)) (hm : behindInMarks (opC op) b = false) :
    PE X (.Compare a [opC op] [b] pos) (tE G Wx (sa && sb) fun ρ μ => bndg sb (fa ρ μ) fun x μ => bnd (fb ρ μ) fun y μ => opt ((cmp μ op x y).map fun k => .d (.bl k)) μ) :=
  PE.imp (pe_cmpR hop ha hb hm) fun σ H Q ⟨m, ρ, μ, S, h⟩ => cmp_red S (h.rb cmp_bl)
theorem n_cmpT {op : COp} (hop : OpR X (compareOp (opC op)) (rCm G fun μ => cmp μ op)) (ha : PE X a (tE G Wx sa fa)) (hb : PE X b (tE G Wx sb fb)) (hm : behindInMarks (opC op) b = false) :
    PT X (.Compare a [opC op] [b] pos) (tT G Wx (sa && sb) fun ρ μ => bndg sb (fa ρ μ) fun x μ => bnd (fb ρ μ) fun y μ => opt ((cmp μ op x y).map fun k => .d (.bl k)) μ) := by
  refine PT.imp (pt_cmpR hop ha hb hm) fun σ H Q ⟨m, ρ, μ, S, h⟩ => ?_
  refine cmp_red (Q := fun x H' => ∃ k, x = .bl k ∧ Q k H') S ?_
  obtain ⟨x, μ', e, h⟩ := h
  refine ⟨x, μ', e, ?_⟩
  cases x with
  | exc _ => exact h
  | ok w => exact fun k m' H' M L r => ⟨k, rfl, h k m' H' M L r⟩
/-- a op b op c -/
theorem chn_red {o1 o2 : COp} {σ : L2.St} {H : Hp} {Q : VK} {m : List (List Addr)} {ρ : Env} {μ : Mem} (S : Sim G m σ H ρ μ)
    (h : tK G Wx RB (sa && (sb && sc)) (bndg sb (fa ρ μ) fun x μ => bndg sc (fb ρ μ) fun y μ => match cmp μ o1 x y with
      | some true => bnd (fc ρ μ) fun z μ => opt ((cmp μ o2 y z).map fun k => .d (.bl k)) μ
      | some false => ret (.d (.bl false)) μ
      | none => none) σ m H fun k H' => Q (.bl k) H') :
    tChain (rCm G fun μ => cmp μ o1) (rCm G fun μ => cmp μ o2) (tE G Wx sa fa) (tE G Wx sb fb) (tE G Wx sc fc) σ H Q := by
  refine ⟨m, ρ, μ, S, tK.bndg (st2 := sb && sc) h and_l and_r fun x m1 H1 wa μ1 M1 L1 n1 r1 h1 => ?_⟩
  refine ⟨m1, ρ, μ1, S.lat L1 M1, tK.bndg (st2 := sc) h1 and_l and_r fun y m2 H2 wb μ2 M2 L2 n2 r2 h2 => ?_⟩
  cases q : cmp μ2 o1 wa wb with
  | none => rw [q] at h2; exact h2.not_none.elim
  | some k =>
    rw [q] at h2
    refine ⟨m2, μ2, wa, wb, k, M2, r1.later L2 n1, r2, q, k, rfl, ?_⟩
    cases k with
    | false => exact h2.now M2 rfl
    | true =>
      refine ⟨m2, ρ, μ2, (S.lat L1 M1).lat L2 M2, tK.bnd (st2 := true) h2 id (fun _ => rfl) fun z m3 H3 wc μ3 M3 L3 r3 h3 => ?_⟩
      cases q2 : cmp μ3 o2 wb wc with
      | none => rw [q2] at h3; exact h3.not_none.elim
      | some k2 =>
        rw [q2] at h3
        exact ⟨m3, μ3, wb, wc, k2, M3, r2.later L3 n2, r3, q2, h3.now M3 rfl⟩
theorem chn_bl {o1 o2 : COp} {ρ : Env} {μ : Mem} : ∀ w μ', (bndg sb (fa ρ μ) fun x μ => bndg sc (fb ρ μ) fun y μ => match cmp μ o1 x y with
      | some true => bnd (fc ρ μ) fun z μ => opt ((cmp μ o2 y z).map fun k => W.d (.bl k)) μ
      | some false => ret (W.d (.bl false)) μ
      | none => none) = some (.ok w, μ') → ∃ k, w = .d (.bl k) :=
  bndg_bl fun _ _ => bndg_bl fun _ _ w μ' e => by
    split at e
    · exact bnd_bl (fun _ _ => opt_bl) w μ' e
    · cases e; exact ⟨false, rfl⟩
    · cases e
theorem n_chn {o1 o2 : COp} (h1 : OpR X (compareOp (opC o1)) (rCm G fun μ => cmp μ o1)) (h2 : OpR X (compareOp (opC o2)) (rCm G fun μ => cmp μ o2)) (ha : PE X a (tE G Wx sa fa)) (hb : PE X b (tE G Wx sb fb)) (hc : PE X c (tE G Wx sc fc))
    (hm : lastMarks [opC o1, opC o2] [b, c] = false) :
    PE X (.Compare a [opC o1, opC o2] [b, c] pos) (tE G Wx (sa && (sb && sc)) fun ρ μ => bndg sb (fa ρ μ) fun x μ => bndg sc (fb ρ μ) fun y μ => match cmp μ o1 x y with
      | some true => bnd (fc ρ μ) fun z μ => opt ((cmp μ o2 y z).map fun k => .d (.bl k)) μ
      | some false => ret (.d (.bl false)) μ
      | none => none) :=
  PE.imp (pe_chain h1 h2 ha hb hc hm) fun σ H Q ⟨m, ρ, μ, S, h⟩ => chn_red S (h.rb chn_bl)
theorem n_chnT {o1 o2 : COp} (h1 : OpR X (compareOp (opC o1)) (rCm G fun μ => cmp μ o1)) (h2 : OpR X (compareOp (opC o2)) (rCm G fun μ => cmp μ o2)) (ha : PE X a (tE G Wx sa fa)) (hb : PE X b (tE G Wx sb fb)) (hc : PE X c (tE G Wx sc fc))
    (hm : lastMarks [opC o1, opC o2] [b, c] = false) :
    PT X (.Compare a [opC o1, opC o2] [b, c] pos) (tT G Wx (sa && (sb && sc)) fun ρ μ => bndg sb (fa ρ μ) fun x μ => bndg sc (fb ρ μ) fun y μ => match cmp μ o1 x y with
      | some true => bnd (fc ρ μ) fun z μ => opt ((cmp μ o2 y z).map fun k => .d (.bl k)) μ
      | some false => ret (.d (.bl false)) μ
      | none => none) := by
  refine PT.imp (pt_chain h1 h2 ha hb hc hm) fun σ H Q ⟨m, ρ, μ, S, h⟩ => ?_
  refine chn_red (Q := fun x H' => ∃ k, x = .bl k ∧ Q k H') S ?_
  obtain ⟨x, μ', e, h⟩ := h
  refine ⟨x, μ', e, ?_⟩
  cases x with
  | exc _ => exact h
  | ok w => exact fun k m' H' M L r => ⟨k, rfl, h k m' H' M L r⟩
/-- a value's truth -/
theorem tru_of {m : List (List Addr)} {H : Hp} {μ : Mem} {v : V} {w : W} {k : Bool} (M : MS G m H μ) (r : RW G m H v w) (e : truth μ w = some k) : TruV G.K v H k := by
  unfold truth at e
  split at e
  · cases e; rw [RV.non_ r]; rfl
  · cases e; rw [RV.bl_ r]; rfl
  · cases e; rw [RV.int_ r]; rfl
  · split at e
    · rename_i hl
      cases e
      rw [RV.str_ r]
      refine ⟨by rw [toS_length, ← lim_eq]; exact hl, ?_⟩
      rw [toS_length]
      generalize String.length _ = n
      cases n <;> rfl
    · cases e
  · cases e
    obtain ⟨a, vs, rfl, h1, h2⟩ := RV.tup_ r
    exact .inr (.inl ⟨vs, h1, by rw [h2.isEmpty]⟩)
  · split at e
    · rename_i xs q
      cases e
      obtain ⟨a, vs, rfl, h1, h2⟩ := RW.lst_ M r q
      exact .inl ⟨vs, .inl h1, by rw [h2.isEmpty]⟩
    · cases e
theorem post_red {σ : L2.St} {H : Hp} {Q : Bool → Hp → Prop} {m : List (List Addr)} {r : Ans W} (h : tK G Wx RB st (post true r) σ m H Q) : tK G Wx (RW G) st r σ m H fun x H' => ∃ k, TruV G.K x H' k ∧ Q k H' := by
  obtain ⟨x, μ', e, h⟩ := h
  cases r with
  | none => cases e
  | some p =>
    obtain ⟨r, μ1⟩ := p
    cases r with
    | exc e1 => cases e; exact ⟨_, _, rfl, h⟩
    | ok w =>
      dsimp only [post] at e
      cases q : truth μ1 w with
      | none => rw [q] at e; cases e
      | some k =>
        rw [q] at e
        cases e
        exact ⟨_, _, rfl, fun v m' H' M L rv => ⟨k, tru_of M rv q, h k m' H' M L rfl⟩⟩
theorem n_post {f : Env → Mem → Ans W} (hK : X.K = G.K) (ha : PE X a (tE G Wx st f)) (he : ∀ whole, isTrue a X.env whole = (do let v ← whole; standAt a.pos; holding [v] (truthy v))) : PT X a (tT G Wx st fun ρ μ => post true (f ρ μ)) := by
  refine PT.imp (pt_truth ha he) fun σ H Q ⟨m, ρ, μ, S, h⟩ => ⟨m, ρ, μ, S, ?_⟩
  rw [hK]
  exact post_red h
end
end Mp
set_option Elab.async false
set_option linter.all false
set_option maxRecDepth 100000
set_option maxHeartbeats 1000000
/-! Mp: the rules of expressions: and, or, not, if, displays, arguments. -/
namespace Mp
open PySem PySem.Spec PyProof.Rows L2
section
variable {G : Glo} {X : Cx} {Wx : WX} {st sa sb sc : Bool} {fa fb fc : Env → Mem → Ans W} {a b c : Expr} {pos : Pos} {rest : List Expr}
theorem n_andT (ha : PT X a (tT G Wx sa fa)) (hb : PW X (.BoolOp .And (b :: rest) pos) (tT G Wx sb fb)) : PW X (.BoolOp .And (a :: b :: rest) pos) (tT G Wx (sa && sb) fun ρ μ => bnd (fa ρ μ) (andK fb ρ)) := by
  refine PW.imp (pw_and ha hb) fun σ H Q ⟨m, ρ, μ, S, h⟩ => ?_
  refine ⟨m, ρ, μ, S, tK.bnd (st2 := sb) h and_l and_r fun k m1 H1 w μ1 M1 L1 r1 h1 => ?_⟩
  cases r1
  cases k with
  | true => exact ⟨m1, ρ, μ1, S.lat L1 M1, h1⟩
  | false => exact h1.now M1 rfl
theorem n_orT (ha : PT X a (tT G Wx sa fa)) (hb : PW X (.BoolOp .Or (b :: rest) pos) (tT G Wx sb fb)) : PW X (.BoolOp .Or (a :: b :: rest) pos) (tT G Wx (sa && sb) fun ρ μ => bnd (fa ρ μ) (orK fb ρ)) := by
  refine PW.imp (pw_or ha hb) fun σ H Q ⟨m, ρ, μ, S, h⟩ => ?_
  refine ⟨m, ρ, μ, S, tK.bnd (st2 := sb) h and_l and_r fun k m1 H1 w μ1 M1 L1 r1 h1 => ?_⟩
  cases r1
  cases k with
  | false => exact ⟨m1, ρ, μ1, S.lat L1 M1, h1⟩
  | true => exact h1.now M1 rfl
theorem n_notT (ha : PT X a (tT G Wx sa fa)) : PT X (.UnaryOp .Not a pos) (tT G Wx sa fun ρ μ => bnd (fa ρ μ) notK) := by
  refine PT.imp (pt_not ha) fun σ H Q ⟨m, ρ, μ, S, h⟩ => ?_
  refine ⟨m, ρ, μ, S, tK.bnd (st2 := true) h id (fun _ => rfl) fun k m1 H1 w μ1 M1 L1 r1 h1 => ?_⟩
  cases r1
  exact h1.now M1 rfl
theorem n_and (ha : PE X a (tE G Wx sa fa)) (hb : PE X (.BoolOp .And (b :: rest) pos) (tE G Wx sb fb)) : PE X (.BoolOp .And (a :: b :: rest) pos) (tE G Wx (sa && sb) fun ρ μ => bnd (fa ρ μ) (andK fb ρ)) := by
  refine PE.imp (pe_and ha hb) fun σ H Q ⟨m, ρ, μ, S, h⟩ => ?_
  refine ⟨m, ρ, μ, S, tK.bnd (st2 := sb) h and_l and_r fun v m1 H1 w μ1 M1 L1 r1 h1 => ?_⟩
  unfold andK at h1
  split at h1
  · exact ⟨true, RV.bl_ r1, m1, ρ, μ1, S.lat L1 M1, h1⟩
  · exact ⟨false, RV.bl_ r1, h1.now M1 (.bl false)⟩
  · exact h1.not_none.elim
theorem n_or (ha : PE X a (tE G Wx sa fa)) (hb : PE X (.BoolOp .Or (b :: rest) pos) (tE G Wx sb fb)) : PE X (.BoolOp .Or (a :: b :: rest) pos) (tE G Wx (sa && sb) fun ρ μ => bnd (fa ρ μ) (orK fb ρ)) := by
  refine PE.imp (pe_or ha hb) fun σ H Q ⟨m, ρ, μ, S, h⟩ => ?_
  refine ⟨m, ρ, μ, S, tK.bnd (st2 := sb) h and_l and_r fun v m1 H1 w μ1 M1 L1 r1 h1 => ?_⟩
  unfold orK at h1
  split at h1
  · exact ⟨false, RV.bl_ r1, m1, ρ, μ1, S.lat L1 M1, h1⟩
  · exact ⟨true, RV.bl_ r1, h1.now M1 (.bl true)⟩
  · exact h1.not_none.elim
theorem n_not (ha : PE X a (tE G Wx sa fa)) : PE X (.UnaryOp .Not a pos) (tE G Wx sa fun ρ μ => bnd (fa ρ μ) notK) := by
  refine PE.imp (pe_not ha) fun σ H Q ⟨m, ρ, μ, S, h⟩ => ?_
  refine ⟨m, ρ, μ, S, tK.bnd (st2 := true) h id (fun _ => rfl) fun v m1 H1 w μ1 M1 L1 r1 h1 => ?_⟩
  unfold notK at h1
  split at h1
  · exact ⟨_, RV.bl_ r1, h1.now M1 (.bl _)⟩
  · exact h1.not_none.elim
theorem n_ite (hc : PT X c (tT G Wx sc fc)) (ha : PE X a (tE G Wx sa fa)) (hb : PE X b (tE G Wx sb fb)) : PE X (.IfExp c a b pos) (tE G Wx (sc && (sa && sb)) fun ρ μ => bnd (fc ρ μ) (iteK fa fb ρ)) := by
  refine PE.imp (pe_ifExp hc ha hb) fun σ H Q ⟨m, ρ, μ, S, h⟩ => ?_
  refine ⟨m, ρ, μ, S, tK.bnd (st2 := sa && sb) h and_l and_r fun k m1 H1 w μ1 M1 L1 r1 h1 => ?_⟩
  cases r1
  have wk : ∀ {f : Env → Mem → Ans W} {s : Bool}, ((sa && sb) = true → s = true) → tK G Wx (RW G) (sa && sb) (f ρ μ1) σ m1 H1 Q → tE G Wx s f σ H1 Q := fun {f s} hs ⟨z, μ', e, q⟩ => ⟨m1, ρ, μ1, S.lat L1 M1, z, μ', e, by
    cases z with
    | exc _ => exact q
    | ok _ => exact fun v m' H' M L r => q v m' H' M (L.weak hs) r⟩
  cases k with
  | true => exact wk and_l h1
  | false => exact wk and_r h1

/-! ### arguments -/
theorem tA_nil : PA X [] (tA G Wx true fun _ μ => ret [] μ) :=
  PA.imp pa_nil fun σ H Q ⟨m, ρ, μ, S, h⟩ => h.now S.ms .nil
theorem RWs.later {m m' : List (List Addr)} {H H' : Hp} (L : Lat st m H m' H') : ∀ {vs : List V} {ws : List W}, RWs G m H vs ws → RWs G m' H' vs ws
  | _, _, .nil => .nil
  | _, _, .cons ⟨n, r⟩ t => .cons ⟨n, r.later L (.inl n)⟩ (RWs.later L t)
theorem tA_cons {e : Expr} {es : List Expr} {fs : Env → Mem → Ans (List W)} (ha : PE X e (tE G Wx sa fa)) (hr : PA X es (tA G Wx sb fs)) (hs : starEach (e :: es) X.env = (false, eval e X.env) :: starEach es X.env) :
    PA X (e :: es) (tA G Wx (sa && sb) fun ρ μ => bndg false (fa ρ μ) fun w μ => bnd (fs ρ μ) fun ws μ => ret (w :: ws) μ) := by
  refine PA.imp (pa_cons ha hr hs) fun σ H Q ⟨m, ρ, μ, S, h⟩ => ?_
  refine ⟨m, ρ, μ, S, h.bndg (st2 := sb) and_l and_r fun x m1 H1 w μ1 M1 L1 n1 r1 h1 => ?_⟩
  have n1' : npt w := n1.resolve_right (fun z => nomatch z)
  refine ⟨m1, ρ, μ1, S.lat L1 M1, h1.bnd (st2 := true) id (fun _ => rfl) fun xs m2 H2 ws μ2 M2 L2 r2 h2 => ?_⟩
  exact h2.now M2 (.cons ⟨n1', r1.later L2 (.inl n1')⟩ r2)
def tStar (K : PySem.W.Frag) (ta : TE) (tr : TA) : TA := fun σ H Q => ta σ H fun x H1 => ∃ a xs, x = .ref a ∧ (SqT K H1 a xs ∨ SqL K H1 a xs) ∧ tr σ H1 fun ys H2 => Q (xs ++ ys) H2
theorem pa_star {e : Expr} {es : List Expr} {te : TE} {t : TA} {p : Pos} (ha : PE X e te) (hr : PA X es t) : PA X (.Starred e p :: es) (tStar X.K te t) := by
  refine ⟨fun pos pins s σ H Q I h => ?_⟩
  refine PySem.W.items_star (thn (ha.run pins s σ H _ I h) fun u s1 ⟨x, H1, I1, r1, a, xs, e1, hq, q1⟩ => ?_) (by rfl)
  subst e1
  cases r1
  refine StX.star_any I1 hq fun us s2 I2 r2 => ?_
  exact thn (hr.run pos pins s2 σ H1 _ I2 q1) fun ws s3 ⟨ys, H3, I3, r3, q3⟩ => ⟨xs ++ ys, H3, I3, r2.append r3, q3⟩
theorem rws_of {m : List (List Addr)} {H : Hp} : ∀ {vs : List V} {xs : List D}, RVs G m.flatten H vs xs → RWs G m H vs (xs.map W.d)
  | _, _, .nil => .nil
  | _, _, .cons a b => .cons ⟨trivial, a⟩ (rws_of b)
theorem paired_app {α β : Type} {F : α → β → Prop} : ∀ {a c : List α} {b d : List β}, Paired F a b → Paired F c d → Paired F (a ++ c) (b ++ d)
  | _, _, _, _, .nil, h => h
  | _, _, _, _, .cons r t, h => .cons r (paired_app t h)
theorem tA_star {e : Expr} {es : List Expr} {p : Pos} {fs : Env → Mem → Ans (List W)} (hK : X.K = G.K) (ha : PE X e (tE G Wx sa fa)) (hr : PA X es (tA G Wx sb fs)) :
    PA X (.Starred e p :: es) (tA G Wx (sa && sb) fun ρ μ => bnd (fa ρ μ) fun w μ => match asS μ w with | some xs => bnd (fs ρ μ) fun ws μ => ret (xs.map W.d ++ ws) μ | none => none) := by
  refine PA.imp (pa_star ha hr) fun σ H Q ⟨m, ρ, μ, S, h⟩ => ?_
  refine ⟨m, ρ, μ, S, h.bnd (st2 := sb) and_l and_r fun x m1 H1 w μ1 M1 L1 r1 h1 => ?_⟩
  cases q : asS μ1 w with
  | none => rw [q] at h1; exact h1.not_none.elim
  | some xs =>
    rw [q] at h1
    obtain ⟨a, vs, rfl, h2, h3⟩ := r1.seq_ M1 q
    refine ⟨a, vs, rfl, hK ▸ h2.symm, m1, ρ, μ1, S.lat L1 M1, tK.bnd (st2 := true) h1 id (fun _ => rfl) fun ys m2 H2 ws μ2 M2 L2 r2 h4 => ?_⟩
    exact h4.now M2 (paired_app (rws_of (h3.mono L2.keep)) r2)
/-! ### displays -/
theorem toDs_of {m : List (List Addr)} {H : Hp} : ∀ {vs : List V} {ws : List W} {xs : List D}, RWs G m H vs ws → toDs ws = some xs → RVs G m.flatten H vs xs
  | _, [], _, .nil, e => by simp [toDs] at e; subst e; exact .nil
  | _, .d x :: ws, _, .cons ⟨_, r⟩ t, e => by
    unfold toDs at e
    cases q : toDs ws with
    | none => rw [q] at e; cases e
    | some ys => rw [q] at e; cases e; exact .cons r (toDs_of t q)
  | _, .own _ :: _, _, _, e => by cases e
  | _, .ptr _ _ :: _, _, _, e => by cases e
theorem n_tup {es : List Expr} {k : Nat} {fs : Env → Mem → Ans (List W)} (ha : PA X es (tA G Wx sa fs)) :
    PE X (.Tuple es k pos) (tE G Wx sa fun ρ μ => bnd (fs ρ μ) fun ws μ => match toDs ws with | some xs => if okLen xs then ret (.d (.tup xs)) μ else none | none => none) := by
  refine PE.imp (pe_tup ha) fun σ H Q ⟨m, ρ, μ, S, h⟩ => ?_
  refine ⟨m, ρ, μ, S, h.bnd (st2 := true) id (fun _ => rfl) fun vs m1 H1 ws μ1 M1 L1 r1 h1 => ?_⟩
  cases q : toDs ws with
  | none => rw [q] at h1; exact h1.not_none.elim
  | some xs =>
    rw [q] at h1
    dsimp only at h1
    split at h1
    · rename_i hl
      have r2 := toDs_of r1 q
      refine ⟨by rw [r2.length, ← lim_eq]; exact of_decide_eq_true hl, fun p hp => ?_⟩
      exact h1.lay M1 hp (.tup (.inl upd_same) (M1.free hp) (r2.mono (keep_new hp)))
    · exact h1.not_none.elim
/-! ### moving owned lists into a display -/
theorem flatten_set {α : Type} : ∀ {m : List (List α)} {l : Nat} {as bs : List α}, m[l]? = some as → (as ++ (m.set l bs).flatten).Perm (bs ++ m.flatten)
  | [], _, _, _, e => by simp at e
  | x :: m, 0, as, bs, e => by
    simp at e
    subst e
    simp only [List.set_cons_zero, List.flatten_cons]
    rw [← List.append_assoc, ← List.append_assoc]
    exact List.perm_append_comm.append_right _
  | x :: m, l + 1, as, bs, e => by
    have ih := flatten_set (m := m) (l := l) (as := as) (bs := bs) (by simpa using e)
    simp only [List.set_cons_succ, List.flatten_cons]
    have h1 : (as ++ (x ++ (m.set l bs).flatten)).Perm (x ++ (as ++ (m.set l bs).flatten)) := by
      rw [← List.append_assoc, ← List.append_assoc]
      exact List.perm_append_comm.append_right _
    have h2 : (x ++ (bs ++ m.flatten)).Perm (bs ++ (x ++ m.flatten)) := by
      rw [← List.append_assoc, ← List.append_assoc]
      exact List.perm_append_comm.append_right _
    exact h1.trans ((ih.append_left x).trans h2)
theorem keep_sub {O O' : List Addr} {H : Hp} (h : ∀ a ∈ O', a ∈ O) : Keep O O' H H := fun a o e n => ⟨e, fun z => n (h a z)⟩
theorem set_get {α : Type} {m : List α} {l j : Nat} {x y : α} (e : (m.set l x)[j]? = some y) : (j = l ∧ y = x) ∨ (j ≠ l ∧ m[j]? = some y) := by
  by_cases h : j = l
  · subst h
    left
    refine ⟨rfl, ?_⟩
    obtain ⟨h1, h2⟩ := List.getElem?_eq_some_iff.mp e
    rw [← h2]
    simp
  · right
    rw [List.getElem?_set_ne (Ne.symm h)] at e
    exact ⟨h, e⟩
/-- some objects of (m0, μ0) are given up -/
structure Kd (m0 : List (List Addr)) (μ0 : Mem) (m : List (List Addr)) (μ : Mem) : Prop where
  len : m.length = μ.length
  at_ : ∀ (j : Nat) (o : Ob), μ[j]? = some o → ∃ as, m[j]? = some as ∧ ((o = .dead ∧ as = []) ∨ (μ0[j]? = some o ∧ m0[j]? = some as))
  z : m[0]? = m0[0]? ∧ μ[0]? = μ0[0]?
theorem Kd.refl {m : List (List Addr)} {μ : Mem} (h : m.length = μ.length) : Kd m μ m μ := ⟨h, fun j o e => by
  have hl : j < m.length := by rw [h]; exact (List.getElem?_eq_some_iff.mp e).1
  exact ⟨m[j], by simp [hl], .inr ⟨e, by simp [hl]⟩⟩, rfl, rfl⟩
theorem Kd.kill {m0 m : List (List Addr)} {μ0 μ : Mem} (k : Kd m0 μ0 m μ) {l : Nat} (hl : l ≠ 0) : Kd m0 μ0 (m.set l []) (μ.set l .dead) := ⟨by simpa using k.len, fun j o e => by
  rcases set_get e with ⟨rfl, rfl⟩ | ⟨hj, e⟩
  · refine ⟨[], ?_, .inl ⟨rfl, rfl⟩⟩
    have hl : j < (μ.set j .dead).length := (List.getElem?_eq_some_iff.mp e).1
    have hl' : j < m.length := by rw [k.len]; simpa using hl
    simp [hl']
  · obtain ⟨as, e1, h⟩ := k.at_ j o e
    exact ⟨as, by rw [List.getElem?_set_ne (Ne.symm hj)]; exact e1, h⟩, by rw [List.getElem?_set_ne hl]; exact k.z.1, by rw [List.getElem?_set_ne hl]; exact k.z.2⟩
theorem toCells_ok {m0 : List (List Addr)} {H : Hp} {μ0 : Mem} (M0 : MS G m0 H μ0) : ∀ {ws : List W} {m : List (List Addr)} {μ μ' : Mem} {vs : List V} {cs : List Cell}, Kd m0 μ0 m μ → RWs G m0 H vs ws → toCells μ ws = some (cs, μ') →
    ∃ m' subs, Kd m0 μ0 m' μ' ∧ m'.length = m.length ∧ (subs ++ m'.flatten).Perm m.flatten ∧ CR_ G m0.flatten H vs cs subs
  | [], m, μ, μ', _, cs, k, .nil, e => by
    cases e
    exact ⟨m, [], k, rfl, .refl _, .nil⟩
  | .d x :: ws, m, μ, μ', _, cs, k, .cons ⟨_, r⟩ t, e => by
    unfold toCells at e
    cases q : toCells μ ws with
    | none => rw [q] at e; cases e
    | some p =>
      obtain ⟨cs', μ1⟩ := p
      rw [q] at e
      cases e
      obtain ⟨m', subs, h1, h2, h4, h5⟩ := toCells_ok M0 k t q
      exact ⟨m', subs, h1, h2, h4, .d r h5⟩
  | .own l :: ws, m, μ, μ', _, cs, k, .cons ⟨_, r⟩ t, e => by
    unfold toCells at e
    cases q : μ[l]? with
    | none => rw [q] at e; cases e
    | some o =>
      rw [q] at e
      cases o with
      | lst cl =>
        dsimp only at e
        cases q2 : cellsD cl with
        | none => rw [q2] at e; cases e
        | some xs =>
          rw [q2] at e
          dsimp only at e
          cases q3 : toCells (μ.set l .dead) ws with
          | none => rw [q3] at e; cases e
          | some p =>
            obtain ⟨cs', μ1⟩ := p
            rw [q3] at e
            cases e
            obtain ⟨as, ea, z⟩ := k.at_ l _ q
            obtain ⟨q0, ea0⟩ := z.resolve_left fun z => nomatch z.1
            obtain ⟨as0, ea1, a, rr, vs0, e1, e2, c⟩ := M0.own q0
            obtain ⟨c1, c2⟩ := c.data q2
            subst c2
            subst e1
            rw [ea0] at ea1
            cases ea1
            have P1 : ([a] ++ (m.set l []).flatten).Perm m.flatten := flatten_set (bs := []) ea
            obtain ⟨m', subs, h1, h2, h4, h5⟩ := toCells_ok M0 (k.kill (l := l) fun z => by subst z; rw [M0.g0] at q0; cases q0) t q3
            refine ⟨m', a :: subs, h1, by simpa using h2, (List.Perm.cons a h4).trans P1, ?_⟩
            obtain rfl := r.2 a [] ea0
            exact .sub e2 c1 h5
      | _ => cases e
  | .ptr _ _ :: ws, m, μ, μ', _, cs, k, _, e => by cases e
theorem app_get {α : Type} {m : List α} {x y : α} {j : Nat} (e : (m ++ [x])[j]? = some y) : m[j]? = some y ∨ (j = m.length ∧ y = x) := by
  by_cases h : j < m.length
  · rw [List.getElem?_append_left h] at e
    exact .inl e
  · right
    rw [List.getElem?_append_right (by omega)] at e
    have : j - m.length = 0 := by
      by_cases h2 : j - m.length = 0
      · exact h2
      · have : 1 ≤ j - m.length := by omega
        rw [List.getElem?_eq_none (by simpa using this)] at e
        cases e
    rw [this] at e
    simp at e
    exact ⟨by omega, e.symm⟩
/-- a new owned object; some that stood are given up -/
theorem MS.push {m0 m : List (List Addr)} {H : Hp} {μ0 μ : Mem} (M0 : MS G m0 H μ0) (k : Kd m0 μ0 m μ) {p : Addr} {subs : List Addr} {o : HO} {ob : Ob} (hp : H p = none) (hs : (subs ++ m.flatten).Perm m0.flatten)
    (hl : m.length = m0.length) (new : OR_ G (m ++ [p :: subs]).flatten (upd H p o) (p :: subs) ob) : MS G (m ++ [p :: subs]) (upd H p o) (μ ++ [ob]) ∧ Lat false m0 H (m ++ [p :: subs]) (upd H p o) := by
  have fl : (m ++ [p :: subs]).flatten = m.flatten ++ (p :: subs) := by simp
  have hp0 := M0.free hp
  have kp : Keep m0.flatten (m ++ [p :: subs]).flatten H (upd H p o) := fun a u e n => by
    refine ⟨by rw [upd_ne (ne_of_none e hp)]; exact e, ?_⟩
    rw [fl]
    intro z
    rcases List.mem_append.mp z with z | z
    · exact n (hs.subset (List.mem_append_right _ z))
    · rcases List.mem_cons.mp z with z | z
      · exact ne_of_none e hp z
      · exact n (hs.subset (List.mem_append_left _ z))
  have nd : (m ++ [p :: subs]).flatten.Nodup := by
    rw [fl]
    have h1 : (subs ++ m.flatten).Nodup := hs.nodup_iff.mpr M0.nd
    have h2 : (p :: (subs ++ m.flatten)).Nodup := List.nodup_cons.mpr ⟨fun z => hp0 (hs.subset z), h1⟩
    have h3 : (m.flatten ++ p :: subs).Perm (p :: (subs ++ m.flatten)) := List.perm_append_comm.trans (by exact .refl _)
    exact h3.nodup_iff.mpr h2
  refine ⟨⟨by simp [k.len], fun j o' as e1 e2 => ?_, nd, ?_⟩, ⟨kp, by simp [hl], fun l a r hlt e => ?_, (fun z => nomatch z), ?_, fun as e a ha u eu => by rw [upd_ne (ne_of_none eu hp)]; exact eu⟩⟩
  · rcases app_get e1 with e1 | ⟨h1, rfl⟩
    · obtain ⟨as', e3, z⟩ := k.at_ j o' e1
      have : as = as' := by
        rcases app_get e2 with e2 | ⟨h2, _⟩
        · rw [e3] at e2; exact (Option.some.inj e2).symm
        · have := (List.getElem?_eq_some_iff.mp e3).1
          omega
      subst this
      rcases z with ⟨rfl, rfl⟩ | ⟨q1, q2⟩
      · exact fun a ha => nomatch ha
      · refine (M0.obj j o' as q1 q2).mono kp fun a ha u e => ?_
        rw [upd_ne (ne_of_none e hp)]; exact e
    · rcases app_get e2 with e2 | ⟨_, rfl⟩
      · have := (List.getElem?_eq_some_iff.mp e2).1
        have := k.len
        omega
      · exact new
  · rw [List.getElem?_append_left (by have := M0.pos; have := k.len; have := M0.len; omega), k.z.2]
    exact M0.g0
  · rcases app_get e with e | ⟨h1, _⟩
    · have hj : l < μ.length := by rw [← k.len]; exact (List.getElem?_eq_some_iff.mp e).1
      obtain ⟨as', e3, z⟩ := k.at_ l μ[l] (by simp [hj])
      rw [e] at e3
      cases e3
      rcases z with ⟨_, z⟩ | ⟨_, z⟩
      · cases z
      · exact ⟨r, z⟩
    · omega
  · rw [List.getElem?_append_left (by have := M0.pos; have := M0.len; omega)]
    exact k.z.1
/-- a new owned object, nothing else -/
theorem MS.push0 {m : List (List Addr)} {H : Hp} {μ : Mem} (M : MS G m H μ) {p : Addr} {o : HO} {ob : Ob} (hp : H p = none) (new : OR_ G (m ++ [[p]]).flatten (upd H p o) [p] ob) :
    MS G (m ++ [[p]]) (upd H p o) (μ ++ [ob]) ∧ Lat true m H (m ++ [[p]]) (upd H p o) := by
  obtain ⟨h1, h2⟩ := M.push (Kd.refl M.len) (subs := []) hp (.refl _) rfl new
  refine ⟨h1, h2.keep, h2.len, h2.root, fun _ => ⟨fun a u e => by rw [upd_ne (ne_of_none e hp)]; exact e, fun l as e => ?_⟩, h2.gst⟩
  rw [List.getElem?_append_left (List.getElem?_eq_some_iff.mp e).1]
  exact e
theorem push_own {m : List (List Addr)} {H : Hp} {p : Addr} {r : List Addr} (h0 : 0 < m.length) : RW G (m ++ [p :: r]) H (.ref p) (.own m.length) :=
  ⟨⟨h0, by simp⟩, fun a r' e => by
    rw [List.getElem?_append_right (Nat.le_refl _)] at e
    simp at e
    rw [e.1]⟩
/-! ### list displays -/
theorem n_lstD {es : List Expr} {fs : Env → Mem → Ans (List W)} (ha : PA X es (tA G Wx sa fs)) : PE X (.List es pos) (tE G Wx sa fun ρ μ => bnd (fs ρ μ) fun ws μ => mkL false ws μ) := by
  refine PE.imp (pe_lst ha) fun σ H Q ⟨m, ρ, μ, S, h⟩ => ?_
  refine ⟨m, ρ, μ, S, h.bnd (st2 := true) id (fun _ => rfl) fun vs m1 H1 ws μ1 M1 L1 r1 h1 => ?_⟩
  unfold mkL at h1
  rw [if_neg Bool.false_ne_true] at h1
  cases q : toDs ws with
  | none => rw [q] at h1; exact h1.not_none.elim
  | some xs =>
    rw [q] at h1
    dsimp only at h1
    split at h1
    · rename_i hl
      have r2 := toDs_of r1 q
      refine ⟨by rw [r2.length, ← lim_eq]; exact of_decide_eq_true hl, fun p hp => ?_⟩
      exact h1.lay M1 hp (.lst (.inl upd_same) (M1.free hp) (r2.mono (keep_new hp)))
    · exact h1.not_none.elim
theorem n_lstO {es : List Expr} {fs : Env → Mem → Ans (List W)} (ha : PA X es (tA G Wx sa fs)) : PE X (.List es pos) (tE G Wx false fun ρ μ => bnd (fs ρ μ) fun ws μ => mkL true ws μ) := by
  refine PE.imp (pe_lst ha) fun σ H Q ⟨m, ρ, μ, S, h⟩ => ?_
  refine ⟨m, ρ, μ, S, h.bnd (st2 := false) (fun z => nomatch z) (fun z => nomatch z) fun vs m1 H1 ws μ1 M1 L1 r1 h1 => ?_⟩
  unfold mkL at h1
  rw [if_pos rfl] at h1
  cases q : toCells μ1 ws with
  | none => rw [q] at h1; exact h1.not_none.elim
  | some pr =>
    obtain ⟨cs, μ'⟩ := pr
    rw [q] at h1
    dsimp only at h1
    split at h1
    · rename_i hl
      obtain ⟨m', subs, k1, k2, k3, k4⟩ := toCells_ok M1 (Kd.refl M1.len) r1 q
      refine ⟨by rw [k4.length, ← lim_eq]; exact of_decide_eq_true hl, fun p hp => ?_⟩
      obtain ⟨_, _, e, h2⟩ := h1
      cases e
      have kp : Keep m1.flatten (m' ++ [p :: subs]).flatten H1 (upd H1 p (.lst vs)) := by
        intro a u e n
        refine ⟨by rw [upd_ne (ne_of_none e hp)]; exact e, ?_⟩
        have fl : (m' ++ [p :: subs]).flatten = m'.flatten ++ (p :: subs) := by simp
        rw [fl]
        intro z
        rcases List.mem_append.mp z with z | z
        · exact n (k3.subset (List.mem_append_right _ z))
        · rcases List.mem_cons.mp z with z | z
          · exact ne_of_none e hp z
          · exact n (k3.subset (List.mem_append_left _ z))
      obtain ⟨h3, h4⟩ := M1.push k1 (o := .lst vs) (ob := .lst cs) hp k3 k2 ⟨p, subs, vs, rfl, upd_same, k4.mono kp fun a ha u e => by rw [upd_ne (ne_of_none e hp)]; exact e⟩
      exact h2 (.ref p) _ _ h3 h4 (by rw [← k1.len]; exact push_own (by have := M1.pos; have := M1.len; omega))
    · exact h1.not_none.elim
end
end Mp
set_option Elab.async false
set_option linter.all false
set_option maxRecDepth 100000
set_option maxHeartbeats 1000000
/-! Mp: the rules of expressions: items, slices, attributes. -/
namespace Mp
open PySem PySem.Spec PyProof.Rows L2
section
variable {G : Glo} {X : Cx} {Wx : WX} {st sa sb sc : Bool} {fa fb fc : Env → Mem → Ans W} {a b c : Expr} {pos : Pos} {rest : List Expr}
theorem ixn_eq (n : Nat) (i : Int) : ixn n i = ixN n i := rfl
theorem atN_eq {α : Type} (xs : List α) (i : Int) : atN xs i = atI xs i := by
  unfold atN atI
  rw [ixn_eq]
  cases ixN xs.length i <;> rfl
theorem RVs.at {O : List Addr} {H : Hp} {vs : List V} {xs : List D} {i : Int} {x : D} (h : RVs G O H vs xs) (e : atN xs i = some x) : ∃ v, atI vs i = some v ∧ RV G O H v x := by
  rw [atN_eq] at e
  unfold atI at e ⊢
  rw [h.length]
  cases q : ixN xs.length i with
  | none => rw [q] at e; cases e
  | some j =>
    rw [q] at e
    exact h.get e
theorem ix_dK (hu : X.A.units + 1 < cLine) : IxR X (fun x y H Q => ∃ a v, x = .ref a ∧ DGet H a y (some v) ∧ Q v H) := by
  intro value slice pins s σ H x y v u Q I rx ry h hs
  obtain ⟨p, z, rfl, g, q⟩ := h
  obtain rfl : v = Value.ref p := rx
  exact tail_any (dict_typeIs I g) slot_dict_getitem.lookup (d_getItem hu I g ry fun w' s' I' r' => ⟨z, H, I', r', q⟩) hs
/-- o[i] by values -/
def rGet (G : Glo) : R2 := fun x y H Q => ∃ m μ a b w, MS G m H μ ∧ RW G m H x a ∧ RW G m H y b ∧ getI μ a b = some w ∧ ∀ v, RW G m H v w → Q v H
theorem dget_dv {m : List (List Addr)} {H : Hp} {v y : V} {kvs : List (D × D)} {kd d : D} (h : DV G m H v kvs) (ry : RV G m.flatten H y kd) (hk : okK kd = true) (e : dget kvs kd = some d) :
    ∃ a z, v = .ref a ∧ DGet H a y (some z) ∧ RV G m.flatten H z d := by
  obtain ⟨k, ek⟩ := keyOf_ok hk
  obtain ⟨a, vks, rfl, r, c, q⟩ := h
  have := dget_of ek c q
  rw [e] at this
  cases h2 : valV vks k with
  | none => rw [h2] at this; exact this.elim
  | some z =>
    rw [h2] at this
    exact ⟨a, z, rfl, .inl ⟨vks, k, r, ry.key ek, h2.symm⟩, this⟩
theorem ix_get (hK : X.K = G.K) (hw : X.w = G.w) (hu : X.A.units + 1 < cLine) : IxR X (rGet G) := by
  intro value slice pins s σ H x y v u Q I rx ry ⟨m, μ, a, b, w, M, ra, rb, e, q⟩ hs
  unfold getI at e
  split at e
  · -- a dict's text
    rename_i kvs sx
    cases e1 : dget kvs (.str sx) with
    | none => rw [e1] at e; cases e
    | some d =>
      rw [e1] at e
      cases e
      rcases RV.dic_ ra with h | h
      · obtain ⟨p, z, rfl, g, rz⟩ := dget_dv h rb rfl e1
        exact ix_dK hu value slice pins s σ H _ y v u Q I rx ry ⟨p, z, rfl, g, q z rz⟩ hs
      · obtain ⟨p, es, n, rfl, D, z⟩ := dvk_ns (s := sx) h
        rw [e1] at z
        obtain ⟨u0, v0, z1, z2, z3⟩ := z
        obtain rfl := RV.str_ rb
        exact ix_kdict value slice pins s σ H _ _ v u Q I rx ry ⟨p, _, v0, rfl, rfl, ⟨es, n, u0, hK ▸ D.at_, hw ▸ D.lit, hK ▸ z1, z2⟩, q v0 z3⟩ hs
  · -- a text's sign
    rename_i sx k
    split at e
    · rename_i hlen
      cases e1 : atN sx.toList k with
      | none => rw [e1] at e; cases e
      | some ch =>
        rw [e1] at e
        cases e
        obtain rfl := RV.str_ ra
        obtain rfl := RV.int_ rb
        refine ix_str value slice pins s σ H _ _ v u Q I rx ry ⟨_, _, ch.toNat, rfl, rfl, by rw [toS_length, ← lim_eq]; exact hlen, ?_, ?_⟩ hs
        · rw [toS_cps]
          show atI (sx.toList.map Char.toNat) k = _
          rw [atN_eq] at e1
          unfold atI at e1 ⊢
          rw [List.length_map]
          cases q1 : ixN sx.toList.length k with
          | none => rw [q1] at e1; cases e1
          | some j =>
            rw [q1] at e1
            show (sx.toList.map Char.toNat)[j]? = _
            rw [List.getElem?_map, show sx.toList[j]? = some ch from e1]
            rfl
        · rw [← toS_one]
          exact q _ (RV.str _)
    · cases e
  · rename_i xs k
    cases e1 : atN xs k with
    | none => rw [e1] at e; cases e
    | some d =>
      rw [e1] at e
      cases e
      obtain ⟨p, vs, rfl, h1, h2⟩ := RV.tup_ ra
      obtain rfl := RV.int_ rb
      obtain ⟨z, e2, rz⟩ := h2.at e1
      exact ix_tup value slice pins s σ H _ _ v u Q I rx ry ⟨p, vs, _, z, rfl, rfl, hK ▸ h1, e2, q z rz⟩ hs
  · rename_i xs k
    cases e1 : atN xs k with
    | none => rw [e1] at e; cases e
    | some d =>
      rw [e1] at e
      cases e
      obtain ⟨p, vs, rfl, h1, h2⟩ := RV.lst_ ra
      obtain rfl := RV.int_ rb
      obtain ⟨z, e2, rz⟩ := h2.at e1
      exact ix_list value slice pins s σ H _ _ v u Q I rx ry ⟨p, vs, _, z, rfl, rfl, .inl h1, e2, q z rz⟩ hs
  · -- owned
    rename_i l k
    split at e
    · rename_i cs eo
      split at e
      · rename_i k
        split at e
        · rename_i j ej
          obtain ⟨as, ea, p, rr, vs, e1, e2, c⟩ := M.own eo
          subst e1
          obtain rfl := ra.2 p rr ea
          obtain rfl := RV.int_ rb
          cases ec : cs[j]? with
          | none => rw [ec] at e; cases e
          | some cl =>
            obtain ⟨z, e3, hz⟩ := c.get ec
            have e4 : atI vs k = some z := by
              unfold atI
              rw [c.length, ← ixn_eq, ej]
              exact e3
            rw [ec] at e
            cases cl with
            | d d =>
              cases e
              exact ix_list value slice pins s σ H _ _ v u Q I rx ry ⟨p, vs, _, z, rfl, rfl, .inl (.inl e2), e4, q z hz⟩ hs
            | sub ys =>
              cases e
              exact ix_list value slice pins s σ H _ _ v u Q I rx ry ⟨p, vs, _, z, rfl, rfl, .inl (.inl e2), e4, q z ⟨p, rr, ea, .inl ⟨vs, e2, e3⟩⟩⟩ hs
        · cases e
      · cases e
    · rename_i kvs eo
      split at e
      · rename_i hk
        cases e1 : dget kvs k with
        | none => rw [e1] at e; cases e
        | some d =>
          rw [e1] at e
          cases e
          obtain ⟨as, ea, p, vks, e0, e2, c, h⟩ := M.own eo
          subst e0
          obtain ⟨p', z, ep, g, rz⟩ := dget_dv ⟨p, vks, ra.2 p [] ea, .inl e2, c, h⟩ rb hk e1
          subst ep
          exact ix_dK hu value slice pins s σ H _ y v u Q I rx ry ⟨p', z, rfl, g, q z rz⟩ hs
      · cases e
    · cases e
  · -- a place
    rename_i l j k
    split at e
    · rename_i xs ex
      cases e1 : atN xs k with
      | none => rw [e1] at e; cases e
      | some d =>
        rw [e1] at e
        cases e
        obtain ⟨p, vs, rfl, h1, h2⟩ := RW.lst_ M ra ex
        obtain rfl := RV.int_ rb
        obtain ⟨z, e2, rz⟩ := h2.at e1
        exact ix_list value slice pins s σ H _ _ v u Q I rx ry ⟨p, vs, _, z, rfl, rfl, .inl h1, e2, q z rz⟩ hs
    · cases e
  · cases e
theorem n_sub (hK : X.K = G.K) (hw : X.w = G.w) (hu : X.A.units + 1 < cLine) (ha : PE X a (tE G Wx sa fa)) (hb : PE X b (tE G Wx sb fb)) (hs : PlainIx b) :
    PE X (.Subscript a b pos) (tE G Wx (sa && sb) fun ρ μ => bndg sb (fa ρ μ) fun x μ => bnd (fb ρ μ) fun y μ => opt (getI μ x y) μ) := by
  refine PE.imp (pe_ix (ix_get hK hw hu) ha hb hs) fun σ H Q ⟨m, ρ, μ, S, h⟩ => ?_
  refine ⟨m, ρ, μ, S, h.bndg (st2 := sb) and_l and_r fun x m1 H1 wa μ1 M1 L1 n1 r1 h1 => ?_⟩
  refine ⟨m1, ρ, μ1, S.lat L1 M1, h1.bnd (st2 := true) id (fun _ => rfl) fun y m2 H2 wb μ2 M2 L2 r2 h2 => ?_⟩
  obtain ⟨w, e, h3⟩ := h2.optd
  exact ⟨m2, μ2, wa, wb, w, M2, r1.later L2 n1, r2, e, fun v rv => h3.now M2 rv⟩
/-! ### attributes -/
theorem nms_get {α β : Type} {vfs : List (Str × α)} {fs : List (Nat × β)} {f : Nat} {c : β} {x : Str} (n : Nms G (vfs.map (·.1)) (fs.map (·.1))) (e : fs.lookup f = some c) (hx : G.fnm[f]? = some x) :
    ∃ (i : Nat) (v : α), fs[i]? = some (f, c) ∧ vfs[i]? = some (x, v) ∧ vfs.lookup x = some v := by
  obtain ⟨i, y, h1, h2, v, h3, h4⟩ := nms_look n e
  rw [hx] at h1
  cases h1
  exact ⟨i, v, h2, h3, h4⟩
/-- e.f of an instance: f's name x; what is known of the classes -/
theorem n_fld {f : Nat} {x : Str} (hx : G.fnm[f]? = some x) (hC : ∀ c C, G.cls c = some C → Cls X.K C) (hN : ∀ c C, G.cls c = some C → NoAttr X.K C x) (ha : PE X a (tE G Wx sa fa)) (hb : attributeBase a x X.env (eval a X.env) = eval a X.env) :
    PE X (.Attribute a x pos) (tE G Wx sa fun ρ μ => bnd (fa ρ μ) fun w μ => opt (getF μ w f) μ) := by
  refine PE.imp (pe_fld ha hb) fun σ H Q ⟨m, ρ, μ, S, h⟩ => ?_
  refine ⟨m, ρ, μ, S, h.bnd (st2 := true) id (fun _ => rfl) fun v m1 H1 w μ1 M1 L1 r1 h1 => ?_⟩
  obtain ⟨z, e, h2⟩ := h1.optd
  unfold getF at e
  split at e
  · rename_i c fs
    cases q : fs.lookup f with
    | none => rw [q] at e; cases e
    | some d =>
      rw [q] at e
      cases e
      cases r1 with
      | ins e1 n1 hc nm rs =>
        obtain ⟨i, y, h3, h4, h5⟩ := nms_get nm q hx
        obtain ⟨u, h6, h7⟩ := rs.get (i := i) (x := d) (by rw [List.getElem?_map, h3]; rfl)
        rw [List.getElem?_map, h4] at h6
        cases h6
        exact ⟨_, _, _, _, _, rfl, e1, hC _ _ hc, hN _ _ hc, h5, h2.now M1 h7⟩
  · rename_i l
    cases qo : μ1[l]? with
    | none => rw [qo] at e; cases e
    | some o =>
      rw [qo] at e
      cases o with
      | ins c fs =>
        obtain ⟨as, ea, p, rr, C, dx, vfs, e0, hc, e1, nm, cr⟩ := M1.own qo
        subst e0
        obtain rfl := r1.2 p rr ea
        dsimp only at e
        cases q : fs.lookup f with
        | none => rw [q] at e; cases e
        | some cl =>
          rw [q] at e
          obtain ⟨i, y, h3, h4, h5⟩ := nms_get nm q hx
          obtain ⟨u, h6, h7⟩ := cr.get (i := i) (c := cl) (by rw [List.getElem?_map, h3]; rfl)
          rw [List.getElem?_map, h4] at h6
          cases h6
          cases cl with
          | d d =>
            cases e
            exact ⟨_, _, _, _, _, rfl, e1, hC _ _ hc, hN _ _ hc, h5, h2.now M1 h7⟩
          | sub ys =>
            cases e
            exact ⟨_, _, _, _, _, rfl, e1, hC _ _ hc, hN _ _ hc, h5, h2.now M1 ⟨p, rr, ea, .inr ⟨C, dx, vfs, x, e1, hx, h5⟩⟩⟩
      | _ => cases e
  · cases e
end
end Mp
set_option Elab.async false
set_option linter.all false
set_option maxRecDepth 100000
set_option maxHeartbeats 1000000
/-! Mp: calls. -/
namespace Mp
open PySem PySem.Spec PyProof.Rows L2
theorem mcallL {o : Expr} {m : Str} {apos pos : Pos} {env : PySem.Env} {ov : Value} {n : Nat} {args : List (Bool × Sem Value)} {kws : List (Option Str × Sem Value)} (hf : methodCallForm n args kws = true) (hl : (apos.endLine == pos.line) = true) :
    methodCall o m apos pos env ov n args kws = (do
      let (f, first) ← holding [ov] (getMethod ov m (do return (← importBound o env).getD true))
      callWith pos f first args kws) := by
  have e1 : calleeOf (methodCallForm n args kws) o env ov m = getMethod ov m (do return (← importBound o env).getD true) := by
    rw [hf] <;> rfl
  have e2 : methodCallPos (methodCallForm n args kws) o env apos pos = pure pos := by
    unfold methodCallPos
    exact if_pos (by rw [hl, Bool.or_true])
  unfold methodCall
  rw [e1, e2]
  first
    | rfl
    | simp only [pure_bind]
theorem ht_of {o : Expr} {m : Str} {args : List Expr} {apos pos : Pos} {env : PySem.Env} (hb : attributeBase o m env (eval o env) = eval o env)
   (hf : methodCallForm (args.length + ([] : List Keyword).length) (backTo pos (starEach args env)) (backToKw pos (keywordEach [] env)) = true) (hl : (apos.endLine == pos.line) = true) :
   eval (.Call (.Attribute o m apos) args [] pos) env = (do
      let ov ← eval o env
      standAt apos.atName
      let (f, first) ← holding [ov] (getMethod ov m (do return (← importBound o env).getD true))
      callWith pos f first (backTo pos (starEach args env)) (backToKw pos (keywordEach [] env))) := by
  show (do
    let ov ← attributeBase o m env (eval o env)
    standAt apos.atName
    methodCall o m apos pos env ov (args.length + ([] : List Keyword).length) (backTo pos (starEach args env)) (backToKw pos (keywordEach [] env))) = _
  rw [hb]
  congr 1
  funext ov
  congr 1
  funext _
  rw [mcallL hf hl]
/-- what a call of f gives: its promise -/
def spF (G : Glo) (cf : Nat → List W → Mem → Ans W) (np : Nat) (f : Nat) : Sp := fun vs H Q E => vs.length = np ∧ ∃ m μ ws, MS G m H μ ∧ RWs G m H vs ws ∧ ∃ a μ', cf f ws μ = some (a, μ') ∧ match a with
  | .ok w => ∀ v m' H', MS G m' H' μ' → Lat false m H m' H' → RW G m' H' v w → Q v H'
  | .exc e => ∀ m' H' C d, MS G m' H' μ' → Lat false m H m' H' → G.xcl e.cls = some C → XR G m'.flatten H' d e → E (.ref C) d H'
section
variable {G : Glo} {X : Cx} {Wx : WX} {st sa sb sc : Bool} {fa fb fc : Env → Mem → Ans W} {fs : Env → Mem → Ans (List W)} {e o : Expr} {es : List Expr} {cf : Nat → List W → Mem → Ans W}
variable {k f C np : Nat} {fad : Addr} {fd : FuncData} {ps : List Str} {x mth : Str} {p pos apos : Pos}
theorem sp_of {σ : L2.St} {m : List (List Addr)} {H : Hp} {μ : Mem} {vs : List V} {ws : List W} {Q : VK} (M : MS G m H μ) (r : RWs G m H vs ws) (hn : vs.length = np) (h : tK G Wx (RW G) st (cf f ws μ) σ m H Q) (hs : st = false) : spF G cf np f vs H Q (WE Wx σ) := by
  obtain ⟨a, μ', e, h⟩ := h
  refine ⟨hn, m, μ, ws, M, r, a, μ', e, ?_⟩
  subst hs
  cases a with
  | ok w => exact h
  | exc e => exact h
theorem RWs.length {m : List (List Addr)} {H : Hp} : ∀ {vs : List V} {ws : List W}, RWs G m H vs ws → vs.length = ws.length
  | _, _, .nil => rfl
  | _, _, .cons _ t => by simp [RWs.length t]
/-- f(e, ..) -/
theorem n_call (F : FnOk X.prog X.w X.K X.mg X.base (L2.CX X.prog X.w) k fad fd ps (spF G cf np f)) (hr : Room k X.A) (hg : Gl X x) (hm : X.mg x = some (.ref fad)) (hk : PySem.W.keepIn X.K (.ref fad) = true) (hb : Binds X.K fd ps []) (tk : Takes X Wx)
    (hn : ∀ ws μ a, cf f ws μ = some a → ws.length = np) (ha : PA X (e :: es) (tA G Wx sa fs)) (hdb : (x == ("__debug__" : Str)) = false) (he : starEach (e :: es) X.env = (false, eval e X.env) :: starEach es X.env) (hpl : (backTo pos (starEach es X.env)).any (·.1) = false) :
    PE X (.Call (.Name x p) (e :: es) [] pos) (tE G Wx false fun ρ μ => bnd (fs ρ μ) fun ws μ => cf f ws μ) := by
  refine PE.imp (pe_callSD (E := WE Wx) F hr hg hm hk hb .nil (passAt tk) ha hdb he hpl) fun σ H Q ⟨m, ρ, μ, S, h⟩ => ?_
  refine ⟨m, ρ, μ, S, h.bnd (st2 := false) (fun z => nomatch z) (fun z => nomatch z) fun vs m1 H1 ws μ1 M1 L1 r1 h1 => ?_⟩
  rw [List.append_nil]
  obtain ⟨a, μ', e, _⟩ := id h1
  exact sp_of M1 r1 (by rw [RWs.length r1]; exact hn _ _ _ e) h1 rfl
/-- f() -/
theorem n_call0 (F : FnOk X.prog X.w X.K X.mg X.base (L2.CX X.prog X.w) k fad fd ps (spF G cf np f)) (hr : Room k X.A) (hg : Gl X x) (hm : X.mg x = some (.ref fad)) (hk : PySem.W.keepIn X.K (.ref fad) = true) (hb : Binds X.K fd ps []) (tk : Takes X Wx)
    (hn : ∀ ws μ a, cf f ws μ = some a → ws.length = np) (hdb : (x == ("__debug__" : Str)) = false) :
    PE X (.Call (.Name x p) [] [] pos) (tE G Wx false fun ρ μ => bnd (ret [] μ) fun ws μ => cf f ws μ) := by
  refine ⟨fun pins s σ H Q I ⟨m, ρ, μ, S, h⟩ => ?_⟩
  refine wpAny_Call_Name_kw (ld_glob I hg hm ?_ hdb)
  obtain ⟨a, μ', e, _⟩ := id h
  refine PySem.W.callWith_K0 I.kIn hk (run_fnSD (us := []) (vs := []) (E := WE Wx) F hr hb .nil (passAt tk σ) I .nil ?_)
  exact sp_of S.ms .nil (hn _ _ _ e) h rfl
/-- f(e, .., d): a default fills up -/
theorem n_callD {dv : V} {ds : Value} {fd' : Env → Mem → Ans W} (F : FnOk X.prog X.w X.K X.mg X.base (L2.CX X.prog X.w) k fad fd ps (spF G cf np f)) (hr : Room k X.A) (hg : Gl X x) (hm : X.mg x = some (.ref fad)) (hk : PySem.W.keepIn X.K (.ref fad) = true) (hb : Binds X.K fd ps [ds]) (tk : Takes X Wx)
    (hn : ∀ ws μ a, cf f ws μ = some a → ws.length = np) (ha : PA X (e :: es) (tA G Wx sa fs)) (hdb : (x == ("__debug__" : Str)) = false) (he : starEach (e :: es) X.env = (false, eval e X.env) :: starEach es X.env) (hpl : (backTo pos (starEach es X.env)).any (·.1) = false)
    (rd : RelV dv ds) {dd : D} (hd : ∀ O H, RV G O H dv dd) :
    PE X (.Call (.Name x p) (e :: es) [] pos) (tE G Wx false fun ρ μ => bnd (fs ρ μ) fun ws μ => bnd (ret (W.d dd) μ) fun w μ => cf f (ws ++ [w]) μ) := by
  refine PE.imp (pe_callSD (E := WE Wx) F hr hg hm hk hb (.cons rd .nil) (passAt tk) ha hdb he hpl) fun σ H Q ⟨m, ρ, μ, S, h⟩ => ?_
  refine ⟨m, ρ, μ, S, h.bnd (st2 := false) (fun z => nomatch z) (fun z => nomatch z) fun vs m1 H1 ws μ1 M1 L1 r1 h1 => ?_⟩
  have r2 : RWs G m1 H1 (vs ++ [dv]) (ws ++ [.d dd]) := paired_app r1 (.cons ⟨trivial, hd _ _⟩ .nil)
  obtain ⟨a, μ', e, _⟩ := id h1
  exact sp_of M1 r2 (by rw [RWs.length r2]; exact hn _ _ _ e) h1 rfl
/-- what is known of a class: its instances' class object -/
structure ClsOk (G : Glo) (X : Cx) (c : Nat) (Ca : Addr) : Prop where
  at_ : G.cls c = some Ca
  cl : Cls X.K Ca
theorem cls_of {m : List (List Addr)} {H : Hp} {μ : Mem} {v : V} {w : W} {c : Nat} (M : MS G m H μ) (r : RW G m H v w) (e : clsOf μ w = some c) :
    ∃ a C dx vfs, v = .ref a ∧ G.cls c = some C ∧ H a = some (.ins C dx vfs) ∧ ∃ fs : List Nat, Nms G (vfs.map (·.1)) fs := by
  unfold clsOf at e
  split at e
  · cases e
    cases r with
    | ins h1 _ hc n _ => exact ⟨_, _, _, _, rfl, hc, h1, _, n⟩
  · split at e
    · rename_i l _ _ q
      cases e
      obtain ⟨as, ea, a, rr, C, dx, vfs, e0, hc, h1, n, _⟩ := M.own q
      subst e0
      exact ⟨a, C, dx, vfs, r.2 a rr ea, hc, h1, _, n⟩
    · cases e
  · cases e
theorem nms_no {α : Type} {x : Str} : ∀ {vfs : List (Str × α)} {fs : List Nat}, Nms G (vfs.map (·.1)) fs → x ∉ G.fnm → vfs.lookup x = none
  | [], _, _, _ => rfl
  | (y, v) :: vfs, [], h, _ => by unfold Nms at h; simp at h
  | (y, v) :: vfs, f :: fs, h, hx => by
    unfold Nms at h
    simp only [List.map_cons, List.cons.injEq] at h
    have hy : y ∈ G.fnm := List.mem_of_getElem? h.1
    have hne : (x == y) = false := beq_eq_false_iff_ne.mpr fun z => hx (z ▸ hy)
    rw [List.lookup_cons, hne]
    exact nms_no (fs := fs) h.2 hx
/-- o.m(e, ..) -/
theorem n_meth {c : Nat} {Ca : Addr} (F : FnOk X.prog X.w X.K X.mg X.base (L2.CX X.prog X.w) k fad fd ps (spF G cf np f)) (hr : Room k X.A) (hc : G.cls c = some Ca) (cl : Cls X.K Ca) (hm : Meth X.K Ca mth fad) (hx : mth ∉ G.fnm) (hb : Binds X.K fd ps []) (tk : Takes X Wx)
    (hn : ∀ ws μ a, cf f ws μ = some a → ws.length = np) (ho : PE X o (tE G Wx sa fa)) (ha : PA X (e :: es) (tA G Wx sb fs)) (hst : starEach (e :: es) X.env = (false, eval e X.env) :: starEach es X.env) (hpl : (backTo pos (starEach es X.env)).any (·.1) = false)
    (hab : attributeBase o mth X.env (eval o X.env) = eval o X.env) (hf : methodCallForm ((e :: es).length + ([] : List Keyword).length) (backTo pos (starEach (e :: es) X.env)) (backToKw pos (keywordEach [] X.env)) = true) (hl : (apos.endLine == pos.line) = true) :
    PE X (.Call (.Attribute o mth apos) (e :: es) [] pos) (tE G Wx false fun ρ μ => bndg false (fa ρ μ) fun w μ => if clsOf μ w = some c then bnd (fs ρ μ) fun ws μ => cf f (w :: ws) μ else none) := by
  refine ⟨fun pins s σ H Q I ⟨m, ρ, μ, S, h⟩ => ?_⟩
  refine PySem.W.methodCall_KW (thn (ho.run pins s σ H (fun x H1 => ∃ a dx fl, x = .ref a ∧ H1 a = some (.ins Ca dx fl) ∧ fl.lookup mth = none ∧ ∃ m1 μ1 w, MS G m1 H1 μ1 ∧ Lat sa m H m1 H1 ∧ npt w ∧ RW G m1 H1 x w ∧
    tK G Wx (RW G) false (bnd (fs ρ μ1) fun ws μ => cf f (w :: ws) μ) σ m1 H1 Q) I ⟨m, ρ, μ, S, h.bndg (st2 := false) (fun z => nomatch z) (fun z => nomatch z) fun x m1 H1 w μ1 M1 L1 n1 r1 h1 => ?_⟩) fun u s1 ⟨x, H1, I1, rx, a, dx, fsl, ex, ea, l, m1, μ1, w, M1, L1, n1, r1, h1⟩ => ?_) (ht_of hab hf hl)
  · split at h1
    · rename_i hcl
      obtain ⟨a, C, dx, vfs, e1, e2, e3, fl, e4⟩ := cls_of M1 r1 hcl
      rw [hc] at e2
      cases e2
      exact ⟨a, dx, vfs, e1, e3, nms_no e4 hx, m1, μ1, w, M1, L1, n1.resolve_right (fun z => nomatch z), r1, h1⟩
    · exact h1.not_none.elim
  · subst ex
    obtain rfl : u = Value.ref a := rx
    refine getmeth_ok I1 ea cl hm l ?_
    refine PySem.W.callWith_K (first := [.ref a]) (h₀ := X.base) I.ok.mod.kin hm.kp (thn (ha.run pos pins s1 σ H1 (fun vs H2 => spF G cf np f (.ref a :: vs) H2 Q (WE Wx σ)) I1 ⟨m1, ρ, μ1, S.lat L1 M1, h1.bnd (st2 := false) (fun z => nomatch z) (fun z => nomatch z) fun vs m2 H2 ws μ2 M2 L2 r2 h2 => ?_⟩) fun us s2 ⟨vs, H2, I2, r, q2⟩ => ⟨I2.kIn, ?_⟩) hst hpl
    · have r3 : RWs G m2 H2 (V.ref a :: vs) (w :: ws) := .cons ⟨n1, r1.later L2 (.inl n1)⟩ r2
      obtain ⟨_, _, e, _⟩ := id h2
      exact sp_of M2 r3 (by rw [RWs.length r3]; exact hn _ _ _ e) h2 rfl
    · refine run_fnSD (us := .ref a :: us) (vs := .ref a :: vs) (dvs := []) (E := WE Wx) F hr hb .nil (passAt tk σ) I2 (.cons rfl r) ?_
      rw [List.append_nil]
      exact q2
/-- o.m() -/
theorem n_meth0 {c : Nat} {Ca : Addr} (F : FnOk X.prog X.w X.K X.mg X.base (L2.CX X.prog X.w) k fad fd ps (spF G cf np f)) (hr : Room k X.A) (hc : G.cls c = some Ca) (cl : Cls X.K Ca) (hm : Meth X.K Ca mth fad) (hx : mth ∉ G.fnm) (hb : Binds X.K fd ps []) (tk : Takes X Wx)
    (hn : ∀ ws μ a, cf f ws μ = some a → ws.length = np) (ho : PE X o (tE G Wx sa fa)) (hab : attributeBase o mth X.env (eval o X.env) = eval o X.env) (hl : (apos.endLine == pos.line) = true) :
    PE X (.Call (.Attribute o mth apos) [] [] pos) (tE G Wx false fun ρ μ => bndg false (fa ρ μ) fun w μ => if clsOf μ w = some c then bnd (ret [] μ) fun ws μ => cf f (w :: ws) μ else none) := by
  refine ⟨fun pins s σ H Q I ⟨m, ρ, μ, S, h⟩ => ?_⟩
  refine PySem.W.methodCall_KW (thn (ho.run pins s σ H (fun x H1 => ∃ a dx fl, x = .ref a ∧ H1 a = some (.ins Ca dx fl) ∧ fl.lookup mth = none ∧ spF G cf np f [x] H1 Q (WE Wx σ)) I ⟨m, ρ, μ, S, h.bndg (st2 := false) (fun z => nomatch z) (fun z => nomatch z) fun x m1 H1 w μ1 M1 L1 n1 r1 h1 => ?_⟩) fun u s1 ⟨x, H1, I1, rx, a, dx, fsl, ex, ea, l, q⟩ => ?_) (ht_of hab rfl hl)
  · split at h1
    · rename_i hcl
      obtain ⟨a, C, dx, vfs, e1, e2, e3, fl, e4⟩ := cls_of M1 r1 hcl
      rw [hc] at e2
      cases e2
      have r3 : RWs G m1 H1 [x] [w] := .cons ⟨n1.resolve_right (fun z => nomatch z), r1⟩ .nil
      obtain ⟨_, _, e, _⟩ := id h1
      exact ⟨a, dx, vfs, e1, e3, nms_no e4 hx, sp_of M1 r3 (hn _ _ _ e) h1 rfl⟩
    · exact h1.not_none.elim
  · subst ex
    obtain rfl : u = Value.ref a := rx
    refine getmeth_ok I1 ea cl hm l ?_
    exact PySem.W.callWith_K0 (first := [.ref a]) I1.kIn hm.kp (run_fnSD (us := [.ref a]) (vs := [.ref a]) (dvs := []) (E := WE Wx) F hr hb .nil (passAt tk σ) I1 (.cons rfl .nil) q)
/-- e.f, a property -/
theorem n_prop {c : Nat} {Ca pa : Addr} (F : FnOk X.prog X.w X.K X.mg X.base (L2.CX X.prog X.w) k fad fd ps (spF G cf np f)) (hr : Room (k + 1) X.A) (hc : G.cls c = some Ca) (cl : Cls X.K Ca) (hp : PropOf X.K Ca mth pa fad) (hb : Binds X.K fd ps [])
    (hn : ∀ ws μ a, cf f ws μ = some a → ws.length = np) (ho : PE X o (tE G Wx sa fa)) (hab : attributeBase o mth X.env (eval o X.env) = eval o X.env) :
    PE X (.Attribute o mth pos) (tE G Wx false fun ρ μ => bnd (fa ρ μ) fun w μ => if clsOf μ w = some c then match cf f [w] μ with | some (.ok w, μ') => some (.ok w, μ') | _ => none else none) := by
  refine PE.imp (pe_prop (E := E0) ho cl hp F hr hb .nil passL hab) fun σ H Q ⟨m, ρ, μ, S, h⟩ => ?_
  refine ⟨m, ρ, μ, S, h.bnd (st2 := false) (fun z => nomatch z) (fun z => nomatch z) fun x m1 H1 w μ1 M1 L1 r1 h1 => ?_⟩
  split at h1
  · rename_i hcl
    obtain ⟨a, C, dx, vfs, e1, e2, e3, fl, e4⟩ := cls_of M1 r1 hcl
    rw [hc] at e2
    cases e2
    have nw : npt w := by cases w <;> first | trivial | cases hcl
    have r3 : RWs G m1 H1 [x] [w] := .cons ⟨nw, r1⟩ .nil
    obtain ⟨z, μ', e, q⟩ := h1
    split at e
    · rename_i w' μ2 ec
      cases e
      refine ⟨a, dx, vfs, e1, e3, hn _ _ _ ec, m1, μ1, [w], M1, e1 ▸ r3, _, _, ec, q⟩
    · cases e
  · exact h1.not_none.elim
end
end Mp
set_option Elab.async false
set_option linter.all false
set_option maxRecDepth 100000
set_option maxHeartbeats 1000000
/-! Mp: new instances; isinstance. -/
namespace Mp
open PySem PySem.Spec PyProof.Rows L2
section
variable {G : Glo} {X : Cx} {Wx : WX} {st sa sb sc : Bool} {fa fb fc : Env → Mem → Ans W} {fs : Env → Mem → Ans (List W)} {e o : Expr} {es : List Expr} {cf : Nat → List W → Mem → Ans W}
variable {k f C np : Nat} {fad : Addr} {fd : FuncData} {ps : List Str} {x mth : Str} {p pos apos : Pos}
theorem run_makeS {sp : Sp} {E : L2.St → XK} {CX : CXT} {pins : List (Addr × Obj)} {σ : L2.St} {H : Hp} {s : Shared} {Q : VK} {us : List Value} {vs : List V} (M : Mk X.K C fad) (F : FnOk X.prog X.w X.K X.mg X.base CX k fad fd ps sp) (hr : Room (k + 1) X.A) (hb : Binds X.K fd ps [])
    (hx : PassesAt CX X σ (E σ)) (I : L2.Inv X pins σ H s) (r : Vals vs us)
    (h : ∀ x dx, H x = none → H dx = none → dx ≠ x → sp (.ref x :: vs) (upd (upd H dx (.own x)) x (.ins C dx [])) (fun v H2 => v = .non ∧ Q (.ref x) H2) (E σ)) :
    wpAny (model X.prog X.w) X.A (call (.ref C) us) (EP X pins σ Q) X.xe s := by
  have hq := h (s.heap.objs.size + 1) s.heap.objs.size (I.hok.fresh (Nat.le_succ _)) (I.hok.fresh (Nat.le_refl _)) (Nat.ne_of_lt (Nat.lt_succ_self _))
  have I2 := Inv.made (C := C) I
  have r2 : Vals (V.ref (s.heap.objs.size + 1) :: vs) (Value.ref (s.heap.objs.size + 1) :: us) := .cons rfl r
  have hl : (Value.ref (s.heap.objs.size + 1) :: us ++ []).length = ps.length := by
    have e := r2.length
    rw [F.len _ _ _ _ hq] at e
    rw [List.append_nil]
    exact e.symm
  have b := hb _ (Value.ref (s.heap.objs.size + 1) :: us) I2.kIn hl
  rw [List.append_nil] at b
  refine wpAny_call (make_map (f := fad) I.kIn M.makes M.init (beq_iff_eq.mp M.fn) (codeAny_mono (F.run _ X.stack _ _ ⟨Value.ref (s.heap.objs.size + 1) :: us, []⟩ (Value.ref (s.heap.objs.size + 1) :: us) _ _ (E σ) (hr.make C us [])
    (I2.env0.make C us []) b r2 hq) fun r s' hq' => ?_))
  cases r with
  | error e => exact hx pins _ _ e s' I2 hq'
  | ok fl =>
    cases fl with
    | ret u =>
      obtain ⟨v, H', I3, rv, ev, q3⟩ := I2.after hq'
      subst ev
      exact ⟨rv, ⟨V.ref (s.heap.objs.size + 1), H', I3, rfl, q3⟩⟩
    | next => exact False.elim hq'
    | brk => exact False.elim hq'
    | cont => exact False.elim hq'
theorem flatten_take_sub {α : Type} {m : List (List α)} {l : Nat} : ∀ a ∈ (m.take l).flatten, a ∈ m.flatten := fun a ha => by
  obtain ⟨as, h1, h2⟩ := List.mem_flatten.mp ha
  exact List.mem_flatten.mpr ⟨as, List.mem_of_mem_take h1, h2⟩
theorem take_get {α : Type} {m : List α} {l j : Nat} {x : α} (e : (m.take l)[j]? = some x) : j < l ∧ m[j]? = some x := by
  rw [List.getElem?_take] at e
  split at e
  · exact ⟨‹_›, e⟩
  · cases e
theorem MS.take {m : List (List Addr)} {H : Hp} {μ : Mem} (M : MS G m H μ) {l : Nat} (h0 : 0 < l) : MS G (m.take l) H (μ.take l) where
  g0 := by rw [List.getElem?_take_of_lt h0]; exact M.g0
  len := by simp [M.len]
  obj := fun j o as e1 e2 => (M.obj j o as (take_get e1).2 (take_get e2).2).mono (keep_sub flatten_take_sub) fun _ _ _ z => z
  nd := by
    have h : m = m.take l ++ m.drop l := (List.take_append_drop l m).symm
    have hn := M.nd
    rw [h, List.flatten_append] at hn
    exact (List.nodup_append.mp hn).1
theorem Lat.take {m m' : List (List Addr)} {H H' : Hp} (L : Lat st m H m' H') {l : Nat} (hl : m.length ≤ l) (h0 : 0 < l) : Lat false m H (m'.take l) H' where
  gst := ⟨by rw [List.getElem?_take_of_lt h0]; exact L.gst.1, L.gst.2⟩
  keep := fun a o e n => ⟨(L.keep a o e n).1, fun z => (L.keep a o e n).2 (flatten_take_sub a z)⟩
  len := by have := L.len; simp only [List.length_take]; omega
  root := fun j a r hj e => L.root j a r hj (take_get e).2
  same := fun z => nomatch z
theorem cellsF_ok {O : List Addr} {H : Hp} : ∀ {fs : List (Nat × Cell)} {fs' : List (Nat × D)} {vs : List V} {as : List Addr}, CR_ G O H vs (fs.map (·.2)) as → cellsF fs = some fs' → RVs G O H vs (fs'.map (·.2)) ∧ fs'.map (·.1) = fs.map (·.1)
  | [], _, _, _, h, e => by cases e; cases h; exact ⟨.nil, rfl⟩
  | (f, .d x) :: fs, fs', vs, as, h, e => by
    unfold cellsF at e
    cases q : cellsF fs with
    | none => rw [q] at e; cases e
    | some gs =>
      rw [q] at e
      cases e
      cases h with
      | d r h =>
        obtain ⟨h1, h2⟩ := cellsF_ok h q
        exact ⟨.cons r h1, by simp [h2]⟩
  | (_, .sub _) :: _, _, _, _, _, e => by cases e
/-- what C(..) leaves, by what its __init__ left -/
theorem new_red {c : Nat} {Ca : Addr} {fz : Bool} {σ : L2.St} {m : List (List Addr)} {H : Hp} {μ : Mem} {vs : List V} {ws : List W} {Q : VK} {x dx : Addr} (hc : G.cls c = some Ca) (M : MS G m H μ) (r : RWs G m H vs ws) (hx : H x = none) (hd : H dx = none) (hne : dx ≠ x)
    (hn : ∀ ws μ a, cf f ws μ = some a → ws.length = np) (h : tK G Wx (RW G) false (newK c fz μ.length (cf f (.own μ.length :: ws) (μ ++ [.ins c []]))) σ m H Q) :
    spF G cf np f (.ref x :: vs) (upd (upd H dx (.own x)) x (.ins Ca dx [])) (fun v H2 => v = .non ∧ Q (.ref x) H2) (WE Wx σ) := by
  have hx1 : (upd H dx (.own x)) x = none := by rw [upd_ne hne.symm]; exact hx
  have M1 := M.new (o := .own x) hd
  have L1 : Lat true m H m (upd H dx (.own x)) := lat_new hd
  obtain ⟨M2, L2⟩ := M1.push0 (o := .ins Ca dx []) (ob := .ins c []) hx1 ⟨x, [], Ca, dx, [], rfl, hc, upd_same, rfl, .nil⟩
  have L12 := L1.trans L2
  have r2 : RWs G (m ++ [[x]]) _ (V.ref x :: vs) (.own μ.length :: ws) := .cons ⟨trivial, by rw [← M.len]; exact push_own (by have := M.pos; have := M.len; omega)⟩ (r.later L12)
  have hml : m.length = μ.length := M.len
  have e2 : (m ++ [[x]])[m.length]? = some [x] := by simp
  obtain ⟨z, μz, ez, q⟩ := h
  unfold newK at ez
  split at ez
  · rename_i μ' ec
    refine ⟨by rw [RWs.length r2]; exact hn _ _ _ ec, _, _, _, M2, r2, _, _, ec, fun v m' H' M' L' rv => ⟨RV.non_ rv, ?_⟩⟩
    have Lz := L12.trans L'
    have root : ∀ a rr, m'[m.length]? = some (a :: rr) → a = x := fun a rr e => by
      obtain ⟨r', e'⟩ := L'.root m.length a rr (by simp) e
      rw [e2] at e'
      cases e'
      rfl
    split at ez
    · split at ez
      · rename_i c' fs' el
        split at ez
        · rename_i gs eg
          split at ez
          · rename_i ecc
            subst ecc
            cases ez
            obtain ⟨as, ea, a, rr, C', dx', vfs, e0, hc', h1, nm, cr⟩ := M'.own el
            subst e0
            rw [← hml] at ea
            obtain rfl := root a rr ea
            rw [hc] at hc'
            cases hc'
            obtain ⟨g1, g2⟩ := cellsF_ok cr eg
            have hnot : a ∉ (m'.take μ.length).flatten := by
              have hs : m' = m'.take m.length ++ m'.drop m.length := (List.take_append_drop _ m').symm
              have hn' := M'.nd
              rw [hs, List.flatten_append] at hn'
              have hd' : a ∈ (m'.drop m.length).flatten := List.mem_flatten.mpr ⟨a :: rr, List.mem_of_getElem? (i := 0) (by rw [List.getElem?_drop]; simpa using ea), List.mem_cons_self⟩
              intro z
              rw [hml] at hn' hd'
              exact (List.nodup_append.mp hn').2.2 a z a hd' rfl
            refine q _ (m'.take μ.length) H' (M'.take M.pos) (Lz.take (by omega) M.pos) (.ins h1 hnot hc (by rw [g2]; exact nm) (g1.mono (keep_sub flatten_take_sub)))
          · cases ez
        · cases ez
      · cases ez
    · cases ez
      refine q _ m' H' M' (Lz.weak fun z => nomatch z) ⟨⟨M.pos, ?_⟩, fun a rr e => ?_⟩
      · have := L'.len
        simp at this
        omega
      · rw [← hml] at e
        rw [root a rr e]
  · rename_i ex μ' ec
    cases ez
    refine ⟨by rw [RWs.length r2]; exact hn _ _ _ ec, _, _, _, M2, r2, _, _, ec, fun m' H' C' d M' L' hc' hx' => ?_⟩
    refine q (m'.take μ.length) H' C' d (M'.take M.pos) ((L12.trans L').take (by omega) M.pos) hc' ?_
    rcases hx' with z | ⟨dx', vfs, z1, z2, z3, z4⟩
    · exact .inl z
    · exact .inr ⟨dx', vfs, z1, z2, z3, z4.mono (keep_sub flatten_take_sub)⟩
  · cases ez
/-- C(e, ..) -/
theorem n_new {c : Nat} {Ca : Addr} {fz : Bool} (M : Mk X.K Ca fad) (F : FnOk X.prog X.w X.K X.mg X.base (L2.CX X.prog X.w) k fad fd ps (spF G cf np f)) (hr : Room (k + 1) X.A) (hg : Gl X x) (hm : X.mg x = some (.ref Ca)) (hc : G.cls c = some Ca) (hb : Binds X.K fd ps []) (tk : Takes X Wx)
    (hn : ∀ ws μ a, cf f ws μ = some a → ws.length = np) (ha : PA X (e :: es) (tA G Wx sa fs)) (hdb : (x == ("__debug__" : Str)) = false) (he : starEach (e :: es) X.env = (false, eval e X.env) :: starEach es X.env) (hpl : (backTo pos (starEach es X.env)).any (·.1) = false) :
    PE X (.Call (.Name x p) (e :: es) [] pos) (tE G Wx false fun ρ μ => bnd (fs ρ μ) fun ws μ => newK c fz μ.length (cf f (.own μ.length :: ws) (μ ++ [.ins c []]))) := by
  refine ⟨fun pins s σ H Q I ⟨m, ρ, μ, S, h⟩ => ?_⟩
  refine wpAny_Call_Name_kw (ld_glob I hg hm ?_ hdb)
  refine PySem.W.callWith_K (h₀ := X.base) I.ok.mod.kin M.kp (thn (ha.run pos pins s σ H (fun vs H1 => ∀ x dx, H1 x = none → H1 dx = none → dx ≠ x → spF G cf np f (.ref x :: vs) (upd (upd H1 dx (.own x)) x (.ins Ca dx [])) (fun v H2 => v = .non ∧ Q (.ref x) H2) (WE Wx σ)) I
    ⟨m, ρ, μ, S, h.bnd (st2 := false) (fun z => nomatch z) (fun z => nomatch z) fun vs m1 H1 ws μ1 M1 L1 r1 h1 => fun x dx hx hd hne => new_red hc M1 r1 hx hd hne hn h1⟩) fun us s1 ⟨vs, H1, I1, r, q⟩ => ⟨I1.kIn, ?_⟩) he hpl
  exact run_makeS (E := WE Wx) M F hr hb (passAt tk σ) I1 r q

/-! ### isinstance -/
/-- what is known of an own class for isinstance -/
structure Isi (G : Glo) (C : Addr) : Prop where
  cl : Cls G.K C
  ha : PySem.W.findIn G.K (.ref C) "__class__" = some (some (.builtin "object.__class__"))
  hn : PySem.W.specialIn G.K (.builtin "object.__class__") "__get__" = some (some (.builtin "getset_descriptor.__get__"))
  htk : PySem.W.takesIn G.K (.builtin "object.__class__") = some true
  hm : PySem.W.mroIn G.K C (.type "object") = some true
  kc : ((PySem.W.clsIn G.K C).isSome && PySem.W.typeIn G.K (.ref C) == some (.type "type")) = true
def tyN : Ty → String
  | .int => "int" | .bool => "bool" | .str => "str" | .tuple => "tuple" | .list => "list" | .dict => "dict" | .cls _ => ""
/-- a type as a value -/
inductive TyR (G : Glo) : Ty → Value → Prop
  | bi {t : Ty} (h : ∀ c, t ≠ .cls c) : TyR G t (.type (tyN t))
  | own {c : Nat} {C : Addr} (h : G.cls c = some C) (i : Isi G C) : TyR G (.cls c) (.ref C)
theorem kit_own {n : String} {C : Addr} (i : Isi G C) (hn : ∃ l, PySem.fastBuiltinMro n = some l ∧ l.all (fun v => match v with | .ref _ => false | _ => true) = true) : PySem.W.kitOne G.K (.type n) (.ref C) = some false := by
  obtain ⟨l, h1, h2⟩ := hn
  unfold PySem.W.kitOne
  have : ((Value.type n : Value) == .ref C) = false := rfl
  rw [this, if_neg Bool.false_ne_true]
  unfold PySem.W.kitCls
  dsimp only
  rw [if_pos i.kc]
  unfold PySem.W.subIn
  dsimp only
  rw [h1]
  show some (l.contains (.ref C)) = some false
  congr 1
  rw [List.all_eq_true] at h2
  rw [Bool.eq_false_iff]
  intro hc
  have := h2 _ (List.contains_iff_mem.mp hc)
  exact Bool.false_ne_true this
theorem kit_self {C : Addr} : PySem.W.kitOne G.K (.ref C) (.ref C) = some true := by
  unfold PySem.W.kitOne
  rw [if_pos (by simp)]
def tagN : D → String
  | .non => "NoneType" | .bl _ => "bool" | .int _ => "int" | .str _ => "str" | .tup _ => "tuple" | .lst _ => "list" | .dic _ => "dict" | .ins _ _ => ""
theorem kit_bi : ∀ n ∈ ["NoneType", "bool", "int", "str", "tuple", "list", "dict"], ∀ t ∈ ["int", "bool", "str", "tuple", "list", "dict"], kitB n t = some (n == t || (n == "bool" && t == "int")) := by decide +kernel
theorem mro_bi : ∀ n ∈ ["NoneType", "bool", "int", "str", "tuple", "list", "dict"], ((PySem.fastBuiltinMro n).elim false fun l => l.all (fun v => match v with | .ref _ => false | _ => true)) = true := by decide +kernel
def kitR (n : String) : Ty → Bool
  | .cls _ => false
  | t => n == tyN t || (n == "bool" && tyN t == "int")
theorem kit_of1 {n : String} {t : Ty} {u : Value} (hn : n ∈ ["NoneType", "bool", "int", "str", "tuple", "list", "dict"]) (r : TyR G t u) : PySem.W.kitOne G.K (.type n) u = some (kitR n t) := by
  cases r with
  | bi h =>
    have := kit_bi n hn (tyN t) (by cases t <;> first | decide | exact (h _ rfl).elim)
    cases t <;> first | exact kit_ty this | exact (h _ rfl).elim
  | own h i =>
    refine kit_own i ?_
    have := mro_bi n hn
    cases q : PySem.fastBuiltinMro n with
    | none => rw [q] at this; cases this
    | some l => rw [q] at this; exact ⟨l, rfl, this⟩
/-- the type of a value: one for all questions -/
theorem ty_of2 {m : List (List Addr)} {H : Hp} {μ : Mem} {v : V} {w : W} (hI : ∀ c C, G.cls c = some C → Isi G C) (M : MS G m H μ) (r : RW G m H v w) (h0 : ∃ t b, isTy μ w t = some b) :
    ∃ tv, (TyX G.K H v tv ∧ ∀ t u b, isTy μ w t = some b → TyR G t u → PySem.W.kitOne G.K tv u = some b) ∧ ((∃ n ∈ ["NoneType", "bool", "int", "str", "tuple", "list", "dict"], tv = .type n) ∨ ∃ c C, G.cls c = some C ∧ tv = .ref C) := by
  obtain ⟨t0, b0, e0⟩ := h0
  have bi : ∀ {n : String}, n ∈ ["NoneType", "bool", "int", "str", "tuple", "list", "dict"] → TyX G.K H v (.type n) → (∀ t, isTy μ w t = some (kitR n t)) → ∃ tv, (TyX G.K H v tv ∧ ∀ t u b, isTy μ w t = some b → TyR G t u → PySem.W.kitOne G.K tv u = some b) ∧ ((∃ n ∈ ["NoneType", "bool", "int", "str", "tuple", "list", "dict"], tv = .type n) ∨ ∃ c C, G.cls c = some C ∧ tv = .ref C) := fun hn hx hb => ⟨_, ⟨hx, fun t u b e ru => by rw [kit_of1 hn ru, ← hb t, e]⟩, .inl ⟨_, hn, rfl⟩⟩
  have own : ∀ {c : Nat} {a C dx : Addr} {vfs : List (Str × V)}, v = .ref a → H a = some (.ins C dx vfs) → G.cls c = some C → (∀ t, isTy μ w t = if t = .cls c then some true else none) → ∃ tv, (TyX G.K H v tv ∧ ∀ t u b, isTy μ w t = some b → TyR G t u → PySem.W.kitOne G.K tv u = some b) ∧ ((∃ n ∈ ["NoneType", "bool", "int", "str", "tuple", "list", "dict"], tv = .type n) ∨ ∃ c C, G.cls c = some C ∧ tv = .ref C) := by
    intro c a C dx vfs ev h1 h2 h3
    have j := hI _ _ h2
    refine ⟨.ref C, ⟨ev ▸ .base (.ins h1 j.cl j.ha j.hn j.htk j.hm), fun t u b e ru => ?_⟩, .inr ⟨c, C, h2, rfl⟩⟩
    rw [h3] at e
    split at e
    · rename_i ht
      cases e
      subst ht
      cases ru with
      | bi h => exact (h _ rfl).elim
      | own h i =>
        rw [h2] at h
        cases h
        exact kit_self
    · cases e
  cases w with
  | d x =>
    cases x with
    | non => obtain rfl := RV.non_ r; exact bi (n := "NoneType") (by decide) (.base .non) (fun t => by cases t <;> rfl)
    | bl b => obtain rfl := RV.bl_ r; exact bi (n := "bool") (by decide) (.base (.bl _)) (fun t => by cases t <;> rfl)
    | int b => obtain rfl := RV.int_ r; exact bi (n := "int") (by decide) (.base (.int _)) (fun t => by cases t <;> rfl)
    | str b => obtain rfl := RV.str_ r; exact bi (n := "str") (by decide) (.base (.str _)) (fun t => by cases t <;> rfl)
    | tup xs =>
      refine bi (n := "tuple") (by decide) ?_ (fun t => by cases t <;> rfl)
      cases r with
      | tup h _ _ =>
        rcases h with h | ⟨o, h⟩
        · exact .base (.tup h)
        · exact .fTuple h
      | tupK h _ => obtain ⟨o, its, n, h1, h2, _⟩ := h; exact .kTuple h1 h2
    | lst xs =>
      refine bi (n := "list") (by decide) ?_ (fun t => by cases t <;> rfl)
      cases r with
      | lst h _ _ =>
        rcases h with h | ⟨o, h⟩
        · exact .base (.lst h)
        · exact .base (.frz h)
    | dic xs =>
      refine bi (n := "dict") (by decide) ?_ (fun t => by cases t <;> rfl)
      cases r with
      | dic h _ _ _ =>
        rcases h with h | ⟨o, h⟩
        · exact .base (.dK h)
        · exact .fDict h
      | dicK h _ _ _ _ => obtain ⟨es, n, h1, _⟩ := h.at_; exact .kDict h1 rfl
    | ins c fs => cases r with | ins h1 _ hc _ _ => exact own rfl h1 hc fun t => rfl
  | own l =>
    simp only [isTy] at e0 bi own
    cases q : μ[l]? with
    | none => rw [q] at e0; cases e0
    | some o =>
      rw [q] at e0
      obtain ⟨as, ea, h⟩ := M.own q
      cases o with
      | dead => cases e0
      | lst cs =>
        obtain ⟨a, rr, vs, e1, h1, _⟩ := h
        subst e1
        exact bi (n := "list") (by decide) (r.2 a rr ea ▸ .base (.lst h1)) (fun t => by rw [q]; cases t <;> rfl)
      | dic kvs =>
        obtain ⟨a, vks, e1, h1, _⟩ := h
        subst e1
        exact bi (n := "dict") (by decide) (r.2 a [] ea ▸ .base (.dK h1)) (fun t => by rw [q]; cases t <;> rfl)
      | ins c fs =>
        obtain ⟨a, rr, C, dx, vfs, e1, hc, h1, _⟩ := h
        subst e1
        exact own (r.2 a rr ea) h1 hc (fun t => by rw [q])
  | ptr _ _ => cases e0
theorem ty_of {m : List (List Addr)} {H : Hp} {μ : Mem} {v : V} {w : W} (hI : ∀ c C, G.cls c = some C → Isi G C) (M : MS G m H μ) (r : RW G m H v w) (h0 : ∃ t b, isTy μ w t = some b) :
    ∃ tv, TyX G.K H v tv ∧ ∀ t u b, isTy μ w t = some b → TyR G t u → PySem.W.kitOne G.K tv u = some b := let ⟨tv, h, _⟩ := ty_of2 hI M r h0; ⟨tv, h⟩
theorem any_of2 {tv : Value} {μ : Mem} {w : W} (h : ∀ t u b, isTy μ w t = some b → TyR G t u → PySem.W.kitOne G.K tv u = some b) : ∀ {ts : List Ty} {us : List Value} {b : Bool}, isAny μ w ts = some b → Paired (TyR G) ts us → PySem.W.kitAny G.K tv us = some b
  | [], _, _, e, .nil => by cases e; rfl
  | t :: ts, _, b, e, .cons r rs => by
    unfold isAny at e
    cases q1 : isTy μ w t with
    | none => rw [q1] at e; cases e
    | some b1 =>
      cases q2 : isAny μ w ts with
      | none => rw [q1, q2] at e; cases e
      | some b2 =>
        rw [q1, q2] at e
        cases e
        unfold PySem.W.kitAny
        rw [h _ _ _ q1 r]
        cases b1 with
        | true => rfl
        | false => exact any_of2 h q2 rs
/-- a class' name in the text -/
def PTy (G : Glo) (X : Cx) (t : Ty) (e : Expr) : Prop := ∃ v u, PE X e (tC v) ∧ ClsV v u ∧ TyR G t u
theorem n_isi1 {t : Ty} {a c : Expr} (hK : X.K = G.K) (hI : ∀ c C, G.cls c = some C → Isi G C) (hg : Gl X "isinstance") (hmg : X.mg "isinstance" = none) (ha : PE X a (tE G Wx sa fa)) (hc : PTy G X t c)
    (h1 : starEach [a, c] X.env = (false, eval a X.env) :: starEach [c] X.env) (h2 : starEach [c] X.env = (false, eval c X.env) :: starEach [] X.env) :
    PE X (.Call (.Name "isinstance" p) [a, c] [] pos) (tE G Wx sa fun ρ μ => bnd (fa ρ μ) fun w μ => opt ((isAny μ w [t]).map fun k => .d (.bl k)) μ) := by
  obtain ⟨v, u, hv, cv, ty⟩ := hc
  refine PE.imp (pe_callB call_isi hg hmg (by decide +kernel) (pa_cons ha (pa_cons hv pa_nil h2) h1) (by decide) (by decide) h1 (by rw [h2]; rfl)) fun σ H Q ⟨m, ρ, μ, S, h⟩ => ?_
  refine ⟨m, ρ, μ, S, h.bnd (st2 := true) id (fun _ => rfl) fun x m1 H1 w μ1 M1 L1 r1 h3 => ?_⟩
  obtain ⟨z, e, h4⟩ := h3.optd
  cases q : isAny μ1 w [t] with
  | none => rw [q] at e; cases e
  | some k =>
    rw [q] at e
    cases e
    have q' : isTy μ1 w t = some k := by
      unfold isAny at q
      cases q1 : isTy μ1 w t with
      | none => rw [q1] at q; cases q
      | some b1 => rw [q1] at q; cases q; simp
    obtain ⟨tv, t1, t2⟩ := ty_of hI M1 r1 ⟨_, _, q'⟩
    exact ⟨x, v, tv, u, k, rfl, cv, hK ▸ t1, hK ▸ t2 _ _ _ q' ty, h4.now M1 (.bl _)⟩
end
end Mp
set_option Elab.async false
set_option linter.all false
set_option maxRecDepth 100000
set_option maxHeartbeats 1000000
/-! Mp: built-in functions. -/
namespace Mp
open PySem PySem.Spec PyProof.Rows L2
section
variable {G : Glo} {X : Cx} {Wx : WX} {st sa sb sc : Bool} {fa fb fc : Env → Mem → Ans W} {fs : Env → Mem → Ans (List W)} {e o : Expr} {es : List Expr} {cf : Nat → List W → Mem → Ans W}
variable {p pos apos : Pos}
inductive PTys (G : Glo) (X : Cx) : List Ty → List Expr → Prop
  | nil : PTys G X [] []
  | cons {t : Ty} {ts : List Ty} {e : Expr} {es : List Expr} (h : PTy G X t e) (hs : starEach (e :: es) X.env = (false, eval e X.env) :: starEach es X.env) (r : PTys G X ts es) : PTys G X (t :: ts) (e :: es)
theorem ptys_pa : ∀ {ts : List Ty} {es : List Expr}, PTys G X ts es → ∃ (vs : List V) (us : List Value), PA X es (fun _ H Q => Q vs H) ∧ Paired ClsV vs us ∧ Paired (TyR G) ts us
  | _, _, .nil => ⟨[], [], pa_nil, .nil, .nil⟩
  | _, _, .cons ⟨v, u, h1, h2, h3⟩ hs r => by
    obtain ⟨vs, us, g1, g2, g3⟩ := ptys_pa r
    exact ⟨v :: vs, u :: us, PA.imp (pa_cons h1 g1 hs) fun _ _ _ q => q, .cons h2 g2, .cons h3 g3⟩
theorem n_isiT {ts : List Ty} {a : Expr} {cs : List Expr} {kk : Nat} {tpos : Pos} (hK : X.K = G.K) (hI : ∀ c C, G.cls c = some C → Isi G C) (hg : Gl X "isinstance") (hmg : X.mg "isinstance" = none) (ha : PE X a (tE G Wx sa fa)) (hc : PTys G X ts cs) (hne : ts ≠ []) (hlen : ts.length ≤ 10)
    (h1 : starEach [a, .Tuple cs kk tpos] X.env = (false, eval a X.env) :: starEach [.Tuple cs kk tpos] X.env) :
    PE X (.Call (.Name "isinstance" p) [a, .Tuple cs kk tpos] [] pos) (tE G Wx sa fun ρ μ => bnd (fa ρ μ) fun w μ => opt ((isAny μ w ts).map fun k => .d (.bl k)) μ) := by
  obtain ⟨vs, us, g1, g2, g3⟩ := ptys_pa hc
  refine PE.imp (pe_callB call_isiT hg hmg (by decide +kernel) (pa_cons ha (pa_cons (pe_tup g1) pa_nil rfl) h1) (by decide) (by decide) h1 rfl) fun σ H Q ⟨m, ρ, μ, S, h⟩ => ?_
  refine ⟨m, ρ, μ, S, h.bnd (st2 := true) id (fun _ => rfl) fun x m1 H1 w μ1 M1 L1 r1 h3 => ?_⟩
  obtain ⟨z, e, h4⟩ := h3.optd
  cases q : isAny μ1 w ts with
  | none => rw [q] at e; cases e
  | some k =>
    rw [q] at e
    cases e
    have hl : vs.length ≤ 10 := by rw [g2.length, ← g3.length]; exact hlen
    refine ⟨by rw [sizeLine_eq]; omega, fun p hp => ?_⟩
    have h0 : ∃ t b, isTy μ1 w t = some b := by
      cases ts with
      | nil => exact (hne rfl).elim
      | cons t ts =>
        unfold isAny at q
        cases q1 : isTy μ1 w t with
        | none => rw [q1] at q; cases q
        | some b => exact ⟨t, b, q1⟩
    have L2 : Lat true m1 H1 m1 (upd H1 p (.tup vs)) := lat_new hp
    have nw : npt w := by
      obtain ⟨t, b, e⟩ := h0
      cases w <;> first | trivial | cases e
    obtain ⟨tv, t1, t2⟩ := ty_of hI (M1.new hp) (r1.later L2 (.inl nw)) h0
    exact ⟨x, p, vs, tv, us, k, rfl, upd_same, g2, hK ▸ t1, hK ▸ any_of2 t2 q g3, h4.lay M1 hp (.bl _)⟩
/-! ### functions of values -/
def rBl (G : Glo) (g : Mem → List W → Option D) : List V → Hp → VK → Prop := fun xs H Q => ∃ m μ ws d, MS G m H μ ∧ RWs G m H xs ws ∧ g μ ws = some d ∧ ∀ v m' H', MS G m' H' μ → Lat true m H m' H' → RV G m'.flatten H' v d → Q v H'
theorem one_arg {m : List (List Addr)} {H : Hp} {xs : List V} {w : W} (r : RWs G m H xs [w]) : ∃ x, xs = [x] ∧ RW G m H x w := by
  cases r with
  | cons a t => cases t; exact ⟨_, rfl, a.2⟩
theorem two_args {m : List (List Addr)} {H : Hp} {xs : List V} {w u : W} (r : RWs G m H xs [w, u]) : ∃ x y, xs = [x, y] ∧ RW G m H x w ∧ RW G m H y u := by
  cases r with
  | cons a t =>
    obtain ⟨y, rfl, h⟩ := one_arg t
    exact ⟨_, _, rfl, a.2, h⟩
theorem len_dict {kvs : List (Key × V)} : CallR X (.builtin "len") (fun xs H Q => ∃ a kvs, xs = [.ref a] ∧ Rd H a (.dK kvs) ∧ Q (.int kvs.length) H) := by
  intro pins s σ H xs us Q I r ⟨a, kvs, e, h, q⟩
  subst e
  obtain rfl := Vals.ref1 r
  exact d_len I h fun t s' I' => ⟨.int _, H, I', ⟨t, rfl⟩, q⟩
theorem kys_length {α : Type} {vks : List (Key × α)} {kvs : List (D × D)} (h : Kys (vks.map (·.1)) (kvs.map (·.1))) : vks.length = kvs.length := by
  unfold Kys at h
  have := congrArg List.length h
  simpa using this.symm
theorem bl_len (hK : X.K = G.K) : CallR X (.builtin "len") (rBl G fun μ ws => match ws with | [.d (.dic _)] => none | _ => b_len μ ws) := by
  intro pins s σ H xs us Q I r ⟨m, μ, ws, d, M, rw', e, q⟩
  dsimp only at e
  split at e
  · cases e
  rename_i hnd
  unfold b_len at e
  split at e
  all_goals first | (cases e; done) | skip
  rename_i w
  obtain ⟨x, rfl, rx⟩ := one_arg rw'
  split at e
  · split at e
    · rename_i s0 hl
      cases e
      obtain rfl := RV.str_ rx
      refine call_len_str pins s σ H _ us Q I r ⟨_, rfl, by rw [toS_length, ← lim_eq]; exact hl, ?_⟩
      rw [toS_length]
      exact q _ m H M .refl (.int _)
    · cases e
  · exact (hnd _ rfl).elim
  · rename_i l
    cases eo : μ[l]? with
    | none => rw [eo] at e; cases e
    | some ob =>
      rw [eo] at e
      obtain ⟨as, ea, h⟩ := M.own eo
      cases ob with
      | dead => cases e
      | ins _ _ => cases e
      | dic kvs =>
        cases e
        obtain ⟨a, vks, e0, h1, h2, _⟩ := h
        subst e0
        obtain rfl := rx.2 a [] ea
        refine len_dict (kvs := vks) pins s σ H _ us Q I r ⟨a, vks, rfl, .inl h1, ?_⟩
        rw [kys_length h2]
        exact q _ m H M .refl (.int _)
      | lst cs =>
        cases e
        obtain ⟨a, rr, vs, e0, h1, h2⟩ := h
        subst e0
        obtain rfl := rx.2 a rr ea
        refine call_len_seq pins s σ H _ us Q I r ⟨a, vs, rfl, .inl (.inl (.inl h1)), ?_⟩
        rw [h2.length]
        exact q _ m H M .refl (.int _)
  · split at e
    · rename_i ys hy
      cases e
      obtain ⟨a, vs, rfl, h1, h2⟩ := rx.seq_ M hy
      refine call_len_seq pins s σ H _ us Q I r ⟨a, vs, rfl, hK ▸ h1, ?_⟩
      rw [h2.length]
      exact q _ m H M .refl (.int _)
    · cases e
theorem bl_int : CallR X (.type "int") (rBl G b_int) := by
  intro pins s σ H xs us Q I r ⟨m, μ, ws, d, M, rw', e, q⟩
  unfold b_int at e
  split at e
  all_goals first | (cases e; done) | skip
  · cases e
    obtain ⟨x, rfl, rx⟩ := one_arg rw'
    obtain rfl := RV.int_ rx
    exact call_int1 pins s σ H _ us Q I r (.inl ⟨_, rfl, q _ m H M .refl (.int _)⟩)
  · cases e
    obtain ⟨x, rfl, rx⟩ := one_arg rw'
    obtain rfl := RV.bl_ rx
    exact call_int1 pins s σ H _ us Q I r (.inr ⟨_, rfl, q _ m H M .refl (.int _)⟩)
theorem bl_tuple (hK : X.K = G.K) : CallR X (.type "tuple") (rBl G b_tuple) := by
  intro pins s σ H xs us Q I r ⟨m, μ, ws, d, M, rw', e, q⟩
  unfold b_tuple at e
  split at e
  all_goals first | (cases e; done) | skip
  rename_i w
  obtain ⟨x, rfl, rx⟩ := one_arg rw'
  cases hy : asS μ w with
  | none => rw [hy] at e; cases e
  | some ys =>
    rw [hy] at e
    cases e
    by_cases ht : ∃ zs, w = .d (.tup zs)
    · obtain ⟨zs, rfl⟩ := ht
      cases hy
      have rx' := rx
      obtain ⟨a, vs, rfl, h1, h2⟩ := RV.tup_ rx
      exact call_tuple_of pins s σ H _ us Q I r ⟨a, vs, rfl, .inr ⟨hK ▸ h1, q _ m H M .refl rx'⟩⟩
    · have hl : asL μ w = some ys := by
        unfold asS at hy
        split at hy
        · exact (ht ⟨_, rfl⟩).elim
        · exact hy
      obtain ⟨a, vs, rfl, h1, h2⟩ := RW.lst_ M rx hl
      exact call_tuple_of pins s σ H _ us Q I r ⟨a, vs, rfl, .inl ⟨.inl h1, fun p hp => q _ m _ (M.new hp) (lat_new hp) (.tup (.inl upd_same) (M.free hp) (h2.mono (keep_new hp)))⟩⟩
theorem bl_min2 (hc : X.calm = true) : CallR X (.builtin "min") (rBl G b_min2) := by
  intro pins s σ H xs us Q I r ⟨m, μ, ws, d, M, rw', e, q⟩
  unfold b_min2 at e
  split at e
  all_goals first | (cases e; done) | skip
  cases e
  obtain ⟨x, y, rfl, rx, ry⟩ := two_args rw'
  obtain rfl := RV.int_ rx
  obtain rfl := RV.int_ ry
  exact call_min2 hc pins s σ H _ us Q I r ⟨_, _, rfl, q _ m H M .refl (.int _)⟩
theorem bl_max2 (hc : X.calm = true) : CallR X (.builtin "max") (rBl G b_max2) := by
  intro pins s σ H xs us Q I r ⟨m, μ, ws, d, M, rw', e, q⟩
  unfold b_max2 at e
  split at e
  all_goals first | (cases e; done) | skip
  cases e
  obtain ⟨x, y, rfl, rx, ry⟩ := two_args rw'
  obtain rfl := RV.int_ rx
  obtain rfl := RV.int_ ry
  exact call_max2 hc pins s σ H _ us Q I r ⟨_, _, rfl, q _ m H M .refl (.int _)⟩
theorem ints_of {O : List Addr} {H : Hp} : ∀ {vs : List V} {xs : List D} {ns : List Int}, RVs G O H vs xs → toInts xs = some ns → vs = ns.map V.int
  | _, [], _, .nil, e => by cases e; rfl
  | _, x :: xs, ns, .cons a b, e => by
    cases x <;> first | cases e | skip
    unfold toInts at e
    cases q : toInts xs with
    | none => rw [q] at e; cases e
    | some ms =>
      rw [q] at e
      cases e
      rw [RV.int_ a, ints_of b q]
      rfl
theorem bools_of {O : List Addr} {H : Hp} : ∀ {vs : List V} {xs : List D} {ns : List Bool}, RVs G O H vs xs → toBools xs = some ns → vs = ns.map V.bl
  | _, [], _, .nil, e => by cases e; rfl
  | _, x :: xs, ns, .cons a b, e => by
    cases x <;> first | cases e | skip
    unfold toBools at e
    cases q : toBools xs with
    | none => rw [q] at e; cases e
    | some ms =>
      rw [q] at e
      cases e
      rw [RV.bl_ a, bools_of b q]
      rfl
theorem minI_ok : ∀ {ns : List Int} {k : Int}, minI ns = some k → k ∈ ns ∧ ∀ y ∈ ns, k ≤ y
  | [x], k, e => by cases e; exact ⟨List.mem_cons_self, fun y hy => by simp at hy; omega⟩
  | x :: y :: r, k, e => by
    unfold minI at e
    cases q : minI (y :: r) with
    | none => rw [q] at e; cases e
    | some m =>
      rw [q] at e
      obtain ⟨h1, h2⟩ := minI_ok q
      simp only [Option.some.injEq] at e
      subst e
      by_cases c : m < x
      · rw [if_pos c]
        exact ⟨List.mem_cons_of_mem _ h1, fun z hz => by
          rcases List.mem_cons.mp hz with rfl | hz
          · omega
          · exact h2 z hz⟩
      · rw [if_neg c]
        exact ⟨List.mem_cons_self, fun z hz => by
          rcases List.mem_cons.mp hz with rfl | hz
          · omega
          · have := h2 z hz; omega⟩
theorem bl_minL (hK : X.K = G.K) (hc : X.calm = true) : CallR X (.builtin "min") (rBl G b_minL) := by
  intro pins s σ H xs us Q I r ⟨m, μ, ws, d, M, rw', e, q⟩
  unfold b_minL at e
  split at e
  all_goals first | (cases e; done) | skip
  rename_i w
  obtain ⟨x, rfl, rx⟩ := one_arg rw'
  split at e
  · rename_i ys hy
    split at e
    · rename_i ns hn
      cases hk : minI ns with
      | none => rw [hk] at e; cases e
      | some k =>
        rw [hk] at e
        cases e
        obtain ⟨a, vs, rfl, h1, h2⟩ := RW.lst_ M rx hy
        obtain rfl := ints_of h2 hn
        obtain ⟨k1, k2⟩ := minI_ok hk
        have hpos : 0 < ns.length := List.length_pos_of_mem k1
        refine cr_min hc pins s σ H _ us Q I r ⟨a, ns, rfl, .inl h1, hpos, fun z hz hz2 => ?_⟩
        have : z = k := by have a1 := k2 z hz; have a2 := hz2 k k1; omega
        subst this
        exact q _ m H M .refl (.int _)
    · cases e
  · cases e
theorem bl_sum (hK : X.K = G.K) (hc : X.calm = true) : CallR X (.builtin "sum") (rBl G b_sum) := by
  intro pins s σ H xs us Q I r ⟨m, μ, ws, d, M, rw', e, q⟩
  unfold b_sum at e
  split at e
  all_goals first | (cases e; done) | skip
  rename_i w
  obtain ⟨x, rfl, rx⟩ := one_arg rw'
  split at e
  · rename_i ys hy
    split at e
    · rename_i ns hn
      cases e
      obtain ⟨a, vs, rfl, h1, h2⟩ := RW.lst_ M rx hy
      obtain rfl := ints_of h2 hn
      exact cr_sum hc pins s σ H _ us Q I r ⟨a, ns, rfl, .inl h1, q _ m H M .refl (.int _)⟩
    · cases e
  · cases e
theorem bl_any (hK : X.K = G.K) (hc : X.calm = true) : CallR X (.builtin "any") (rBl G b_any) := by
  intro pins s σ H xs us Q I r ⟨m, μ, ws, d, M, rw', e, q⟩
  unfold b_any at e
  split at e
  all_goals first | (cases e; done) | skip
  rename_i w
  obtain ⟨x, rfl, rx⟩ := one_arg rw'
  split at e
  · rename_i ys hy
    split at e
    · rename_i ns hn
      cases e
      obtain ⟨a, vs, rfl, h1, h2⟩ := RW.lst_ M rx hy
      obtain rfl := bools_of h2 hn
      exact cr_any hc pins s σ H _ us Q I r ⟨a, ns, rfl, .inl h1, q _ m H M .refl (.bl _)⟩
    · cases e
  · cases e
theorem bl_all (hK : X.K = G.K) (hc : X.calm = true) : CallR X (.builtin "all") (rBl G b_all) := by
  intro pins s σ H xs us Q I r ⟨m, μ, ws, d, M, rw', e, q⟩
  unfold b_all at e
  split at e
  all_goals first | (cases e; done) | skip
  rename_i w
  obtain ⟨x, rfl, rx⟩ := one_arg rw'
  split at e
  · rename_i ys hy
    split at e
    · rename_i ns hn
      cases e
      obtain ⟨a, vs, rfl, h1, h2⟩ := RW.lst_ M rx hy
      obtain rfl := bools_of h2 hn
      exact cr_all hc pins s σ H _ us Q I r ⟨a, ns, rfl, .inl h1, q _ m H M .refl (.bl _)⟩
    · cases e
  · cases e
theorem toS_int (i : Int) : toS (toString i) = (Str.ofString (toString i)) := rfl
theorem log2_small {n : Nat} (h : n < 2 ^ 512) : n.log2 < 1920 := by
  by_cases h0 : n = 0
  · rw [h0]; decide
  · have := (Nat.log2_lt h0 (k := 512)).mpr h
    omega
theorem bl_str : CallR X (.type "str") (rBl G b_str) := by
  intro pins s σ H xs us Q I r ⟨m, μ, ws, d, M, rw', e, q⟩
  unfold b_str at e
  split at e
  all_goals first | (cases e; done) | skip
  split at e
  · rename_i hl
    cases e
    obtain ⟨x, rfl, rx⟩ := one_arg rw'
    obtain rfl := RV.int_ rx
    refine call_str_int pins s σ H _ us Q I r ⟨_, rfl, ?_, q _ m H M .refl (.str _)⟩
    exact log2_small hl
  · cases e
end
end Mp
set_option Elab.async false
set_option linter.all false
set_option maxRecDepth 100000
set_option maxHeartbeats 1000000
/-! Mp: targets, loops, statements. -/
namespace Mp
open PySem PySem.Spec PyProof.Rows L2
theorem PG.imp {X : Cx} {e : Expr} {t t' : TG} (h : PG X e t) (k : ∀ v σ H Q, t' v σ H Q → t v σ H Q) : PG X e t' := ⟨fun pins s σ H v u Q I r q => h.run pins s σ H v u Q I r (k _ _ _ _ q)⟩
theorem PGs.imp {X : Cx} {e : List Expr} {t t' : TGs} (h : PGs X e t) (k : ∀ v σ H Q, t' v σ H Q → t v σ H Q) : PGs X e t' := ⟨fun pins s σ H v u Q I r q => h.run pins s σ H v u Q I r (k _ _ _ _ q)⟩
theorem PS.imp {X : Cx} {e : Stmt} {t t' : TS} (h : PS X e t) (k : ∀ D σ H, t' D σ H → t D σ H) : PS X e t' := ⟨fun pins s σ H D I q => h.run pins s σ H D I (k _ _ _ q)⟩
theorem PSs.imp {X : Cx} {e : List Stmt} {t t' : TS} (h : PSs X e t) (k : ∀ D σ H, t' D σ H → t D σ H) : PSs X e t' := ⟨fun pins s σ H D I q => h.run pins s σ H D I (k _ _ _ q)⟩
section
variable {G : Glo} {X : Cx} {Wx : WX} {st sa sb : Bool}
/-- the slots of a target -/
def tvs : Tg → List Nat
  | .var i => [i]
  | .nil => []
  | .cons a b => tvs a ++ tvs b
/-- what is stored to t is forgotten where t's slots are -/
def Eqw (t : Tg) (σ σ' : L2.St) : Prop := ∀ vs : List Nat, (∀ i ∈ tvs t, i ∈ vs) → L2.wipe σ' vs = L2.wipe σ vs
theorem wipe_set {v : Option V} : ∀ {vs : List Nat} {σ : L2.St} {i : Nat}, i ∈ vs → L2.wipe (σ.set i v) vs = L2.wipe σ vs
  | [], _, _, h => nomatch h
  | j :: vs, σ, i, h => by
    unfold L2.wipe
    by_cases e : i ∈ vs
    · rw [wipe_set e]
    · obtain rfl : i = j := (List.mem_cons.mp h).resolve_right e
      have : L2.wipe (σ.set i v) vs = (L2.wipe σ vs).set i v := wipe_comm e
      rw [this, List.set_set]
where wipe_comm {v : Option V} : ∀ {vs : List Nat} {σ : L2.St} {i : Nat}, i ∉ vs → L2.wipe (σ.set i v) vs = (L2.wipe σ vs).set i v
  | [], _, _, _ => rfl
  | j :: vs, σ, i, h => by
    unfold L2.wipe
    rw [wipe_comm (fun z => h (List.mem_cons_of_mem _ z)), List.set_comm _ _ (show i ≠ j from fun z => h (by rw [z]; exact List.mem_cons_self))]
/-- a store -/
def gT (G : Glo) (t : Tg) : TG := fun v σ H Q => ∃ m ρ μ x ρ', Sim G m σ H ρ μ ∧ RV G m.flatten H v x ∧ asgR t (.inl x) ρ = some ρ' ∧ ∀ σ', Eqw t σ σ' → Sim G m σ' H ρ' μ → Q σ' H
def gR (G : Glo) (t : Tg) : TGs := fun vs σ H Q => ∃ m ρ μ xs ρ', Sim G m σ H ρ μ ∧ RVs G m.flatten H vs xs ∧ asgR t (.inr xs) ρ = some ρ' ∧ ∀ σ', Eqw t σ σ' → Sim G m σ' H ρ' μ → Q σ' H
theorem Sim.set {m : List (List Addr)} {σ : L2.St} {H : Hp} {ρ : Env} {μ : Mem} (S : Sim G m σ H ρ μ) {i : Nat} {v : V} {w : W} (n : npt w) (r : RW G m H v w) : Sim G m (σ.set i (some v)) H (ρ.set i (some w)) μ := by
  refine ⟨S.ms, by simpa using S.len, fun j w' e => ?_⟩
  by_cases hj : j = i
  · subst hj
    have hl : j < ρ.length := by
      have := (List.getElem?_eq_some_iff.mp e).1
      simpa using this
    rw [List.getElem?_set_self hl] at e
    cases e
    exact ⟨n, v, by rw [List.getElem?_set_self (by rw [S.len]; exact hl)], r⟩
  · rw [List.getElem?_set_ne (Ne.symm hj)] at e ⊢
    exact S.env j w' e
theorem Sim.unset {m : List (List Addr)} {σ : L2.St} {H : Hp} {ρ : Env} {μ : Mem} (S : Sim G m σ H ρ μ) {i : Nat} : Sim G m (σ.set i none) H (ρ.set i none) μ := by
  refine ⟨S.ms, by simpa using S.len, fun j w' e => ?_⟩
  by_cases hj : j = i
  · subst hj
    have hl : j < ρ.length := by
      have := (List.getElem?_eq_some_iff.mp e).1
      simpa using this
    rw [List.getElem?_set_self hl] at e
    cases e
  · rw [List.getElem?_set_ne (Ne.symm hj)] at e ⊢
    exact S.env j w' e
theorem g_var {i : Nat} {x : Str} {pos : Pos} (hN : X.N.Nodup) (hi : X.N[i]? = some x) (hx : Loc X.env.scope x) (hf : X.fn x = true ∨ X.env.scope.names.lookup x = some .local) : PG X (.Name x pos) (gT G (.var i)) := by
  refine PG.imp (pg_name hN hi hx hf) fun v σ H Q ⟨m, ρ, μ, d, ρ', S, r, e, k⟩ => ?_
  unfold asgR at e
  split at e
  · cases e
    exact k _ (fun vs h => wipe_set (h i List.mem_cons_self)) (S.set (w := .d d) trivial r)
  · cases e
theorem g_nil : PGs X [] (gR G .nil) := by
  refine PGs.imp pgs_nil fun vs σ H Q ⟨m, ρ, μ, xs, ρ', S, r, e, k⟩ => ?_
  cases r with
  | nil => cases e; exact ⟨rfl, k _ (fun _ _ => rfl) S⟩
  | cons _ _ => cases e
theorem g_cons {a b : Tg} {e : Expr} {es : List Expr} (h1 : PG X e (gT G a)) (h2 : PGs X es (gR G b)) (hs : (assignEach (e :: es) X.env).map (·.2) = assign e X.env :: (assignEach es X.env).map (·.2)) : PGs X (e :: es) (gR G (.cons a b)) := by
  refine PGs.imp (pgs_cons h1 h2 hs) fun vs σ H Q ⟨m, ρ, μ, xs, ρ', S, r, e, k⟩ => ?_
  cases r with
  | nil => cases e
  | cons r1 r2 =>
    unfold asgR at e
    split at e
    · rename_i ρ1 e1
      exact ⟨_, _, rfl, m, ρ, μ, _, ρ1, S, r1, e1, fun σ' q1 S' => ⟨m, ρ1, μ, _, ρ', S', r2, e, fun σ2 q2 S2 => k σ2 (fun vs h => (q2 vs fun i hi => h i (List.mem_append_right _ hi)).trans (q1 vs fun i hi => h i (List.mem_append_left _ hi))) S2⟩⟩
    · cases e
theorem pg_or {e : Expr} {t t' : TG} (h : PG X e t) (h' : PG X e t') : PG X e (fun v σ H Q => t v σ H Q ∨ t' v σ H Q) :=
  ⟨fun pins s σ H v u Q I r q => q.elim (h.run pins s σ H v u Q I r) (h'.run pins s σ H v u Q I r)⟩
theorem g_tup {a b : Tg} {es : List Expr} {k : Nat} {pos : Pos} {n : Nat} (hK : X.K = G.K) (hc : X.calm = true) (h : PGs X es (gR G (.cons a b))) (hn : (assignEach es X.env).length = n) (hl : ∀ xs ρ ρ', asgR (.cons a b) (.inr xs) ρ = some ρ' → xs.length = n) (hst : (assignEach es X.env).findIdx? (·.1) = none) :
    PG X (.Tuple es k pos) (gT G (.cons a b)) := by
  refine PG.imp (pg_or (pg_tup hc h hn hst) (pg_lst hc h hn hst)) fun v σ H Q ⟨m, ρ, μ, d, ρ', S, r, e, kk⟩ => ?_
  cases d with
  | tup xs =>
    have e' : asgR (.cons a b) (.inr xs) ρ = some ρ' := by
      cases xs with
      | nil => cases e
      | cons x xs => exact e
    obtain ⟨p, vs, rfl, h1, h2⟩ := RV.tup_ r
    exact .inl ⟨p, vs, rfl, hK ▸ h1, by rw [h2.length]; exact hl _ _ _ e', m, ρ, μ, xs, ρ', S, h2, e', kk⟩
  | lst xs =>
    have e' : asgR (.cons a b) (.inr xs) ρ = some ρ' := by
      cases xs with
      | nil => cases e
      | cons x xs => exact e
    obtain ⟨p, vs, rfl, h1, h2⟩ := RV.lst_ r
    exact .inr ⟨p, vs, rfl, .inl h1, by rw [h2.length]; exact hl _ _ _ e', m, ρ, μ, xs, ρ', S, h2, e', kk⟩
  | _ => cases e
/-! ### what an iterator yields -/
def JR (G : Glo) (m : List (List Addr)) (H : Hp) (J : L2.It) (xs : List D) : Prop := ∀ m' H' μ', Keep m.flatten m'.flatten H H' → MS G m' H' μ' →
  (∀ (i : Nat) (x : D), xs[i]? = some x → J.go i H' ∧ ∀ v H'', J.yld i H' v H'' → MS G m' H'' μ' ∧ Lat true m' H' m' H'' ∧ RV G m'.flatten H'' v x) ∧ J.stop xs.length H'
abbrev tI (G : Glo) (Wx : WX) (st : Bool) (f : Env → Mem → Ans (List D)) : TI := tG G Wx (JR G) st f
theorem PI.imp {X : Cx} {tg e : Expr} {t t' : TI} (h : PI X tg e t) (k : ∀ σ H Q, t' σ H Q → t σ H Q) : PI X tg e t' := ⟨fun pins s σ H Q I q => h.run pins s σ H Q I (k _ _ _ q)⟩
theorem jr_list {m : List (List Addr)} {H : Hp} {a : Addr} {vs : List V} {xs : List D} (hr : Rd H a (.lst vs)) (hn : a ∉ m.flatten) (r : RVs G m.flatten H vs xs) : JR G m H (Itl G.K a) xs := by
  intro m' H' μ' L M
  have h1 := (L.rd hr hn).1
  have h2 := r.mono L
  refine ⟨fun i x e => ?_, ⟨vs, .inl h1, by rw [h2.length]; exact Nat.le_refl _⟩⟩
  obtain ⟨v, e1, rv⟩ := h2.get e
  refine ⟨⟨vs, v, .inl h1, e1⟩, fun v' H'' ⟨e2, q⟩ => ?_⟩
  subst e2
  have := q vs (.inl h1)
  rw [e1] at this
  cases this
  exact ⟨M, .refl, rv⟩
theorem SqT.later {K : PySem.W.Frag} {m m' : List (List Addr)} {H H' : Hp} {a : Addr} {vs : List V} (L : Keep m.flatten m'.flatten H H') (h : (Rd H a (.tup vs) ∧ a ∉ m.flatten) ∨ KT G a vs) : (Rd H' a (.tup vs) ∧ a ∉ m'.flatten) ∨ KT G a vs :=
  h.imp (fun ⟨h1, h2⟩ => L.rd h1 h2) id
theorem RV.tup2 {O : List Addr} {H : Hp} {v : V} {xs : List D} (h : RV G O H v (.tup xs)) : ∃ a vs, v = .ref a ∧ ((Rd H a (.tup vs) ∧ a ∉ O) ∨ KT G a vs) ∧ RVs G O H vs xs := by
  cases h with
  | tup r n h => exact ⟨_, _, rfl, .inl ⟨r, n⟩, h⟩
  | tupK r h => exact ⟨_, _, rfl, .inr r, h⟩
theorem sqt_of {O : List Addr} {H : Hp} {a : Addr} {vs : List V} (h : (Rd H a (.tup vs) ∧ a ∉ O) ∨ KT G a vs) : SqT G.K H a vs := h.imp (·.1) id
theorem jr_tup {m : List (List Addr)} {H : Hp} {a : Addr} {vs : List V} {xs : List D} (hr : (Rd H a (.tup vs) ∧ a ∉ m.flatten) ∨ KT G a vs) (r : RVs G m.flatten H vs xs) : JR G m H (Itt G.K a) xs := by
  intro m' H' μ' L M
  have h1 := SqT.later (K := G.K) L hr
  have h2 := r.mono L
  have h3 := sqt_of h1
  refine ⟨fun i x e => ?_, ⟨vs, h3, by rw [h2.length]; exact Nat.le_refl _⟩⟩
  obtain ⟨v, e1, rv⟩ := h2.get e
  refine ⟨⟨vs, v, h3, e1⟩, fun v' H'' ⟨e2, q⟩ => ?_⟩
  subst e2
  have := q vs h3
  rw [e1] at this
  cases this
  exact ⟨M, .refl, rv⟩
theorem jr_rng {m : List (List Addr)} {H : Hp} {lo : Int} {n : Nat} : JR G m H (Itr lo n) ((List.range n).map fun (k : Nat) => .int (lo + (k : Int))) := by
  intro m' H' μ' L M
  refine ⟨fun i x e => ?_, by show n ≤ _; simp⟩
  rw [List.getElem?_map] at e
  have hi : i < n := by
    by_cases h : i < n
    · exact h
    · rw [List.getElem?_eq_none (by simpa using h)] at e; cases e
  rw [List.getElem?_range hi] at e
  cases e
  refine ⟨hi, fun v H'' ⟨e2, e3⟩ => ?_⟩
  subst e2
  subst e3
  exact ⟨M, .refl, .int _⟩
theorem jr_str {m : List (List Addr)} {H : Hp} {s : String} : JR G m H (Its (toS s)) (s.toList.map fun c => .str (String.ofList [c])) := by
  intro m' H' μ' L M
  have hsz : (toS s).cps.size = s.toList.length := by rw [toS_cps]; simp
  refine ⟨fun i x e => ?_, by show (toS s).cps.size ≤ _; rw [hsz]; simp⟩
  rw [List.getElem?_map] at e
  cases q : s.toList[i]? with
  | none => rw [q] at e; cases e
  | some c =>
    rw [q] at e
    cases e
    have hi := (List.getElem?_eq_some_iff.mp q).1
    refine ⟨by show i < _; rw [hsz]; exact hi, fun v H'' ⟨e2, ch, e3, e4⟩ => ?_⟩
    subst e2
    subst e4
    rw [toS_cps] at e3
    have : ch = c.toNat := by
      simp only [List.getElem?_toArray, List.getElem?_map, q] at e3
      cases e3
      rfl
    subst this
    rw [← toS_one]
    exact ⟨M, .refl, .str _⟩
/-! ### statements -/
def xK (G : Glo) (Wx : WX) (D : Ends) (m : List (List Addr)) (H : Hp) (r : XA) : Prop :=
  ∃ o ρ' μ', r = some (o, ρ', μ') ∧ ∀ m' H' σ', Sim G m' σ' H' ρ' μ' → Lat false m H m' H' → match o with
    | .nx => D.nx σ' H'
    | .bk => D.bk σ' H'
    | .ct => D.ct σ' H'
    | .rt w => ∀ v, RW G m' H' v w → D.rt v H'
    | .ex e => ∀ C d, G.xcl e.cls = some C → XR G m'.flatten H' d e → Wx (.ref C) d σ' H'
def tX (G : Glo) (Wx : WX) (f : Env → Mem → XA) : TS := fun D σ H => ∃ m ρ μ, Sim G m σ H ρ μ ∧ xK G Wx D m H (f ρ μ)
variable {α β : Type} {Rel : List (List Addr) → Hp → β → α → Prop} {m : List (List Addr)} {H : Hp} {μ : Mem} {σ : L2.St} {ρ : Env} {D : Ends}
theorem xK.none_ (h : xK G Wx D m H none) : False := by obtain ⟨_, _, _, e, _⟩ := h; cases e
/-- an expression, then the rest -/
theorem xK.xb {x : Ans α} {f : α → Mem → XA} {Q : β → Hp → Prop} (S : Sim G m σ H ρ μ) (h : xK G Wx D m H (xb x ρ f))
    (k : ∀ v m1 H1 w μ1, Sim G m1 σ H1 ρ μ1 → Lat st m H m1 H1 → Rel m1 H1 v w → xK G Wx D m1 H1 (f w μ1) → Q v H1) : tK G Wx Rel st x σ m H Q := by
  obtain ⟨o, ρ', μ', e, h⟩ := h
  cases x with
  | none => cases e
  | some p =>
    obtain ⟨r, μ1⟩ := p
    cases r with
    | exc e1 =>
      cases e
      exact ⟨_, _, rfl, fun m' H' C d M L hc hx => h m' H' σ (S.lat L M) L C d hc hx⟩
    | ok w =>
      refine ⟨_, _, rfl, fun v m1 H1 M1 L1 r1 => k v m1 H1 w μ1 (S.lat L1 M1) L1 r1 ⟨o, ρ', μ', e, fun m' H' σ' S' L' => h m' H' σ' S' ((L1.trans L').weak fun z => nomatch z)⟩⟩
theorem xbg_eq {s : Bool} {x : Ans W} {f : W → Mem → XA} {o : Out × Env × Mem} (h : xbg s x ρ f = some o) : Mp.xb x ρ f = some o ∧ ∀ w μ, x = some (.ok w, μ) → nop w = true ∨ s = true := by
  cases x with
  | none => cases h
  | some p =>
    obtain ⟨r, μ1⟩ := p
    cases r with
    | exc e1 => exact ⟨h, fun _ _ z => by cases z⟩
    | ok w =>
      by_cases c : (nop w || s) = true
      · refine ⟨?_, fun w' μ' z => ?_⟩
        · have : xbg s (some (.ok w, μ1)) ρ f = f w μ1 := if_pos c
          rw [this] at h
          exact h
        · cases z
          simpa using c
      · have : xbg s (some (.ok w, μ1)) ρ f = none := if_neg c
        rw [this] at h; cases h
theorem xK.xbg {s : Bool} {x : Ans W} {f : W → Mem → XA} {Q : V → Hp → Prop} (S : Sim G m σ H ρ μ) (h : xK G Wx D m H (xbg s x ρ f))
    (k : ∀ v m1 H1 w μ1, Sim G m1 σ H1 ρ μ1 → Lat st m H m1 H1 → (npt w ∨ s = true) → RW G m1 H1 v w → xK G Wx D m1 H1 (f w μ1) → Q v H1) : tK G Wx (RW G) st x σ m H Q := by
  obtain ⟨o, ρ', μ', e, h⟩ := h
  obtain ⟨e', n⟩ := xbg_eq e
  cases x with
  | none => cases e
  | some p =>
    obtain ⟨r, μ1⟩ := p
    cases r with
    | exc e1 =>
      cases e'
      exact ⟨_, _, rfl, fun m' H' C d M L hc hx => h m' H' σ (S.lat L M) L C d hc hx⟩
    | ok w =>
      refine ⟨_, _, rfl, fun v m1 H1 M1 L1 r1 => k v m1 H1 w μ1 (S.lat L1 M1) L1 ((n _ _ rfl).imp npt_of id) r1 ⟨o, ρ', μ', e', fun m' H' σ' S' L' => h m' H' σ' S' ((L1.trans L').weak fun z => nomatch z)⟩⟩
theorem xK.now (h : xK G Wx D m H (xnx ρ μ)) (S : Sim G m σ H ρ μ) : D.nx σ H := by
  obtain ⟨o, ρ', μ', e, h⟩ := h
  cases e
  exact h m H σ S .refl
/-- behind a change that is no step of the program's own -/
theorem xK.from {m0 : List (List Addr)} {H0 : Hp} {r : XA} (L : Lat st m0 H0 m H) (h : xK G Wx D m0 H0 r) : xK G Wx D m H r := by
  obtain ⟨o, ρ', μ', e, h⟩ := h
  exact ⟨o, ρ', μ', e, fun m' H' σ' S' L' => h m' H' σ' S' ((L.trans L').weak fun z => nomatch z)⟩
theorem x_nil : PSs X [] (tX G Wx fun ρ μ => xnx ρ μ) := PSs.imp pss_nil fun D σ H ⟨m, ρ, μ, S, h⟩ => h.now S
theorem x_cons {s : Stmt} {r : List Stmt} {f g : Env → Mem → XA} (h1 : PS X s (tX G Wx f)) (h2 : PSs X r (tX G Wx g)) : PSs X (s :: r) (tX G Wx fun ρ μ => xs (f ρ μ) g) := by
  refine PSs.imp (pss_cons h1 h2) fun D σ H ⟨m, ρ, μ, S, h⟩ => ⟨m, ρ, μ, S, ?_⟩
  obtain ⟨o, ρ', μ', e, h⟩ := h
  dsimp only at e
  cases q : f ρ μ with
  | none => rw [q] at e; cases e
  | some p =>
    obtain ⟨o1, ρ1, μ1⟩ := p
    rw [q] at e
    refine ⟨o1, ρ1, μ1, rfl, fun m1 H1 σ1 S1 L1 => ?_⟩
    cases o1 with
    | nx => exact ⟨m1, ρ1, μ1, S1, o, ρ', μ', e, fun m' H' σ' S' L' => h m' H' σ' S' ((L1.trans L').weak fun z => nomatch z)⟩
    | bk => cases e; exact h m1 H1 σ1 S1 L1
    | ct => cases e; exact h m1 H1 σ1 S1 L1
    | rt w => cases e; exact h m1 H1 σ1 S1 L1
    | ex w => cases e; exact h m1 H1 σ1 S1 L1
theorem x_pass {pos : Pos} : PS X (.Pass pos) (tX G Wx fun ρ μ => xnx ρ μ) := PS.imp ps_pass fun D σ H ⟨m, ρ, μ, S, h⟩ => h.now S
variable {fa fb fc : Env → Mem → Ans W} {e c : Expr} {pos : Pos}
theorem x_exp (he : PE X e (tE G Wx sa fa)) (hs : swapsWith e none pos.line X.env = pure false) : PS X (.Expr e pos) (tX G Wx fun ρ μ => xb (fa ρ μ) ρ fun _ μ => xnx ρ μ) :=
  PS.imp (ps_expr he hs) fun D σ H ⟨m, ρ, μ, S, h⟩ => ⟨m, ρ, μ, S, h.xb S fun v m1 H1 w μ1 S1 L1 r1 h1 => h1.now S1⟩
theorem x_ret (he : PE X e (tE G Wx sa fa)) : PS X (.Return (some e) pos) (tX G Wx fun ρ μ => xb (fa ρ μ) ρ fun w μ => some (.rt w, ρ, μ)) :=
  PS.imp (ps_ret he) fun D σ H ⟨m, ρ, μ, S, h⟩ => ⟨m, ρ, μ, S, h.xb S fun v m1 H1 w μ1 S1 L1 r1 ⟨o, ρ', μ', e, q⟩ => by cases e; exact q m1 H1 σ S1 .refl v r1⟩
theorem x_retN : PS X (.Return none pos) (tX G Wx fun ρ μ => some (.rt (.d .non), ρ, μ)) :=
  PS.imp ps_retN fun D σ H ⟨m, ρ, μ, S, o, ρ', μ', e, q⟩ => by cases e; exact q m H σ S .refl .non .non
theorem x_if {a b : List Stmt} {f g : Env → Mem → XA} (hc : PT X c (tT G Wx sa fc)) (ha : PSs X a (tX G Wx f)) (hb : PSs X b (tX G Wx g)) :
    PS X (.If c a b pos) (tX G Wx fun ρ μ => xb (fc ρ μ) ρ fun w μ => match w with | .d (.bl true) => f ρ μ | .d (.bl false) => g ρ μ | _ => none) := by
  refine PS.imp (ps_if hc ha hb) fun D σ H ⟨m, ρ, μ, S, h⟩ => ⟨m, ρ, μ, S, h.xb S fun k m1 H1 w μ1 S1 L1 r1 h1 => ?_⟩
  cases r1
  cases k with
  | true => exact ⟨m1, ρ, μ1, S1, h1⟩
  | false => exact ⟨m1, ρ, μ1, S1, h1⟩
theorem x_asgV {i : Nat} {x : Str} {npos : Pos} (he : PE X e (tE G Wx sa fa)) (hN : X.N.Nodup) (hi : X.N[i]? = some x) (hx : Loc X.env.scope x) (hf : X.fn x = true ∨ X.env.scope.names.lookup x = some .local) (hs : swapsWith e (some (.Name x npos)) pos.line X.env = pure false) :
    PS X (.Assign [.Name x npos] e pos) (tX G Wx fun ρ μ => xb (fa ρ μ) ρ fun w μ => match put ρ i w with | some ρ' => xnx ρ' μ | none => none) := by
  refine PS.imp (ps_set hN hi hx he hs hf) fun D σ H ⟨m, ρ, μ, S, h⟩ => ⟨m, ρ, μ, S, h.xb S fun v m1 H1 w μ1 S1 L1 r1 h1 => ?_⟩
  unfold put at h1
  split at h1
  · rename_i ρ' ep
    split at ep
    · cases ep
    · rename_i hp
      split at ep
      · cases ep
        exact h1.now (S1.set (by cases w <;> first | trivial | exact (hp _ _ rfl).elim) r1)
      · cases ep
  · exact h1.none_.elim
theorem x_asgT {t : Tg} {tg : Expr} (he : PE X e (tE G Wx sa fa)) (hg : PG X tg (gT G t)) (hs : swapsWithSole [tg] e pos.line X.env = pure false) (hw : swappedStores [tg] e X.env = pure none) (h1 : (assignEach [tg] X.env).map (·.2) = [assign tg X.env]) :
    PS X (.Assign [tg] e pos) (tX G Wx fun ρ μ => xb (fa ρ μ) ρ fun w μ => match w with | .d x => (match asgT t x ρ with | some ρ' => xnx ρ' μ | none => none) | _ => none) := by
  refine PS.imp (ps_asg he hg hs hw h1) fun D σ H ⟨m, ρ, μ, S, h⟩ => ⟨m, ρ, μ, S, h.xb S fun v m1 H1 w μ1 S1 L1 r1 h1 => ?_⟩
  split at h1
  · split at h1
    · rename_i x _ ρ' ea
      exact ⟨m1, ρ, μ1, x, ρ', S1, r1, ea, fun σ' _ S' => h1.now S'⟩
    · exact h1.none_.elim
  · exact h1.none_.elim
/-- for -/
theorem x_for {t : Tg} {tg iter : Expr} {body : List Stmt} {fi : Env → Mem → Ans (List Mp.D)} {f : Env → Mem → XA} (hp : PassesOwn (model X.prog X.w) X.A X.env X.xe) (hc : X.calm = true) (hi : PI X tg iter (tI G Wx sa fi)) (hg : PG X tg (gT G t)) (hb : PSs X body (tX G Wx f))
    (hs : ∀ x, foldedSetIterable iter X.env x = pure x) : PS X (.For tg iter body [] pos) (tX G Wx fun ρ μ => xb (fi ρ μ) ρ fun xs μ => forL t f xs ρ μ) := by
  refine PS.imp (ps_for hp hc hi hg hb hs) fun D σ H ⟨m, ρ, μ, S, h⟩ => ⟨m, ρ, μ, S, h.xb S fun J m1 H1 xs μ1 S1 L1 jr h1 => ?_⟩
  refine ⟨fun i n σ' H' => ∃ m2 ρ2 μ2, Sim G m2 σ' H' ρ2 μ2 ∧ Lat false m1 H1 m2 H' ∧ n = xs.length - i ∧ i ≤ xs.length ∧ xK G Wx D m2 H' (forL t f (xs.drop i) ρ2 μ2), ⟨_, m1, ρ, μ1, S1, .refl, rfl, Nat.zero_le _, by rw [List.drop_zero]; exact h1⟩, fun i n σ' H' ⟨m2, ρ2, μ2, S2, L2, hn, hle, h2⟩ => ?_⟩
  obtain ⟨jg, js⟩ := jr m2 H' μ2 L2.keep S2.ms
  by_cases hi : i < xs.length
  · right
    have hd : xs.drop i = xs[i] :: xs.drop (i + 1) := List.drop_eq_getElem_cons hi
    rw [hd] at h2
    obtain ⟨g1, g2⟩ := jg i xs[i] (by simp [hi])
    refine ⟨g1, fun σ3 H3 => ∃ m2 ρ2 μ2, Sim G m2 σ3 H3 ρ2 μ2 ∧ Lat false m1 H1 m2 H3 ∧ xK G Wx D m2 H3 (forL t f (xs.drop (i + 1)) ρ2 μ2), fun σ3 H3 ⟨m3, ρ3, μ3, S3, L3, h3⟩ => ⟨xs.length - (i + 1), by omega, m3, ρ3, μ3, S3, L3, rfl, hi, h3⟩, fun v H3 hy => ?_⟩
    obtain ⟨M3, L3, rv⟩ := g2 v H3 hy
    have S3 := S2.lat L3 M3
    have h3 := h2.from L3
    unfold forL at h3
    split at h3
    · exact h3.none_.elim
    · rename_i ρ1 ea
      refine ⟨m2, ρ2, μ2, xs[i], ρ1, S3, rv, ea, fun σ4 _ S4 => ⟨m2, ρ1, μ2, S4, ?_⟩⟩
      have L23 := L2.trans L3
      obtain ⟨o, ρ', μ', eo, hh⟩ := h3
      split at eo
      · rename_i ρ5 μ5 q
        rw [q]
        exact ⟨.nx, ρ5, μ5, rfl, fun m' H' σ' S' L' => ⟨m', ρ5, μ5, S', (L23.trans L').weak (fun z => nomatch z), o, ρ', μ', eo, fun m6 H6 σ6 S6 L6 => hh m6 H6 σ6 S6 ((L'.trans L6).weak fun z => nomatch z)⟩⟩
      · rename_i ρ5 μ5 q
        rw [q]
        exact ⟨.ct, ρ5, μ5, rfl, fun m' H' σ' S' L' => ⟨m', ρ5, μ5, S', (L23.trans L').weak (fun z => nomatch z), o, ρ', μ', eo, fun m6 H6 σ6 S6 L6 => hh m6 H6 σ6 S6 ((L'.trans L6).weak fun z => nomatch z)⟩⟩
      · rename_i ρ5 μ5 q
        rw [q]
        cases eo
        exact ⟨.bk, _, _, rfl, fun m' H' σ' S' L' => hh m' H' σ' S' L'⟩
      · rename_i q1 q2 q3
        refine ⟨o, ρ', μ', eo, fun m' H' σ' S' L' => ?_⟩
        have := hh m' H' σ' S' L'
        cases o with
        | nx => exact (q1 _ _ eo).elim
        | bk => exact (q3 _ _ eo).elim
        | ct => exact (q2 _ _ eo).elim
        | rt _ => exact this
        | ex _ => exact this
  · left
    have hl : i = xs.length := by omega
    subst hl
    refine ⟨js, ?_⟩
    rw [List.drop_length] at h2
    exact h2.now S2
/-- while -/
theorem x_while {body : List Stmt} {f : Env → Mem → XA} {n : Nat} (hp : PassesOwn (model X.prog X.w) X.A X.env X.xe) (hc : PT X c (tT G Wx sa fc)) (hb : PSs X body (tX G Wx f)) :
    PS X (.While c body [] pos) (tX G Wx fun ρ μ => whileL fc f n ρ μ) := by
  refine PS.imp (ps_while hp hc hb) fun D σ H ⟨m, ρ, μ, S, h⟩ => ?_
  refine ⟨fun k σ' H' => ∃ m2 ρ2 μ2, Sim G m2 σ' H' ρ2 μ2 ∧ xK G Wx D m2 H' (whileL fc f k ρ2 μ2), ⟨n, m, ρ, μ, S, h⟩, fun k σ1 H1 ⟨m1, ρ1, μ1, S1, h1⟩ => ?_⟩
  cases k with
  | zero => exact h1.none_.elim
  | succ k =>
    unfold whileL at h1
    refine ⟨m1, ρ1, μ1, S1, h1.xb S1 (st := sa) fun b m2 H2 w μ2 S2 L2 r2 h2 => ?_⟩
    cases r2
    cases b with
    | false => exact h2.now S2
    | true =>
      refine ⟨fun σ' H' => ∃ m2 ρ2 μ2, Sim G m2 σ' H' ρ2 μ2 ∧ xK G Wx D m2 H' (whileL fc f k ρ2 μ2), fun σ' H' hh => ⟨k, Nat.lt_succ_self _, hh⟩, m2, ρ1, μ2, S2, ?_⟩
      obtain ⟨o, ρ', μ', eo, hh⟩ := h2
      dsimp only at eo
      generalize hq : f ρ1 μ2 = r at eo ⊢
      split at eo
      · rename_i ρ5 μ5
        exact ⟨.nx, ρ5, μ5, rfl, fun m' H' σ' S' L' => ⟨m', ρ5, μ5, S', o, ρ', μ', eo, fun m6 H6 σ6 S6 L6 => hh m6 H6 σ6 S6 ((L'.trans L6).weak fun z => nomatch z)⟩⟩
      · rename_i ρ5 μ5
        exact ⟨.ct, ρ5, μ5, rfl, fun m' H' σ' S' L' => ⟨m', ρ5, μ5, S', o, ρ', μ', eo, fun m6 H6 σ6 S6 L6 => hh m6 H6 σ6 S6 ((L'.trans L6).weak fun z => nomatch z)⟩⟩
      · cases eo
        exact ⟨.bk, _, _, rfl, fun m' H' σ' S' L' => hh m' H' σ' S' L'⟩
      · rename_i q1 q2 q3
        refine ⟨o, ρ', μ', eo, fun m' H' σ' S' L' => ?_⟩
        have := hh m' H' σ' S' L'
        cases o with
        | nx => exact (q1 _ _ eo).elim
        | bk => exact (q3 _ _ eo).elim
        | ct => exact (q2 _ _ eo).elim
        | rt _ => exact this
        | ex _ => exact this
end
end Mp
set_option Elab.async false
set_option linter.all false
set_option maxRecDepth 100000
set_option maxHeartbeats 1000000
/-! Mp: what is walked. -/
namespace Mp
open PySem PySem.Spec PyProof.Rows L2
section
variable {G : Glo} {X : Cx} {Wx : WX} {st sa sb : Bool} {fa fb fc : Env → Mem → Ans W} {e e2 tg : Expr} {p pos : Pos} {m : List (List Addr)} {H : Hp}
/-- a list, a tuple, a text -/
def iAny (K : PySem.W.Frag) (tl : TE) : TI := fun σ H R => tl σ H fun x H1 => (∃ a, x = .ref a ∧ (∃ xs, SqL K H1 a xs) ∧ R (Itl K a) H1) ∨ (∃ a, x = .ref a ∧ (∃ xs, SqT K H1 a xs) ∧ R (Itt K a) H1) ∨ ∃ z, x = .str z ∧ R (Its z) H1
theorem pi_any {l : Expr} {tl : TE} (hl : PE X l tl) : PI X tg l (iAny X.K tl) := by
  refine ⟨fun pins s σ H R I h => ?_⟩
  refine thn (hl.run pins s σ H _ I h) fun v s1 ⟨x, H1, I1, r1, q1⟩ => ?_
  rcases q1 with ⟨a, e, ⟨xs, hq⟩, q⟩ | ⟨a, e, ⟨xs, hq⟩, q⟩ | ⟨z, e, q⟩
  · subst e
    cases r1
    obtain ⟨its, rv, p, hz⟩ := I1.list hq
    refine wpAny_pyIter_list p.isList ?_
    refine ⟨s1.heap.objs.size, [s1.heap.objs.size], _, _, H1, rfl, I1.kept (t' := s1.toks) fun b o e => Heap.get?_push_of_some _ e, turn_list a _, ⟨_, Heap.get?_push_size _ rfl, rfl, rfl⟩, fun b hb => ?_, q⟩
    have e : b = s1.heap.objs.size := by simpa using hb
    subst e
    exact I1.fpOk (Nat.le_refl _) (I1.hok.fresh (Nat.le_refl _))
  · subst e
    cases r1
    obtain ⟨its, rv, p, hz⟩ := I1.tuple hq
    refine wpAny_pyIter_tuple (show s1.heap.IsTuple a its.toArray from p) ?_
    refine ⟨s1.heap.objs.size, [s1.heap.objs.size], _, _, H1, rfl, I1.kept (t' := s1.toks) fun b o e => Heap.get?_push_of_some _ e, turn_tuple a _, ⟨_, Heap.get?_push_size _ rfl, rfl, rfl⟩, fun b hb => ?_, q⟩
    have e : b = s1.heap.objs.size := by simpa using hb
    subst e
    exact I1.fpOk (Nat.le_refl _) (I1.hok.fresh (Nat.le_refl _))
  · subst e
    obtain ⟨t, rfl⟩ := r1
    cases ha : z.cps.all (· < 128)
    · exact wpAny_pyIter_wide ha (pi_one (tk := s1.toks) I1 _ (turn_str _ z t "str_iterator" (.inr rfl)) ⟨_, Heap.get?_push_size _ rfl, rfl, rfl⟩ q)
    · exact wpAny_pyIter_ascii ha (pi_one (tk := s1.toks) I1 _ (turn_str _ z t "str_ascii_iterator" (.inl rfl)) ⟨_, Heap.get?_push_size _ rfl, rfl, rfl⟩ q)
theorem RV.lst2 {O : List Addr} {H : Hp} {v : V} {xs : List D} (h : RV G O H v (.lst xs)) : ∃ a vs, v = .ref a ∧ Rd H a (.lst vs) ∧ a ∉ O ∧ RVs G O H vs xs := by
  cases h with
  | lst r n h => exact ⟨_, _, rfl, r, n, h⟩
theorem n_seq (hK : X.K = G.K) (he : PE X e (tE G Wx sa fa)) : PI X tg e (tI G Wx sa fun ρ μ => bnd (fa ρ μ) seqI) := by
  refine PI.imp (pi_any he) fun σ H Q ⟨m, ρ, μ, S, h⟩ => ⟨m, ρ, μ, S, h.bnd (st2 := true) id (fun _ => rfl) fun x m1 H1 w μ1 M1 L1 r1 h1 => ?_⟩
  unfold seqI at h1
  split at h1
  · obtain ⟨a, vs, rfl, q1, q2, q3⟩ := RV.lst2 r1
    exact .inl ⟨a, rfl, ⟨vs, .inl q1⟩, hK ▸ h1.now M1 (jr_list q1 q2 q3)⟩
  · obtain ⟨a, vs, rfl, q1, q2⟩ := RV.tup2 r1
    exact .inr (.inl ⟨a, rfl, ⟨vs, hK ▸ sqt_of q1⟩, hK ▸ h1.now M1 (jr_tup q1 q2)⟩)
  · obtain rfl := RV.str_ r1
    exact .inr (.inr ⟨_, rfl, h1.now M1 jr_str⟩)
  · exact h1.not_none.elim
theorem n_rng1 {a : Expr} (hg : Gl X "range") (hm : X.mg "range" = none) (ha : PE X a (tE G Wx sa fa)) (hs : starEach [a] X.env = [(false, eval a X.env)]) :
    PI X tg (.Call (.Name "range" p) [a] [] pos) (tI G Wx sa fun ρ μ => bnd (fa ρ μ) rngI) := by
  refine PI.imp (pi_range1 hg hm (pa_cons ha pa_nil (by rw [hs]; rfl)) hs) fun σ H Q ⟨m, ρ, μ, S, h⟩ => ⟨m, ρ, μ, S, h.bnd (st2 := true) id (fun _ => rfl) fun x m1 H1 w μ1 M1 L1 r1 h1 => ?_⟩
  unfold rngI at h1
  split at h1
  · split at h1
    · rename_i hb
      obtain rfl := RV.int_ r1
      exact ⟨_, rfl, by omega, by omega, h1.now M1 jr_rng⟩
    · exact h1.not_none.elim
  · exact h1.not_none.elim
theorem n_rng2 {a b : Expr} (hg : Gl X "range") (hm : X.mg "range" = none) (ha : PE X a (tE G Wx sa fa)) (hb : PE X b (tE G Wx sb fb)) (hs : starEach [a, b] X.env = [(false, eval a X.env), (false, eval b X.env)]) (hs2 : starEach [b] X.env = [(false, eval b X.env)]) :
    PI X tg (.Call (.Name "range" p) [a, b] [] pos) (tI G Wx (sa && sb) fun ρ μ => bndg false (fa ρ μ) fun x μ => bnd (fb ρ μ) fun y μ => rngI2 x y μ) := by
  refine PI.imp (pi_range2 hg hm (pa_cons ha (pa_cons hb pa_nil (by rw [hs2]; rfl)) (by rw [hs, hs2])) hs hs2) fun σ H Q ⟨m, ρ, μ, S, h⟩ => ?_
  refine ⟨m, ρ, μ, S, h.bndg (st2 := sb) and_l and_r fun x m1 H1 w μ1 M1 L1 n1 r1 h1 => ?_⟩
  refine ⟨m1, ρ, μ1, S.lat L1 M1, h1.bnd (st2 := true) id (fun _ => rfl) fun y m2 H2 w2 μ2 M2 L2 r2 h2 => ?_⟩
  unfold rngI2 at h2
  split at h2
  · split at h2
    · rename_i hb
      obtain rfl := RV.int_ (r1.later L2 (.inl (n1.resolve_right fun z => nomatch z)))
      obtain rfl := RV.int_ r2
      exact ⟨_, _, rfl, ⟨by omega, by omega, by omega, by omega⟩, h2.now M2 jr_rng⟩
    · exact h2.not_none.elim
  · exact h2.not_none.elim
/-! ### enumerate, zip -/
theorem enum_get : ∀ {xs : List D} {i j : Nat} {x : D}, (enum j xs)[i]? = some x → ∃ y, xs[i]? = some y ∧ x = .tup [.int ((i + j : Nat) : Int), y]
  | [], _, _, _, e => by simp [enum] at e
  | y :: ys, 0, j, x, e => by
    simp [enum] at e
    exact ⟨y, rfl, by rw [← e]; simp⟩
  | y :: ys, i + 1, j, x, e => by
    obtain ⟨z, h1, h2⟩ := enum_get (xs := ys) (i := i) (j := j + 1) (by simpa [enum] using e)
    exact ⟨z, by simpa using h1, by rw [h2]; congr 3; push_cast; omega⟩
theorem enum_length : ∀ {xs : List D} {j : Nat}, (enum j xs).length = xs.length
  | [], _ => rfl
  | _ :: xs, j => by simp [enum, enum_length (xs := xs)]
theorem jr_enum {a : Addr} {vs : List V} {xs : List D} (hr : Rd H a (.lst vs)) (hn : a ∉ m.flatten) (r : RVs G m.flatten H vs xs) : JR G m H (Ite G.K a) (enum 0 xs) := by
  intro m' H' μ' L M
  have h1 := (L.rd hr hn).1
  have h2 := r.mono L
  refine ⟨fun i x e => ?_, ⟨vs, .inl h1, by rw [h2.length, enum_length]; exact Nat.le_refl _⟩⟩
  obtain ⟨y, e1, rfl⟩ := enum_get e
  obtain ⟨v, e2, rv⟩ := h2.get e1
  refine ⟨⟨vs, v, .inl h1, e2⟩, fun v' H'' ⟨T, z, ev, hT, eH, q⟩ => ?_⟩
  subst ev
  subst eH
  have := q vs (.inl h1)
  rw [e2] at this
  cases this
  exact ⟨M.new hT, lat_new hT, .tup (.inl upd_same) (M.free hT) (.cons (.int _) (.cons (rv.mono (keep_new hT)) .nil))⟩
theorem n_enm {elts : List Expr} {kk : Nat} {tpos : Pos} (hK : X.K = G.K) (hg : Gl X "enumerate") (hm : X.mg "enumerate" = none) (he : PE X e (tE G Wx sa fa)) (hs : starEach [e] X.env = [(false, eval e X.env)]) :
    PI X (.Tuple elts kk tpos) (.Call (.Name "enumerate" p) [e] [] pos) (tI G Wx sa fun ρ μ => bnd (fa ρ μ) enmI) := by
  refine PI.imp (pi_enum hg hm (pa_cons he pa_nil (by rw [hs]; rfl)) hs) fun σ H Q ⟨m, ρ, μ, S, h⟩ => ⟨m, ρ, μ, S, h.bnd (st2 := true) id (fun _ => rfl) fun x m1 H1 w μ1 M1 L1 r1 h1 => ?_⟩
  unfold enmI at h1
  split at h1
  · obtain ⟨a, vs, rfl, q1, q2, q3⟩ := RV.lst2 r1
    exact ⟨a, vs, rfl, .inl q1, hK ▸ h1.now M1 (jr_enum q1 q2 q3)⟩
  · exact h1.not_none.elim
theorem zip_get : ∀ {xs ys : List D} {i : Nat} {x : D}, (zipD xs ys)[i]? = some x → ∃ y z, xs[i]? = some y ∧ ys[i]? = some z ∧ x = .tup [y, z]
  | [], _, _, _, e => by simp [zipD] at e
  | _ :: _, [], _, _, e => by simp [zipD] at e
  | a :: xs, b :: ys, 0, x, e => by simp [zipD] at e; exact ⟨a, b, rfl, rfl, e.symm⟩
  | a :: xs, b :: ys, i + 1, x, e => by
    obtain ⟨y, z, h1, h2, h3⟩ := zip_get (xs := xs) (ys := ys) (i := i) (by simpa [zipD] using e)
    exact ⟨y, z, by simpa using h1, by simpa using h2, h3⟩
theorem zip_length : ∀ {xs ys : List D}, xs.length = ys.length → (zipD xs ys).length = xs.length
  | [], [], _ => rfl
  | [], _ :: _, h => by simp at h
  | _ :: _, [], h => by simp at h
  | _ :: xs, _ :: ys, h => by simp [zipD, zip_length (xs := xs) (ys := ys) (by simpa using h)]
theorem jr_zipL {a b : Addr} {vs us : List V} {xs ys : List D} (hr : Rd H a (.lst vs)) (hn : a ∉ m.flatten) (r : RVs G m.flatten H vs xs) (hr2 : Rd H b (.lst us)) (hn2 : b ∉ m.flatten) (r2 : RVs G m.flatten H us ys) (hl : xs.length = ys.length) : JR G m H (Itz G.K a b) (zipD xs ys) := by
  intro m' H' μ' L M
  have h1 := (L.rd hr hn).1
  have h2 := r.mono L
  have g1 := (L.rd hr2 hn2).1
  have g2 := r2.mono L
  refine ⟨fun i x e => ?_, ⟨vs, us, .inl h1, .inl g1, .inl (by rw [h2.length, zip_length hl]; exact Nat.le_refl _)⟩⟩
  obtain ⟨y, z, e1, e2, rfl⟩ := zip_get e
  obtain ⟨v, e3, rv⟩ := h2.get e1
  obtain ⟨u, e4, ru⟩ := g2.get e2
  refine ⟨⟨vs, us, v, u, .inl h1, .inl g1, e3, e4⟩, fun v' H'' ⟨T, p, q, ev, hT, eH, q1, q2⟩ => ?_⟩
  subst ev
  subst eH
  have z1 := q1 vs (.inl h1)
  have z2 := q2 us (.inl g1)
  rw [e3] at z1
  rw [e4] at z2
  cases z1
  cases z2
  exact ⟨M.new hT, lat_new hT, .tup (.inl upd_same) (M.free hT) (.cons (rv.mono (keep_new hT)) (.cons (ru.mono (keep_new hT)) .nil))⟩
theorem jr_zipT {a b : Addr} {vs us : List V} {xs ys : List D} (hr : (Rd H a (.tup vs) ∧ a ∉ m.flatten) ∨ KT G a vs) (r : RVs G m.flatten H vs xs) (hr2 : (Rd H b (.tup us) ∧ b ∉ m.flatten) ∨ KT G b us) (r2 : RVs G m.flatten H us ys) (hl : xs.length = ys.length) : JR G m H (RZ.ItzT G.K a b) (zipD xs ys) := by
  intro m' H' μ' L M
  have h1 := sqt_of (SqT.later (K := G.K) L hr)
  have h2 := r.mono L
  have g1 := sqt_of (SqT.later (K := G.K) L hr2)
  have g2 := r2.mono L
  refine ⟨fun i x e => ?_, ⟨vs, us, h1, g1, .inl (by rw [h2.length, zip_length hl]; exact Nat.le_refl _)⟩⟩
  obtain ⟨y, z, e1, e2, rfl⟩ := zip_get e
  obtain ⟨v, e3, rv⟩ := h2.get e1
  obtain ⟨u, e4, ru⟩ := g2.get e2
  refine ⟨⟨vs, us, v, u, h1, g1, e3, e4⟩, fun v' H'' ⟨T, p, q, ev, hT, eH, q1, q2⟩ => ?_⟩
  subst ev
  subst eH
  have z1 := q1 vs h1
  have z2 := q2 us g1
  rw [e3] at z1
  rw [e4] at z2
  cases z1
  cases z2
  exact ⟨M.new hT, lat_new hT, .tup (.inl upd_same) (M.free hT) (.cons (rv.mono (keep_new hT)) (.cons (ru.mono (keep_new hT)) .nil))⟩
theorem n_zip {elts : List Expr} {kk : Nat} {tpos : Pos} (hK : X.K = G.K) (hg : Gl X "zip") (hm : X.mg "zip" = none) (ha : PE X e (tE G Wx sa fa)) (hb : PE X e2 (tE G Wx sb fb)) (hs : starEach [e, e2] X.env = (false, eval e X.env) :: starEach [e2] X.env) (hs2 : starEach [e2] X.env = [(false, eval e2 X.env)]) :
    PI X (.Tuple elts kk tpos) (.Call (.Name "zip" p) [e, e2] [] pos) (tI G Wx (sa && sb) fun ρ μ => bndg false (fa ρ μ) fun x μ => bnd (fb ρ μ) fun y μ => zipI x y μ) := by
  refine PI.imp (RZ.pi_zipA hg hm (pa_cons ha (pa_cons hb pa_nil (by rw [hs2]; rfl)) hs) hs (by rw [hs2]; rfl)) fun σ H Q ⟨m, ρ, μ, S, h⟩ => ?_
  refine ⟨m, ρ, μ, S, h.bndg (st2 := sb) and_l and_r fun x m1 H1 w μ1 M1 L1 n1 r1 h1 => ?_⟩
  refine ⟨m1, ρ, μ1, S.lat L1 M1, h1.bnd (st2 := true) id (fun _ => rfl) fun y m2 H2 w2 μ2 M2 L2 r2 h2 => ?_⟩
  have r1' := r1.later L2 (.inl (n1.resolve_right fun z => nomatch z))
  unfold zipI at h2
  split at h2
  · split at h2
    · rename_i hl
      obtain ⟨a, vs, rfl, q1, q2, q3⟩ := RV.lst2 r1'
      obtain ⟨b, us, rfl, p1, p2, p3⟩ := RV.lst2 r2
      exact ⟨a, b, vs, us, rfl, .inl ⟨.inl q1, .inl p1, hK ▸ h2.now M2 (jr_zipL q1 q2 q3 p1 p2 p3 hl)⟩⟩
    · exact h2.not_none.elim
  · split at h2
    · rename_i hl
      obtain ⟨a, vs, rfl, q1, q3⟩ := RV.tup2 r1'
      obtain ⟨b, us, rfl, p1, p3⟩ := RV.tup2 r2
      exact ⟨a, b, vs, us, rfl, .inr ⟨hK ▸ sqt_of q1, hK ▸ sqt_of p1, hK ▸ h2.now M2 (jr_zipT q1 q3 p1 p3 hl)⟩⟩
    · exact h2.not_none.elim
  · exact h2.not_none.elim
end
end Mp
set_option Elab.async false
set_option linter.all false
set_option maxRecDepth 100000
set_option maxHeartbeats 1000000
/-! Mp: changes of owned objects. -/
namespace Mp
open PySem PySem.Spec PyProof.Rows L2
section
variable {G : Glo} {H : Hp} {m m1 : List (List Addr)} {μ μ1 : Mem}
theorem disj {α : Type} : ∀ {m : List (List α)} {i j : Nat} {x y : List α} {c : α}, m.flatten.Nodup → m[i]? = some x → m[j]? = some y → c ∈ x → c ∈ y → i = j
  | [], _, _, _, _, _, _, e, _, _, _ => by simp at e
  | a :: m, 0, 0, _, _, _, _, _, _, _, _ => rfl
  | a :: m, 0, j + 1, x, y, c, n, e1, e2, h1, h2 => by
    simp at e1 e2
    subst e1
    rw [List.flatten_cons, List.nodup_append] at n
    exact absurd rfl (n.2.2 c h1 c (List.mem_flatten.mpr ⟨y, List.mem_of_getElem? e2, h2⟩))
  | a :: m, i + 1, 0, x, y, c, n, e1, e2, h1, h2 => by
    simp at e1 e2
    subst e2
    rw [List.flatten_cons, List.nodup_append] at n
    exact absurd rfl (n.2.2 c h2 c (List.mem_flatten.mpr ⟨x, List.mem_of_getElem? e1, h1⟩))
  | a :: m, i + 1, j + 1, x, y, c, n, e1, e2, h1, h2 => by
    simp at e1 e2
    rw [List.flatten_cons, List.nodup_append] at n
    rw [disj n.2.1 e1 e2 h1 h2]
theorem nd_inj {α : Type} : ∀ {l : List α} {i j : Nat} {x : α}, l.Nodup → l[i]? = some x → l[j]? = some x → i = j
  | [], _, _, _, _, e, _ => by simp at e
  | a :: l, 0, 0, _, _, _, _ => rfl
  | a :: l, 0, j + 1, x, n, e1, e2 => by
    simp at e1 e2
    subst e1
    exact absurd (List.mem_of_getElem? e2) (List.nodup_cons.mp n).1
  | a :: l, i + 1, 0, x, n, e1, e2 => by
    simp at e1 e2
    subst e2
    exact absurd (List.mem_of_getElem? e1) (List.nodup_cons.mp n).1
  | a :: l, i + 1, j + 1, x, n, e1, e2 => by
    simp at e1 e2
    rw [nd_inj (List.nodup_cons.mp n).2 e1 e2]
theorem keep_in {O O' : List Addr} {b : Addr} {o : HO} (hb : b ∈ O) (hs : ∀ x ∈ O', x ∈ O) : Keep O O' H (upd H b o) := fun a u e n =>
  ⟨by rw [upd_ne (show a ≠ b from fun z => by subst z; exact n hb)]; exact e, fun z => n (hs a z)⟩
/-- some objects are given up, one is changed -/
theorem MS.chg (M : MS G m H μ) (k : Kd m μ m1 μ1) {l : Nat} {a b : Addr} {r r' as0 : List Addr} {o : HO} {ob : Ob} (hl : m1.length = m.length) (h0 : m[l]? = some as0) (ha : as0 = a :: r) (hb : b ∈ as0)
    (hz : μ[l]? ≠ some .dead) (nd : (m1.set l (a :: r')).flatten.Nodup) (hs : ∀ x ∈ (m1.set l (a :: r')).flatten, x ∈ m.flatten) (new : OR_ G (m1.set l (a :: r')).flatten (upd H b o) (a :: r') ob) :
    MS G (m1.set l (a :: r')) (upd H b o) (μ1.set l ob) ∧ Lat false m H (m1.set l (a :: r')) (upd H b o) := by
  have hbm : b ∈ m.flatten := List.mem_flatten.mpr ⟨as0, List.mem_of_getElem? h0, hb⟩
  have K := keep_in (H := H) (o := o) hbm hs
  have l0 : l ≠ 0 := fun z => by subst z; exact hz M.g0
  refine ⟨⟨by simpa using k.len, fun j o' as' e1 e2 => ?_, nd, by rw [List.getElem?_set_ne l0, k.z.2]; exact M.g0⟩, ⟨K, by simp [hl], fun j a' r2 hj e => ?_, (fun z => nomatch z), by rw [List.getElem?_set_ne l0]; exact k.z.1, fun as2 e c hc u eu => ?_⟩⟩
  · rcases set_get e1 with ⟨rfl, rfl⟩ | ⟨hj, e1⟩
    · rcases set_get e2 with ⟨_, rfl⟩ | ⟨hj, _⟩
      · exact new
      · exact (hj rfl).elim
    · rw [List.getElem?_set_ne (Ne.symm hj)] at e2
      obtain ⟨as2, e3, h⟩ := k.at_ j o' e1
      rw [e2] at e3
      cases e3
      rcases h with ⟨rfl, rfl⟩ | ⟨h1, h2⟩
      · exact fun a ha => nomatch ha
      · refine (M.obj j o' as' h1 h2).mono K fun c hc u e => ?_
        rw [upd_ne]
        · exact e
        · intro z
          subst z
          exact hj (disj M.nd h2 h0 hc hb)
  · rcases set_get e with ⟨rfl, e'⟩ | ⟨_, e⟩
    · cases e'
      subst ha
      exact ⟨r, h0⟩
    · have hj2 : j < μ1.length := by rw [← k.len]; exact (List.getElem?_eq_some_iff.mp e).1
      obtain ⟨as2, e3, h⟩ := k.at_ j μ1[j] (by simp [hj2])
      rw [e] at e3
      cases e3
      rcases h with ⟨_, h⟩ | ⟨_, h⟩
      · cases h
      · exact ⟨r2, h⟩
  · rw [upd_ne]
    · exact eu
    · intro z
      subst z
      exact l0 (disj M.nd h0 e hb hc)
theorem set_self {α : Type} {m : List α} {l : Nat} {x : α} (e : m[l]? = some x) : m.set l x = m := by
  obtain ⟨h, rfl⟩ := List.getElem?_eq_some_iff.mp e
  exact List.set_getElem_self h
/-- one object is changed, its addresses stay -/
theorem MS.chg0 (M : MS G m H μ) {l : Nat} {a b : Addr} {r : List Addr} {o : HO} {ob : Ob} (h0 : m[l]? = some (a :: r)) (hb : b ∈ a :: r) (hz : μ[l]? ≠ some .dead)
    (new : OR_ G m.flatten (upd H b o) (a :: r) ob) : MS G m (upd H b o) (μ.set l ob) ∧ Lat false m H m (upd H b o) := by
  have e := set_self h0
  have := M.chg (Kd.refl M.len) (r' := r) rfl h0 rfl hb hz (by rw [e]; exact M.nd) (by rw [e]; exact fun x h => h) (by rw [e]; exact new)
  rw [e] at this
  exact this
/-- an object is given up -/
theorem MS.kill (M : MS G m H μ) {l : Nat} {as : List Addr} (h0 : m[l]? = some as) (hz : μ[l]? ≠ some .dead) : MS G (m.set l []) H (μ.set l .dead) ∧ Lat false m H (m.set l []) H ∧ ∀ x ∈ as, x ∉ (m.set l []).flatten := by
  have P := flatten_set (bs := []) h0
  rw [List.nil_append] at P
  have nd := P.nodup_iff.mpr M.nd
  rw [List.nodup_append] at nd
  have K : Keep m.flatten (m.set l []).flatten H H := keep_sub fun x h => P.mem_iff.mp (List.mem_append_right _ h)
  have l0 : l ≠ 0 := fun z => by subst z; exact hz M.g0
  refine ⟨⟨by simpa using M.len, fun j o' as' e1 e2 => ?_, nd.2.1, by rw [List.getElem?_set_ne l0]; exact M.g0⟩, ⟨K, by simp, fun j a' r2 hj e => ?_, (fun z => nomatch z), by rw [List.getElem?_set_ne l0], fun _ _ _ _ _ e => e⟩, fun x h1 h2 => nd.2.2 x h1 x h2 rfl⟩
  · rcases set_get e1 with ⟨rfl, rfl⟩ | ⟨hj, e1⟩
    · rcases set_get e2 with ⟨_, rfl⟩ | ⟨hj, _⟩
      · exact fun a ha => nomatch ha
      · exact (hj rfl).elim
    · rw [List.getElem?_set_ne (Ne.symm hj)] at e2
      exact (M.obj j o' as' e1 e2).mono K fun _ _ _ e => e
  · rcases set_get e with ⟨_, e⟩ | ⟨_, e⟩
    · cases e
    · exact ⟨r2, e⟩
variable {O : List Addr}
theorem CR_.setD {v : V} {x y : D} (r : RV G O H v x) : ∀ {cs : List Cell} {vs : List V} {as : List Addr} {j : Nat}, CR_ G O H vs cs as → cs[j]? = some (.d y) → CR_ G O H (vs.set j v) (cs.set j (.d x)) as
  | _, _, _, _, .nil, e => by simp at e
  | _, _, _, 0, .d _ h, e => .d r h
  | _, _, _, j + 1, .d q h, e => .d q (h.setD r (by simpa using e))
  | _, _, _, 0, .sub _ _ _, e => by simp at e
  | _, _, _, j + 1, .sub a b h, e => .sub a b (h.setD r (by simpa using e))
theorem RVs.cells : ∀ {vs : List V} {xs : List D}, RVs G O H vs xs → CR_ G O H vs (xs.map Cell.d) []
  | _, _, .nil => .nil
  | _, _, .cons a b => .d a b.cells
theorem CR_.app {ws : List V} {xs : List D} : ∀ {cs : List Cell} {vs : List V} {as : List Addr}, CR_ G O H vs cs as → RVs G O H ws xs → CR_ G O H (vs ++ ws) (cs ++ xs.map Cell.d) as
  | _, _, _, .nil, h => h.cells
  | _, _, _, .d q h, k => .d q (h.app k)
  | _, _, _, .sub a b h, k => .sub a b (h.app k)
/-- a list within is changed -/
theorem CR_.setS {p : Addr} {ws' : List V} {xs xs' : List D} (r : RVs G O H ws' xs') : ∀ {cs : List Cell} {vs : List V} {as : List Addr} {j : Nat}, CR_ G O H vs cs as → (∀ x ∈ as, x ∈ O) → as.Nodup → cs[j]? = some (.sub xs) → vs[j]? = some (.ref p) →
    CR_ G O (upd H p (.lst ws')) vs (cs.set j (.sub xs')) as
  | _, _, _, _, .nil, _, _, e, _ => by simp at e
  | _, _, _, 0, .d _ h, _, _, e, _ => by simp at e
  | _, _, as, j + 1, .d q h, hs, nd, e, ev => by
    have hp : p ∈ as := by
      obtain ⟨v, e1, p', ws, e2, h1, _⟩ := h.get (by simpa using e : _ = some (Cell.sub xs))
      have ev' : _ = some (V.ref p) := ev
      simp only [List.getElem?_cons_succ] at ev'
      rw [ev'] at e1
      cases e1
      cases e2
      exact h1
    exact .d (q.mono (keep_in (hs p hp) fun x h => h)) (h.setS r hs nd (by simpa using e) (by simpa using ev))
  | _, _, q :: _, 0, .sub a b h, hs, nd, e, ev => by
    simp at e ev
    subst ev
    have K : Keep O O H (upd H q (.lst ws')) := keep_in (hs q List.mem_cons_self) fun x h => h
    rw [List.nodup_cons] at nd
    exact .sub upd_same (r.mono K) (h.mono K fun a ha o e => by rw [upd_ne (show a ≠ q from fun z => by subst z; exact nd.1 ha)]; exact e)
  | _, _, q :: as, j + 1, .sub a b h, hs, nd, e, ev => by
    rw [List.nodup_cons] at nd
    have hp : p ∈ as := by
      obtain ⟨v, e1, p', ws, e2, h1, _⟩ := h.get (by simpa using e : _ = some (Cell.sub xs))
      have ev' : _ = some (V.ref p) := ev
      simp only [List.getElem?_cons_succ] at ev'
      rw [ev'] at e1
      cases e1
      cases e2
      exact h1
    have K : Keep O O H (upd H p (.lst ws')) := keep_in (hs p (List.mem_cons_of_mem _ hp)) fun x h => h
    refine .sub ?_ (b.mono K) (h.setS r (fun x hx => hs x (List.mem_cons_of_mem _ hx)) nd.2 (by simpa using e) (by simpa using ev))
    rw [upd_ne (show q ≠ p from fun z => by subst z; exact nd.1 hp)]
    exact a
/-! ### attributes -/
theorem nms_put {β : Type} {f : Nat} {x : Str} {c : β} {v : V} (hx : G.fnm[f]? = some x) : ∀ {vfs : List (Str × V)} {fs : List (Nat × β)}, Nms G (vfs.map (·.1)) (fs.map (·.1)) → Nms G ((putF x v vfs).map (·.1)) ((putFl f c fs).map (·.1))
  | [], [], _ => by simp [Nms, putF, putFl, hx]
  | [], _ :: _, n => by simp [Nms] at n
  | _ :: _, [], n => by simp [Nms] at n
  | (y, u) :: vfs, (g, d) :: fs, n => by
    unfold Nms at n
    simp only [List.map_cons, List.cons.injEq] at n
    unfold putF putFl
    by_cases h : g = f
    · subst h
      have e : y = x := by rw [hx] at n; exact (Option.some.inj n.1).symm
      rw [if_pos rfl, if_pos e]
      simp [Nms, n.1, n.2]
    · have e : y ≠ x := fun z => h (by
        subst z
        exact (nd_inj G.nd n.1 hx))
      rw [if_neg h, if_neg e]
      have := nms_put (c := c) (v := v) hx (vfs := vfs) (fs := fs) n.2
      unfold Nms at this ⊢
      simp only [List.map_cons, n.1, this]
theorem cr_putD {f : Nat} {x : Str} {y : D} {v : V} (hx : G.fnm[f]? = some x) (r : RV G O H v y) : ∀ {vfs : List (Str × V)} {fs : List (Nat × Cell)} {as : List Addr}, Nms G (vfs.map (·.1)) (fs.map (·.1)) → CR_ G O H (vfs.map (·.2)) (fs.map (·.2)) as →
    ∃ as', as'.Sublist as ∧ CR_ G O H ((putF x v vfs).map (·.2)) ((putFl f (.d y) fs).map (·.2)) as'
  | [], [], _, _, .nil => ⟨[], .slnil, .d r .nil⟩
  | [], _ :: _, _, n, _ => by simp [Nms] at n
  | _ :: _, [], _, n, _ => by simp [Nms] at n
  | (z, u) :: vfs, (g, d) :: fs, as, n, h => by
    unfold Nms at n
    simp only [List.map_cons, List.cons.injEq] at n
    unfold putF putFl
    by_cases hg : g = f
    · subst hg
      have e : z = x := by rw [hx] at n; exact (Option.some.inj n.1).symm
      rw [if_pos rfl, if_pos e]
      cases h with
      | d q h => exact ⟨as, .refl _, .d r h⟩
      | sub a b h => exact ⟨_, List.sublist_cons_self _ _, .d r h⟩
    · have e : z ≠ x := fun w => hg (by
        subst w
        exact (nd_inj G.nd n.1 hx))
      rw [if_neg hg, if_neg e]
      cases h with
      | d q h =>
        obtain ⟨as', s, h'⟩ := cr_putD hx r n.2 h
        exact ⟨as', s, .d q h'⟩
      | sub a b h =>
        obtain ⟨as', s, h'⟩ := cr_putD hx r n.2 h
        exact ⟨_, s.cons_cons _, .sub a b h'⟩
theorem cr_putS {f : Nat} {x : Str} {ys : List D} {p : Addr} {ws : List V} (hx : G.fnm[f]? = some x) (hp : H p = some (.lst ws)) (r : RVs G O H ws ys) : ∀ {vfs : List (Str × V)} {fs : List (Nat × Cell)} {as : List Addr}, Nms G (vfs.map (·.1)) (fs.map (·.1)) → CR_ G O H (vfs.map (·.2)) (fs.map (·.2)) as →
    ∃ as' as0, as'.Perm (p :: as0) ∧ as0.Sublist as ∧ CR_ G O H ((putF x (.ref p) vfs).map (·.2)) ((putFl f (.sub ys) fs).map (·.2)) as'
  | [], [], _, _, .nil => ⟨[p], [], .refl _, .slnil, .sub hp r .nil⟩
  | [], _ :: _, _, n, _ => by simp [Nms] at n
  | _ :: _, [], _, n, _ => by simp [Nms] at n
  | (z, u) :: vfs, (g, d) :: fs, as, n, h => by
    unfold Nms at n
    simp only [List.map_cons, List.cons.injEq] at n
    unfold putF putFl
    by_cases hg : g = f
    · subst hg
      have e : z = x := by rw [hx] at n; exact (Option.some.inj n.1).symm
      rw [if_pos rfl, if_pos e]
      cases h with
      | d q h => exact ⟨p :: as, as, .refl _, .refl _, .sub hp r h⟩
      | sub a b h => exact ⟨p :: _, _, .refl _, List.sublist_cons_self _ _, .sub hp r h⟩
    · have e : z ≠ x := fun w => hg (by
        subst w
        exact (nd_inj G.nd n.1 hx))
      rw [if_neg hg, if_neg e]
      cases h with
      | d q h =>
        obtain ⟨as', as0, s, t, h'⟩ := cr_putS hx hp r n.2 h
        exact ⟨as', as0, s, t, .d q h'⟩
      | sub a b h =>
        obtain ⟨as', as0, s, t, h'⟩ := cr_putS hx hp r n.2 h
        exact ⟨_ :: as', _ :: as0, (s.cons _).trans (.swap _ _ _), t.cons_cons _, .sub a b h'⟩
theorem putF_length {x : Str} {v : V} : ∀ {vfs : List (Str × V)}, (putF x v vfs).length ≤ vfs.length + 1
  | [] => by simp [putF]
  | (g, u) :: r => by
    unfold putF
    split
    · simp
    · have := putF_length (x := x) (v := v) (vfs := r)
      simp only [List.length_cons]
      omega
end
end Mp
set_option Elab.async false
set_option linter.all false
set_option maxRecDepth 100000
set_option maxHeartbeats 1000000
/-! Mp: statements that change objects. -/
namespace Mp
open PySem PySem.Spec PyProof.Rows L2
section
variable {G : Glo} {X : Cx} {Wx : WX} {st sa sb sc so : Bool} {fa fb fc fo fi fe : Env → Mem → Ans W} {m : List (List Addr)} {H : Hp} {μ : Mem} {σ : L2.St} {ρ : Env} {De : Ends}
/-! ### an owned object becomes data -/
theorem frz_ok {i : Nat} {ρ' : Env} {μ' : Mem} (S : Sim G m σ H ρ μ) (e : freeze μ ρ i = some (ρ', μ')) : ∃ m', Sim G m' σ H ρ' μ' ∧ Lat false m H m' H := by
  unfold freeze at e
  split at e
  · rename_i l hl
    obtain ⟨_, v, hv, hr⟩ := S.env i _ hl
    have es : σ.set i (some v) = σ := set_self hv
    split at e
    · rename_i cs hc
      split at e
      · rename_i xs hx
        cases e
        obtain ⟨as, ha, a, r, vs, rfl, h1, h2⟩ := S.ms.own hc
        obtain ⟨h3, rfl⟩ := h2.data hx
        obtain ⟨M1, L1, n1⟩ := S.ms.kill ha (by rw [hc]; exact fun z => nomatch z)
        have S1 := S.lat L1 M1
        have := S1.set (i := i) (v := v) (w := .d (.lst xs)) trivial (by
          rw [hr.2 a [] ha]
          exact .lst (.inl h1) (n1 a List.mem_cons_self) (h3.mono L1.keep))
        rw [es] at this
        exact ⟨_, this, L1⟩
      · cases e
    · rename_i kvs hc
      cases e
      obtain ⟨as, ha, a, vks, rfl, h1, h2, h3⟩ := S.ms.own hc
      obtain ⟨M1, L1, n1⟩ := S.ms.kill ha (by rw [hc]; exact fun z => nomatch z)
      have S1 := S.lat L1 M1
      have := S1.set (i := i) (v := v) (w := .d (.dic kvs)) trivial (by
        rw [hr.2 a [] ha]
        exact .dic (.inl h1) (n1 a List.mem_cons_self) h2 (h3.mono L1.keep))
      rw [es] at this
      exact ⟨_, this, L1⟩
    · cases e
  · cases e
theorem x_frz {i : Nat} {r : List Stmt} {g : Env → Mem → XA} (h : PSs X r (tX G Wx g)) : PSs X r (tX G Wx (frzK i g)) := by
  refine PSs.imp h fun De σ H ⟨m, ρ, μ, S, h⟩ => ?_
  unfold frzK at h
  split at h
  · rename_i ρ' μ' e
    obtain ⟨m', S', L⟩ := frz_ok S e
    exact ⟨m', ρ', μ', S', h.from L⟩
  · exact h.none_.elim
/-! ### attributes -/
theorem flatten_sub {α : Type} {x y : List α} (s : y.Sublist x) : ∀ {m : List (List α)} {l : Nat}, m[l]? = some x → (m.set l y).flatten.Sublist m.flatten
  | [], _, e => by simp at e
  | a :: m, 0, e => by
    simp at e
    subst e
    exact s.append (.refl _)
  | a :: m, l + 1, e => (List.Sublist.refl a).append (flatten_sub s (by simpa using e))
theorem flatten_perm {α : Type} {x y y' : List α} {m : List (List α)} {l : Nat} (e : m[l]? = some x) (h : y.Perm y') : (m.set l y).flatten.Perm (m.set l y').flatten :=
  (List.perm_append_left_iff x).mp ((flatten_set e).trans ((h.append_right _).trans (flatten_set e).symm))
theorem flatten_mid {α : Type} {x y : List α} {p : α} {m : List (List α)} {l : Nat} (e : m[l]? = some x) : (m.set l (p :: y)).flatten.Perm (p :: (m.set l y).flatten) :=
  (List.perm_append_left_iff x).mp ((flatten_set e).trans (((flatten_set (bs := y) e).symm.cons p).trans List.perm_middle.symm))
theorem setF_ok {f : Nat} {n : Str} {x y : V} {w u : W} {μ' : Mem} (hx : G.fnm[f]? = some n) (M : MS G m H μ) (rx : RW G m H x u) (ry : RW G m H y w) (e : setF μ u f w = some μ') :
    ∃ a C dx fs, x = .ref a ∧ H a = some (.ins C dx fs) ∧ (∃ c, G.cls c = some C) ∧ fs.length < 1000 ∧ ∃ m', MS G m' (upd H a (.ins C dx (putF n y fs))) μ' ∧ Lat false m H m' (upd H a (.ins C dx (putF n y fs))) := by
  unfold setF at e
  split at e
  · rename_i l
    split at e
    · rename_i c fs hc
      split at e
      · rename_i hn
        obtain ⟨as, ha, a, r, C, dx, vfs, rfl, g1, g2, g3, g4⟩ := M.own hc
        have hlen : vfs.length < 1000 := by
          have := congrArg List.length g3
          simp at this
          omega
        obtain rfl := rx.2 a r ha
        have ndA : (a :: r).Nodup := (List.sublist_flatten_of_mem (List.mem_of_getElem? ha)).nodup M.nd
        refine ⟨a, C, dx, vfs, rfl, g2, ⟨c, g1⟩, hlen, ?_⟩
        split at e
        · rename_i x
          cases e
          obtain ⟨as', s, h'⟩ := cr_putD hx ry g3 g4
          have s2 := s.cons_cons a
          have fs2 := flatten_sub s2 ha
          refine ⟨m.set l (a :: as'), M.chg (Kd.refl M.len) rfl ha rfl List.mem_cons_self (by rw [hc]; exact fun z => nomatch z) (fs2.nodup M.nd) (fun x h => fs2.subset h) ?_⟩
          refine ⟨a, as', C, dx, _, rfl, g1, upd_same, nms_put hx g3, h'.mono (keep_in (List.mem_flatten.mpr ⟨_, List.mem_of_getElem? ha, List.mem_cons_self⟩) (fun x h => fs2.subset h)) fun b hb o eo => ?_⟩
          rw [upd_ne (show b ≠ a from fun z => by subst z; exact (List.nodup_cons.mp ndA).1 (s.subset hb))]
          exact eo
        · rename_i k
          split at e
          · cases e
          · rename_i hkl
            split at e
            · rename_i cs hk
              split at e
              · rename_i xs hxs
                cases e
                obtain ⟨bs, hb, p, rp, ws, rfl, q1, q2⟩ := M.own hk
                obtain ⟨q3, rfl⟩ := q2.data hxs
                obtain rfl := ry.2 p [] hb
                obtain ⟨as', as0, pr, s, h'⟩ := cr_putS hx q1 q3 g3 g4
                have ha1 : (m.set k [])[l]? = some (a :: r) := by rw [List.getElem?_set_ne hkl]; exact ha
                have P1 : ((m.set k []).set l (a :: as')).flatten.Perm (p :: ((m.set k []).set l (a :: as0)).flatten) :=
                  (flatten_perm ha1 ((pr.cons a).trans (.swap _ _ _))).trans (flatten_mid ha1)
                have P2 : (p :: ((m.set k []).set l (a :: as0)).flatten).Sublist (p :: (m.set k []).flatten) := (flatten_sub (s.cons_cons a) ha1).cons_cons p
                have P3 : (p :: (m.set k []).flatten).Perm m.flatten := flatten_set (bs := []) hb
                have nd' : ((m.set k []).set l (a :: as')).flatten.Nodup := P1.nodup_iff.mpr (P2.nodup (P3.nodup_iff.mpr M.nd))
                have hs' : ∀ x ∈ ((m.set k []).set l (a :: as')).flatten, x ∈ m.flatten := fun x hx => P3.mem_iff.mp (P2.subset (P1.mem_iff.mp hx))
                refine ⟨(m.set k []).set l (a :: as'), M.chg ((Kd.refl M.len).kill (l := k) fun z => by subst z; rw [M.g0] at hk; cases hk) (by simp) ha rfl List.mem_cons_self (by rw [hc]; exact fun z => nomatch z) nd' hs' ?_⟩
                refine ⟨a, as', C, dx, _, rfl, g1, upd_same, nms_put hx g3, h'.mono (keep_in (List.mem_flatten.mpr ⟨_, List.mem_of_getElem? ha, List.mem_cons_self⟩) hs') fun b hb' o eo => ?_⟩
                rw [upd_ne]
                · exact eo
                · intro z
                  subst z
                  rcases List.mem_cons.mp (pr.mem_iff.mp hb') with z | z
                  · exact hkl (disj M.nd hb ha (by rw [z]; exact List.mem_cons_self) List.mem_cons_self)
                  · exact (List.nodup_cons.mp ndA).1 (s.subset z)
              · cases e
            · cases e
        · cases e
      · cases e
    · cases e
  · cases e
theorem x_setF {f : Nat} {n : Str} {o e : Expr} {pos pos' : Pos} (hx : G.fnm[f]? = some n) (hC : ∀ c C, G.cls c = some C → Cls X.K C) (hN : ∀ c C, G.cls c = some C → NoAttr X.K C n) (he : PE X e (tE G Wx sa fe)) (ho : PE X o (tE G Wx so fo)) (hs : swapsWith e (some (.Attribute o n pos')) pos.line X.env = pure false) :
    PS X (.Assign [.Attribute o n pos'] e pos) (tX G Wx fun ρ μ => xbg false (fe ρ μ) ρ fun w μ => xb (fo ρ μ) ρ (setFK f w ρ)) := by
  refine PS.imp (ps_fld ho he hs) fun De σ H ⟨m, ρ, μ, S, h⟩ => ⟨m, ρ, μ, S, h.xbg S (st := sa) fun y m1 H1 w μ1 S1 L1 n1 r1 h1 => ?_⟩
  refine ⟨m1, ρ, μ1, S1, h1.xb S1 (st := so) fun x m2 H2 u μ2 S2 L2 r2 h2 => ?_⟩
  unfold setFK at h2
  split at h2
  · rename_i μ' e
    obtain ⟨a, C, dx, fs, q1, q2, ⟨c, q3⟩, q4, m', q5, q6⟩ := setF_ok hx S2.ms r2 (r1.later L2 (.inl (n1.resolve_right fun z => nomatch z))) e
    exact ⟨a, C, dx, fs, q1, q2, hC c C q3, hN c C q3, q4, (h2.from q6).now (S2.lat q6 q5)⟩
  · exact h2.none_.elim
/-! ### items -/
def rSetX (G : Glo) : TSet := fun o i v H Q => ∃ m μ a k d μ', MS G m H μ ∧ RW G m H o a ∧ RV G m.flatten H i k ∧ RV G m.flatten H v d ∧ setI μ a k d = some μ' ∧ ∀ m' H', MS G m' H' μ' → Lat false m H m' H' → Q H'
/-- a key is put -/
theorem dput_ok {O : List Addr} {v : V} {d kd : Mp.D} {k : Key} (e : keyOf kd = some k) (rv : RV G O H v d) {vks : List (Key × V)} {kvs : List (Mp.D × Mp.D)} (h : Kys (vks.map (·.1)) (kvs.map (·.1))) (r : RVs G O H (vks.map (·.2)) (kvs.map (·.2))) :
    Kys ((putK vks k v).map (·.1)) ((dput kvs kd d).map (·.1)) ∧ RVs G O H ((putK vks k v).map (·.2)) ((dput kvs kd d).map (·.2)) := by
  have ha : ∀ {vks : List (Key × V)} {kvs : List (Mp.D × Mp.D)}, Kys (vks.map (·.1)) (kvs.map (·.1)) → (kvs.any fun kv => kq kv.1 kd) = (vks.any fun kv => decide (kv.1 = k)) := by
    intro vks
    induction vks with
    | nil => intro kvs h; cases kvs with | nil => rfl | cons _ _ => unfold Kys at h; simp at h
    | cons p vks ih =>
      intro kvs h
      cases kvs with
      | nil => unfold Kys at h; simp at h
      | cons q kvs =>
        unfold Kys at h
        simp only [List.map_cons, List.cons.injEq] at h
        rw [List.any_cons, List.any_cons, ih h.2, kq_key h.1 e]
  have hm : ∀ {vks : List (Key × V)} {kvs : List (Mp.D × Mp.D)}, Kys (vks.map (·.1)) (kvs.map (·.1)) → RVs G O H (vks.map (·.2)) (kvs.map (·.2)) →
      Kys ((vks.map fun kv => if kv.1 = k then (kv.1, v) else kv).map (·.1)) ((kvs.map fun kv => if kq kv.1 kd = true then (kv.1, d) else kv).map (·.1)) ∧ RVs G O H ((vks.map fun kv => if kv.1 = k then (kv.1, v) else kv).map (·.2)) ((kvs.map fun kv => if kq kv.1 kd = true then (kv.1, d) else kv).map (·.2)) := by
    intro vks
    induction vks with
    | nil => intro kvs h r; cases kvs with | nil => exact ⟨h, r⟩ | cons _ _ => unfold Kys at h; simp at h
    | cons p vks ih =>
      intro kvs h r
      cases kvs with
      | nil => unfold Kys at h; simp at h
      | cons q kvs =>
        unfold Kys at h
        simp only [List.map_cons, List.cons.injEq] at h
        simp only [List.map_cons] at r
        cases r with
        | cons r1 r2 =>
          obtain ⟨i1, i2⟩ := ih (kvs := kvs) h.2 r2
          have kk := kq_key h.1 e
          by_cases c : p.1 = k
          · have kk' : kq q.1 kd = true := by rw [kk]; exact decide_eq_true c
            refine ⟨?_, ?_⟩
            · unfold Kys at i1 ⊢
              simp only [List.map_cons, kk', if_true, if_pos c, h.1, i1]
            · simp only [List.map_cons, kk', if_true, if_pos c]
              exact .cons rv i2
          · have kk' : ¬ kq q.1 kd = true := by rw [kk]; simp [c]
            refine ⟨?_, ?_⟩
            · unfold Kys at i1 ⊢
              simp only [List.map_cons, if_neg kk', if_neg c, h.1, i1]
            · simp only [List.map_cons, if_neg kk', if_neg c]
              exact .cons r1 i2
  unfold putK dput
  rw [ha h]
  split
  · exact hm h r
  · refine ⟨?_, ?_⟩
    · unfold Kys at h ⊢
      simp only [List.map_append, List.map_cons, List.map_nil, h, e]
    · simp only [List.map_append, List.map_cons, List.map_nil]
      exact r.snoc rv
theorem kys_len {vks : List (Key × V)} {kvs : List (Mp.D × Mp.D)} (h : Kys (vks.map (·.1)) (kvs.map (·.1))) : vks.length = kvs.length := by
  have := congrArg List.length h
  simpa using this.symm
theorem dput_lst {H : Hp} {a : Addr} {vks : List (Key × V)} {k : Key} {v : V} (e : H a = some (.dK vks)) (hl : vks.length < sizeLine) : DPut H a (kV k) v (upd H a (.dK (putK vks k v))) := DPut.k e hl
theorem set_all (hu : X.A.units + 1 < cLine) : PSet X (rSetX G) := by
  intro pins s σ H o i v ov iv u Q I ro ri rv ⟨m, μ, a, k, d, μ', M, ra, rk, rd, e, q⟩
  unfold setI at e
  split at e
  · rename_i l
    split at e
    · rename_i cs hc
      obtain ⟨as, ha, b, r, vs, rfl, h1, h2⟩ := M.own hc
      obtain rfl := ra.2 b r ha
      split at e
      · rename_i ki
        obtain rfl := RV.int_ rk
        split at e
        · rename_i j hj
          split at e
          · rename_i y hy
            cases e
            obtain ⟨M1, L1⟩ := M.chg0 (o := .lst (vs.set j v)) (ob := .lst (cs.set j (.d d))) ha List.mem_cons_self (by rw [hc]; exact fun z => nomatch z)
              ⟨b, r, vs.set j v, rfl, upd_same, (h2.setD rd hy).mono (keep_in (List.mem_flatten.mpr ⟨_, List.mem_of_getElem? ha, List.mem_cons_self⟩) fun x h => h) fun c hc' o eo => by
                rw [upd_ne]
                · exact eo
                · intro z
                  subst z
                  exact (List.nodup_cons.mp ((List.sublist_flatten_of_mem (List.mem_of_getElem? ha)).nodup M.nd)).1 hc'⟩
            exact set_list pins s σ H _ _ v ov iv u Q I ro ri rv ⟨b, vs, ki, j, rfl, rfl, h1, by rw [h2.length, ← ixn_eq]; exact hj, q _ _ M1 L1⟩
          · cases e
        · cases e
      · cases e
    · rename_i kvs hc
      split at e
      · rename_i hk
        cases e
        rw [Bool.and_eq_true, decide_eq_true_eq] at hk
        obtain ⟨as, ha, b, vks, rfl, h1, h2, h3⟩ := M.own hc
        obtain rfl := ra.2 b [] ha
        obtain ⟨kk, ek⟩ := keyOf_ok hk.1
        obtain ⟨p1, p2⟩ := dput_ok ek rd h2 h3
        have K : Keep m.flatten m.flatten H (upd H b (.dK (putK vks kk v))) := keep_in (List.mem_flatten.mpr ⟨_, List.mem_of_getElem? ha, List.mem_cons_self⟩) fun x h => h
        obtain ⟨M1, L1⟩ := M.chg0 (o := .dK (putK vks kk v)) (ob := .dic (dput kvs k d)) ha List.mem_cons_self (by rw [hc]; exact fun z => nomatch z) ⟨b, _, rfl, upd_same, p1, p2.mono K⟩
        refine set_dict hu pins s σ H _ _ v ov iv u Q I ro ri rv ⟨b, _, rfl, ?_, q _ _ M1 L1⟩
        rw [rk.key ek]
        exact DPut.k h1 (by rw [kys_len h2, sizeLine_eq]; exact hk.2)
      · cases e
    · cases e
  · rename_i l j0
    split at e
    · rename_i ki xs hx
      obtain rfl := RV.int_ rk
      split at e
      · rename_i j hj
        split at e
        · rename_i cs hc
          cases e
          obtain ⟨as, ha, b, r, vs, rfl, h1, h2⟩ := M.own hc
          have hcell : cs[j0]? = some (.sub xs) := by
            simp only [asL, hc] at hx
            split at hx
            · rename_i ys q
              cases hx
              exact q
            · cases hx
          obtain ⟨w, ew, p, ws, rfl, hp, h3, h4⟩ := h2.get hcell
          have eo : o = .ref p := by
            obtain ⟨b', r', e1, h⟩ := ra
            rw [ha] at e1
            cases e1
            rcases h with ⟨vs', e2, e3⟩ | ⟨C, dx, vfs, x, e2, _⟩
            · rw [h1] at e2
              cases e2
              rw [ew] at e3
              cases e3
              rfl
            · rw [h1] at e2
              cases e2
          subst eo
          have ndA := (List.sublist_flatten_of_mem (List.mem_of_getElem? ha)).nodup M.nd
          have hO : ∀ x ∈ r, x ∈ m.flatten := fun x hx => List.mem_flatten.mpr ⟨_, List.mem_of_getElem? ha, List.mem_cons_of_mem _ hx⟩
          obtain ⟨M1, L1⟩ := M.chg0 (b := p) (o := .lst (ws.set j v)) (ob := .lst (cs.set j0 (.sub (xs.set j d)))) ha (List.mem_cons_of_mem _ hp) (by rw [hc]; exact fun z => nomatch z)
            ⟨b, r, vs, rfl, by rw [upd_ne (show b ≠ p from fun z => by subst z; exact (List.nodup_cons.mp ndA).1 hp)]; exact h1, h2.setS (RVs.set rd j h4) hO (List.nodup_cons.mp ndA).2 hcell ew⟩
          exact set_list pins s σ H _ _ v ov iv u Q I ro ri rv ⟨p, ws, ki, j, rfl, rfl, h3, by rw [h4.length, ← ixn_eq]; exact hj, q _ _ M1 L1⟩
        · cases e
      · cases e
    · cases e
  · cases e
theorem x_setI {o i e : Expr} {pos pos' : Pos} (hu : X.A.units + 1 < cLine) (he : PE X e (tE G Wx sa fe)) (ho : PE X o (tE G Wx so fo)) (hi : PE X i (tE G Wx sb fi))
    (hs : swapsWithSole [.Subscript o i pos'] e pos.line X.env = pure false) (hw : swappedStores [.Subscript o i pos'] e X.env = pure none) (h1 : (assignEach [.Subscript o i pos'] X.env).map (·.2) = [assign (.Subscript o i pos') X.env])
    (ha : ∀ v, assign (.Subscript o i pos') X.env v = (do
      let ov ← holding [v] (eval o X.env)
      let iv ← holding [v, ov] (eval i X.env)
      standAt pos'
      holding [v, ov, iv] (setItem ov iv v)
      release [v, ov, iv] [])) :
    PS X (.Assign [.Subscript o i pos'] e pos) (tX G Wx fun ρ μ => xbg false (fe ρ μ) ρ fun v μ => xbg sb (fo ρ μ) ρ fun x μ => xb (fi ρ μ) ρ (setIK v x ρ)) := by
  refine PS.imp (ps_asg he (pg_sub ho hi (set_all (G := G) hu) ha) hs hw h1) fun De σ H ⟨m, ρ, μ, S, h⟩ => ⟨m, ρ, μ, S, h.xbg S (st := sa) fun v m1 H1 w μ1 S1 L1 n1 r1 h1 => ?_⟩
  refine ⟨m1, ρ, μ1, S1, h1.xbg S1 (st := so) fun x m2 H2 wx μ2 S2 L2 n2 r2 h2 => ?_⟩
  refine ⟨m2, ρ, μ2, S2, h2.xb S2 (st := sb) fun y m3 H3 wy μ3 S3 L3 r3 h3 => ?_⟩
  unfold setIK at h3
  split at h3
  · rename_i k d
    split at h3
    · rename_i μ' e
      exact ⟨m3, μ3, wx, k, d, μ', S3.ms, r2.later L3 n2, r3, RW.later (w := .d d) L3 (.inl trivial) (RW.later (w := .d d) L2 (.inl trivial) r1), e, fun m' H' M' L' => (h3.from L').now (S3.lat L' M')⟩
    · exact h3.none_.elim
  · exact h3.none_.elim
end
end Mp
set_option Elab.async false
set_option linter.all false
set_option maxRecDepth 100000
set_option maxHeartbeats 1000000
/-! Mp: list comprehensions. -/
namespace Mp
open PySem PySem.Spec PyProof.Rows L2
section
variable {G : Glo} {X : Cx} {Wx : WX} {st sa sb sc se : Bool} {fa fb fc fe : Env → Mem → Ans W} {m m1 : List (List Addr)} {H H1 : Hp} {μ μ1 : Mem} {σ : L2.St} {ρ : Env}
def WN : WX := fun _ _ _ _ => False
/-- D stands aside; gh: what else does -/
structure Asd (m1 : List (List Addr)) (H1 : Hp) (gh : List Addr) (D : Addr) (m : List (List Addr)) (H : Hp) : Prop where
  keep : Keep m1.flatten m.flatten H1 H
  len : m1.length ≤ m.length
  root : ∀ (l : Nat) (a : Addr) (r : List Addr), 0 < l → l < m1.length → m[l]? = some (a :: r) → ∃ r', m1[l]? = some (a :: r')
  z1 : m1[0]? = some gh
  z : m[0]? = some (D :: gh)
  gst : ∀ a ∈ gh, ∀ o, H1 a = some o → H a = some o
  fr : H1 D = none
theorem MS.gh (M : MS G m H μ) : ∃ gh, m[0]? = some gh := by
  have := M.pos
  rw [← M.len] at this
  exact ⟨m[0], by simp [this]⟩
/-- aside it goes -/
theorem MS.aside (M : MS G m H μ) {gh : List Addr} {D : Addr} {o : HO} (e : m[0]? = some gh) (hD : H D = none) : MS G (m.set 0 (D :: gh)) (upd H D o) μ ∧ Asd m H gh D (m.set 0 (D :: gh)) (upd H D o) := by
  have P : (m.set 0 (D :: gh)).flatten.Perm (D :: m.flatten) := (flatten_mid e).trans (by rw [set_self e])
  have K : Keep m.flatten (m.set 0 (D :: gh)).flatten H (upd H D o) := fun a u eu n => ⟨by rw [upd_ne (ne_of_none eu hD)]; exact eu, fun z => by
    rcases List.mem_cons.mp (P.mem_iff.mp z) with z | z
    · exact ne_of_none eu hD z
    · exact n z⟩
  have hl : 0 < m.length := (List.getElem?_eq_some_iff.mp e).1
  have q : ∀ a u, H a = some u → upd H D o a = some u := fun a u eu => by rw [upd_ne (ne_of_none eu hD)]; exact eu
  refine ⟨⟨by simpa using M.len, fun j ob as e1 e2 => ?_, P.nodup_iff.mpr (List.nodup_cons.mpr ⟨M.free hD, M.nd⟩), M.g0⟩, ⟨K, by simp, fun l a r h0 _ e1 => ?_, e, by simp [hl], fun a _ u eu => q a u eu, hD⟩⟩
  · rcases set_get e2 with ⟨rfl, rfl⟩ | ⟨hj, e2⟩
    · rw [M.g0] at e1
      cases e1
      intro a ha
      rcases List.mem_cons.mp ha with rfl | ha
      · exact ⟨_, upd_same⟩
      · obtain ⟨u, eu⟩ := (M.obj 0 _ _ M.g0 e).trk a ha
        exact ⟨u, q a u eu⟩
    · exact (M.obj j ob as e1 e2).mono K fun a _ u eu => q a u eu
  · rw [List.getElem?_set_ne (by omega)] at e1
    exact ⟨r, e1⟩
/-- it is changed -/
theorem MS.asideU (M : MS G m H μ) {gh : List Addr} {D : Addr} {o : HO} (e : m[0]? = some (D :: gh)) : MS G m (upd H D o) μ ∧ Keep m.flatten m.flatten H (upd H D o) := by
  have hD : D ∈ m.flatten := List.mem_flatten.mpr ⟨_, List.mem_of_getElem? e, List.mem_cons_self⟩
  have K : Keep m.flatten m.flatten H (upd H D o) := keep_in hD fun x h => h
  refine ⟨⟨M.len, fun j ob as e1 e2 => ?_, M.nd, M.g0⟩, K⟩
  by_cases hj : j = 0
  · subst hj
    rw [M.g0] at e1
    cases e1
    intro a ha
    by_cases hd : a = D
    · subst hd
      exact ⟨_, upd_same⟩
    · obtain ⟨u, eu⟩ := (M.obj 0 _ _ M.g0 e2).trk a ha
      exact ⟨u, by rw [upd_ne hd]; exact eu⟩
  · refine (M.obj j ob as e1 e2).mono K fun a ha u eu => ?_
    rw [upd_ne]
    · exact eu
    · intro z
      subst z
      exact hj (disj M.nd e2 e ha List.mem_cons_self)
/-- back it comes -/
theorem MS.back (M : MS G m H μ) {gh : List Addr} {D : Addr} (e : m[0]? = some (D :: gh)) : MS G (m.set 0 gh) H μ ∧ Keep m.flatten (m.set 0 gh).flatten H H ∧ D ∉ (m.set 0 gh).flatten := by
  have P : m.flatten.Perm (D :: (m.set 0 gh).flatten) := by
    have := flatten_mid (y := gh) (p := D) e
    rw [set_self e] at this
    exact this
  have nd := List.nodup_cons.mp (P.nodup_iff.mp M.nd)
  have K : Keep m.flatten (m.set 0 gh).flatten H H := keep_sub fun x h => P.mem_iff.mpr (List.mem_cons_of_mem _ h)
  refine ⟨⟨by simpa using M.len, fun j ob as e1 e2 => ?_, nd.2, M.g0⟩, K, nd.1⟩
  rcases set_get e2 with ⟨rfl, rfl⟩ | ⟨hj, e2⟩
  · rw [M.g0] at e1
    cases e1
    exact fun a ha => (M.obj 0 _ _ M.g0 e).trk a (List.mem_cons_of_mem _ ha)
  · exact (M.obj j ob as e1 e2).mono K fun _ _ _ z => z
theorem Asd.lat {gh : List Addr} {D : Addr} (A : Asd m1 H1 gh D m H) (M : MS G m H μ) : Lat false m1 H1 (m.set 0 gh) H where
  keep := A.keep.trans (M.back A.z).2.1
  len := by simpa using A.len
  root := fun l a r hl e => by
    rcases set_get e with ⟨rfl, e'⟩ | ⟨hj, e⟩
    · exact ⟨r, by rw [e']; exact A.z1⟩
    · exact A.root l a r (by omega) hl e
  same := fun z => nomatch z
  gst := ⟨by rw [A.z1]; exact List.getElem?_set_self (by have := (List.getElem?_eq_some_iff.mp A.z).1; exact this), fun as e a ha o eo => by
    rw [A.z1] at e
    cases e
    exact A.gst a ha o eo⟩
theorem Asd.later {gh : List Addr} {D : Addr} {m' : List (List Addr)} {H' : Hp} (A : Asd m1 H1 gh D m H) (L : Lat st m H m' H') : Asd m1 H1 gh D m' H' where
  keep := A.keep.trans L.keep
  len := Nat.le_trans A.len L.len
  root := fun l a r h0 hl e => by
    obtain ⟨r', e'⟩ := L.root l a r (Nat.lt_of_lt_of_le hl A.len) e
    exact A.root l a r' h0 hl e'
  z1 := A.z1
  z := L.gst.1.trans A.z
  gst := fun a ha o eo => L.gst.2 _ A.z a (List.mem_cons_of_mem _ ha) o (A.gst a ha o eo)
  fr := A.fr
theorem Asd.upd_ {gh : List Addr} {D : Addr} {o : HO} (A : Asd m1 H1 gh D m H) : Asd m1 H1 gh D m (upd H D o) where
  keep := fun a u e n => by
    obtain ⟨h1, h2⟩ := A.keep a u e n
    exact ⟨by rw [upd_ne (ne_of_none e A.fr)]; exact h1, h2⟩
  len := A.len
  root := A.root
  z1 := A.z1
  z := A.z
  gst := fun a ha u e => by rw [upd_ne (ne_of_none e A.fr)]; exact A.gst a ha u e
  fr := A.fr
theorem Asd.sim {gh : List Addr} {D : Addr} (A : Asd m1 H1 gh D m H) (S : Sim G m1 σ H1 ρ μ1) (M : MS G m H μ) : Sim G m σ H ρ μ := S.move A.keep A.len A.root M
/-- from aside, to an owned list -/
theorem MS.out {gh : List Addr} {D : Addr} {acc : List V} {ys : List Mp.D} (M : MS G m H μ) (A : Asd m1 H1 gh D m H) (hacc : H D = some (.lst acc)) (r : RVs G m.flatten H acc ys) :
    MS G (m.set 0 gh ++ [[D]]) H (μ ++ [.lst (ys.map Cell.d)]) ∧ Lat false m1 H1 (m.set 0 gh ++ [[D]]) H ∧ RW G (m.set 0 gh ++ [[D]]) H (.ref D) (.own μ.length) := by
  obtain ⟨M2, K2, nD⟩ := M.back A.z
  have LL := A.lat M
  have h0 : 0 < m.length := (List.getElem?_eq_some_iff.mp A.z).1
  have hm : (m.set 0 gh).length = μ.length := by simpa using M.len
  have fl : (m.set 0 gh ++ [[D]]).flatten = (m.set 0 gh).flatten ++ [D] := by simp
  have P : m.flatten.Perm (D :: (m.set 0 gh).flatten) := by
    have := flatten_mid (y := gh) (p := D) A.z
    rw [set_self A.z] at this
    exact this
  have P2 : (m.set 0 gh ++ [[D]]).flatten.Perm m.flatten := by
    rw [fl]
    exact (List.perm_append_singleton _ _).trans P.symm
  have K : Keep m.flatten (m.set 0 gh ++ [[D]]).flatten H H := keep_sub fun x h => P2.mem_iff.mp h
  refine ⟨⟨by simp [M.len], fun j ob as e1 e2 => ?_, P2.nodup_iff.mpr M.nd, by rw [List.getElem?_append_left M.pos]; exact M.g0⟩, ⟨A.keep.trans K, by have := A.len; simp; omega, fun l a r hl e => ?_, (fun z => nomatch z), ?_, LL.gst.2⟩, ?_⟩
  · rcases app_get e1 with e1 | ⟨h1, rfl⟩
    · rcases app_get e2 with e2 | ⟨h2, _⟩
      · rcases set_get e2 with ⟨rfl, rfl⟩ | ⟨hj, e2⟩
        · rw [M.g0] at e1
          cases e1
          exact fun a ha => (M.obj 0 _ _ M.g0 A.z).trk a (List.mem_cons_of_mem _ ha)
        · exact (M.obj j ob as e1 e2).mono K fun _ _ _ z => z
      · have := (List.getElem?_eq_some_iff.mp e1).1
        omega
    · rcases app_get e2 with e2 | ⟨_, rfl⟩
      · have := (List.getElem?_eq_some_iff.mp e2).1
        omega
      · exact ⟨D, [], acc, rfl, hacc, (r.mono K).cells⟩
  · rcases app_get e with e | ⟨h1, _⟩
    · exact LL.root l a r hl e
    · have := A.len
      simp at h1
      omega
  · rw [List.getElem?_append_left (by simpa using h0)]
    exact LL.gst.1
  · rw [← hm]
    exact push_own (by simpa using h0)
theorem wipe_idem (σ : L2.St) : ∀ vs : List Nat, L2.wipe (L2.wipe σ vs) vs = L2.wipe σ vs := fun vs => wipe_sub σ vs vs fun _ h => h
where wipe_sub (σ : L2.St) (vs : List Nat) : ∀ us : List Nat, (∀ i ∈ us, i ∈ vs) → L2.wipe (L2.wipe σ us) vs = L2.wipe σ vs
  | [], _ => rfl
  | u :: us, h => by
    show L2.wipe ((L2.wipe σ us).set u none) vs = _
    rw [wipe_set (h u List.mem_cons_self), wipe_sub σ vs us fun i hi => h i (List.mem_cons_of_mem _ hi)]
theorem Sim.wipe (S : Sim G m σ H ρ μ) : ∀ vs : List Nat, Sim G m (L2.wipe σ vs) H (Mp.wipe ρ vs) μ
  | [] => S
  | v :: vs => (S.wipe vs).unset
theorem compL_ok {t : Tg} : ∀ {xs : List D} {μ : Mem} {r : R (List D) × Mem}, compL t fc fe ρ xs μ = some r → ∃ ys μ', r = (.ok ys, μ') ∧ ys.length ≤ xs.length
  | [], μ, r, e => by cases e; exact ⟨[], μ, rfl, Nat.le_refl _⟩
  | x :: xs, μ, r, e => by
    unfold compL at e
    split at e
    · cases e
    · split at e
      · split at e
        · split at e
          · rename_i q
            obtain ⟨ys, μ', e1, e2⟩ := compL_ok q
            cases e1
            cases e
            exact ⟨_, _, rfl, by simpa using e2⟩
          · cases e
        · cases e
      · obtain ⟨ys, μ', e1, e2⟩ := compL_ok e
        exact ⟨ys, μ', e1, Nat.le_succ_of_le e2⟩
      · cases e
variable {tg iter elt : Expr} {ifs : List Expr} {scope : Scope} {own : List (Str × Nat)} {pos : Pos} {t : Tg} {fi : Env → Mem → Ans (List D)}
theorem lc_red {Q : VK} (hv : ∀ i ∈ tvs t, i ∈ own.map (·.2)) {fin : List D → Mem → Ans W} {σ : L2.St}
    (hf : ∀ ys μ m H D gh acc (A : Asd m1 H1 gh D m H) (M : MS G m H μ), H D = some (.lst acc) → RVs G m.flatten H acc ys → tK G Wx (RW G) false (fin ys μ) σ m1 H1 Q → Q (.ref D) H)
    (hlen : ∀ ys μ, okLen ys = false → fin ys μ = none)
    {xs : List D} {J : L2.It} (S : Sim G m1 σ H1 ρ μ1) (jr : JR G m1 H1 J xs) (h : tK G Wx (RW G) false (bnd (compL t fc fe (Mp.wipe ρ (own.map (·.2))) xs μ1) fin) σ m1 H1 Q) (D : Addr) (hD : H1 D = none) :
    ∃ W : Nat → Nat → Hp → Prop, (∃ m, W 0 m (upd H1 D (.lst []))) ∧ ∀ i m H, W i m H →
  (J.stop i H ∧ Q (.ref D) H) ∨ (J.go i H ∧ ∃ Nx : Hp → Prop, (∀ H', Nx H' → ∃ m', m' < m ∧ W (i + 1) m' H') ∧ ∀ x H', J.yld i H x H' → gT G t x (L2.wipe σ (own.map (·.2))) H' fun σ2 H2 => L2.wipe σ2 (own.map (·.2)) = L2.wipe σ (own.map (·.2)) ∧ tT G WN sc fc σ2 H2 fun b H3 =>
    if b = true then tE G WN se fe σ2 H3 fun y H4 => ∃ acc, H4 D = some (.lst acc) ∧ acc.length < sizeLine ∧ Nx (upd H4 D (.lst (acc ++ [y]))) else Nx H3) := by
  cases e : compL t fc fe (Mp.wipe ρ (own.map (·.2))) xs μ1 with
  | none => rw [e] at h; exact h.not_none.elim
  | some r =>
    rw [e] at h
    obtain ⟨ys, μ', rfl, _⟩ := compL_ok e
    have h2 : tK G Wx (RW G) false (fin ys μ') σ m1 H1 Q := h
    have hok : okLen ys = true := by
      cases q : okLen ys with
      | true => rfl
      | false => rw [hlen _ _ q] at h2; exact h2.not_none.elim
    have hys : ys.length ≤ sizeLine := by rw [← lim_eq]; exact of_decide_eq_true hok
    obtain ⟨gh, z1⟩ := S.ms.gh
    obtain ⟨M0, A0⟩ := S.ms.aside (o := .lst []) z1 hD
    refine ⟨fun i k H => k = xs.length - i ∧ i ≤ xs.length ∧ ∃ m μ acc ds zs, Asd m1 H1 gh D m H ∧ MS G m H μ ∧ H D = some (.lst acc) ∧ RVs G m.flatten H acc ds ∧ compL t fc fe (Mp.wipe ρ (own.map (·.2))) (xs.drop i) μ = some (.ok zs, μ') ∧ ds ++ zs = ys,
      ⟨xs.length, by simp, Nat.zero_le _, _, μ1, [], [], ys, A0, M0, upd_same, .nil, e, rfl⟩, fun i k H ⟨hk, hi, m, μ, acc, ds, zs, A, M, hacc, rds, ec, eys⟩ => ?_⟩
    obtain ⟨jg, js⟩ := jr m H μ A.keep M
    by_cases hlt : i < xs.length
    · right
      rw [List.drop_eq_getElem_cons hlt] at ec
      obtain ⟨g1, g2⟩ := jg i xs[i] (by simp [hlt])
      refine ⟨g1, fun H' => ∃ k', k' < k ∧ (k' = xs.length - (i + 1) ∧ i + 1 ≤ xs.length ∧ ∃ m μ acc ds zs, Asd m1 H1 gh D m H' ∧ MS G m H' μ ∧ H' D = some (.lst acc) ∧ RVs G m.flatten H' acc ds ∧ compL t fc fe (Mp.wipe ρ (own.map (·.2))) (xs.drop (i + 1)) μ = some (.ok zs, μ') ∧ ds ++ zs = ys), fun H' hh => hh, fun v H2 hv2 => ?_⟩
      obtain ⟨M2, L2', rv⟩ := g2 v H2 hv2
      have A2 := A.later L2'
      have hacc2 : H2 D = some (.lst acc) := L2'.gst.2 _ A.z D List.mem_cons_self _ hacc
      have rds2 := rds.mono L2'.keep
      unfold compL at ec
      split at ec
      · cases ec
      · rename_i ρ' ea
        have S2 : Sim G m (L2.wipe σ (own.map (·.2))) H2 (Mp.wipe ρ (own.map (·.2))) μ := (A2.sim S M2).wipe _
        refine ⟨m, _, μ, xs[i], ρ', S2, rv, ea, fun σ3 q3 S3 => ⟨?_, m, ρ', μ, S3, ?_⟩⟩
        · rw [q3 _ hv]
          exact wipe_idem _ _
        · split at ec
          · rename_i μ3 e3
            refine ⟨.ok (.d (.bl true)), μ3, e3, fun b m4 H4 M4 L4 rb => ?_⟩
            cases rb
            rw [if_pos rfl]
            have A4 := A2.later L4
            have hacc4 : H4 D = some (.lst acc) := L4.gst.2 _ A2.z D List.mem_cons_self _ hacc2
            have rds4 := rds2.mono L4.keep
            refine ⟨m4, ρ', μ3, S3.lat L4 M4, ?_⟩
            split at ec
            · rename_i y μ5 e5
              refine ⟨.ok (.d y), μ5, e5, fun v6 m6 H6 M6 L6 r6 => ?_⟩
              have A6 := A4.later L6
              have hacc6 : H6 D = some (.lst acc) := L6.gst.2 _ A4.z D List.mem_cons_self _ hacc4
              have rds6 := rds4.mono L6.keep
              split at ec
              · rename_i ys7 μ7 e7
                cases ec
                refine ⟨acc, hacc6, ?_, ?_⟩
                · rw [rds6.length]
                  have := congrArg List.length eys
                  simp at this
                  omega
                · obtain ⟨M8, K8⟩ := M6.asideU (o := .lst (acc ++ [v6])) A6.z
                  exact ⟨xs.length - (i + 1), by omega, rfl, hlt, m6, μ5, acc ++ [v6], ds ++ [y], ys7, A6.upd_, M8, upd_same, (rds6.snoc r6).mono K8, e7, by rw [List.append_assoc]; exact eys⟩
              · cases ec
            · cases ec
          · rename_i μ3 e3
            refine ⟨.ok (.d (.bl false)), μ3, e3, fun b m4 H4 M4 L4 rb => ?_⟩
            cases rb
            rw [if_neg Bool.false_ne_true]
            exact ⟨xs.length - (i + 1), by omega, rfl, hlt, m4, μ3, acc, ds, zs, A2.later L4, M4, L4.gst.2 _ A2.z D List.mem_cons_self _ hacc2, rds2.mono L4.keep, ec, eys⟩
          · cases ec
    · left
      have hl : i = xs.length := by omega
      subst hl
      rw [List.drop_length] at ec
      cases ec
      rw [List.append_nil] at eys
      subst eys
      exact ⟨js, hf _ _ m H D gh acc A M hacc rds h2⟩
/-- [e for t in it if c], as data -/
theorem n_comp (hc : X.calm = true) (hN : X.N.Nodup) (hi : PI X tg iter (tI G Wx sa fi)) (ok : BlkOk X.N X.env.scope scope own) (hv : ∀ i ∈ tvs t, i ∈ own.map (·.2))
    (hg : ∀ (s : Shared) (H : Hp) (C : Addr) (cl : List (Str × Addr)) (fp : List Addr), PG (X.blk s H scope (compEnvC scope cl C X.env) fp) tg (gT G t)) (ht : ∀ (s : Shared) (H : Hp) (C : Addr) (cl : List (Str × Addr)) (fp : List Addr), PTs (X.blk s H scope (compEnvC scope cl C X.env) fp) ifs (tT G WN sc fc))
    (he : ∀ (s : Shared) (H : Hp) (C : Addr) (cl : List (Str × Addr)) (fp : List Addr), PE (X.blk s H scope (compEnvC scope cl C X.env) fp) elt (tE G WN se fe)) (hs : ∀ x, foldedSetIterable iter X.env x = pure x) :
    PE X (.ListComp elt [⟨tg, iter, ifs, 0⟩] scope pos) (tE G Wx false fun ρ μ => bnd (fi ρ μ) fun xs μ => bnd (compL t fc fe (Mp.wipe ρ (own.map (·.2))) xs μ) compD) := by
  refine PE.imp (pe_lc hc hN hi ok hg ht he hs) fun σ H Q ⟨m, ρ, μ, S, h⟩ => ⟨m, ρ, μ, S, h.bnd (st2 := false) (fun z => nomatch z) id fun J m1 H1 xs μ1 M1 L1 jr h1 => ?_⟩
  intro D hD
  refine lc_red hv (fun ys μ m H D gh acc A M hacc r h2 => ?_) (fun ys μ q => by unfold compD; rw [q]; rfl) (S.lat L1 M1) jr h1 D hD
  unfold compD at h2
  split at h2
  · obtain ⟨M2, K2, nD⟩ := M.back A.z
    obtain ⟨_, _, e, h3⟩ := h2
    cases e
    exact h3 _ _ _ M2 (A.lat M) (.lst (.inl hacc) nD (r.mono K2))
  · exact h2.not_none.elim
/-- the same, owned -/
theorem n_compO (hc : X.calm = true) (hN : X.N.Nodup) (hi : PI X tg iter (tI G Wx sa fi)) (ok : BlkOk X.N X.env.scope scope own) (hv : ∀ i ∈ tvs t, i ∈ own.map (·.2))
    (hg : ∀ (s : Shared) (H : Hp) (C : Addr) (cl : List (Str × Addr)) (fp : List Addr), PG (X.blk s H scope (compEnvC scope cl C X.env) fp) tg (gT G t)) (ht : ∀ (s : Shared) (H : Hp) (C : Addr) (cl : List (Str × Addr)) (fp : List Addr), PTs (X.blk s H scope (compEnvC scope cl C X.env) fp) ifs (tT G WN sc fc))
    (he : ∀ (s : Shared) (H : Hp) (C : Addr) (cl : List (Str × Addr)) (fp : List Addr), PE (X.blk s H scope (compEnvC scope cl C X.env) fp) elt (tE G WN se fe)) (hs : ∀ x, foldedSetIterable iter X.env x = pure x) :
    PE X (.ListComp elt [⟨tg, iter, ifs, 0⟩] scope pos) (tE G Wx false fun ρ μ => bnd (fi ρ μ) fun xs μ => bnd (compL t fc fe (Mp.wipe ρ (own.map (·.2))) xs μ) compO) := by
  refine PE.imp (pe_lc hc hN hi ok hg ht he hs) fun σ H Q ⟨m, ρ, μ, S, h⟩ => ⟨m, ρ, μ, S, h.bnd (st2 := false) (fun z => nomatch z) id fun J m1 H1 xs μ1 M1 L1 jr h1 => ?_⟩
  intro D hD
  refine lc_red hv (fun ys μ m H D gh acc A M hacc r h2 => ?_) (fun ys μ q => by unfold compO; rw [q]; rfl) (S.lat L1 M1) jr h1 D hD
  unfold compO at h2
  split at h2
  · obtain ⟨_, _, e, h3⟩ := h2
    cases e
    obtain ⟨M2, L2', R2⟩ := M.out A hacc r
    exact h3 _ _ _ M2 L2' R2
  · exact h2.not_none.elim
end
end Mp
set_option Elab.async false
set_option linter.all false
set_option maxRecDepth 100000
set_option maxHeartbeats 2000000
/-! Mp: own exceptions whose __init__ says super().__init__('..') and stores one field or none. -/
namespace PySem
namespace BkX
open PySem.W PySem.Calls PyProof.Rows PySem.HandSPX
def sS (a1 a2 a3 a4 a5 a6 : Pos) (msg : Str) (k : Nat) : Stmt := .Expr (.Call (.Attribute (.Call (.Name "super" a1) [] [] a2) "__init__" a3) [.Constant (.str msg) k a4] [] a5) a6
def sF (f : Str) (q1 q2 q3 q4 : Pos) : Stmt := .Assign [.Attribute (.Name "self" q1) f q2] (.Name f q3) q4
def iA1 (f : Str) (p1 p2 : Pos) : Arguments := { posonlyargs := [], args := [{ arg := "self", annotation := none, pos := p1 }, { arg := f, annotation := none, pos := p2 }], vararg := none, kwonlyargs := [], kw_defaults := [], kwarg := none, defaults := [] }
def iA0 (p1 : Pos) : Arguments := { posonlyargs := [], args := [{ arg := "self", annotation := none, pos := p1 }], vararg := none, kwonlyargs := [], kw_defaults := [], kwarg := none, defaults := [] }
def iS1 (f : Str) : Scope := { kind := .function, names := [(PySem.Str.ofString "self", .local), (f, .local), (PySem.Str.ofString "__class__", .free), (PySem.Str.ofString "super", .globalImplicit)], isGenerator := false, isCoroutine := false, more := [] }
def iS0 : Scope := { kind := .function, names := [(PySem.Str.ofString "self", .local), (PySem.Str.ofString "__class__", .free), (PySem.Str.ofString "super", .globalImplicit)], isGenerator := false, isCoroutine := false, more := [] }
/-- what the written part says of the class at C; cc: the cell that names it; cda: the code of its __init__ -/
structure BkC (P : Program) (K : Frag) (mg : Str → Option Value) (C cc cda : Addr) : Prop where
  cls : ∃ nm q N bs bm sn sub ab col dd k0 k1 k2 k3 k5, K.lookup C = some (excClassObj nm q C N bs bm true sn sub ab col dd k0 k1 k2 k3 k5 "ValueError.__new__") ∧ refsVE bm = true
  sa : findIn K (.ref C) "__setattr__" = some (some (.builtin "object.__setattr__"))
  kC : keepIn K (.ref C) = true
  exC : subIn K (.ref C) (.type "BaseException") = some true
  veC : subIn K (.ref C) (.type "ValueError") = some true
  tyC : typeIn K (.ref C) = some (.type "type")
  mrC : mroIn K C (.ref C) = some true
  sup : ks_superIn K C C "__init__" = some (some (.builtin "ValueError.__init__"))
  opq : nsIn K cStatics "thirdparty.any" = some none
  cell : ∃ cl cld csl, K.lookup cc = some ⟨cl, cld, .cell (some (.ref C)), csl⟩
  code : ∃ ccl cdd vs ccs file tf, K.lookup cda = some ⟨ccl, cdd, .fields vs, ccs⟩ ∧ vs[2]? = some (.str file tf) ∧ ((P.main.file : Str) == file) = true
  top : (P.main.scope.names.lookup ("super" : Str)).isSome = false
  gS : mg "super" = none
section
variable {prog : Program} {w : World} {A : Around} {E : Value → Shared → Prop} {h : Heap} {g : Array GenState} {d : Drawn} {t : Nat} {os : OsState}
variable {nm q : Str} {C N : Addr} {bs bm : List Value} {hdct : Bool} {sn : List Str} {sub : List Value} {ab : Bool} {col : Option Bool} {dd : Option Addr} {k0 k1 k2 k3 k5 : Option Value}
theorem mw_call {u e t0 : Addr} {rest : List Value} {Q : Value → Shared → Prop}
    (hC : h.get? C = some (excClassObj nm q C N bs bm hdct sn sub ab col dd k0 k1 k2 k3 k5 "ValueError.__new__")) (he : h.get? e = some (excO C t0)) (hu : h.get? u = some (kxs_mw "ValueError.__init__" e)) (hrest : rest.length ≤ sizeLine)
    (hq : ∀ h' t1, (∀ b o, b ≠ e → h.get? b = some o → h'.get? b = some o) → h'.get? e = some (excO C t1) → Q .none ⟨h', g, d, t, os⟩) :
    wpAny (model prog w) A (call (.ref u) rest) Q E ⟨h, g, d, t, os⟩ := by
  refine wpAny_call (codeAny_of_tree ?_)
  show wpAny _ A.in1 (callAny (.ref u) ⟨rest, []⟩) _ _ _
  simp only [callAny]
  refine wpAny_bind (wpAny_load hu ?_)
  simp only [kxs_mw, show (Value.type "method-wrapper" == Value.type "method" || Value.type "method-wrapper" == Value.type "builtin_function_or_method" || Value.type "method-wrapper" == Value.type "method-wrapper") = true by decide, if_true]
  refine W.KFB.if_so (by decide) ?_
  refine wpAny_bind (check_bound_init F.excBase_ValueError.toExcCallFacts hC he rfl ?_)
  refine wpAny_bind (wpAny_pure (wpAny_pure ?_))
  refine ⟨Code.quiet_builtin _ (by decide +kernel), codeAny_builtin F.excBase_ValueError.initEntry ?_⟩
  rw [Around.under_plainId F.excBase_ValueError.init.plain _]
  wp_walk
  refine hq _ h.objs.size (fun b o hb ho => ?_) ?_
  · rw [Heap.get?_update_other _ _ (Ne.symm hb)]
    exact Heap.get?_push_of_some _ ho
  · rw [Heap.get?_update_self _ (Heap.get?_push_of_some _ he) rfl]
    rfl
end
section
variable {prog : Program} {w : World} {A : Around} {E : Value → Shared → Prop} {R : Result → Shared → Prop} {s : Shared} {K : Frag} {mg : Str → Option Value} {C fI cc cda : Addr}
theorem spl_str {M : Model} {env : Env} {msg : Str} {k : Nat} {p pos : Pos} {Q : List Value → Shared → Prop} (h : ∀ tk, Q [.str msg tk] { s with toks := s.toks + 1 }) : wpAny M A (spliced (backTo pos (starEach [.Constant (.str msg) k p] env))) Q E s := by
  show wpAny _ _ (spliced [(false, eval (.Constant (.str msg) k p) env)]) _ _ _
  exact Calls.spliced_cons (Calls.Constant_str (Calls.spliced_nil (h _)))
/-- super().__init__('..') -/
theorem ht_raw {o : Expr} {m : Str} {args : List Expr} {apos pos : Pos} {env : PySem.Env}
   (hf : methodCallForm (args.length + ([] : List Keyword).length) (backTo pos (starEach args env)) (backToKw pos (keywordEach [] env)) = true) (hl : (apos.endLine == pos.line) = true) :
   eval (.Call (.Attribute o m apos) args [] pos) env = (do
      let ov ← attributeBase o m env (eval o env)
      standAt apos.atName
      let (f, first) ← holding [ov] (getMethod ov m (do return (← importBound o env).getD true))
      callWith pos f first (backTo pos (starEach args env)) []) := by
  show (do
    let ov ← attributeBase o m env (eval o env)
    standAt apos.atName
    methodCall o m apos pos env ov (args.length + ([] : List Keyword).length) (backTo pos (starEach args env)) (backToKw pos (keywordEach [] env))) = _
  congr 1
  funext ov
  congr 1
  funext _
  rw [Mp.mcallL hf hl]
  rfl
theorem sup_ok (T : BkC prog K mg C cc cda) {body : List Stmt} {qual : Str} {scope : Scope} {L x t0 : Addr} {fo : Obj} {fd : FuncData} {ar : Arg} {m mb : Str → Option Value} {a1 a2 a3 a4 a5 a6 : Pos} {msg : Str} {k : Nat} {Q : Flow → Shared → Prop} (hl : (a3.endLine == a5.line) = true) (hi : interactive (ksEnv qual scope L fI (.ref cda) cc) = false) (hs : swapsWith (.Call (.Attribute (.Call (.Name "super" a1) [] [] a2) "__init__" a3) [.Constant (.str msg) k a4] [] a5) none a6.line (ksEnv qual scope L fI (.ref cda) cc) = pure false)
    (X : K.In s.heap) (G : s.heap.Ns mainGlobals mg) (B : s.heap.Ns builtinsNs mb) (hb : mb "super" = some (.type "super")) (hf : s.heap.get? fI = some fo) (hfd : fo.data = .func fd) (hp : (fd.params.posonlyargs ++ fd.params.args).head? = some ar) (har : ar.arg = "self")
    (hn : s.heap.Ns L m) (hm : m "self" = some (.ref x)) (hx : s.heap.get? x = some (excO C t0)) (hk : scope.kind = .function) (hks : scope.names.lookup ("super" : Str) = some .globalImplicit) (hkc : scope.names.lookup ("__class__" : Str) = some .free) (hka : scope.names.lookup ("self" : Str) = some .local)
    (h : ∀ h' tk t1, (∀ b o, b ≠ x → s.heap.get? b = some o → h'.get? b = some o) → h'.get? x = some (excO C t1) → Q .next { s with heap := h', toks := tk }) :
    _root_.PySem.wpAt (model prog w) A (.func body (ksEnv qual scope L fI (.ref cda) cc)) (exec (sS a1 a2 a3 a4 a5 a6 msg k) (ksEnv qual scope L fI (.ref cda) cc)) Q E s := by
  obtain ⟨nm, q, N, bs, bm, sn, sub, ab, col, dd, k0, k1, k2, k3, k5, hC, hbm⟩ := T.cls
  obtain ⟨cl, cld, csl, hcell⟩ := T.cell
  obtain ⟨ccl, cdd, vs, ccs, file, tf, hcode, hvs, hfile⟩ := T.code
  have hcl : clsIn K C = some { name := nm, bases := bs, mro := .ref C :: bm, ns := N, qualname := q, hasDict := true, slotNames := sn, subclasses := sub, abstract := ab, collection := col, hasDel := false } := by unfold clsIn; rw [hC] <;> rfl
  refine ks_wpAt_Expr_any (ks_wpAt_MethodCall (pl := (do return (← importBound (.Call (.Name "super" a1) [] [] a2) (ksEnv qual scope L fI (.ref cda) cc)).getD true)) ?_ (ht_raw (by rfl) hl)) hi hs
  refine ks_wpAt_super_base (f := fI) (cc := cda) (file := file) hks hkc (by decide) rfl hf hfd hp rfl (X _ _ hcode) rfl hvs hfile T.top ?_
  refine ks_loadName_global hk hks (loadGlobal_builtin G T.gS B hb ⟨rfl, ?_⟩)
  refine wpAny_loadName_free hk hkc rfl ⟨_, X _ _ hcell, rfl⟩ ?_
  rw [har]
  refine wpAny_loadName_local hk hka hn hm ?_
  obtain ⟨hp0, g, d, t, os⟩ := s
  refine ks_wpAny_isType_cls (X _ _ hC) rfl ⟨rfl, ?_⟩
  refine ks_wpAny_call_super (X _ _ hC) rfl hx rfl (fun c z => by cases z) (looks_mroIn X T.mrC) (fun h2 e2 k2 => ?_)
  have X2 : K.In h2 := X.keeps k2
  have hx2 := k2 _ _ hx
  have I2 : InstAt h2 x (excO C t0) C none := ⟨hx2, rfl, rfl, trivial⟩
  have hsup := T.sup
  unfold ks_superIn at hsup
  rw [hcl] at hsup
  refine kxs_getMethod kxs_ValueError e2 (looks_opaque X2 T.opq) (l₀ := .ref C :: bm) (fun A Q E s k q => wpAny_bind ((looks_clsIn X2 hcl) A _ E s k (wpAny_pure q))) rfl X2 hsup (I2.type.andThen (looks_subIn X2 T.veC)) (ks_ne X2 I2 hcl) (by decide) ?_
  refine kxs_callWith (i := "ValueError.__init__") (x := x) rfl (evalArgs_plain ?_)
  have gu : (h2.push (kxs_mw "ValueError.__init__" x)).get? h2.objs.size = some (kxs_mw "ValueError.__init__" x) := Heap.get?_push_at rfl rfl
  have up : ∀ b o, h2.get? b = some o → (h2.push (kxs_mw "ValueError.__init__" x)).get? b = some o := fun b o e => Heap.get?_push_of_some _ e
  refine spl_str fun tk => ⟨gu, ?_⟩
  refine mw_call (up _ _ (X2 _ _ hC)) (up _ _ hx2) gu (by rw [sizeLine_eq]; show (1 : Nat) ≤ 16777216; decide) fun h' t1 k' hx' => ?_
  exact h h' _ t1 (fun b o hb' e => k' b o hb' (up _ _ (k2 _ _ e))) hx'
/-- its __init__, with a field -/
structure BkI1 (K : Frag) (C fI cc cda : Addr) (f : Str) : Prop where
  iC : findIn K (.ref C) "__init__" = some (some (.ref fI))
  tI : typeIn K (.ref fI) = some (.type "function")
  noN : findIn K (.ref C) f = some none
  l1 : (iS1 f).names.lookup ("self" : Str) = some .local
  l2 : (iS1 f).names.lookup f = some .local
  l3 : (iS1 f).names.lookup ("super" : Str) = some .globalImplicit
  l4 : (iS1 f).names.lookup ("__class__" : Str) = some .free
  sf : (("self" : Str) == f) = false
  fd : (f == ("__debug__" : Str)) = false
  fn : ∃ (oc : Value) (od : Option Addr) (qual : Str) (doc pm : Value) (an : Option Addr) (ct : Value) (osl : Array (Option Value)) (p1 p2 a1 a2 a3 a4 a5 a6 q1 q2 q3 q4 : Pos) (msg : Str) (k : Nat),
    K.lookup fI = some ⟨oc, od, .func (ksFn "__init__" qual (iA1 f p1 p2) [sS a1 a2 a3 a4 a5 a6 msg k, sF f q1 q2 q3 q4] (iS1 f) .none .none doc pm an (.ref cda) ct cc), osl⟩ ∧ codeIn K (.ref cda) qual = true ∧ (a3.endLine == a5.line) = true ∧
      ∀ (s : Shared) (u v : Value), BindsTo s (ksFn "__init__" qual (iA1 f p1 p2) [sS a1 a2 a3 a4 a5 a6 msg k, sF f q1 q2 q3 q4] (iS1 f) .none .none doc pm an (.ref cda) ct cc) ⟨[u, v], []⟩ [(("self" : Str), u), (f, v)]
structure BkI0 (K : Frag) (C fI cc cda : Addr) : Prop where
  iC : findIn K (.ref C) "__init__" = some (some (.ref fI))
  tI : typeIn K (.ref fI) = some (.type "function")
  fn : ∃ (oc : Value) (od : Option Addr) (qual : Str) (doc pm : Value) (an : Option Addr) (ct : Value) (osl : Array (Option Value)) (p1 a1 a2 a3 a4 a5 a6 : Pos) (msg : Str) (k : Nat),
    K.lookup fI = some ⟨oc, od, .func (ksFn "__init__" qual (iA0 p1) [sS a1 a2 a3 a4 a5 a6 msg k] iS0 .none .none doc pm an (.ref cda) ct cc), osl⟩ ∧ codeIn K (.ref cda) qual = true ∧ (a3.endLine == a5.line) = true ∧
      ∀ (s : Shared) (u : Value), BindsTo s (ksFn "__init__" qual (iA0 p1) [sS a1 a2 a3 a4 a5 a6 msg k] iS0 .none .none doc pm an (.ref cda) ct cc) ⟨[u], []⟩ [(("self" : Str), u)]
structure InitEnd (h h' : Heap) (x C dx : Addr) (f : Str) (v : Value) : Prop where
  keep : ∀ b o, b ≠ x → h.get? b = some o → h'.get? b = some o
  obj : ∃ t1 : Addr, h'.get? x = some { cls := .ref C, dict := some dx, data := .fields #[.ref t1, .none, .none, .none, .bool false, .none] }
  dbig : h.objs.size ≤ dx
  dne : dx ≠ x
  ns : h'.Ns1 dx (fun y => if y = f then some v else none)
theorem init1 (T : BkC prog K mg C cc cda) {f : Str} (I : BkI1 K C fI cc cda f) {mb : Str → Option Value} {x t0 : Addr} {v : Value} (X : K.In s.heap) (G : s.heap.Ns mainGlobals mg) (B : s.heap.Ns builtinsNs mb) (hb : mb "super" = some (.type "super"))
    (hlim : s.heap.NoLimit) (hx : s.heap.get? x = some (excO C t0)) (hnx : K.lookup x = none) (hroom : A.depth < recursionLimit)
    (hq : ∀ h' tk dx, InitEnd s.heap h' x C dx f v → R (.ok (.ret .none)) { s with heap := h', toks := tk }) :
    codeAny (model prog w) A (.call (.ref fI) ⟨[.ref x, v], []⟩) R s := by
  obtain ⟨oc, od, qual, doc, pm, an, ct, osl, p1, p2, a1, a2, a3, a4, a5, a6, q1, q2, q3, q4, msg, kk, ho, hcd, hl, hbd⟩ := I.fn
  obtain ⟨nm, q, N, bs, bm, sn, sub, ab, col, dd, k0, k1, k2, k3, k5, hC, hbm⟩ := T.cls
  have hcl : clsIn K C = some { name := nm, bases := bs, mro := .ref C :: bm, ns := N, qualname := q, hasDict := true, slotNames := sn, subclasses := sub, abstract := ab, collection := col, hasDel := false } := by unfold clsIn; rw [hC] <;> rfl
  have l1 := I.l1
  have l2 := I.l2
  refine ks_codeAny_call_defAt (fd := ksFn "__init__" qual (iA1 f p1 p2) [sS a1 a2 a3 a4 a5 a6 msg kk, sF f q1 q2 q3 q4] (iS1 f) .none .none doc pm an (.ref cda) ct cc) (binds := [(("self" : Str), .ref x), (f, v)]) hroom (X _ _ ho) rfl hlim (codeRec_of X hcd) rfl (hbd _ _ _) ?_ ?_ (fun h₁ hns k => ?_) rfl rfl rfl
  · intro y hy
    have hy' : y ∈ [(PySem.Str.ofString "self", NameKind.local), (f, NameKind.local), (PySem.Str.ofString "__class__", NameKind.free), (PySem.Str.ofString "super", NameKind.globalImplicit)] := hy
    simp only [List.mem_cons, List.not_mem_nil, or_false] at hy'
    rcases hy' with rfl | rfl | rfl | rfl <;> exact fun z => nomatch z
  · intro y hy
    simp only [List.mem_cons, List.not_mem_nil, or_false] at hy
    rcases hy with rfl | rfl
    · exact l1
    · exact l2
  have hself : List.lookup ("self" : Str) [(("self" : Str), Value.ref x), (f, v)].reverse = some (.ref x) := by
    show List.lookup ("self" : Str) [(f, v), (("self" : Str), Value.ref x)] = _
    rw [List.lookup_cons, I.sf]
    simp [List.lookup_cons]
  have hfv : List.lookup f [(("self" : Str), Value.ref x), (f, v)].reverse = some v := by
    show List.lookup f [(f, v), (("self" : Str), Value.ref x)] = _
    simp [List.lookup_cons]
  refine ks_wpAt_execs_cons ?_
  refine sup_ok T hl rfl (by rfl) (X.keeps k) (G.keeps k) (B.keeps k) hb (k _ _ (X _ _ ho)) rfl rfl rfl hns hself (k _ _ hx) rfl I.l3 I.l4 l1 fun h2 tk2 t1 k2 hx2 => ?_
  have hxL : s.heap.objs.size ≠ x := Nat.ne_of_gt (Heap.lt_size hx)
  have hns2 : h2.Ns s.heap.objs.size (fun y => List.lookup y [(("self" : Str), Value.ref x), (f, v)].reverse) := hns.at fun o e => k2 _ _ hxL e
  have X2 : K.In h2 := fun b o e => k2 b o (fun z => by rw [z, hnx] at e; cases e) ((X.keeps k) b o e)
  refine ks_wpAt_execs_cons (wpAt_of_wpAny (plainObj_wpAny_Assign_Attribute ?_ (by rfl)))
  refine wpAny_Name (wpAny_loadName_local rfl l2 hns2 hfv ?_) I.fd
  refine wpAny_Name (wpAny_loadName_local rfl l1 hns2 hself ?_) (by decide)
  refine set_plain X2 (ox := excO C t1) (od := none) ⟨hx2, rfl, rfl, trivial⟩ T.sa ?_
  refine exc_osa X2 hx2 hcl (show refsVE (.ref C :: bm) = true from hbm) rfl I.noN (fun h₃ tk₃ dx k₃ dn dne hx₃ hn₃ => ?_)
  refine wpAt_of_wpAny (wpAny_execs_nil (hq h₃ tk₃ dx ⟨fun b o hb' e => k₃ b o hb' (k2 b o hb' (k b o e)), ⟨_, hx₃⟩, ?_, dne, hn₃⟩))
  exact Nat.le_trans (Nat.le_of_lt hns2.lt) dn
theorem init0 (T : BkC prog K mg C cc cda) (I : BkI0 K C fI cc cda) {mb : Str → Option Value} {x t0 : Addr} (X : K.In s.heap) (G : s.heap.Ns mainGlobals mg) (B : s.heap.Ns builtinsNs mb) (hb : mb "super" = some (.type "super"))
    (hlim : s.heap.NoLimit) (hx : s.heap.get? x = some (excO C t0)) (hroom : A.depth < recursionLimit)
    (hq : ∀ h' tk t1, (∀ b o, b ≠ x → s.heap.get? b = some o → h'.get? b = some o) → h'.get? x = some (excO C t1) → R (.ok (.ret .none)) { s with heap := h', toks := tk }) :
    codeAny (model prog w) A (.call (.ref fI) ⟨[.ref x], []⟩) R s := by
  obtain ⟨oc, od, qual, doc, pm, an, ct, osl, p1, a1, a2, a3, a4, a5, a6, msg, kk, ho, hcd, hl, hbd⟩ := I.fn
  refine ks_codeAny_call_defAt (fd := ksFn "__init__" qual (iA0 p1) [sS a1 a2 a3 a4 a5 a6 msg kk] iS0 .none .none doc pm an (.ref cda) ct cc) (binds := [(("self" : Str), .ref x)]) hroom (X _ _ ho) rfl hlim (codeRec_of X hcd) rfl (hbd _ _) (show ∀ y ∈ iS0.names, y.2 ≠ .cell from by decide) (fun y hy => by
    obtain rfl := List.mem_singleton.mp hy
    rfl) (fun h₁ hns k => ?_) rfl rfl rfl
  have hself : List.lookup ("self" : Str) [(("self" : Str), Value.ref x)].reverse = some (.ref x) := by simp [List.lookup_cons]
  refine ks_wpAt_execs_cons ?_
  refine sup_ok T hl rfl (by rfl) (X.keeps k) (G.keeps k) (B.keeps k) hb (k _ _ (X _ _ ho)) rfl rfl rfl hns hself (k _ _ hx) rfl rfl rfl rfl fun h2 tk2 t1 k2 hx2 => ?_
  exact wpAt_of_wpAny (wpAny_execs_nil (hq h2 tk2 t1 (fun b o hb' e => k2 b o hb' (k b o e)) hx2))
theorem made1 (T : BkC prog K mg C cc cda) {f : Str} (I : BkI1 K C fI cc cda f) {mb : Str → Option Value} {v : Value} (X : K.In s.heap) (G : s.heap.Ns mainGlobals mg) (B : s.heap.Ns builtinsNs mb) (hb : mb "super" = some (.type "super")) (hlim : s.heap.NoLimit) (hroom : A.depth + 1 < recursionLimit)
    (hq : ∀ h' tk e d, s.heap.objs.size ≤ e → (∀ b o, s.heap.get? b = some o → h'.get? b = some o) → (∃ t1 : Addr, h'.get? e = some { cls := .ref C, dict := some d, data := .fields #[.ref t1, .none, .none, .none, .bool false, .none] }) → s.heap.objs.size ≤ d → d ≠ e →
      h'.Ns1 d (fun y => if y = f then some v else none) → R (.ok (.ret (.ref e))) { s with heap := h', toks := tk }) :
    codeAny (model prog w) A (.call (.ref C) ⟨[v], []⟩) R s := by
  obtain ⟨nm, q, N, bs, bm, sn, sub, ab, col, dd, k0, k1, k2, k3, k5, hC, hbm⟩ := T.cls
  obtain ⟨hp, g, dr, tk, os⟩ := s
  have k : ∀ b o, hp.get? b = some o → ((hp.push (kdv_tup [v])).push (excO C hp.objs.size)).get? b = some o := fun b o e => Heap.get?_push_of_some _ (Heap.get?_push_of_some _ e)
  have hget : ((hp.push (kdv_tup [v])).push (excO C hp.objs.size)).get? (hp.objs.size + 1) = some (excO C hp.objs.size) := by heap_get
  have hnx : K.lookup (hp.objs.size + 1) = none := by
    cases e : K.lookup (hp.objs.size + 1) with
    | none => rfl
    | some o =>
      have z : hp.get? (hp.objs.size + 1) = some o := X _ _ e
      exact absurd (Nat.lt_of_succ_lt (Heap.lt_size z)) (Nat.lt_irrefl _)
  refine call_own F.excBase_ValueError (fun X => refsVE_contains X bm hbm) (X _ _ hC) (looks_findIn X I.iC) (fun self => bind_fn X self I.tI) (by rw [sizeLine_eq]; show (1 : Nat) ≤ 16777216; decide) ?_
  refine init1 (s := ⟨(hp.push (kdv_tup [v])).push (excO C hp.objs.size), g, dr, tk, os⟩) T I (X.keeps k) (G.keeps k) (B.keeps k) hb (hlim.keeps k) hget hnx ?_ fun h' tk' dx M => ?_
  · show A.depth + 1 < recursionLimit
    exact hroom
  · have old : ∀ b o, hp.get? b = some o → h'.get? b = some o := fun b o e => M.keep b o (Nat.ne_of_lt (Nat.lt_succ_of_lt (Heap.lt_size e))) (k b o e)
    have z : hp.objs.size + 1 + 1 ≤ dx := by
      first
        | (simpa only [Heap.size_push] using M.dbig)
        | exact M.dbig
        | (have q := M.dbig; rw [Heap.size_push, Heap.size_push] at q; exact q)
    exact ⟨rfl, hq h' tk' (hp.objs.size + 1) dx (Nat.le_succ _) old M.obj (Nat.le_trans (Nat.le_trans (Nat.le_succ _) (Nat.le_succ _)) z) M.dne M.ns⟩
theorem made0 (T : BkC prog K mg C cc cda) (I : BkI0 K C fI cc cda) {mb : Str → Option Value} (X : K.In s.heap) (G : s.heap.Ns mainGlobals mg) (B : s.heap.Ns builtinsNs mb) (hb : mb "super" = some (.type "super")) (hlim : s.heap.NoLimit) (hroom : A.depth + 1 < recursionLimit)
    (hq : ∀ h' tk e, s.heap.objs.size ≤ e → (∀ b o, s.heap.get? b = some o → h'.get? b = some o) → (∃ t1 : Addr, h'.get? e = some { cls := .ref C, data := .fields #[.ref t1, .none, .none, .none, .bool false, .none] }) → R (.ok (.ret (.ref e))) { s with heap := h', toks := tk }) :
    codeAny (model prog w) A (.call (.ref C) ⟨[], []⟩) R s := by
  obtain ⟨nm, q, N, bs, bm, sn, sub, ab, col, dd, k0, k1, k2, k3, k5, hC, hbm⟩ := T.cls
  obtain ⟨hp, g, dr, tk, os⟩ := s
  have k : ∀ b o, hp.get? b = some o → ((hp.push (kdv_tup [])).push (excO C hp.objs.size)).get? b = some o := fun b o e => Heap.get?_push_of_some _ (Heap.get?_push_of_some _ e)
  have hget : ((hp.push (kdv_tup [])).push (excO C hp.objs.size)).get? (hp.objs.size + 1) = some (excO C hp.objs.size) := by heap_get
  refine call_own F.excBase_ValueError (fun X => refsVE_contains X bm hbm) (X _ _ hC) (looks_findIn X I.iC) (fun self => bind_fn X self I.tI) (by rw [sizeLine_eq]; show (0 : Nat) ≤ 16777216; decide) ?_
  refine init0 (s := ⟨(hp.push (kdv_tup [])).push (excO C hp.objs.size), g, dr, tk, os⟩) T I (X.keeps k) (G.keeps k) (B.keeps k) hb (hlim.keeps k) hget ?_ fun h' tk' t1 kk hx => ?_
  · show A.depth + 1 < recursionLimit
    exact hroom
  · have old : ∀ b o, hp.get? b = some o → h'.get? b = some o := fun b o e => kk b o (Nat.ne_of_lt (Nat.lt_succ_of_lt (Heap.lt_size e))) (k b o e)
    exact ⟨rfl, hq h' tk' (hp.objs.size + 1) (Nat.le_succ _) old ⟨t1, hx⟩⟩
end
end BkX
end PySem
namespace Mp
open PySem PySem.Spec PyProof.Rows L2
section
variable {G : Glo} {X : Cx} {Wx : WX} {st sa : Bool} {fa : Env → Mem → Ans W} {C fI cc cda : Addr} {e : Expr} {x f : Str} {p pos pos2 : Pos} {k : Nat}
theorem relO_one {v : V} {u : Value} {f : Str} (r : RelV v u) (g : Str) : RelO (List.lookup g [(f, v)]) (if g = f then some u else none) := by
  by_cases hw : g = f
  · subst hw
    rw [if_pos rfl]
    have q : List.lookup g [(g, v)] = some v := by simp [List.lookup_cons]
    rw [q]
    exact r
  · rw [if_neg hw]
    have : (g == f) = false := by simpa using hw
    rw [List.lookup_cons, this]
    trivial
theorem boot_super : bootBuiltins "super" = some (.type "super") := by kernel_rfl
/-- X(e), X an own error with a field -/
theorem pmk_1 {ta : TA} (T : BkX.BkC X.prog X.K X.mg C cc cda) (I1 : BkX.BkI1 X.K C fI cc cda f) (hr : Room k X.A) (ha : PA X [e] ta) (hg : Gl X x) (hm : X.mg x = some (.ref C)) (hd : (x == ("__debug__" : Str)) = false)
    (he : starEach (e :: []) X.env = (false, eval e X.env) :: starEach [] X.env) (hpl : (backTo pos (starEach [] X.env)).any (·.1) = false) :
    PMk X (.Call (.Name x p) [e] [] pos) (fun σ H Q => ta σ H fun vs H1 => ∃ v, vs = [v] ∧ ∀ d, H1 d = none → Q (.ref C) (some d) (upd H1 d (.xd [(f, v)]))) := by
  intro pins s σ H Q I h
  refine wpAny_Call_Name_kw (ld_glob I hg hm ?_ hd)
  refine PySem.W.callWith_K (h₀ := X.base) I.ok.mod.kin T.kC (thn (ha.run pos pins s σ H _ I h) fun us s1 hh => ?_) he hpl
  obtain ⟨vs, H1, J1, r1, v, ev, q1⟩ := hh
  subst ev
  refine ⟨J1.kIn, ?_⟩
  cases r1 with
  | cons rv rn =>
    rename_i v' us'
    cases rn
    show wpAny _ _ (call (.ref C) [v']) _ _ _
    have hlim := J1.nolimit
    obtain ⟨mb, b1, b2⟩ := J1.mod.blt
    have hgl := J1.mod.glob.keeps J1.bk
    have hbl := b1.keeps J1.bk
    have hsz := J1.kIn
    obtain ⟨hp, g, d, t, os⟩ := s1
    refine wpAny_call (BkX.made1 T I1 hsz hgl hbl ((b2 _ (by decide)).trans boot_super) hlim (by have := hr.dp; omega) fun h' tk' e d n1 k1 ⟨t1, hoe⟩ n2 nde hns => ?_)
    show MkP X pins σ Q (.ref e) ⟨h', g, _, tk', os⟩
    obtain ⟨G', g1, g2⟩ := restrict h' fun b => decide (b ≠ e)
    have gk : ∀ b, b ≠ e → G'.get? b = h'.get? b := fun b hb => g1 b (decide_eq_true hb)
    have ge : G'.get? e = none := g2 e (by simp)
    have old : ∀ b o, hp.get? b = some o → G'.get? b = some o := fun b o q => (gk b (Nat.ne_of_lt (Nat.lt_of_lt_of_le (Heap.lt_size q) n1))).trans (k1 b o q)
    have ob : ObjOk X.prog X.w (upd H1 d (.xd [(f, v)])) G' d (.xd [(f, v)]) :=
      ⟨_, hns.at (fun o q => (gk d nde).trans q), fun g => relO_one rv g⟩
    have J : Inv X pins σ (upd H1 d (.xd [(f, v)])) ⟨G', g, _, tk', os⟩ := J1.laid (t' := tk') old n2 ob
    refine ⟨e, _, _, ⟨G', g, _, tk', os⟩, _, .ref C, some d, rfl, J, fun b o q => ?_, ge, hoe, ⟨rfl, rfl⟩, rfl, rfl, ?_, rfl, J1.bare, raises_own T.exC T.tyC, q1 d (J1.hok.fresh n2)⟩
    · by_cases hb : b = e
      · have q' : G'.get? b = some o := q
        rw [hb, ge] at q'; cases q'
      · exact (gk b hb).symm.trans q
    · rw [upd_ne (Ne.symm nde)]
      exact J1.hok.fresh n1
/-- X(), X an own error without fields -/
theorem pmk_0 (T : BkX.BkC X.prog X.K X.mg C cc cda) (I0 : BkX.BkI0 X.K C fI cc cda) (hr : Room k X.A) (hg : Gl X x) (hm : X.mg x = some (.ref C)) (hd : (x == ("__debug__" : Str)) = false) :
    PMk X (.Call (.Name x p) [] [] pos) (fun σ H Q => Q (.ref C) none H) := by
  intro pins s σ H Q I h
  refine wpAny_Call_Name_kw (ld_glob I hg hm ?_ hd)
  refine PySem.W.callWith_K0 I.kIn T.kC ?_
  show wpAny _ _ (call (.ref C) []) _ _ _
  have hlim := I.nolimit
  obtain ⟨mb, b1, b2⟩ := I.mod.blt
  have hgl := I.mod.glob.keeps I.bk
  have hbl := b1.keeps I.bk
  have hsz := I.kIn
  obtain ⟨hp, g, d, t, os⟩ := s
  refine wpAny_call (BkX.made0 T I0 hsz hgl hbl ((b2 _ (by decide)).trans boot_super) hlim (by have := hr.dp; omega) fun h' tk' e n1 k1 ⟨t1, hoe⟩ => ?_)
  show MkP X pins σ Q (.ref e) ⟨h', g, _, tk', os⟩
  obtain ⟨G', g1, g2⟩ := restrict h' fun b => decide (b ≠ e)
  have gk : ∀ b, b ≠ e → G'.get? b = h'.get? b := fun b hb => g1 b (decide_eq_true hb)
  have ge : G'.get? e = none := g2 e (by simp)
  have old : ∀ b o, hp.get? b = some o → G'.get? b = some o := fun b o q => (gk b (Nat.ne_of_lt (Nat.lt_of_lt_of_le (Heap.lt_size q) n1))).trans (k1 b o q)
  have J : Inv X pins σ H ⟨G', g, _, tk', os⟩ := I.kept (t' := tk') old
  refine ⟨e, _, _, ⟨G', g, _, tk', os⟩, _, .ref C, none, rfl, J, fun b o q => ?_, ge, hoe, ⟨rfl, rfl⟩, rfl, rfl, I.hok.fresh n1, rfl, I.bare, raises_own T.exC T.tyC, h⟩
  by_cases hb : b = e
  · have q' : G'.get? b = some o := q
    rw [hb, ge] at q'; cases q'
  · exact (gk b hb).symm.trans q
/-! ### raise -/
theorem x_rse1 {c fi : Nat} {fs : Env → Mem → Ans (List W)} (hc : X.calm = true) (tk : Takes X Wx) (hcl : G.xcl c = some C) (hfn : G.fnm[fi]? = some f) (T : BkX.BkC X.prog X.K X.mg C cc cda) (I1 : BkX.BkI1 X.K C fI cc cda f) (hr : Room k X.A) (ha : PA X [e] (tA G Wx sa fs)) (hg : Gl X x) (hm : X.mg x = some (.ref C)) (hd : (x == ("__debug__" : Str)) = false)
    (he : starEach (e :: []) X.env = (false, eval e X.env) :: starEach [] X.env) (hpl : (backTo pos (starEach [] X.env)).any (·.1) = false) :
    PS X (.Raise (some (.Call (.Name x p) [e] [] pos)) none pos2) (tX G Wx fun ρ μ => xb (fs ρ μ) ρ (rseK c fi ρ)) := by
  refine PS.imp (ps_raise hc tk (pmk_1 T I1 hr ha hg hm hd he hpl)) fun De σ H ⟨m, ρ, μ, S, h⟩ => ⟨m, ρ, μ, S, h.xb S (st := sa) fun vs m1 H1 ws μ1 S1 L1 r1 h1 => ?_⟩
  unfold rseK at h1
  split at h1
  · rename_i y
    cases r1 with
    | @cons v0 _ _ _ q1 q2 =>
      cases q2
      refine ⟨v0, rfl, fun d hd' => ?_⟩
      obtain ⟨o, ρ', μ', eo, h2⟩ := h1
      cases eo
      have S2 := S1.new (o := .xd [(f, v0)]) hd'
      refine h2 _ _ _ S2 (lat_new hd') C (some d) hcl (.inr ⟨d, _, rfl, upd_same, ?_, ?_⟩)
      · simp [Nms, hfn]
      · exact .cons (RV.mono (keep_new hd') q1.2) .nil
  · exact h1.none_.elim
theorem x_rse0 {c : Nat} (hc : X.calm = true) (tk : Takes X Wx) (hcl : G.xcl c = some C) (T : BkX.BkC X.prog X.K X.mg C cc cda) (I0 : BkX.BkI0 X.K C fI cc cda) (hr : Room k X.A) (hg : Gl X x) (hm : X.mg x = some (.ref C)) (hd : (x == ("__debug__" : Str)) = false) :
    PS X (.Raise (some (.Call (.Name x p) [] [] pos)) none pos2) (tX G Wx fun ρ μ => some (.ex ⟨c, []⟩, ρ, μ)) := by
  refine PS.imp (ps_raise hc tk (pmk_0 T I0 hr hg hm hd)) fun De σ H ⟨m, ρ, μ, S, h⟩ => ?_
  obtain ⟨o, ρ', μ', eo, h2⟩ := h
  cases eo
  exact h2 _ _ _ S .refl C none hcl (.inl ⟨rfl, rfl⟩)
end
end Mp
set_option Elab.async false
set_option linter.all false
set_option maxRecDepth 100000
set_option maxHeartbeats 2000000
/-! Mp: zip of a dict's keys and a tuple: the walk, and dict(zip(..)). -/
namespace PySem
open Sem (wp)
namespace MpZ
section
variable {prog : Program} {w : World} {A : Around} {E : Value → Shared → Prop} {s : Shared}
/-- the next key -/
theorem nextOf_key_item {it d : Addr} {i n ep : Nat} {od : Obj} {es : Array DictEntry} {en : DictEntry} {Q : Value → Shared → Prop} (hit : s.heap.IsKeyIter it d i n ep) (hod : s.heap.get? d = some od) (hdd : od.data = .dict es ep)
    (hsz : es.size = n) (hx : es[i]? = some en) (hQ : ∀ h', h'.IsKeyIter it d (i + 1) n ep → Heap.SameBut it s.heap h' → Q en.key { s with heap := h' }) : wpAny (model prog w) A (Builtin.SmallTypes.nextOf (.ref it)) Q E s := by
  obtain ⟨o, ho, hc, hd⟩ := id hit
  unfold Builtin.SmallTypes.nextOf
  refine wpAny_bind (wpAny_callSpecial?_slot (name := Str.ofString "__next__") hit.typeIs F.slot_dict_keyiterator_next
    (wpAny_call_entry F.slot_dict_keyiterator_next hit.typeIs F.entry_dict_keyiterator_next ?_ (F.args_dict_keyiterator_next_1 _)))
  refine wpAny_bind (wpAny_pure ?_)
  refine wpAny_bind ?_
  refine wpAny_bind ?_
  first | refine wpAny_bind (wpAny_typeNameOfWhole_keyiter hit.typeIs (wpAny_pure ?_)) | refine wpAny_bind (wpAny_typeNameOf_keyiter hit.typeIs (wpAny_pure ?_))
  refine wpAny_bind (wpAny_fieldsOf ho hd ?_)
  have hown : Builtin.Dict_items.ownsTuple "dict_keyiterator" = false := by decide
  simp only [hown, Bool.false_eq_true, if_false]
  show wpAny _ _ (if (Value.ref d == Value.none) = true then _ else _) _ _ s
  rw [if_neg (show ¬ ((Value.ref d == Value.none) = true) from Bool.false_ne_true)]
  refine wpAny_bind (wpAny_pure ?_)
  refine wpAny_bind (wpAny_dictEntries hod hdd ?_)
  rw [if_neg (by rw [hsz]; simp)]
  refine wpAny_bind (wpAny_pure ?_)
  refine wpAny_bind (wpAny_dictEpoch hod hdd ?_)
  rw [if_neg (by simp)]
  refine wpAny_pure ?_
  obtain ⟨hlt', hen⟩ := Array.getElem?_eq_some_iff.mp hx
  simp only [show ¬ ((i : Int) < 0) from by omega, if_false, Int.toNat_natCast, Array.getElem?_eq_getElem hlt']
  refine wpAny_bind ?_
  first | refine wpAny_bind (wpAny_typeNameOfWhole_keyiter hit.typeIs (wpAny_pure ?_)) | refine wpAny_bind (wpAny_typeNameOf_keyiter hit.typeIs (wpAny_pure ?_))
  refine wpAny_bind (wpAny_isOneOf_keyiter hit.typeIs ?_)
  show wpAny _ _ (setField (.ref it) 1 (rawInt ((i : Int) + 1)) >>= _) _ _ s
  refine wpAny_bind (wpAny_setField ho hd (by simp) ?_)
  have hit' : (s.heap.update it (Obj.mapFields (·.setIfInBounds 1 (rawInt ((i : Int) + 1))))).IsKeyIter it d (i + 1) n ep :=
    ⟨_, Heap.get?_update_self _ ho (Obj.isFreed_of_fields (Obj.data_mapFields hd _)), (Obj.cls_mapFields ..).trans hc, by rw [Obj.data_mapFields hd]; simp [rawInt]⟩
  refine wpAny_bind (wpAny_holding ?_)
  refine wpAny_bind (wpAny_isOneOf_keyiter (s := { s with heap := s.heap.update it (Obj.mapFields (·.setIfInBounds 1 (rawInt ((i : Int) + 1)))) }) hit'.typeIs ?_)
  show wpAny _ _ (pure es[i].key) _ _ _
  rw [hen]
  exact wpAny_pure (wpAny_pure ⟨_, rfl, wpAny_pure (hQ _ hit' (Heap.SameBut.update ..))⟩)
/-- no further key -/
theorem nextOf_key_end {it d : Addr} {i n ep : Nat} {od : Obj} {es : Array DictEntry} {Q : Value → Shared → Prop} (hh : A.handled = none) (hit : s.heap.IsKeyIter it d i n ep) (hod : s.heap.get? d = some od) (hdd : od.data = .dict es ep)
    (hsz : es.size = n) (hge : n ≤ i) (hE : ∀ h' e, Heap.ExtBut it s.heap h' → (∃ o, h'.get? e = some o ∧ o.cls = .type "StopIteration") → E (.ref e) { s with heap := h' }) : wpAny (model prog w) A (Builtin.SmallTypes.nextOf (.ref it)) Q E s := by
  obtain ⟨o, ho, hc, hd⟩ := id hit
  unfold Builtin.SmallTypes.nextOf
  refine wpAny_bind (wpAny_callSpecial?_slot (name := Str.ofString "__next__") hit.typeIs F.slot_dict_keyiterator_next
    (wpAny_call_entry F.slot_dict_keyiterator_next hit.typeIs F.entry_dict_keyiterator_next ?_ (F.args_dict_keyiterator_next_1 _)))
  refine wpAny_bind (wpAny_pure ?_)
  refine wpAny_bind ?_
  refine wpAny_bind ?_
  first | refine wpAny_bind (wpAny_typeNameOfWhole_keyiter hit.typeIs (wpAny_pure ?_)) | refine wpAny_bind (wpAny_typeNameOf_keyiter hit.typeIs (wpAny_pure ?_))
  refine wpAny_bind (wpAny_fieldsOf ho hd ?_)
  have hown : Builtin.Dict_items.ownsTuple "dict_keyiterator" = false := by decide
  simp only [hown, Bool.false_eq_true, if_false]
  show wpAny _ _ (if (Value.ref d == Value.none) = true then _ else _) _ _ s
  rw [if_neg (show ¬ ((Value.ref d == Value.none) = true) from Bool.false_ne_true)]
  refine wpAny_bind (wpAny_pure ?_)
  refine wpAny_bind (wpAny_dictEntries hod hdd ?_)
  rw [if_neg (by rw [hsz]; simp)]
  refine wpAny_bind (wpAny_pure ?_)
  refine wpAny_bind (wpAny_dictEpoch hod hdd ?_)
  rw [if_neg (by simp)]
  refine wpAny_pure ?_
  have hge' : es.size ≤ i := by rw [hsz]; exact hge
  simp only [show ¬ ((i : Int) < 0) from by omega, if_false, Int.toNat_natCast, Array.getElem?_eq_none hge']
  refine wpAny_bind ?_
  first | refine wpAny_bind (wpAny_typeNameOfWhole_keyiter hit.typeIs (wpAny_pure ?_)) | refine wpAny_bind (wpAny_typeNameOf_keyiter hit.typeIs (wpAny_pure ?_))
  show wpAny _ _ (setField (.ref it) 0 .none >>= _) _ _ s
  refine wpAny_bind (wpAny_setField ho hd (by simp) ?_)
  show wpAny _ _ (newExc (.type "StopIteration") [] >>= _) _ _ _
  refine wpAny_bind ?_
  simp only [newExc, newTuple]
  refine wpAny_bind (wpAny_newObj_type ?_ (by size_fits))
  refine wpAny_bind (m := firstArgMember _ _) (wpAny_of_eq (a := Value.none) (by first | rfl | (simp only [firstArgMember]; rfl)) ?_)
  refine wpAny_newObj_type ?_ (by size_fits)
  simp only [raiseNew]
  refine wpAny_bind (wpAny_handled ?_)
  first | rw [show A.in1.handled = none from hh] | rw [hh]
  refine wpAny_bind (wpAny_pure (wpAny_throw ?_))
  exact hE _ _ (((Heap.SameBut.update ..).extBut.push _).push _) ⟨_, Heap.get?_push_size _ rfl, rfl⟩
/-- what a dict's key iterator draws -/
theorem draws_keys (hh : A.handled = none) (it d : Addr) (hne : d ≠ it) (es : Array DictEntry) (ep : Nat) :
    Draws prog w A it [it, d] es.size (fun i v => ∃ en, es[i]? = some en ∧ v = en.key) (fun i h => h.IsKeyIter it d i es.size ep ∧ h.DictRaw d es ep) where
  live := fun _ _ st => let ⟨o, ho, _⟩ := st.1; ⟨o, ho⟩
  frame := fun _ _ _ st hk => ⟨st.1.at fun o e => hk it (by simp) o e, st.2.at fun o e => hk d (by simp) o e⟩
  item := fun i s Q E hi st hQ => by
    obtain ⟨h1, o, ho, hx, hd⟩ := st
    refine nextOf_key_item h1 ho hd rfl (en := es[i]) (by simp [hi]) fun h' hit' hs' => ?_
    exact hQ _ h' s.toks ⟨es[i], by simp [hi], rfl⟩ ⟨hit', o, hs'.extBut _ _ hne ho, hx, hd⟩ hs'
  done := fun s Q E st hE => by
    obtain ⟨h1, o, ho, hx, hd⟩ := st
    exact nextOf_key_end hh h1 ho hd rfl (Nat.le_refl _) hE
end
theorem begins_keys (d : Addr) (es : Array DictEntry) (ep : Nat) (hs : (d == sysModules) = false) : Begins (.ref d) { cls := .type "dict_keyiterator", data := .fields #[.ref d, .int 0 0, .int es.size 0, .int ep 0] } fun h => h.DictRaw d es ep where
  iter := fun prog w A E s Q hl h => wpAny_pyIter_dict_raw hs hl h
  keeps := fun h h' x hk => x.at fun o e => hk d o e
  free := rfl
/-! ### zip of two iterators while the tuple that was given out is there -/
section
variable {prog : Program} {w : World} {A : Around} {E : Value → Shared → Prop} {s : Shared} {z TI TO T i1 i2 : Addr} {fp1 fp2 : List Addr} {n1 n2 i : Nat} {P1 P2 : Nat → Value → Prop} {St1 St2 : Nat → Heap → Prop} {f : Bool} {oT : Obj}
theorem held_item {Q : Value → Shared → Prop} (S : ZipSep2 z TI TO i1 i2 fp1 fp2) (D1 : Draws prog w A i1 fp1 n1 P1 St1) (D2 : Draws prog w A i2 fp2 n2 P2 St2)
    (hz : IsZipHeld s.heap z TI TO T f) (hT : s.heap.get? T = some oT) (hTI : IsTupOf2 s.heap TI (.ref i1) (.ref i2)) (st1 : St1 i s.heap) (st2 : St2 i s.heap) (hlt1 : i < n1) (hlt2 : i < n2)
    (hQ : ∀ x1 x2 h' tk, P1 i x1 → P2 i x2 → IsZipHeld h' z TI TO T true → St1 (i + 1) h' → St2 (i + 1) h' → IsTupOf2 h' s.heap.objs.size x1 x2 → h'.objs.size = s.heap.objs.size + 1 →
      (∀ c o, c ≠ z → c ≠ i1 → c ≠ i2 → s.heap.get? c = some o → h'.get? c = some o) → Q (.ref s.heap.objs.size) { s with heap := h', toks := tk }) :
    wpAny (model prog w) A (Builtin.«zip.__next__» ⟨[.ref z], []⟩) (fun fin s' => ∃ v, fin = .done (.ret v) ∧ Q v s') E s := by
  show wpAny _ _ (field (.ref z) 2 >>= _) _ _ _
  refine wpAny_bind (wpAny_field hz rfl (x := .bool false) rfl ?_)
  show wpAny _ _ (field (.ref z) 3 >>= _) _ _ _
  refine wpAny_bind (wpAny_field hz rfl (x := .ref TI) rfl ?_)
  refine wpAny_bind (wpAny_seqItems hTI rfl ?_)
  show wpAny _ _ (Builtin.SmallTypes.ownedTupleIsFree (.ref z) >>= _) _ _ _
  refine wpAny_bind (wpAny_tupleHeld_zip hz hT fun h₁ hz₁ hs₁ => ?_)
  simp only [Bool.false_eq_true, if_false]
  refine wpAny_bind ?_
  rw [← Array.forIn_toList]
  simp only [List.forIn_cons, List.forIn_nil]
  refine wpAny_bind (wpAny_bind (wpAny_holding ?_))
  show wpAny _ _ (Builtin.SmallTypes.nextOf (.ref i1) >>= _) _ _ _
  refine wpAny_bind (D1.item i { s with heap := h₁ } _ _ hlt1 (D1.over st1 hs₁ S.zf1) fun x1 h₂ tk₂ p1 st1' hs₂ => wpAny_pure ?_)
  refine wpAny_pure ?_
  refine wpAny_bind (wpAny_bind (wpAny_holding ?_))
  show wpAny _ _ (Builtin.SmallTypes.nextOf (.ref i2) >>= _) _ _ _
  refine wpAny_bind (D2.item i { s with heap := h₂, toks := tk₂ } _ _ hlt2 (D2.over (D2.over st2 hs₁ S.zf2) hs₂ S.sep1_2) fun x2 h₃ tk₃ p2 st2' hs₃ => wpAny_pure ?_)
  refine wpAny_pure (wpAny_pure ?_)
  show wpAny _ _ (newTuple [x1, x2] >>= _) _ _ _
  refine wpAny_bind (wpAny_newTuple ?_)
  have hsz : h₃.objs.size = s.heap.objs.size := by rw [hs₃.1, hs₂.1, hs₁.1]
  have hz₃ : IsZipHeld h₃ z TI TO T true := hs₃.extBut _ _ S.zi2 (hs₂.extBut _ _ S.zi1 hz₁)
  have hk : ∀ c o, c ≠ z → c ≠ i1 → c ≠ i2 → s.heap.get? c = some o → h₃.get? c = some o := fun c o c1 c2 c3 e => hs₃.extBut _ _ c3 (hs₂.extBut _ _ c2 (hs₁.extBut _ _ c1 e))
  have st1₃ := D1.over st1' hs₃ S.sep2_1
  have up : ∀ c o, h₃.get? c = some o → (h₃.push { cls := .type "tuple", data := .seq #[x1, x2] }).get? c = some o := fun c o e => Heap.get?_push_of_some _ e
  refine wpAny_pure ⟨_, rfl, ?_⟩
  show Q (.ref h₃.objs.size) _
  have hp : IsTupOf2 (h₃.push { cls := .type "tuple", data := .seq #[x1, x2] }) h₃.objs.size x1 x2 := Heap.get?_push_size _ rfl
  have hz4 : (h₃.push { cls := .type "tuple", data := .seq #[x1, x2] }).objs.size = h₃.objs.size + 1 := Heap.size_push ..
  rw [hsz] at hp hz4 ⊢
  exact hQ x1 x2 _ tk₃ p1 p2 (up _ _ hz₃) (D1.frame _ _ _ st1₃ fun b _ o e => up b o e) (D2.frame _ _ _ st2' fun b _ o e => up b o e) hp hz4 fun c o c1 c2 c3 e => up _ _ (hk c o c1 c2 c3 e)
theorem held_end {Q : Fin → Shared → Prop} (S : ZipSep2 z TI TO i1 i2 fp1 fp2) (D1 : Draws prog w A i1 fp1 n1 P1 St1)
    (hz : IsZipHeld s.heap z TI TO T f) (hT : s.heap.get? T = some oT) (hTI : IsTupOf2 s.heap TI (.ref i1) (.ref i2)) (st1 : St1 n1 s.heap)
    (hE : ∀ h' e, (∀ c o, c ≠ z → c ≠ i1 → c ≠ i2 → s.heap.get? c = some o → h'.get? c = some o) → (∃ o, h'.get? e = some o ∧ o.cls = .type "StopIteration") → E (.ref e) { s with heap := h' }) :
    wpAny (model prog w) A (Builtin.«zip.__next__» ⟨[.ref z], []⟩) Q E s := by
  show wpAny _ _ (field (.ref z) 2 >>= _) _ _ _
  refine wpAny_bind (wpAny_field hz rfl (x := .bool false) rfl ?_)
  show wpAny _ _ (field (.ref z) 3 >>= _) _ _ _
  refine wpAny_bind (wpAny_field hz rfl (x := .ref TI) rfl ?_)
  refine wpAny_bind (wpAny_seqItems hTI rfl ?_)
  show wpAny _ _ (Builtin.SmallTypes.ownedTupleIsFree (.ref z) >>= _) _ _ _
  refine wpAny_bind (wpAny_tupleHeld_zip hz hT fun h₁ hz₁ hs₁ => ?_)
  simp only [Bool.false_eq_true, if_false]
  refine wpAny_bind ?_
  rw [← Array.forIn_toList]
  simp only [List.forIn_cons, List.forIn_nil]
  refine wpAny_bind (wpAny_bind (wpAny_holding ?_))
  show wpAny _ _ (Builtin.SmallTypes.nextOf (.ref i1) >>= _) _ _ _
  refine wpAny_bind (D1.done { s with heap := h₁ } _ _ (D1.over st1 hs₁ S.zf1) fun h₂ e hs₂ he => ?_)
  exact hE h₂ e (fun c o c1 c2 _ x => hs₂ _ _ c2 (hs₁.extBut _ _ c1 x)) he
theorem pyNext_held_item {Q : Option Value → Shared → Prop} (S : ZipSep2 z TI TO i1 i2 fp1 fp2) (D1 : Draws prog w A.in1 i1 fp1 n1 P1 St1) (D2 : Draws prog w A.in1 i2 fp2 n2 P2 St2)
    (hz : IsZipHeld s.heap z TI TO T f) (hT : s.heap.get? T = some oT) (hTI : IsTupOf2 s.heap TI (.ref i1) (.ref i2)) (st1 : St1 i s.heap) (st2 : St2 i s.heap) (hlt1 : i < n1) (hlt2 : i < n2)
    (hQ : ∀ x1 x2 h' tk, P1 i x1 → P2 i x2 → IsZipHeld h' z TI TO T true → St1 (i + 1) h' → St2 (i + 1) h' → IsTupOf2 h' s.heap.objs.size x1 x2 → h'.objs.size = s.heap.objs.size + 1 →
      (∀ c o, c ≠ z → c ≠ i1 → c ≠ i2 → s.heap.get? c = some o → h'.get? c = some o) → Q (some (.ref s.heap.objs.size)) { s with heap := h', toks := tk }) :
    wpAny (model prog w) A (pyNext (.ref z)) Q E s := by
  have hTy : s.TypeIs (.ref z) "zip" := ⟨_, hz, rfl⟩
  unfold pyNext
  exact wpAny_bind (wpAny_attempt (wpAny_callSpecial?_slot (name := Str.ofString "__next__") hTy F.slot_zip_next
    (wpAny_call_entry F.slot_zip_next hTy F.entry_zip_next
      (held_item S D1 D2 hz hT hTI st1 st2 hlt1 hlt2 fun x1 x2 h' tk a1 a2 a3 a4 a5 a6 a7 a8 => wpAny_pure (hQ x1 x2 h' tk a1 a2 a3 a4 a5 a6 a7 a8)) (F.args_zip_next_1 _))))
theorem pyNext_held_end {Q : Option Value → Shared → Prop} (S : ZipSep2 z TI TO i1 i2 fp1 fp2) (D1 : Draws prog w A.in1 i1 fp1 n1 P1 St1)
    (hz : IsZipHeld s.heap z TI TO T f) (hT : s.heap.get? T = some oT) (hTI : IsTupOf2 s.heap TI (.ref i1) (.ref i2)) (st1 : St1 n1 s.heap)
    (hQ : ∀ h', (∀ c o, c ≠ z → c ≠ i1 → c ≠ i2 → s.heap.get? c = some o → h'.get? c = some o) → Q none { s with heap := h' }) : wpAny (model prog w) A (pyNext (.ref z)) Q E s := by
  have hTy : s.TypeIs (.ref z) "zip" := ⟨_, hz, rfl⟩
  unfold pyNext
  refine wpAny_bind (wpAny_attempt (wpAny_callSpecial?_slot (name := Str.ofString "__next__") hTy F.slot_zip_next
    (wpAny_call_entry F.slot_zip_next hTy F.entry_zip_next (held_end S D1 hz hT hTI st1 fun h' e hk he => ?_) (F.args_zip_next_1 _))))
  obtain ⟨o, ho, hc⟩ := he
  refine wpAny_bind (wpAny_isInstance (T := "StopIteration") (b := true) ⟨o, ho, hc⟩ isSubtype_stop ?_)
  exact wpAny_pure (hQ _ hk)
end
/-- zip(..) of two iterators of n items each, as the argument of dict() -/
theorem pairArg {prog : Program} {w : World} {z TI TO i1 i2 : Addr} {fp1 fp2 : List Addr} {n : Nat} {P1 P2 : Nat → Value → Prop} {St1 St2 : Nat → Heap → Prop} (S : ZipSep2 z TI TO i1 i2 fp1 fp2)
    (D1 : ∀ A : Around, A.handled = none → Draws prog w A i1 fp1 n P1 St1) (D2 : ∀ A : Around, A.handled = none → Draws prog w A i2 fp2 n P2 St2) (A0 : Around) (hA0 : A0.handled = none)
    (th1 : ∀ i h, St1 i h → ∀ b ∈ fp1, ∃ o, h.get? b = some o) (th2 : ∀ i h, St2 i h → ∀ b ∈ fp2, ∃ o, h.get? b = some o) :
    PairArg prog w "zip" z (z :: TI :: TO :: (fp1 ++ fp2)) [z, TO, i1, i2] n (fun i k v => P1 i k ∧ P2 i v)
      (fun h => IsZip h z TI TO .none ∧ IsTupOf2 h TI (.ref i1) (.ref i2) ∧ (∃ a b, IsTupOf2 h TO a b) ∧ St1 0 h ∧ St2 0 h) where
  type := fun s ok => ⟨_, ok.1, rfl⟩
  notDict := by decide
  keep := fun h h' ok hk => by
    obtain ⟨hz, hTI, ⟨a, b, hTO⟩, h1, h2⟩ := ok
    exact ⟨hk _ _ hz, hk _ _ hTI, ⟨a, b, hk _ _ hTO⟩, (D1 A0 hA0).frame _ _ _ h1 fun b _ o e => hk b o e, (D2 A0 hA0).frame _ _ _ h2 fun b _ o e => hk b o e⟩
  there := fun h ok b hb => by
    obtain ⟨hz, hTI, ⟨a, c, hTO⟩, h1, h2⟩ := ok
    simp only [List.mem_cons, List.mem_append] at hb
    rcases hb with rfl | rfl | rfl | hb | hb
    · exact ⟨_, hz⟩
    · exact ⟨_, hTI⟩
    · exact ⟨_, hTO⟩
    · exact th1 _ _ h1 b hb
    · exact th2 _ _ h2 b hb
  sub := fun b hb => by
    simp only [List.mem_cons, List.not_mem_nil, or_false] at hb
    simp only [List.mem_cons, List.mem_append]
    rcases hb with rfl | rfl | rfl | rfl
    · exact .inl rfl
    · exact .inr (.inr (.inl rfl))
    · exact .inr (.inr (.inr (.inl S.mem1)))
    · exact .inr (.inr (.inr (.inr S.mem2)))
  noKeys := fun A s Q E hA ok h => getAttrOr_miss_zip ok.1 rfl rfl rfl zip_no_keys (by decide +kernel) hA h
  iter := fun A s d Q E hA ok hd hdf h => by
    obtain ⟨hz, hTI, ⟨a, b, hTO⟩, h1, h2⟩ := ok
    simp only [List.mem_cons, List.mem_append, not_or] at hdf
    obtain ⟨dz, dTI, dTO, df1, df2⟩ := hdf
    have di1 : d ≠ i1 := fun e => df1 (e ▸ S.mem1)
    have di2 : d ≠ i2 := fun e => df2 (e ▸ S.mem2)
    have E1 := D1 A hA
    have E2 := D2 A hA
    have E1' := D1 A.in1 hA
    have E2' := D2 A.in1 hA
    refine wpAny_pyIter_zip hz (h z [z, TO, i1, i2] (fun i h => IsTupOf2 h TI (.ref i1) (.ref i2) ∧ St1 i h ∧ St2 i h ∧
      ((IsZip h z TI TO .none ∧ ∃ a b, IsTupOf2 h TO a b) ∨ ∃ T f oT, IsZipHeld h z TI TO T f ∧ h.get? T = some oT ∧ T ≠ z ∧ T ≠ i1 ∧ T ≠ i2 ∧ T ≠ d)) s.heap s.toks ?_
      ⟨hTI, h1, h2, .inl ⟨hz, a, b, hTO⟩⟩ (fun _ _ e => e) fun b hb => .inl hb)
    exact {
      off := fun hm => by
        simp only [List.mem_cons, List.not_mem_nil, or_false] at hm
        rcases hm with e | e | e | e
        · exact dz e
        · exact dTO e
        · exact di1 e
        · exact di2 e
      frame := fun i h₁ h₂ st hk => by
        obtain ⟨hTI, h1, h2, hz⟩ := st
        refine ⟨hk _ _ (Ne.symm dTI) hTI, E1.frame _ _ _ h1 fun b hb o e => hk b o (fun q => df1 (q ▸ hb)) e, E2.frame _ _ _ h2 fun b hb o e => hk b o (fun q => df2 (q ▸ hb)) e, ?_⟩
        rcases hz with ⟨hz, a, b, hTO⟩ | ⟨T, f, oT, hz, hT, r1, r2, r3, r4⟩
        · exact .inl ⟨hk _ _ (Ne.symm dz) hz, a, b, hk _ _ (Ne.symm dTO) hTO⟩
        · exact .inr ⟨T, f, oT, hk _ _ (Ne.symm dz) hz, hk _ _ r4 hT, r1, r2, r3, r4⟩
      item := fun i s₁ Q₁ E₁ hi st hds hQ => by
        obtain ⟨hTI, h1, h2, hz⟩ := st
        have lt : ∀ {c o}, s₁.heap.get? c = some o → s₁.heap.objs.size ≠ c := fun e => Nat.ne_of_gt (Heap.lt_size e)
        have n1 : s₁.heap.objs.size ≠ i1 := let ⟨_, e⟩ := E1.live _ _ h1; lt e
        have n2 : s₁.heap.objs.size ≠ i2 := let ⟨_, e⟩ := E2.live _ _ h2; lt e
        rcases hz with ⟨hz, a, b, hTO⟩ | ⟨T, f, oT, hz, hT, r1, r2, r3, r4⟩
        · refine wpAny_pyNext_zipD2_item S E1' E2' hz hTI hTO h1 h2 hi hi fun x1 x2 h' tk p1 p2 a1 a2 a3 a4 a5 a6 hk => ?_
          exact hQ s₁.heap.objs.size _ _ h' tk ⟨p1, p2⟩ (.inl ⟨_, a5, rfl, _, rfl⟩)
            ⟨hk _ _ S.TIz S.TITO S.TIi1 S.TIi2 hTI, a3, a4, .inr ⟨s₁.heap.objs.size, false, _, a1, a5, lt hz, n1, n2, Nat.ne_of_gt hds⟩⟩
            fun c o hc e => hk c o (fun x => hc (by simp [x])) (fun x => hc (by simp [x])) (fun x => hc (by simp [x])) (fun x => hc (by simp [x])) e
        · refine pyNext_held_item S E1' E2' hz hT hTI h1 h2 hi hi fun x1 x2 h' tk p1 p2 a1 a3 a4 a5 a6 hk => ?_
          exact hQ s₁.heap.objs.size _ _ h' tk ⟨p1, p2⟩ (.inl ⟨_, a5, rfl, _, rfl⟩)
            ⟨hk _ _ S.TIz S.TIi1 S.TIi2 hTI, a3, a4, .inr ⟨T, true, oT, a1, hk _ _ r1 r2 r3 hT, r1, r2, r3, r4⟩⟩
            fun c o hc e => hk c o (fun x => hc (by simp [x])) (fun x => hc (by simp [x])) (fun x => hc (by simp [x])) e
      done := fun s₁ Q₁ E₁ st hQ => by
        obtain ⟨hTI, h1, h2, hz⟩ := st
        rcases hz with ⟨hz, a, b, hTO⟩ | ⟨T, f, oT, hz, hT, r1, r2, r3, r4⟩
        · exact wpAny_pyNext_zipD2_end S E1' E2' hz hTI hTO h1 h2 (Nat.le_refl _) (Nat.le_refl _) (.inl rfl) fun h' tk hk => hQ h' tk fun c o hc e => hk c o (fun x => hc (by simp [x])) (fun x => hc (by simp [x])) (fun x => hc (by simp [x])) (fun x => hc (by simp [x])) e
        · exact pyNext_held_end S E1' hz hT hTI h1 fun h' hk => hQ h' s₁.toks fun c o hc e => hk c o (fun x => hc (by simp [x])) (fun x => hc (by simp [x])) (fun x => hc (by simp [x])) e }
end MpZ
end PySem
set_option Elab.async false
set_option linter.all false
set_option maxRecDepth 100000
set_option maxHeartbeats 2000000
/-! Mp: for .. in zip(D, ..) and dict(zip(D, ..)), D a written dict. -/
namespace Mp
open PySem PySem.Spec PyProof.Rows L2
section
variable {G : Glo} {X : Cx} {Wx : WX} {st sa sb : Bool} {fa fb : Env → Mem → Ans W} {m : List (List Addr)} {H : Hp} {μ : Mem} {a : Addr} {ks : List String} {us : List Value}
/-- the written dict, in the heap -/
theorem KD.raw (h : KD G a ks us) : ∃ es ep, (∀ hp : Heap, G.K.In hp → hp.DictRaw a es ep) ∧ es.size = ks.length ∧ (∀ (i : Nat) (en : DictEntry), es[i]? = some en → ∃ (k : String) (t : Tok), ks[i]? = some k ∧ en.key = .str (toS k) t) ∧ (a == sysModules) = false := by
  obtain ⟨es, n, h1, _, _, h2⟩ := h.at_
  refine ⟨es, n, fun hp X => ⟨_, X _ _ h1, ⟨rfl, rfl, rfl⟩, rfl⟩, by rw [← Array.length_toList]; exact h2.length, fun i en e => ?_, h.low⟩
  have e' : es.toList[i]? = some en := by simpa using e
  obtain ⟨k, e1, t, e2⟩ := L2.paired_get h2 e'
  exact ⟨k, t, e1, e2⟩
/-- the keys ks and the tuple at b, in new pairs -/
def ItzK (K : PySem.W.Frag) (ks : List String) (b : Addr) : L2.It :=
  ⟨fun i H => i < ks.length ∧ ∃ ys : List V, SqT K H b ys ∧ ys.length = ks.length,
    fun i H v H' => ∃ T k y, v = .ref T ∧ H T = none ∧ H' = upd H T (.tup [.str (toS k), y]) ∧ ks[i]? = some k ∧ ∀ ys, SqT K H b ys → ys[i]? = some y,
    fun i H => i = ks.length ∧ ∃ ys : List V, SqT K H b ys ∧ ys.length = ks.length⟩
theorem turn_zipK {P : Program} {w : World} {elts : List Expr} {kk : Nat} {tpos : Pos} {b z TI TO i1 i2 : Addr} {es : Array DictEntry} {ep : Nat} (S : ZipSep2 z TI TO i1 i2 [i1, a] [i2, b])
    (hr : ∀ hp : Heap, G.K.In hp → hp.DictRaw a es ep) (hs : es.size = ks.length) (hk : ∀ (i : Nat) (en : DictEntry), es[i]? = some en → ∃ (k : String) (t : Tok), ks[i]? = some k ∧ en.key = .str (toS k) t) (ha : a ≠ i1) (hb : b ≠ i2) :
    Turn P w G.K (.Tuple elts kk tpos) (ItzK G.K ks b) [z, TI, TO, i1, i2] z (fun i h => IsZip h z TI TO .none ∧ IsTupOf2 h TI (.ref i1) (.ref i2) ∧ (∃ x y, IsTupOf2 h TO x y) ∧ h.IsKeyIter i1 a i es.size ep ∧ h.IsTupleIter i2 b i) where
  mem := by simp
  obj := fun i h st c hc => by
    obtain ⟨hz, hTI, ⟨x, y, hTO⟩, ⟨o1, e1, _, d1⟩, ⟨o2, e2, _, d2⟩⟩ := st
    have e' : c = z ∨ c = TI ∨ c = TO ∨ c = i1 ∨ c = i2 := by simpa using hc
    rcases e' with q | q | q | q | q
    · rw [q]; exact ⟨_, hz, fun v q => nomatch q⟩
    · rw [q]; exact ⟨_, hTI, fun v q => nomatch q⟩
    · rw [q]; exact ⟨_, hTO, fun v q => nomatch q⟩
    · rw [q]; exact ⟨o1, e1, fun v q => by rw [d1] at q; cases q⟩
    · rw [q]; exact ⟨o2, e2, fun v q => by rw [d2] at q; cases q⟩
  keep := fun i h h' st k => by
    obtain ⟨hz, hTI, ⟨x, y, hTO⟩, h1, h2⟩ := st
    exact ⟨k z (by simp) _ hz, k TI (by simp) _ hTI, ⟨x, y, k TO (by simp) _ hTO⟩, h1.at fun o q => k i1 (by simp) o q, h2.at fun o q => k i2 (by simp) o q⟩
  item := by
    intro X hP hw hK hc i pins s σ H E I hf st hg
    subst hP hw
    obtain ⟨hz, hTI, hTO, h1, h2⟩ := st
    obtain ⟨hlt, ys, hqy, hyl⟩ := hg
    rw [← hK] at hqy
    obtain ⟨its, rv, p, _⟩ := I.tuple hqy
    have hh := I.ok.hd hc
    have hin : G.K.In s.heap := by rw [← hK]; exact I.kIn
    have hits : its.toArray.size = es.size := by rw [List.size_toArray, ← rv.length, hyl, hs]
    have GN := GoesN.zip2 (prog := X.prog) (w := X.w) (A := X.A) (elts := elts) (x1 := kk) (pos := tpos) S (MpZ.draws_keys (A := X.A.in1) hh i1 a ha es ep) (Draws.tuple (A := X.A.in1) hh i2 b hb its.toArray)
    have hcount : i < min es.size its.toArray.size := by rw [hits, Nat.min_self, hs]; exact hlt
    refine GN.goes i s _ E hcount ⟨hz, hTI, hTO, ⟨h1, hr _ hin⟩, ⟨h2, p⟩⟩ fun v h' tk ⟨T, x, y, ev, hnew, ⟨en, hen, ex⟩, hy, hT⟩ st' hk' htk => ?_
    obtain ⟨hz', hTI', hTO', ⟨h1', _⟩, ⟨h2', _⟩⟩ := st'
    subst ev
    subst ex
    obtain ⟨k, t, hki, hkey⟩ := hk i en hen
    have hy' : its[i]? = some y := by simpa using hy
    obtain ⟨yv, e1, ry⟩ : ∃ yv, ys[i]? = some yv ∧ RelV yv y := by
      have hil : i < ys.length := by rw [hyl]; exact hlt
      obtain ⟨u, hu, ru⟩ := rv.get (i := i) (x := ys[i]) (by simp [hil])
      rw [hy'] at hu
      cases hu
      exact ⟨ys[i], by simp [hil], ru⟩
    have new : ObjOk X.prog X.w (upd H T (.tup [.str (toS k), yv])) h' T (.tup [.str (toS k), yv]) :=
      ⟨by show 2 ≤ sizeLine; decide, [en.key, y], .cons (by rw [hkey]; exact ⟨t, rfl⟩) (.cons ry .nil), hT⟩
    have I1 : Inv X pins σ (upd H T (.tup [.str (toS k), yv])) { s with heap := h', toks := tk } :=
      I.turnedNew (t' := tk) (ch := [z, TI, TO, i1, i2]) (fun c o hb q => hk' c o (fun q' => hb (by
        simp only [List.mem_cons, List.not_mem_nil, or_false] at q' ⊢
        rcases q' with q' | q' | q' | q'
        · exact .inl q'
        · exact .inr (.inr (.inl q'))
        · exact .inr (.inr (.inr (.inl q')))
        · exact .inr (.inr (.inr (.inr q'))))) q) hf hnew new
    refine ⟨.ref T, _, I1, rfl, ⟨T, k, yv, rfl, I.hok.fresh hnew, rfl, hki, fun l hl => by rw [← hK] at hl; rw [I.tuple_inj hl hqy]; exact e1⟩, ⟨hz', hTI', hTO', h1', h2'⟩, fun c hcm => ?_⟩
    have hlt2 : c < s.heap.objs.size := by
      obtain ⟨x0, y0, hTO⟩ := hTO
      have e' : c = z ∨ c = TI ∨ c = TO ∨ c = i1 ∨ c = i2 := by simpa using hcm
      rcases e' with q | q | q | q | q
      · rw [q]; exact Heap.lt_size hz
      · rw [q]; exact Heap.lt_size hTI
      · rw [q]; exact Heap.lt_size hTO
      · rw [q]; obtain ⟨_, e1, _⟩ := h1; exact Heap.lt_size e1
      · rw [q]; obtain ⟨_, e2, _⟩ := h2; exact Heap.lt_size e2
    rw [upd_ne (Nat.ne_of_lt (Nat.lt_of_lt_of_le hlt2 hnew))]
    exact (hf c hcm).1
  done := by
    intro X hP hw hK hc i pins s σ H E I hf st hg
    subst hP hw
    obtain ⟨hz, hTI, hTO, h1, h2⟩ := st
    obtain ⟨rfl, ys, hqy, hyl⟩ := hg
    rw [← hK] at hqy
    obtain ⟨its, rv, p, _⟩ := I.tuple hqy
    have hh := I.ok.hd hc
    have hin : G.K.In s.heap := by rw [← hK]; exact I.kIn
    have hits : its.toArray.size = es.size := by rw [List.size_toArray, ← rv.length, hyl, hs]
    have GN := GoesN.zip2 (prog := X.prog) (w := X.w) (A := X.A) (elts := elts) (x1 := kk) (pos := tpos) S (MpZ.draws_keys (A := X.A.in1) hh i1 a ha es ep) (Draws.tuple (A := X.A.in1) hh i2 b hb its.toArray)
    have hcount : min es.size its.toArray.size = ks.length := by rw [hits, Nat.min_self, hs]
    refine GN.stops s _ E (by rw [hcount]; exact ⟨hz, hTI, hTO, ⟨h1, hr _ hin⟩, ⟨h2, p⟩⟩) fun h' tk hk' htk => ?_
    refine I.turnedL (t' := tk) (ch := [z, TI, TO, i1, i2]) (fun c o hb q => hk' c o (fun q' => hb (by
        simp only [List.mem_cons, List.not_mem_nil, or_false] at q' ⊢
        rcases q' with q' | q' | q' | q'
        · exact .inl q'
        · exact .inr (.inr (.inl q'))
        · exact .inr (.inr (.inr (.inl q')))
        · exact .inr (.inr (.inr (.inr q'))))) q) hf
  self := fun A i s Q E st h => wpAny_pyIter_zip st.1 h
theorem jr_zipK {b : Addr} {ys : List V} {xs : List D} (hr : (Rd H b (.tup ys) ∧ b ∉ m.flatten) ∨ KT G b ys) (r : RVs G m.flatten H ys xs) (hl : ks.length = xs.length) : JR G m H (ItzK G.K ks b) (zipD (ks.map D.str) xs) := by
  intro m' H' μ' L M
  have g1 := sqt_of (SqT.later (K := G.K) L hr)
  have h2 := r.mono L
  have hz : (zipD (ks.map D.str) xs).length = ks.length := by rw [zip_length (by simpa using hl)]; simp
  refine ⟨fun i x e => ?_, ⟨hz, ys, g1, by rw [h2.length, hl]⟩⟩
  obtain ⟨y, z, e1, e2, rfl⟩ := zip_get e
  obtain ⟨k, ek, rfl⟩ : ∃ k, ks[i]? = some k ∧ y = .str k := by
    rw [List.getElem?_map] at e1
    cases q : ks[i]? with
    | none => rw [q] at e1; cases e1
    | some k => rw [q] at e1; cases e1; exact ⟨k, rfl, rfl⟩
  obtain ⟨v, e3, rv⟩ := h2.get e2
  refine ⟨⟨(List.getElem?_eq_some_iff.mp ek).1, ys, g1, by rw [h2.length, hl]⟩, fun v' H'' ⟨T, k', q, ev, hT, eH, q1, q2⟩ => ?_⟩
  subst ev
  subst eH
  rw [ek] at q1
  cases q1
  have z2 := q2 ys g1
  rw [e3] at z2
  cases z2
  exact ⟨M.new hT, lat_new hT, .tup (.inl upd_same) (M.free hT) (.cons (.str _) (.cons (rv.mono (keep_new hT)) .nil))⟩
theorem n_zipK {elts : List Expr} {kk : Nat} {tpos p pos : Pos} {e e2 : Expr} (hK : X.K = G.K) (hD : KD G a ks us) (hg : Gl X "zip") (hm : X.mg "zip" = none) (ha : PE X e (tC (.ref a))) (hb : PE X e2 (tE G Wx sb fb)) (hs : starEach [e, e2] X.env = (false, eval e X.env) :: starEach [e2] X.env) (hs2 : starEach [e2] X.env = [(false, eval e2 X.env)]) :
    PI X (.Tuple elts kk tpos) (.Call (.Name "zip" p) [e, e2] [] pos) (tI G Wx sb fun ρ μ => bnd (fb ρ μ) (zipKI ks)) := by
  refine ⟨fun pins s σ H R I ⟨m, ρ, μ, S, h⟩ => ?_⟩
  refine Call_ (ld_blt I hg hm PyProof.Rows.boot_zip (PyProof.Rows.callWith_type1 (thn ((pa_cons ha (pa_cons hb pa_nil (by rw [hs2]; rfl)) hs).run pos pins s σ H (fun vs H1 => ∃ y, vs = [.ref a, y] ∧ ∃ b ys, y = .ref b ∧ SqT X.K H1 b ys ∧ ys.length = ks.length ∧ R (ItzK G.K ks b) H1) I ?_) fun us s1 ⟨vs, H1, I1, r1, q1⟩ => ?_) hs (by rw [hs2]; rfl)))
  · refine ⟨m, ρ, μ, S, h.bnd (st2 := true) id (fun _ => rfl) fun y m1 H1 w μ1 M1 L1 r1 h1 => ?_⟩
    unfold zipKI at h1
    split at h1
    · split at h1
      · rename_i hl
        obtain ⟨b, ys, rfl, p1, p3⟩ := RV.tup2 r1
        exact ⟨_, rfl, b, ys, rfl, hK ▸ sqt_of p1, by rw [p3.length, hl], h1.now M1 (jr_zipK p1 p3 hl)⟩
      · exact h1.not_none.elim
    · exact h1.not_none.elim
  · obtain ⟨y, ex, b, ys, ey, hq, hl, q⟩ := q1
    subst ey
    subst ex
    cases r1 with
    | cons r rr =>
      cases rr with
      | cons r' rr =>
        cases rr
        cases r
        cases r'
        obtain ⟨its, rv, p2, _⟩ := I1.tuple hq
        obtain ⟨es, ep, hr, hsz, hk, hlow⟩ := hD.raw
        have hin : G.K.In s1.heap := by rw [← hK]; exact I1.kIn
        obtain ⟨o1, ho1, _⟩ := id (hr _ hin)
        obtain ⟨o2, ho2, _⟩ := id p2
        have la : a < s1.heap.objs.size := Heap.lt_size ho1
        have lb : b < s1.heap.objs.size := Heap.lt_size ho2
        refine zip_begins2 (MpZ.begins_keys a es ep hlow) (begins_tuple b its.toArray) (hr _ hin) p2 fun h' hz hTI hTO g1 g2 hsz' hk' => wpAny_pyIter_zip hz ?_
        have I2 : Inv X pins σ H1 { s1 with heap := h' } := I1.kept (t' := s1.toks) hk'
        have T := turn_zipK (P := X.prog) (w := X.w) (elts := elts) (kk := kk) (tpos := tpos) (zip_sep2 (N := s1.heap.objs.size) (fp1 := [a]) (fp2 := [b]) (by simpa using la) (by simpa using lb)) hr hsz hk (Nat.ne_of_lt la) (Nat.ne_of_lt (Nat.lt_succ_of_lt lb))
        rw [← hK] at T
        refine ⟨s1.heap.objs.size + 4, [s1.heap.objs.size + 4, s1.heap.objs.size + 2, s1.heap.objs.size + 3, s1.heap.objs.size, s1.heap.objs.size + 1], _, _, H1, rfl, I2, T, ⟨hz, hTI, ⟨_, _, hTO⟩, ⟨_, g1, rfl, rfl⟩, ⟨_, g2, rfl, rfl⟩⟩, fun c hcm => ?_, by rw [hK]; exact q⟩
        have e' : c = s1.heap.objs.size + 4 ∨ c = s1.heap.objs.size + 2 ∨ c = s1.heap.objs.size + 3 ∨ c = s1.heap.objs.size ∨ c = s1.heap.objs.size + 1 := by simpa using hcm
        have hle : s1.heap.objs.size ≤ c := by
          rcases e' with z | z | z | z | z
          · rw [z]; exact Nat.le_add_right _ _
          · rw [z]; exact Nat.le_add_right _ _
          · rw [z]; exact Nat.le_add_right _ _
          · rw [z]; exact Nat.le_refl _
          · rw [z]; exact Nat.le_add_right _ _
        exact I1.fpOk hle (I1.hok.fresh hle)
/-! ### dict(zip(D, ..)) -/
theorem zip_keys {α : Type} : ∀ {ks : List String} {its : List α}, ks.length = its.length → (((ks.map fun k => (Sum.inr (toS k) : Key)).zip its).map (·.1)) = ks.map fun k => (Sum.inr (toS k) : Key)
  | [], [], _ => rfl
  | [], _ :: _, h => by simp at h
  | _ :: _, [], h => by simp at h
  | _ :: ks, _ :: its, h => by simp [zip_keys (ks := ks) (its := its) (by simpa using h)]
theorem zip_vals {α β : Type} : ∀ {ks : List β} {its : List α}, ks.length = its.length → ((ks.zip its).map (·.2)) = its
  | [], [], _ => rfl
  | [], _ :: _, h => by simp at h
  | _ :: _, [], h => by simp at h
  | _ :: ks, _ :: its, h => by simp [zip_vals (ks := ks) (its := its) (by simpa using h)]
theorem zip_fst {α β : Type} : ∀ {ks : List β} {its : List α}, ks.length = its.length → ((ks.zip its).map (·.1)) = ks
  | [], [], _ => rfl
  | [], _ :: _, h => by simp at h
  | _ :: _, [], h => by simp at h
  | _ :: ks, _ :: its, h => by simp [zip_fst (ks := ks) (its := its) (by simpa using h)]
theorem kv_zip : ∀ {ks : List Key} {vs : List V} {its : List Value}, Vals vs its → KV (ks.zip vs) (ks.zip its)
  | [], _, _, _ => .nil
  | _ :: _, _, _, .nil => .nil
  | k :: ks, _, _, .cons r rr => .cons ⟨rfl, r⟩ (kv_zip rr)
theorem keys_nd : ∀ {ks : List String}, ks.Nodup → (ks.map fun k => (Sum.inr (toS k) : Key)).Nodup
  | [], _ => .nil
  | k :: ks, h => by
    rw [List.nodup_cons] at h
    rw [List.map_cons, List.nodup_cons]
    refine ⟨fun z => ?_, keys_nd h.2⟩
    obtain ⟨j, hj, e⟩ := List.mem_map.mp z
    have := toS_inj (Sum.inr.inj e)
    subst this
    exact h.1 hj
theorem n_dzip {p p2 pos pos2 : Pos} {e e2 : Expr} (hK : X.K = G.K) (hc : X.calm = true) (hD : KD G a ks us) (hnd : ks.Nodup) (hgd : Gl X "dict") (hmd : X.mg "dict" = none) (hg : Gl X "zip") (hm : X.mg "zip" = none) (ha : PE X e (tC (.ref a))) (hb : PE X e2 (tE G Wx sb fb))
    (hs : starEach [e, e2] X.env = (false, eval e X.env) :: starEach [e2] X.env) (hs2 : starEach [e2] X.env = [(false, eval e2 X.env)]) (hs3 : starEach [.Call (.Name "zip" p2) [e, e2] [] pos2] X.env = [(false, eval (.Call (.Name "zip" p2) [e, e2] [] pos2) X.env)]) :
    PE X (.Call (.Name "dict" p) [.Call (.Name "zip" p2) [e, e2] [] pos2] [] pos) (tE G Wx sb fun ρ μ => bnd (fb ρ μ) (dzipK ks)) := by
  refine ⟨fun pins s σ H Q I ⟨m, ρ, μ, S, h⟩ => ?_⟩
  refine Call_ (ld_blt I hgd hmd PyProof.Rows.boot_dict (PyProof.Rows.callWith_type1 ?_ hs3 (by rfl)))
  rw [hs3]
  refine Calls.spliced_cons ?_
  refine Call_ (ld_blt I hg hm PyProof.Rows.boot_zip (PyProof.Rows.callWith_type1 (thn ((pa_cons ha (pa_cons hb pa_nil (by rw [hs2]; rfl)) hs).run pos2 pins s σ H (fun vs H1 => ∃ y, vs = [.ref a, y] ∧ ∃ b ys, y = .ref b ∧ SqT X.K H1 b ys ∧ ys.length = ks.length ∧
      ∀ pd, H1 pd = none → Q (.ref pd) (upd H1 pd (.dK ((ks.map fun k => (Sum.inr (toS k) : Key)).zip ys)))) I ?_) fun us s1 ⟨vs, H1, I1, r1, q1⟩ => ?_) hs (by rw [hs2]; rfl)))
  · refine ⟨m, ρ, μ, S, h.bnd (st2 := true) id (fun _ => rfl) fun y m1 H1 w μ1 M1 L1 r1 h1 => ?_⟩
    unfold dzipK at h1
    split at h1
    · rename_i xs
      split at h1
      · rename_i hl
        obtain ⟨b, ys, rfl, p1, p3⟩ := RV.tup2 r1
        have hyl : ys.length = ks.length := by rw [p3.length, hl]
        refine ⟨_, rfl, b, ys, rfl, hK ▸ sqt_of p1, hyl, fun pd hpd => h1.lay M1 hpd (.dic (.inl upd_same) (M1.free hpd) ?_ ?_)⟩
        · rw [zip_keys hyl.symm, zip_fst (by simpa using hl)]
          simp [Kys, keyOf]
        · rw [zip_vals (by simpa using hyl.symm), zip_vals (by simpa using hl)]
          exact p3.mono (keep_new hpd)
      · exact h1.not_none.elim
    · exact h1.not_none.elim
  · obtain ⟨y, ex, b, ys, ey, hq, hl, q⟩ := q1
    subst ey
    subst ex
    cases r1 with
    | cons r rr =>
      cases rr with
      | cons r' rr =>
        cases rr
        cases r
        cases r'
        obtain ⟨its, rv, p2', hz0⟩ := I1.tuple hq
        obtain ⟨es, ep, hr, hsz, hk, hlow⟩ := hD.raw
        have hin : G.K.In s1.heap := by rw [← hK]; exact I1.kIn
        obtain ⟨o1, ho1, _⟩ := id (hr _ hin)
        obtain ⟨o2, ho2, _⟩ := id p2'
        have la : a < s1.heap.objs.size := Heap.lt_size ho1
        have lb : b < s1.heap.objs.size := Heap.lt_size ho2
        have hil : its.length = ks.length := by rw [← rv.length, hl]
        have hits : its.toArray.size = es.size := by rw [List.size_toArray, hil, hsz]
        refine zip_begins2 (MpZ.begins_keys a es ep hlow) (begins_tuple b its.toArray) (hr _ hin) p2' fun h' hz hTI hTO g1 g2 hsz' hk' => Calls.spliced_nil ?_
        have hh := I.ok.hd hc
        have D1 : ∀ A : Around, A.handled = none → Draws X.prog X.w A s1.heap.objs.size [s1.heap.objs.size, a] es.size _ _ := fun A hA => MpZ.draws_keys hA s1.heap.objs.size a (Nat.ne_of_lt la) es ep
        have D2 : ∀ A : Around, A.handled = none → Draws X.prog X.w A (s1.heap.objs.size + 1) [s1.heap.objs.size + 1, b] es.size _ _ := fun A hA => by
          have := Draws.tuple (prog := X.prog) (w := X.w) hA (s1.heap.objs.size + 1) b (Nat.ne_of_lt (Nat.lt_succ_of_lt lb)) its.toArray
          rw [hits] at this
          exact this
        have PA := MpZ.pairArg (prog := X.prog) (w := X.w) (zip_sep2 (N := s1.heap.objs.size) (fp1 := [a]) (fp2 := [b]) (by simpa using la) (by simpa using lb)) D1 D2 X.A hh
          (fun i h st c hc => by
            obtain ⟨⟨o1, e1, _⟩, o2, e2, _⟩ := st
            have : c = s1.heap.objs.size ∨ c = a := by simpa using hc
            rcases this with rfl | rfl
            · exact ⟨_, e1⟩
            · exact ⟨_, e2⟩)
          (fun i h st c hc => by
            obtain ⟨⟨o1, e1, _⟩, o2, e2, _⟩ := st
            have : c = s1.heap.objs.size + 1 ∨ c = b := by simpa using hc
            rcases this with rfl | rfl
            · exact ⟨_, e1⟩
            · exact ⟨_, e2⟩)
        have hkz := zip_keys (ks := ks) (its := its) hil.symm
        refine PySem.call_dict_pairs (knd := mixKind X.prog X.w) (kvs := (ks.map fun k => (Sum.inr (toS k) : Key)).zip its) PA hh ⟨hz, hTI, ⟨_, _, hTO⟩, ⟨⟨_, g1, rfl, rfl⟩, hr _ (fun c o e => hk' c o (hin c o e))⟩, ⟨⟨_, g2, rfl, rfl⟩, o2, hk' _ _ ho2, by assumption⟩⟩ ⟨by simp [hil, hsz], fun i key v ⟨⟨en, hen, ek⟩, hv⟩ => ?_⟩ (by rw [hsz, ← hil, ← rv.length]; exact hz0) fun h2 tk hd kk => ?_
        · obtain ⟨k, t, e1, e2⟩ := hk i en hen
          have hv' : its[i]? = some v := by simpa using hv
          refine ⟨Sum.inr (toS k), ?_, ?_⟩
          · rw [List.getElem?_zip_eq_some]
            exact ⟨by rw [List.getElem?_map, e1]; rfl, hv'⟩
          · rw [ek, e2]
            show Value.isStrOf (toS k) (.str (toS k) t) = true
            simp [Value.isStrOf]
        · rw [merged_append_of_fresh [] _ (by rw [List.nil_append, hkz]; exact keys_nd hnd), List.nil_append] at hd
          have hpn : s1.heap.objs.size ≤ h'.objs.size := by rw [hsz']; exact Nat.le_add_right _ _
          have hm : (h'.objs.size == sysModules) = false := beq_eq_false_iff_ne.mpr (Nat.ne_of_gt (Nat.lt_of_lt_of_le I1.big hpn))
          have hold : ∀ c o, s1.heap.get? c = some o → h2.get? c = some o := fun c o e => kk c o (fun z => by
            have hlt := Heap.lt_size e
            simp only [List.mem_cons, List.not_mem_nil, or_false] at z
            rcases z with z | z | z | z <;> subst z <;> first | exact absurd hlt (Nat.not_lt.mpr (Nat.le_add_right _ _)) | exact absurd hlt (Nat.lt_irrefl _)) (hk' c o e)
          refine ⟨.ref h'.objs.size, _, I1.laid (t' := tk) hold hpn (show ObjOk X.prog X.w _ _ _ (.dK ((ks.map fun k => (Sum.inr (toS k) : Key)).zip ys)) from ⟨?_, hm, _, kv_zip rv, hd⟩), rfl, q _ (I1.hok.fresh hpn)⟩
          rw [List.length_zip, List.length_map, hl, Nat.min_self, ← hl]
          exact hz0
end
end Mp
set_option Elab.async false
set_option linter.all false
set_option maxRecDepth 100000
set_option maxHeartbeats 2000000
/-! Mp: try .. except, several clauses, with names or not. -/
namespace PySem.W
open PySem PySem.Spec PySem.Calls PyProof.Rows
section
variable {prog : Program} {w : World} {A : Around} {E : Value → Shared → Prop} {s : Shared} {K : Frag} {x D : Addr} {ox : Obj} {od : Option Obj}
theorem mp_findD {C : Addr} {name : Str} {a g : Value} (hc : (clsIn K C).isSome = true) (ha : findIn K (.ref C) name = some (some a)) (hg : specialIn K a "__get__" = some (some g)) (ht : takesIn K a = some true) : findObj K C od name = some (.bind g a) := by
  obtain ⟨cd, hc⟩ := Option.isSome_iff_exists.mp hc
  unfold findObj
  rw [hc, Option.bind_some, ha, Option.bind_some]
  simp [hg, ht]
/-- e.__class__ of an exception of an own class, with a dict or without -/
theorem mp_clsE {Q : Option Value → Shared → Prop} (T : L2.ExcC K D) (X : K.In s.heap) (I : InstAt s.heap x ox D od) (h : Q (some (.ref D)) { s with toks := s.toks + 1 }) : wpAny (model prog w) A (getAttr? (.ref x) "__class__") Q E s := by
  have hf : findObj K D od "__class__" = some (.bind (.builtin "getset_descriptor.__get__") (.builtin "object.__class__")) := mp_findD (by obtain ⟨cd, hc, _⟩ := any_some T.hd; rw [hc]; rfl) T.ha T.hn T.ht
  obtain ⟨hp, g, d, t, os⟩ := s
  have L0 := I.type (M := model prog w)
  have L1 := looks_findIn (M := model prog w) X T.hg
  have L2 := looks_findIn (M := model prog w) X T.hk
  have L3 := looks_find (M := model prog w) X I hf
  have sub : Looks (model prog w) hp (isInstance (.ref x) (.type "BaseException")) true := L0.andThen (looks_subIn X T.hs)
  have hx0 : (false && onTheHeap (Value.builtin "BaseException.__getattribute__")) = false := rfl
  have hx2 : (Value.builtin "BaseException.__getattribute__" == Value.builtin "object.__getattribute__") = false := by decide +kernel
  have hx1 : (onTheHeap (Value.ref D) && Value.builtin "BaseException.__getattribute__" == Value.builtin "object.__getattribute__") = false := by rw [hx2]; rfl
  unfold getAttr? getAttrBy? getAttrBy
  refine wpAny_bind (wpAny_mkText (wpAny_bind (wpAny_attempt (wpAny_holding (wpAny_bind (L0.at (wpAny_bind (L1.at ?_))))))))
  show wpAny _ _ (if (onTheHeap (Value.ref D) && Value.builtin "BaseException.__getattribute__" == Value.builtin "object.__getattribute__") = true then _ else _) _ _ _
  rw [hx1, if_neg Bool.false_ne_true]
  unfold getAttrByItsOwn hookBefore
  refine wpAny_bind ?_
  rw [if_pos (show onTheHeap (Value.ref D) = true from rfl)]
  refine L2.at ?_
  refine wpAny_bind (wpAny_attempt (wpAny_holding ?_))
  unfold callGetattribute
  rw [hx0, if_neg Bool.false_ne_true]
  unfold boundAndCalled
  rw [PySem.F.excAttr_ValueError.ga.bind (.ref x)]
  refine wpAny_bind (wpAny_pure ?_)
  show wpAny _ _ (call (.builtin "BaseException.__getattribute__") [.ref x, .str "__class__" t]) _ _ _
  refine wpAny_call (codeAny_call_builtin PySem.F.excAttr_ValueError.ga.plain PySem.F.entry_bexc_ga ?_)
  refine @check_slot (model prog w) _ _ ⟨hp, g, d, t + 1, os⟩ "BaseException.__getattribute__" "BaseException" "__getattribute__" (.ref x) [.str "__class__" t] [] _ (by decide +kernel) (by decide +kernel) sub (PySem.F.args_bexc_ga (.ref x) (.str "__class__" t)) ?_
  unfold Builtin.«object.__getattribute__»
  refine wpAny_bind (wpAny_of_eq (a := ((Value.ref x : Value), [Value.str "__class__" t])) (by first | rfl | (simp only [slotArgs]; rfl)) ?_)
  refine wpAny_bind (wpAny_pure (wpAny_bind (L0.at (wpAny_bind (L3.at ?_)))))
  show wpAny _ _ (holding [Value.builtin "object.__class__"] (call (.builtin "getset_descriptor.__get__") [.builtin "object.__class__", .ref x, .ref D]) >>= ret) _ _ _
  refine wpAny_bind (wpAny_holding (wpAny_call (class_get (s := ⟨hp, g, d, t + 1, os⟩) (ox := ox) (od := od) X I T.hm ?_)))
  refine wpAny_pure ?_
  show wpAny _ _ (handedOut (.ref D)) _ _ _
  rw [handedOut_of (v := .ref D) rfl]
  first
    | exact wpAny_pure (wpAny_pure h)
    | exact wpAny_pure h
    | exact wpAny_pure (wpAny_bind (wpAny_pure (wpAny_pure h)))
theorem mp_kitE (T : L2.ExcC K D) : KitX K (.ref x) (.ref D) (fun h => ∃ od, InstAt h x ox D od) where
  ty := fun _ _ _ ⟨_, I⟩ => I.type
  it := fun _ _ X _ => by
    obtain ⟨cdD, hcD, _⟩ := any_some T.hd
    unfold clsIn at hcD
    split at hcD
    · rename_i c' d' cd' sl' ho
      intro A' Q' E' s' k q
      unfold isType loadHead
      exact wpAny_bind (wpAny_loadPart (k _ _ (X _ _ ho)) (wpAny_pure q))
    · cases hcD
  ne := fun h tp dd its n sl X htp => by
    obtain ⟨cdD, hcD, _⟩ := any_some T.hd
    refine Bool.eq_false_iff.mpr fun q => ?_
    have e : D = tp := Value.ref.inj (beq_iff_eq.mp q)
    subst e
    unfold clsIn at hcD
    split at hcD
    · rename_i c' d' cd' sl' ho
      have z := (X _ _ ho).symm.trans htp
      cases z
    · cases hcD
  ca := fun X ⟨_, I⟩ k => mp_clsE T X I k
end
end PySem.W
namespace Mp
open PySem PySem.Spec PyProof.Rows L2
/-! ### clauses with names and without -/
def gone (nm : Option Nat) (σ : L2.St) : L2.St := match nm with | none => σ | some i => σ.set i none
def goneE (nm : Option Nat) (De : Ends) : Ends := { nx := fun σ H => De.nx (gone nm σ) H, rt := De.rt, bk := fun σ H => De.bk (gone nm σ) H, ct := fun σ H => De.ct (gone nm σ) H }
def held (nm : Option Nat) (a : Addr) (σ : L2.St) : L2.St := match nm with | none => σ | some i => σ.set i (some (.ref a))
abbrev Cl := Option Nat × Value × (Addr → Value → Option Addr → TS)
def wCl (K : PySem.W.Frag) (Wout : WX) (De : Ends) : List Cl → WX
  | [] => Wout
  | (nm, c, ts) :: r => fun cls d σ H => ∃ b, PySem.W.exmOne K cls c = some b ∧ (b = true → ∀ a, H a = none → ts a cls d (goneE nm De) (held nm a σ) H) ∧ (b = false → wCl K Wout De r cls d σ H)
inductive HdK (X : Cx) : List ExceptHandler → List Cl → Prop
  | nil : HdK X [] []
  | no {x : Str} {c : Value} {ts : Addr → Value → Option Addr → TS} {b₀ : Stmt} {suite : List Stmt} {np pos' : Pos} {hds : List ExceptHandler} {l : List Cl} (hc : Names X x c)
      (hsu : ∀ (a : Addr) (oe : Obj) (cls : Value) (d : Option Addr) (pn : List (Addr × Obj)), Zc cls d oe → (∃ vs, oe.data = .fields vs) → PSs (X.suite a ((a, oe) :: pn)) (b₀ :: suite) (ts a cls d)) (r : HdK X hds l) :
      HdK X (.ExceptHandler (some (.Name x np)) none (b₀ :: suite) pos' :: hds) ((none, c, ts) :: l)
  | nm {x n : Str} {i : Nat} {c : Value} {ts : Addr → Value → Option Addr → TS} {b₀ : Stmt} {suite : List Stmt} {np pos' : Pos} {hds : List ExceptHandler} {l : List Cl} (hc : Names X x c) (hN : X.N.Nodup) (hi : X.N[i]? = some n) (hln : X.env.kindOf n = some .local)
      (hsu : ∀ (a : Addr) (oe : Obj) (cls : Value) (d : Option Addr) (pn : List (Addr × Obj)), Zc cls d oe → (∃ vs, oe.data = .fields vs) → PSs (X.suite a ((a, oe) :: pn)) (b₀ :: suite) (ts a cls d)) (r : HdK X hds l) :
      HdK X (.ExceptHandler (some (.Name x np)) (some n) (b₀ :: suite) pos' :: hds) ((some i, c, ts) :: l)
section
variable {X : Cx} {body : List Stmt} {h₀ : ExceptHandler} {hds : List ExceptHandler} {l : List Cl} {pos : Pos} {tb : WX → TS} {Wout : WX}
theorem ps_tryK (hs : X.stack = X.env :: X.outer) (hf : X.env.frame = some X.env.locals) (tk : Takes X Wout)
    (hb : ∀ (W : WX) (pn : List (Addr × Obj)) (xe : Value → Shared → Prop), Takes (X.tr pn xe) W → PassesOwn (model X.prog X.w) X.A X.env xe → PSs (X.tr pn xe) body (tb W))
    (hh : HdK X (h₀ :: hds) l) : PS X (.Try body (h₀ :: hds) [] [] pos) (fun De σ H => tb (wCl X.K Wout De l) De σ H) := by
  refine ⟨fun pins s σ H De I h => ?_⟩
  have ok := I.ok
  have hfr : X.A.frames = some (X.env :: X.outer) := by rw [ok.frames, hs]
  refine wpAny_Try_except ?_
  refine wpAny_mono ((hb (wCl X.K Wout De l) (X.pn ++ pins) (fun e s₁ => wpAny (model X.prog X.w) X.A (noteFrame e X.env) (fun _ s₂ => wpAny (model X.prog X.w) X.A (setFlight e none) (fun _ s₃ =>
    wpAny (model X.prog X.w) X.A (handleBy e X.env (h₀ :: hds)) (SP X pins De) X.xe s₃) X.xe s₂) X.xe s₁) (fun u s' xx => ?_) PassesOwn.looking).run [] s σ H De (I.toTry _) h) (fun f s1 hsp => ?_) (fun e s1 he => he)
  · -- an exception of the body
    obtain ⟨a, B, sI, pins', σ', H', cls, d, rfl, J', nb, up, sky, na, os, ag, w⟩ := xx
    have J : Inv X pins σ' H' sI := J'.ofTry ok
    have sky' : Sky B (X.env :: X.outer) a (Zc cls d) X.env.locals s'.heap := by rw [← hs]; exact sky
    show wpAny (model X.prog X.w) X.A (noteFrame (.ref a) X.env) _ _ _
    refine Sky.land Zc.steady hfr hf sky' fun h3 fl3 up3 => ?_
    have J3 : Inv X pins σ' H' { s' with heap := h3 } := J.landed nb fl3.1 (up.trans up3) os ag
    obtain ⟨oe3, vs3, he3, hz3, hd3⟩ := fl3.there
    have notFr : ∀ {h : Heap} {o : Obj} {vs : Array Value}, h.FunFrames B (X.env :: X.outer) → h.get? a = some o → o.data = .fields vs → a ∉ frs (X.env :: X.outer) := fun {h o vs} ff e dd hm => by
      obtain ⟨_, o', e', hnf⟩ := ff.mem hm
      rw [e] at e'; cases e'
      exact hnf _ dd
    have nfr := notFr fl3.2.2.1 he3 hd3
    have nL : a ≠ X.env.locals := fun z => nfr (List.mem_filterMap.mpr ⟨X.env, List.mem_cons_self, by rw [hf, z]⟩)
    have nF : a ∉ X.fs := fun hm => by
      obtain ⟨e, he, q⟩ := List.mem_filterMap.mp hm
      exact nfr (List.mem_filterMap.mpr ⟨e, List.mem_cons_of_mem _ he, q⟩)
    have S3 := J3.suite he3 hd3 na nL nF
    have test : ∀ {x : Str} {np : Pos} {c : Value} {Q : Value → Shared → Prop} {E : Value → Shared → Prop}, Names X x c → Q c { s' with heap := h3 } → wpAny (model X.prog X.w) (X.A.mark (some (.ref a))) (eval (.Name x np) X.env) Q E { s' with heap := h3 } := fun hc q => by
      obtain ⟨hg, hdbg, hm | ⟨hm, hv, hnn⟩⟩ := hc
      · exact ld_glob (X := X.suite a ((a, oe3) :: (X.pn ++ pins))) S3 hg hm q hdbg
      · exact ld_blt (X := X.suite a ((a, oe3) :: (X.pn ++ pins))) S3 hg hm hv q hnn hdbg
    have LT : PySem.W.Looks (model X.prog X.w) h3 (typeOf (.ref a)) cls := fun A Q E s k q => wpAny_typeOf_ref (k _ _ he3) (by rw [hz3.1]; exact q)
    have go : ∀ {hds' : List ExceptHandler} {l' : List Cl}, HdK X hds' l' → wCl X.K Wout De l' cls d σ' H' → wpAny (model X.prog X.w) X.A (handleBy (.ref a) X.env hds') (SP X pins De) X.xe { s' with heap := h3 } := by
      intro hds' l' hk
      induction hk with
      | nil =>
        intro w
        refine wpAny_handleBy_nil ?_
        obtain ⟨k1, k2, k3, oe, vs, T, oT, ts', he, hz, hd, h1, hr⟩ := id fl3
        unfold PySem.passOn
        refine wpAny_bind (wpAny_field he hd h1 ?_)
        rw [if_neg (show ¬ ((Value.ref T == Value.none) = true) from by simp)]
        have fin : wpAny (model X.prog X.w) X.A (setFlight (.ref a) X.env.frame) (fun _ s4 => wpAny (model X.prog X.w) X.A (throw (.ref a) : Sem Flow) (SP X pins De) X.xe s4) X.xe { s' with heap := h3 } := by
          rw [hf]
          refine HandSPX.setFlight_upZ fl3 fun h4 hh4 up4 => wpAny_throw (tk _ _ ?_)
          exact ⟨a, B, sI, pins, σ', H', cls, d, rfl, J, nb, (up.trans up3).trans up4, .inr (.inr (by rw [hs]; exact hh4)), na, os, ag, w⟩
        first
          | exact wpAny_bind (wpAny_pure (wpAny_bind fin))
          | exact wpAny_bind fin
      | @no x c ts b₀ suite np pos' hds2 l2 hc hsu r ih =>
        intro w
        obtain ⟨b, hb1, hyes, hno⟩ := w
        refine wpAny_handleBy_cons (codeAny_handlers_test ?_) (by intro q; cases q)
        have LM := PySem.W.exm_one (M := model X.prog X.w) (J3.kIn) LT hb1
        refine test hc (LM.here ?_)
        cases b with
        | true =>
          refine codeAny_handlers_suite ?_
          refine HandSPX.lands_againZ fl3 fun h4 fl4 up4 => ?_
          have J4 : Inv X pins σ' H' { s' with heap := h4 } := J.landed nb fl4.1 ((up.trans up3).trans up4) os ag
          obtain ⟨oe4, vs4, he4, hz4, hd4⟩ := fl4.there
          have S4 := J4.suite he4 hd4 na nL nF
          refine wpAny_mono ((hsu a oe4 cls d (X.pn ++ pins) hz4 ⟨_, hd4⟩).run [] _ _ H' _ S4 (hyes rfl a na)) (fun f s6 hsp => ?_) (fun _ _ z => False.elim z)
          cases f with
          | next =>
            obtain ⟨σ6, H6, S6, q6⟩ := hsp
            exact ⟨_, _, S6.unsuite ok, q6⟩
          | brk =>
            obtain ⟨σ6, H6, S6, q6⟩ := hsp
            exact ⟨_, _, S6.unsuite ok, q6⟩
          | cont =>
            obtain ⟨σ6, H6, S6, q6⟩ := hsp
            exact ⟨_, _, S6.unsuite ok, q6⟩
          | ret u =>
            obtain ⟨v6, σ6, H6, S6, r6, q6⟩ := hsp
            exact ⟨_, _, _, S6.unsuite ok, r6, q6⟩
        | false =>
          show wpAny _ X.A (handleBy (.ref a) X.env hds2) _ _ _
          exact ih (hno rfl)
      | @nm x n i c ts b₀ suite np pos' hds2 l2 hc hN hi hln hsu r ih =>
        intro w
        obtain ⟨b, hb1, hyes, hno⟩ := w
        refine wpAny_handleBy_cons (codeAny_handlers_test ?_) (by intro q; cases q)
        have LM := PySem.W.exm_one (M := model X.prog X.w) (J3.kIn) LT hb1
        refine test hc (LM.here ?_)
        cases b with
        | true =>
          refine codeAny_handlers_suite_as ?_
          refine HandSPX.lands_againZ fl3 fun h4 fl4 up4 => ?_
          have J4 : Inv X pins σ' H' { s' with heap := h4 } := J.landed nb fl4.1 ((up.trans up3).trans up4) os ag
          obtain ⟨oe4, vs4, he4, hz4, hd4⟩ := fl4.there
          have S4 := J4.suite he4 hd4 na nL nF
          refine store_ok (X := X.suite a ((a, oe4) :: (X.pn ++ pins))) (v := .ref a) S4 hN hi (.inl hln) rfl (fun s5 S5 => ?_) (.inr hln)
          refine wpAny_mono ((hsu a oe4 cls d (X.pn ++ pins) hz4 ⟨_, hd4⟩).run [] s5 _ H' _ S5 (hyes rfl a na)) (fun f s6 hsp => ?_) (fun _ _ z => False.elim z)
          have end_ : ∀ {σ6 : L2.St} {H6 : Hp} {Q : Shared → Prop}, Inv (X.suite a ((a, oe4) :: (X.pn ++ pins))) [] σ6 H6 s6 → (∀ s7, Inv X pins (σ6.set i none) H6 s7 → Q s7) →
              wpAny (model X.prog X.w) X.A (do bindName X.env n .none; unbindBehindTheSuite X.env n pos') (fun _ s7 => Q s7) X.xe s6 := fun {σ6 H6 Q} S6 hq => gone_ok (S6.unsuite ok) hN hi hln hq
          cases f with
          | next =>
            obtain ⟨σ6, H6, S6, q6⟩ := hsp
            exact end_ S6 fun s7 J7 => ⟨_, _, J7, q6⟩
          | brk =>
            obtain ⟨σ6, H6, S6, q6⟩ := hsp
            exact end_ S6 fun s7 J7 => ⟨_, _, J7, q6⟩
          | cont =>
            obtain ⟨σ6, H6, S6, q6⟩ := hsp
            exact end_ S6 fun s7 J7 => ⟨_, _, J7, q6⟩
          | ret u =>
            obtain ⟨v6, σ6, H6, S6, r6, q6⟩ := hsp
            exact end_ S6 fun s7 J7 => ⟨_, _, _, J7, r6, q6⟩
        | false =>
          show wpAny _ X.A (handleBy (.ref a) X.env hds2) _ _ _
          exact ih (hno rfl)
    exact go hh w
  · cases f with
    | next =>
      obtain ⟨σ', H', J', q⟩ := hsp
      exact wpAny_execs_nil ⟨σ', H', J'.ofTry ok, q⟩
    | brk =>
      obtain ⟨σ', H', J', q⟩ := hsp
      exact ⟨σ', H', J'.ofTry ok, q⟩
    | cont =>
      obtain ⟨σ', H', J', q⟩ := hsp
      exact ⟨σ', H', J'.ofTry ok, q⟩
    | ret u =>
      obtain ⟨v, σ', H', J', r, q⟩ := hsp
      exact ⟨v, σ', H', J'.ofTry ok, r, q⟩
end
end Mp
set_option Elab.async false
set_option linter.all false
set_option maxRecDepth 100000
set_option maxHeartbeats 2000000
/-! Mp: except suites, the try statement. -/
namespace Mp
open PySem PySem.Spec PyProof.Rows L2
section
variable {G : Glo} {X : Cx} {Wx : WX} {a : Addr} {oe : Obj} {cls : Value} {d : Option Addr} {nm : Option Nat} {pn : List (Addr × Obj)} {e e1 e2 : Expr} {f g : Exc → Option D} {pos p : Pos}
/-- the error at a; its fields' value -/
def tSu (G : Glo) (a : Addr) (cls : Value) (d : Option Addr) (nm : Option Nat) (f : Exc → Option D) : TE := fun σ H Q => ∃ e C m μ x, cls = .ref C ∧ G.xcl e.cls = some C ∧ (∀ i, nm = some i → i < σ.length → σ[i]? = some (some (.ref a))) ∧ (∀ i, nm = some i → i < σ.length) ∧ MS G m H μ ∧ XR G m.flatten H d e ∧ f e = some x ∧
  ∀ v m' H', MS G m' H' μ → Lat true m H m' H' → RV G m'.flatten H' v x → Q v H'
theorem s_cst {v : V} {x : D} (he : PE X e (tC v)) (r : ∀ O H, RV G O H v x) : PE X e (tSu G a cls d nm fun _ => some x) :=
  PE.imp he fun σ H Q ⟨e, C, m, μ, y, _, _, _, _, M, _, ex, k⟩ => by
    cases ex
    exact k v m H M .refl (r _ _)
/-- error.f -/
theorem s_fld {i fi : Nat} {n en : Str} {epos : Pos} (hx : G.fnm[fi]? = some n) (T : ∀ c C, G.xcl c = some C → XfC X.K C) (hno : ∀ c C, G.xcl c = some C → PySem.W.findIn X.K (.ref C) n = some none) (hN : X.N[i]? = some en) (hv : Vis X.env.scope en) (hd : (en == ("__debug__" : Str)) = false) (hcd : (en == ("__classdict__" : Str)) = false)
    (hz : Zc cls d oe) (hf : ∃ vs, oe.data = .fields vs) (hb : attributeBase (.Name en epos) n X.env (eval (.Name en epos) X.env) = eval (.Name en epos) X.env) :
    PE (X.suite a ((a, oe) :: pn)) (.Attribute (.Name en epos) n pos) (tSu G a cls d (some i) fun e => e.fs.lookup fi) := by
  refine ⟨fun pins s σ H Q I ⟨e, C, m, μ, y, ec, hC, h1, h2, M, xr, ex, k⟩ => ?_⟩
  refine (pe_xf (T _ _ hC) (hno _ _ hC) hz hf (pe_var (X := X.suite a ((a, oe) :: pn)) hN hv hd hcd) hb).run pins s σ H Q I ⟨.ref a, h1 i rfl (h2 i rfl), rfl, ec, ?_⟩
  have ex : e.fs.lookup fi = some y := ex
  rcases xr with xr | ⟨dx, vfs, ed, hdx, nms, rvs⟩
  · rw [xr.1] at ex
    cases ex
  · obtain ⟨j, x', q1, q2, v, q3, q4⟩ := nms_look nms ex
    rw [hx] at q1
    cases q1
    obtain ⟨v', e3, rv⟩ := rvs.get (i := j) (by rw [List.getElem?_map, q2]; rfl)
    rw [List.getElem?_map, q3] at e3
    cases e3
    exact ⟨dx, vfs, v, ed, hdx, q4, k v m H M .refl rv⟩
/-- several -/
def tSuA (G : Glo) (a : Addr) (cls : Value) (d : Option Addr) (nm : Option Nat) (f : Exc → Option (List D)) : TA := fun σ H Q => ∃ e C m μ x, cls = .ref C ∧ G.xcl e.cls = some C ∧ (∀ i, nm = some i → i < σ.length → σ[i]? = some (some (.ref a))) ∧ (∀ i, nm = some i → i < σ.length) ∧ MS G m H μ ∧ XR G m.flatten H d e ∧ f e = some x ∧
  ∀ vs m' H', MS G m' H' μ → Lat true m H m' H' → RVs G m'.flatten H' vs x → Q vs H'
theorem XR.mono {O O' : List Addr} {H H' : Hp} {e : Exc} (k : Keep O O' H H') (q : ∀ dx, d = some dx → ∀ o, H dx = some o → H' dx = some o) (x : XR G O H d e) : XR G O' H' d e := by
  rcases x with x | ⟨dx, vfs, h1, h2, h3, h4⟩
  · exact .inl x
  · exact .inr ⟨dx, vfs, h1, q dx h1 _ h2, h3, h4.mono k⟩
theorem sA_nil : PA X [] (tSuA G a cls d nm fun _ => some []) :=
  PA.imp pa_nil fun σ H Q ⟨e, C, m, μ, y, _, _, _, _, M, _, ex, k⟩ => by
    cases ex
    exact k [] m H M .refl .nil
theorem sA_cons {es : List Expr} {g : Exc → Option (List D)} (h1 : PE X e (tSu G a cls d nm f)) (h2 : PA X es (tSuA G a cls d nm g)) (hs : starEach (e :: es) X.env = (false, eval e X.env) :: starEach es X.env) :
    PA X (e :: es) (tSuA G a cls d nm fun x => (f x).bind fun y => (g x).map fun ys => y :: ys) := by
  refine PA.imp (pa_cons h1 h2 hs) fun σ H Q ⟨e, C, m, μ, y, ec, hC, q1, q2, M, xr, ex, k⟩ => ?_
  dsimp only at ex
  cases e1 : f e with
  | none => rw [e1] at ex; cases ex
  | some y1 =>
    rw [e1] at ex
    cases e2 : g e with
    | none => rw [e2] at ex; cases ex
    | some ys =>
      rw [e2] at ex
      cases ex
      refine ⟨e, C, m, μ, y1, ec, hC, q1, q2, M, xr, e1, fun v m1 H1 M1 L1 r1 => ?_⟩
      refine ⟨e, C, m1, μ, ys, ec, hC, q1, q2, M1, xr.mono L1.keep (fun dx _ o eo => (L1.same rfl).1 dx o eo), e2, fun vs m2 H2 M2 L2 r2 => ?_⟩
      exact k _ m2 H2 M2 (L1.trans L2) (.cons (r1.mono L2.keep) r2)
theorem s_tup {es : List Expr} {k : Nat} {g : Exc → Option (List D)} (h : PA X es (tSuA G a cls d nm g)) : PE X (.Tuple es k pos) (tSu G a cls d nm fun x => (g x).bind fun ys => if okLen ys then some (.tup ys) else none) := by
  refine PE.imp (pe_tup h) fun σ H Q ⟨e, C, m, μ, y, ec, hC, q1, q2, M, xr, ex, k⟩ => ?_
  dsimp only at ex
  cases e1 : g e with
  | none => rw [e1] at ex; cases ex
  | some ys =>
    rw [e1] at ex
    dsimp only [Option.bind_some] at ex
    split at ex
    · rename_i hl
      cases ex
      refine ⟨e, C, m, μ, ys, ec, hC, q1, q2, M, xr, e1, fun vs m1 H1 M1 L1 r1 => ⟨by rw [r1.length, ← lim_eq]; exact of_decide_eq_true hl, fun p hp => ?_⟩⟩
      exact k (.ref p) m1 _ (M1.new hp) (L1.trans (lat_new (st := true) hp)) (.tup (.inl upd_same) (M1.free hp) (r1.mono (keep_new hp)))
    · cases ex
theorem s_lst {es : List Expr} {g : Exc → Option (List D)} (h : PA X es (tSuA G a cls d nm g)) : PE X (.List es pos) (tSu G a cls d nm fun x => (g x).bind fun ys => if okLen ys then some (.lst ys) else none) := by
  refine PE.imp (pe_lst h) fun σ H Q ⟨e, C, m, μ, y, ec, hC, q1, q2, M, xr, ex, k⟩ => ?_
  dsimp only at ex
  cases e1 : g e with
  | none => rw [e1] at ex; cases ex
  | some ys =>
    rw [e1] at ex
    dsimp only [Option.bind_some] at ex
    split at ex
    · rename_i hl
      cases ex
      refine ⟨e, C, m, μ, ys, ec, hC, q1, q2, M, xr, e1, fun vs m1 H1 M1 L1 r1 => ⟨by rw [r1.length, ← lim_eq]; exact of_decide_eq_true hl, fun p hp => ?_⟩⟩
      exact k (.ref p) m1 _ (M1.new hp) (L1.trans (lat_new (st := true) hp)) (.lst (.inl upd_same) (M1.free hp) (r1.mono (keep_new hp)))
    · cases ex
/-- isinstance(error, B), B the base of all -/
theorem call_isB {B : Addr} (hT : ∀ c C, G.xcl c = some C → ExcC X.K C) (hB : ∀ c C, G.xcl c = some C → PySem.W.kitOne X.K (.ref C) (.ref B) = some true) (hz : Zc cls d oe) (hf : ∃ vs, oe.data = .fields vs) :
    CallR (X.suite a ((a, oe) :: pn)) (.builtin "isinstance") (fun xs H Q => xs = [.ref a, .ref B] ∧ (∃ c C, cls = .ref C ∧ G.xcl c = some C) ∧ (∀ dd, d = some dd → ∃ fs, H dd = some (.xd fs)) ∧ Q (.bl true) H) := by
  intro pins s σ H xs us Q I r ⟨exs, ⟨c, C, ec, hC⟩, hd, q⟩
  subst exs ec
  cases r with
  | cons rx rr =>
    cases rr with
    | cons rt rr =>
      cases rr
      cases rx
      cases rt
      obtain ⟨hget, _⟩ := I.pin (a, oe) (List.mem_append.mpr (.inl List.mem_cons_self))
      obtain ⟨vs, hv⟩ := hf
      have hno : PySem.W.notCls oe = true := by unfold PySem.W.notCls; rw [hv] <;> rfl
      have J : ∃ od, PySem.W.InstAt s.heap a oe C od := by
        have hz2 : oe.dict = d := hz.2
        cases d with
        | none => exact ⟨none, hget, hz.1, hno, by rw [hz2]; trivial⟩
        | some dd =>
          obtain ⟨fs, hfs⟩ := hd dd rfl
          have hx : ObjOk X.prog X.w H s.heap dd (.xd fs) := I.hok dd _ hfs
          obtain ⟨mA, hns, hr⟩ := hx
          obtain ⟨o, es, ep, ho, _⟩ := hns
          exact ⟨some o, hget, hz.1, hno, by rw [hz2]; exact ho⟩
      exact PySem.W.kia_one (PySem.W.mp_kitE (hT _ _ hC)) I.kIn J (hB _ _ hC) (fun z => nomatch z) fun tk => ⟨.bl true, H, I.kept (t' := tk) fun _ _ z => z, rfl, q⟩
theorem s_iteB {i : Nat} {en nB : Str} {B : Addr} {c : Expr} {p1 p2 p3 p4 pos : Pos} (hT : ∀ c C, G.xcl c = some C → ExcC X.K C) (hB : ∀ c C, G.xcl c = some C → PySem.W.kitOne X.K (.ref C) (.ref B) = some true) (hz : Zc cls d oe) (hf : ∃ vs, oe.data = .fields vs)
    (hg : Gl X "isinstance") (hmg : X.mg "isinstance" = none) (hgB : Gl X nB) (hmB : X.mg nB = some (.ref B)) (hdB : (nB == ("__debug__" : Str)) = false) (hN : X.N[i]? = some en) (hv : Vis X.env.scope en) (hd : (en == ("__debug__" : Str)) = false) (hcd : (en == ("__classdict__" : Str)) = false)
    (h1 : starEach [.Name en p2, .Name nB p3] X.env = (false, eval (.Name en p2) X.env) :: starEach [.Name nB p3] X.env) (h2 : starEach [.Name nB p3] X.env = (false, eval (.Name nB p3) X.env) :: starEach [] X.env)
    (he : ∀ whole, isTrue (.Call (.Name "isinstance" p1) [.Name en p2, .Name nB p3] [] p4) X.env whole = (do let v ← whole; standAt (Expr.pos (.Call (.Name "isinstance" p1) [.Name en p2, .Name nB p3] [] p4)); holding [v] (truthy v)))
    (ha : PE (X.suite a ((a, oe) :: pn)) e (tSu G a cls d (some i) f)) (hc : PE (X.suite a ((a, oe) :: pn)) c (fun _ _ _ => False)) :
    PE (X.suite a ((a, oe) :: pn)) (.IfExp (.Call (.Name "isinstance" p1) [.Name en p2, .Name nB p3] [] p4) e c pos) (tSu G a cls d (some i) f) := by
  have P := pe_callB (X := X.suite a ((a, oe) :: pn)) (p := p1) (pos := p4) (call_isB (pn := pn) hT hB hz hf) hg hmg (by decide +kernel) (pa_cons (pe_var (X := X.suite a ((a, oe) :: pn)) (pos := p2) hN hv hd hcd) (pa_cons (pe_glob (X := X.suite a ((a, oe) :: pn)) (pos := p3) (v := .ref B) hgB hmB rfl hdB) pa_nil h2) h1) (by decide) (by decide) h1 (by rw [h2]; rfl)
  refine PE.imp (pe_ifExp (pt_truth P he) ha hc) fun σ H Q ⟨e, C, m, μ, y, ec, hC, q1, q2, M, xr, ex, k⟩ => ?_
  refine ⟨.ref a, q1 i rfl (q2 i rfl), rfl, ⟨_, C, ec, hC⟩, fun dd hdd => ?_, true, rfl, ?_⟩
  · rcases xr with xr | ⟨dx, vfs, h1, h2, h3, h4⟩
    · rw [xr.2] at hdd
      cases hdd
    · rw [h1] at hdd
      cases hdd
      exact ⟨vfs, h2⟩
  · show if true = true then _ else _
    rw [if_pos rfl]
    exact ⟨e, C, m, μ, y, ec, hC, q1, q2, M, xr, ex, k⟩
/-! ### clauses -/
/-- the name of a clause -/
inductive HNm (X : Cx) : Option Nat → Option Str → Prop
  | no : HNm X none none
  | nm {i : Nat} {n : Str} (hi : X.N[i]? = some n) (hln : X.env.kindOf n = some .local) : HNm X (some i) (some n)
/-- the clauses -/
inductive HKs (G : Glo) (X : Cx) : List ExceptHandler → List Hk → Prop
  | nil : HKs G X [] []
  | asg {x y : Str} {k j : Nat} {Ck : Addr} {nm : Option Nat} {nS : Option Str} {E : Expr} {f : Exc → Option D} {np py ps pos' : Pos} {hds : List ExceptHandler} {l : List Hk} (hc : Names X x (.ref Ck)) (hk : ∀ c C, G.xcl c = some C → PySem.W.exmOne X.K (.ref C) (.ref Ck) = some (exm c k)) (hn : HNm X nm nS)
      (hj : X.N[j]? = some y) (hy : Loc X.env.scope y) (hf : X.fn y = true ∨ X.env.scope.names.lookup y = some .local)
      (hE : ∀ (a : Addr) (oe : Obj) (cls : Value) (d : Option Addr) (pn : List (Addr × Obj)), Zc cls d oe → (∃ vs, oe.data = .fields vs) → PE (X.suite a ((a, oe) :: pn)) E (tSu G a cls d nm f))
      (hs : swapsWith E (some (.Name y py)) ps.line X.env = pure false) (r : HKs G X hds l) :
      HKs G X (.ExceptHandler (some (.Name x np)) nS [.Assign [.Name y py] E ps] pos' :: hds) (⟨k, nm, .inl (j, f)⟩ :: l)
  | ret {x : Str} {k : Nat} {Ck : Addr} {nm : Option Nat} {nS : Option Str} {E : Expr} {v : V} {z : D} {np ps pos' : Pos} {hds : List ExceptHandler} {l : List Hk} (hc : Names X x (.ref Ck)) (hk : ∀ c C, G.xcl c = some C → PySem.W.exmOne X.K (.ref C) (.ref Ck) = some (exm c k)) (hn : HNm X nm nS)
      (hE : ∀ Y : Cx, PE Y E (tC v)) (hz : ∀ O H, RV G O H v z) (r : HKs G X hds l) :
      HKs G X (.ExceptHandler (some (.Name x np)) nS [.Return (some E) ps] pos' :: hds) (⟨k, nm, .inr z⟩ :: l)
  | retN {x : Str} {k : Nat} {Ck : Addr} {nm : Option Nat} {nS : Option Str} {np ps pos' : Pos} {hds : List ExceptHandler} {l : List Hk} (hc : Names X x (.ref Ck)) (hk : ∀ c C, G.xcl c = some C → PySem.W.exmOne X.K (.ref C) (.ref Ck) = some (exm c k)) (hn : HNm X nm nS) (r : HKs G X hds l) :
      HKs G X (.ExceptHandler (some (.Name x np)) nS [.Return none ps] pos' :: hds) (⟨k, nm, .inr .non⟩ :: l)
theorem unset_gone {m : List (List Addr)} {σ : L2.St} {H : Hp} {ρ : Env} {μ : Mem} (S : Sim G m σ H ρ μ) (nm : Option Nat) : Sim G m (gone nm σ) H (unset ρ nm) μ := by
  cases nm with
  | none => exact S
  | some i => exact S.unset
theorem gone_held (nm : Option Nat) (a : Addr) (σ : L2.St) (j : Nat) (v : Option V) : gone nm ((held nm a σ).set j v) = gone nm (σ.set j v) := by
  cases nm with
  | none => rfl
  | some i =>
    show ((σ.set i _).set j v).set i none = (σ.set j v).set i none
    by_cases h : i = j
    · subst h
      simp [List.set_set]
    · rw [List.set_comm _ _ h, List.set_set]
theorem gone_held0 (nm : Option Nat) (a : Addr) (σ : L2.St) : gone nm (held nm a σ) = gone nm σ := by
  cases nm with
  | none => rfl
  | some i =>
    show (σ.set i _).set i none = σ.set i none
    rw [List.set_set]
theorem held_at {nm : Option Nat} {a : Addr} {σ : L2.St} : ∀ i, nm = some i → i < (held nm a σ).length → (held nm a σ)[i]? = some (some (.ref a)) := by
  intro i e hl
  subst e
  have : i < σ.length := by simpa [held] using hl
  simp [held, this]
theorem hks_ok (hK : X.K = G.K) (hN : X.N.Nodup) : ∀ {hds : List ExceptHandler} {l : List Hk}, HKs G X hds l → ∃ cs : List Cl, HdK X hds cs ∧ ∀ (De : Ends) (m : List (List Addr)) (σ : L2.St) (H : Hp) (e : Exc) (C : Addr) (d : Option Addr) (ρ : Env) (μ : Mem),
    σ.length = X.N.length → Sim G m σ H ρ μ → G.xcl e.cls = some C → XR G m.flatten H d e → xK G Wx De m H (handleK l e ρ μ) → wCl X.K Wx De cs (.ref C) d σ H := by
  intro hds l h
  induction h with
  | nil =>
    refine ⟨[], .nil, fun De m σ H e C d ρ μ hl S hC xr hx => ?_⟩
    obtain ⟨o, ρ', μ', eo, k⟩ := hx
    cases eo
    exact k m H σ S .refl C d hC xr
  | @asg x y k j Ck nm nS E f np py ps pos' hds l hc hk hn hj hy hf hE hs r ih =>
    obtain ⟨cs, h1, h2⟩ := ih
    have hlt : ∀ i, nm = some i → i < X.N.length := fun i e => by
      subst e
      cases hn with
      | nm hi _ => exact (List.getElem?_eq_some_iff.mp hi).1
    refine ⟨(nm, .ref Ck, fun a cls d => tAsg (tSu G a cls d nm f) (gName j)) :: cs, ?_, fun De m σ H e C d ρ μ hl S hC xr hx => ?_⟩
    · have P : ∀ (a : Addr) (oe : Obj) (cls : Value) (d : Option Addr) (pn : List (Addr × Obj)), Zc cls d oe → (∃ vs, oe.data = .fields vs) → PSs (X.suite a ((a, oe) :: pn)) [.Assign [.Name y py] E ps] (tAsg (tSu G a cls d nm f) (gName j)) :=
        fun a oe cls d pn hz hf' => pss_one (ps_set (X := X.suite a ((a, oe) :: pn)) hN hj hy (hE a oe cls d pn hz hf') hs hf)
      cases hn with
      | no => exact .no hc P h1
      | nm hi hln => exact .nm hc hN hi hln P h1
    · refine ⟨exm e.cls k, hk _ _ hC, fun hb a ha => ?_, fun hb => ?_⟩
      · unfold handleK at hx
        rw [if_pos hb] at hx
        dsimp only at hx
        split at hx
        · rename_i z ez
          split at hx
          · rename_i hj'
            obtain ⟨o, ρ', μ', eo, q⟩ := hx
            cases eo
            refine ⟨e, C, m, μ, z, rfl, hC, held_at, fun i ei => by
              have := hlt i ei
              subst ei
              simp only [held, List.length_set]
              omega, S.ms, xr, ez, fun v m' H' M L rv => ?_⟩
            show De.nx (gone nm ((held nm a σ).set j (some v))) H'
            rw [gone_held]
            have S1 := (S.lat L M).set (i := j) (v := v) (w := .d z) trivial rv
            exact q m' H' _ (unset_gone S1 nm) (L.weak fun z => nomatch z)
          · exact hx.none_.elim
        · exact hx.none_.elim
      · unfold handleK at hx
        rw [if_neg (by rw [hb]; exact Bool.false_ne_true)] at hx
        exact h2 De m σ H e C d ρ μ hl S hC xr hx
  | @ret x k Ck nm nS E v z np ps pos' hds l hc hk hn hE hz r ih =>
    obtain ⟨cs, h1, h2⟩ := ih
    refine ⟨(nm, .ref Ck, fun a cls d => tRet (tC v)) :: cs, ?_, fun De m σ H e C d ρ μ hl S hC xr hx => ?_⟩
    · have P : ∀ (a : Addr) (oe : Obj) (cls : Value) (d : Option Addr) (pn : List (Addr × Obj)), Zc cls d oe → (∃ vs, oe.data = .fields vs) → PSs (X.suite a ((a, oe) :: pn)) [.Return (some E) ps] (tRet (tC v)) :=
        fun a oe cls d pn hz hf' => pss_one (ps_ret (hE _))
      cases hn with
      | no => exact .no hc P h1
      | nm hi hln => exact .nm hc hN hi hln P h1
    · refine ⟨exm e.cls k, hk _ _ hC, fun hb a ha => ?_, fun hb => ?_⟩
      · unfold handleK at hx
        rw [if_pos hb] at hx
        obtain ⟨o, ρ', μ', eo, q⟩ := hx
        cases eo
        exact q m H _ (unset_gone S nm) .refl v (hz _ _)
      · unfold handleK at hx
        rw [if_neg (by rw [hb]; exact Bool.false_ne_true)] at hx
        exact h2 De m σ H e C d ρ μ hl S hC xr hx
  | @retN x k Ck nm nS np ps pos' hds l hc hk hn r ih =>
    obtain ⟨cs, h1, h2⟩ := ih
    refine ⟨(nm, .ref Ck, fun a cls d => tRetN) :: cs, ?_, fun De m σ H e C d ρ μ hl S hC xr hx => ?_⟩
    · have P : ∀ (a : Addr) (oe : Obj) (cls : Value) (d : Option Addr) (pn : List (Addr × Obj)), Zc cls d oe → (∃ vs, oe.data = .fields vs) → PSs (X.suite a ((a, oe) :: pn)) [.Return none ps] tRetN :=
        fun a oe cls d pn hz hf' => pss_one ps_retN
      cases hn with
      | no => exact .no hc P h1
      | nm hi hln => exact .nm hc hN hi hln P h1
    · refine ⟨exm e.cls k, hk _ _ hC, fun hb a ha => ?_, fun hb => ?_⟩
      · unfold handleK at hx
        rw [if_pos hb] at hx
        obtain ⟨o, ρ', μ', eo, q⟩ := hx
        cases eo
        exact q m H _ (unset_gone S nm) .refl .non .non
      · unfold handleK at hx
        rw [if_neg (by rw [hb]; exact Bool.false_ne_true)] at hx
        exact h2 De m σ H e C d ρ μ hl S hC xr hx
/-- try: .. except ..: .. -/
theorem x_try {body : List Stmt} {h₀ : ExceptHandler} {hds : List ExceptHandler} {l : List Hk} {fb : Env → Mem → XA} {n : Nat} (hn : X.N.length = n) (hK : X.K = G.K) (hN : X.N.Nodup) (hs : X.stack = X.env :: X.outer) (hf : X.env.frame = some X.env.locals) (tk : Takes X Wx)
    (hb : ∀ (W : WX) (pn : List (Addr × Obj)) (xe : Value → Shared → Prop), Takes (X.tr pn xe) W → PassesOwn (model X.prog X.w) X.A X.env xe → PSs (X.tr pn xe) body (tX G W fb)) (hh : HKs G X (h₀ :: hds) l) :
    PS X (.Try body (h₀ :: hds) [] [] pos) (tX G Wx fun ρ μ => tryK n l (fb ρ μ)) := by
  obtain ⟨cs, h1, h2⟩ := hks_ok (Wx := Wx) hK hN hh
  refine PS.imp (ps_tryK (l := cs) hs hf tk (tb := fun W => tX G W fb) hb h1) fun De σ H ⟨m, ρ, μ, S, h⟩ => ⟨m, ρ, μ, S, ?_⟩
  dsimp only at h
  cases hr : fb ρ μ with
  | none => rw [hr] at h; exact h.none_.elim
  | some r =>
    obtain ⟨o1, ρ1, μ1⟩ := r
    refine ⟨o1, ρ1, μ1, rfl, fun m1 H1 σ1 S1 L1 => ?_⟩
    rw [hr] at h
    cases o1 with
    | ex e =>
      intro C d hC xr
      have h' : xK G Wx De m H (if ρ1.length = n then handleK l e ρ1 μ1 else none) := h
      split at h'
      · rename_i hl
        exact h2 De m1 σ1 H1 e C d ρ1 μ1 (by rw [S1.len, hl, hn]) S1 hC xr (h'.from L1)
      · exact h'.none_.elim
    | nx => obtain ⟨o, ρ', μ', eo, q⟩ := h; cases eo; exact q m1 H1 σ1 S1 L1
    | bk => obtain ⟨o, ρ', μ', eo, q⟩ := h; cases eo; exact q m1 H1 σ1 S1 L1
    | ct => obtain ⟨o, ρ', μ', eo, q⟩ := h; cases eo; exact q m1 H1 σ1 S1 L1
    | rt w => obtain ⟨o, ρ', μ', eo, q⟩ := h; cases eo; exact q m1 H1 σ1 S1 L1
end
end Mp
set_option Elab.async false
set_option linter.all false
set_option maxRecDepth 100000
set_option maxHeartbeats 1000000
/-! Mp: == of instances by their own __eq__, of dicts of flat values. -/
namespace Mp
open PySem PySem.Spec PyProof.Rows L2
section
variable {G : Glo} {X : Cx} {Wx : WX} {st sa sb : Bool} {fa fb : Env → Mem → Ans W} {a b : Expr} {cf : Nat → List W → Mem → Ans W} {k f : Nat} {fad Ca : Addr} {fd : FuncData} {ps : List Str} {pos : Pos} {c : Nat}
/-- by values -/
def rEqI (G : Glo) (cf : Nat → List W → Mem → Ans W) (f c : Nat) : R2 := fun x y H Q => ∃ m μ w1 w2 k μ', MS G m H μ ∧ RW G m H x w1 ∧ RW G m H y w2 ∧ npt w1 ∧ npt w2 ∧ eqIK cf f c w1 w2 μ = some (.ok (.d (.bl k)), μ') ∧ ∀ m' H', MS G m' H' μ' → Lat false m H m' H' → Q (.bl k) H'
theorem op_eqI (hK : X.K = G.K) (F : FnOk X.prog X.w X.K X.mg X.base (L2.CX X.prog X.w) k fad fd ps (spF G cf 2 f)) (hr : Room k X.A) (hc : G.cls c = some Ca) (hs : PySem.W.findIn X.K (.ref Ca) "__eq__" = some (some (.ref fad))) (hf : PySem.W.isFn X.K (.ref fad) = true) (hb : Binds X.K fd ps [])
    (hI : ∀ c C, G.cls c = some C → Isi G C) (hNF : ∀ n ∈ ["NoneType", "bool", "int", "str", "tuple", "list", "dict"], PySem.W.notFirst X.K Ca (.type n) = true) (hNC : ∀ c' C', G.cls c' = some C' → PySem.W.notFirst X.K Ca (.ref C') = true) : OpR X (compareOp .Eq) (rEqI G cf f c) := by
  intro pins s σ H x y v u Q I rx ry ⟨m, μ, w1, w2, kk, μ', M, r1, r2, n1, n2, e, q⟩
  unfold eqIK at e
  split at e
  · rename_i hcond
    obtain ⟨hcl, hty⟩ := hcond
    obtain ⟨p, C, dx, vfs, ex, e2, e3, fl, e4⟩ := cls_of M r1 hcl
    rw [hc] at e2
    cases e2
    subst ex
    cases rx
    have h0 : ∃ t b, isTy μ w2 t = some b := by
      cases q1 : isTy μ w2 .int with
      | some b => exact ⟨_, b, q1⟩
      | none =>
        cases q2 : isTy μ w2 (.cls c) with
        | some b => exact ⟨_, b, q2⟩
        | none => rw [q1, q2] at hty; cases hty
    obtain ⟨tv, ⟨ty, hkt⟩, htv⟩ := ty_of2 hI M r2 h0
    have ty' : TyX X.K H y tv := hK ▸ ty
    obtain ⟨P, KX, hP, _⟩ := kit_of I ry ty'
    have hnf : PySem.W.notFirst X.K Ca tv = true := by
      rcases htv with ⟨n, hn, rfl⟩ | ⟨c', C', h1, rfl⟩
      · exact hNF n hn
      · exact hNC c' C' h1
    obtain ⟨mA, J, _⟩ := ins_get I.hok e3
    obtain ⟨od, J, _⟩ := J.look
    obtain ⟨mm, hF⟩ := I.fr
    show wpAny (model X.prog X.w) X.A (richCompare .Eq (.ref p) u) (EP X pins σ Q) X.xe s
    refine PySem.W.cmp_K (op := .Eq) (tb := tv) hr.units0 hF I.ok.mod.kin J (KX.ty _ _ I.kIn hP) hnf hs hf ?_
    split at e
    · rename_i k2 μ2 ec
      cases e
      have hsp : spF G cf 2 f [.ref p, y] H (fun v H' => v = .bl kk ∧ Q (.bl kk) H') E0 := ⟨rfl, m, μ, [w1, w2], M, .cons ⟨n1, r1⟩ (.cons ⟨n2, r2⟩ .nil), _, _, ec, fun v' m' H' M' L' r' => by
        obtain rfl := RV.bl_ r'
        exact ⟨rfl, q m' H' M' L'⟩⟩
      have hl := F.len _ _ _ _ hsp
      refine wpAny_call (codeAny_mono (F.run X.A X.stack s H ⟨[.ref p, u], []⟩ [.ref p, u] [.ref p, y] _ E0 hr I.env0 (by
        have := hb s [.ref p, u] I.kIn (by simpa using hl)
        simpa using this) (.cons rfl (.cons ry .nil)) hsp) fun r s' hq => ?_)
      cases r with
      | error e => exact (passL (X := X)) pins σ H s e s' I hq
      | ok fl =>
        cases fl with
        | ret w =>
          obtain ⟨z, H', I', rz, ez, qz⟩ := I.after hq
          subst ez
          cases rz
          exact ⟨.bl kk, H', I', rfl, qz⟩
        | next => exact False.elim hq
        | brk => exact False.elim hq
        | cont => exact False.elim hq
    · cases e
  · cases e
theorem eqI_red {σ : L2.St} {H : Hp} {Q : VK} {m : List (List Addr)} {ρ : Env} {μ : Mem} (S : Sim G m σ H ρ μ) (h : tK G Wx (RW G) false (bndg false (fa ρ μ) fun x μ => bndg false (fb ρ μ) fun y μ => eqIK cf f c x y μ) σ m H Q) :
    tOp (rEqI G cf f c) (tE G Wx sa fa) (tE G Wx sb fb) σ H Q := by
  refine ⟨m, ρ, μ, S, h.bndg (st2 := false) (fun z => nomatch z) (fun z => nomatch z) fun x m1 H1 w1 μ1 M1 L1 n1 r1 h1 => ?_⟩
  refine ⟨m1, ρ, μ1, S.lat L1 M1, h1.bndg (st2 := false) (fun z => nomatch z) id fun y m2 H2 w2 μ2 M2 L2 n2 r2 h2 => ?_⟩
  have n1' := n1.resolve_right fun z => nomatch z
  have n2' := n2.resolve_right fun z => nomatch z
  obtain ⟨z, μ3, e, q⟩ := h2
  have e' := e
  unfold eqIK at e'
  split at e'
  · split at e'
    · rename_i k3 μ4 ec
      cases e'
      exact ⟨m2, μ2, w1, w2, k3, _, M2, r1.later L2 (.inl n1'), r2, n1', n2', e, fun m' H' M' L' => q (.bl k3) m' H' M' L' (.bl _)⟩
    · cases e'
  · cases e'
theorem n_eqI (hK : X.K = G.K) (F : FnOk X.prog X.w X.K X.mg X.base (L2.CX X.prog X.w) k fad fd ps (spF G cf 2 f)) (hr : Room k X.A) (hc : G.cls c = some Ca) (hs : PySem.W.findIn X.K (.ref Ca) "__eq__" = some (some (.ref fad))) (hf : PySem.W.isFn X.K (.ref fad) = true) (hb : Binds X.K fd ps [])
    (hI : ∀ c C, G.cls c = some C → Isi G C) (hNF : ∀ n ∈ ["NoneType", "bool", "int", "str", "tuple", "list", "dict"], PySem.W.notFirst X.K Ca (.type n) = true) (hNC : ∀ c' C', G.cls c' = some C' → PySem.W.notFirst X.K Ca (.ref C') = true)
    (ha : PE X a (tE G Wx sa fa)) (hb' : PE X b (tE G Wx sb fb)) (hm : behindInMarks .Eq b = false) :
    PE X (.Compare a [.Eq] [b] pos) (tE G Wx false fun ρ μ => bndg false (fa ρ μ) fun x μ => bndg false (fb ρ μ) fun y μ => eqIK cf f c x y μ) :=
  PE.imp (pe_cmpR (op_eqI hK F hr hc hs hf hb hI hNF hNC) ha hb' hm) fun σ H Q ⟨m, ρ, μ, S, h⟩ => eqI_red S h
theorem n_eqIT (hK : X.K = G.K) (F : FnOk X.prog X.w X.K X.mg X.base (L2.CX X.prog X.w) k fad fd ps (spF G cf 2 f)) (hr : Room k X.A) (hc : G.cls c = some Ca) (hs : PySem.W.findIn X.K (.ref Ca) "__eq__" = some (some (.ref fad))) (hf : PySem.W.isFn X.K (.ref fad) = true) (hb : Binds X.K fd ps [])
    (hI : ∀ c C, G.cls c = some C → Isi G C) (hNF : ∀ n ∈ ["NoneType", "bool", "int", "str", "tuple", "list", "dict"], PySem.W.notFirst X.K Ca (.type n) = true) (hNC : ∀ c' C', G.cls c' = some C' → PySem.W.notFirst X.K Ca (.ref C') = true)
    (ha : PE X a (tE G Wx sa fa)) (hb' : PE X b (tE G Wx sb fb)) (hm : behindInMarks .Eq b = false) :
    PT X (.Compare a [.Eq] [b] pos) (tT G Wx false fun ρ μ => bndg false (fa ρ μ) fun x μ => bndg false (fb ρ μ) fun y μ => eqIK cf f c x y μ) := by
  refine PT.imp (pt_cmpR (op_eqI hK F hr hc hs hf hb hI hNF hNC) ha hb' hm) fun σ H Q ⟨m, ρ, μ, S, h⟩ => ?_
  refine eqI_red (Q := fun x H' => ∃ k, x = .bl k ∧ Q k H') S ?_
  obtain ⟨w, μ', e, q⟩ := h
  refine ⟨w, μ', e, ?_⟩
  cases w with
  | exc e => exact q
  | ok w =>
    intro v m' H' M' L' r'
    have : ∃ k, w = .d (.bl k) := by
      refine bndg_bl (fun a μ w μ' e => ?_) w μ' e
      refine bndg_bl (fun b μ w μ' e => ?_) w μ' e
      unfold eqIK at e
      split at e
      · split at e
        · cases e; exact ⟨_, rfl⟩
        · cases e
      · cases e
    obtain ⟨kk, rfl⟩ := this
    obtain rfl := RV.bl_ r'
    exact ⟨kk, rfl, q kk m' H' M' L' rfl⟩
/-! ### dicts of flat values -/
theorem hits_flat {O : List Addr} {H : Hp} {P : Program} {w : World} {A : Around} {s : Shared} {vb : List (Key × V)} {ub : List (Key × Value)} {kb : List (D × D)} (cb : Kys (vb.map (·.1)) (kb.map (·.1))) (rb : RVs G O H (vb.map (·.2)) (kb.map (·.2))) (kvb : KV vb ub) (fb : flK kb = true) :
    ∀ {va : List (Key × V)} {ua : List (Key × Value)} {ka : List (D × D)}, Kys (va.map (·.1)) (ka.map (·.1)) → RVs G O H (va.map (·.2)) (ka.map (·.2)) → KV va ua → flK ka = true → PySem.W.KeqHitsP P w A s ub ua (eqK ka kb)
  | [], _, [], _, _, .nil, _ => .nil
  | [], _, _ :: _, c, _, _, _ => by unfold Kys at c; simp at c
  | _ :: _, _, [], c, _, _, _ => by unfold Kys at c; simp at c
  | (k, v) :: va, _, (kd, d) :: ka, c, r, .cons (b := (k', u)) ⟨h1, h2⟩ t, f => by
    unfold Kys at c
    simp only [List.map_cons, List.cons.injEq] at c
    simp only [List.map_cons] at r
    cases r with
    | cons r1 r2 =>
      unfold flK at f
      simp only [Bool.and_eq_true] at f
      have ih := hits_flat (s := s) (A := A) (P := P) (w := w) cb rb kvb fb c.2 r2 t f.2.2
      have h1' : k = k' := h1
      subst h1'
      have g := dget_of c.1 cb rb
      have rr := kvb.val k
      unfold eqK
      cases e1 : dget kb kd with
      | none =>
        rw [e1] at g
        cases e2 : valV vb k with
        | some z => rw [e2] at g; exact g.elim
        | none =>
          rw [e2] at rr
          have : valueAt ub k = none := by
            cases e3 : valueAt ub k with
            | none => rfl
            | some z => rw [e3] at rr; exact rr.elim
          exact .miss this
      | some y =>
        rw [e1] at g
        cases e2 : valV vb k with
        | none => rw [e2] at g; exact g.elim
        | some z =>
          rw [e2] at g rr
          obtain ⟨q, hq, rq⟩ := rr.some_of
          have fy : fl 0 y = true := by
            have : ∀ {l : List (D × D)}, flK l = true → dget l kd = some y → fl 0 y = true := by
              intro l
              induction l with
              | nil => intro _ e; cases e
              | cons p l ih =>
                intro hf e
                obtain ⟨pk, pv⟩ := p
                unfold flK at hf
                simp only [Bool.and_eq_true] at hf
                unfold dget at e
                rw [List.find?_cons] at e
                split at e
                · cases e; exact hf.2.1
                · exact ih hf.2.2 e
            exact this fb e1
          have E := eqAt_V (A := A) (s := s) h2 rq (flat_of r1 f.2.1) (flat_of g fy)
          rw [eqV_of r1 g f.2.1 fy] at E
          exact .hit hq E.eqP ih
def rEqD2 (G : Glo) : R2 := fun x y H Q => ∃ m μ w1 w2 k, MS G m H μ ∧ RW G m H x w1 ∧ RW G m H y w2 ∧ eqDK w1 w2 μ = some (.ok (.d (.bl k)), μ) ∧ Q (.bl k) H
theorem op_eqD2 (hu : X.A.units + 1 < cLine) : OpR X (compareOp .Eq) (rEqD2 G) := by
  intro pins s σ H x y v u Q I rx ry ⟨m, μ, w1, w2, kk, M, r1, r2, e, q⟩
  unfold eqDK at e
  split at e
  · rename_i ka kb
    split at e
    · rename_i hf
      simp only [Bool.and_eq_true, Bool.not_eq_true'] at hf
      obtain ⟨a1, va, rfl, ha, ca, qa⟩ := RV.dicF r1 hf.1.2
      obtain ⟨b1, vb, rfl, hb, cb, qb⟩ := RV.dicF r2 hf.2
      cases rx
      cases ry
      obtain ⟨za, ya, ua, kva, da⟩ := ha.ok I.hok
      obtain ⟨zb, yb, ub, kvb, db⟩ := hb.ok I.hok
      cases e
      have hl1 : ua.length = ka.length := by rw [← kva.length, kys_len ca]
      have hl2 : ub.length = kb.length := by rw [← kvb.length, kys_len cb]
      show wpAny (model X.prog X.w) X.A (richCompare .Eq (.ref a1) (.ref b1)) (EP X pins σ Q) X.xe s
      refine PySem.W.rcP_dicts (knd := mixKind X.prog X.w) (r := eqK ka kb) ya yb da db (by omega) (fun _ => hits_flat cb qb kvb hf.1.1.2 ca qa kva hf.1.1.1) _ _ ?_
      rw [hl1, hl2]
      exact ⟨.bl _, H, I, rfl, q⟩
    · cases e
  · cases e
theorem n_eqD (hu : X.A.units + 1 < cLine) (ha : PE X a (tE G Wx sa fa)) (hb' : PE X b (tE G Wx sb fb)) (hm : behindInMarks .Eq b = false) :
    PE X (.Compare a [.Eq] [b] pos) (tE G Wx (sa && sb) fun ρ μ => bndg false (fa ρ μ) fun x μ => bnd (fb ρ μ) fun y μ => eqDK x y μ) := by
  refine PE.imp (pe_cmpR (op_eqD2 (G := G) hu) ha hb' hm) fun σ H Q ⟨m, ρ, μ, S, h⟩ => ?_
  refine ⟨m, ρ, μ, S, h.bndg (st2 := sb) and_l and_r fun x m1 H1 w1 μ1 M1 L1 n1 r1 h1 => ?_⟩
  refine ⟨m1, ρ, μ1, S.lat L1 M1, h1.bnd (st2 := true) id (fun _ => rfl) fun y m2 H2 w2 μ2 M2 L2 r2 h2 => ?_⟩
  have e : ∃ k, eqDK w1 w2 μ2 = some (.ok (.d (.bl k)), μ2) := by
    obtain ⟨z, μ3, e, _⟩ := h2
    have e' := e
    unfold eqDK at e'
    split at e'
    · split at e'
      · cases e'; exact ⟨_, e⟩
      · cases e'
    · cases e'
  obtain ⟨k, e⟩ := e
  rw [e] at h2
  exact ⟨m2, μ2, w1, w2, k, M2, r1.later L2 (.inl (n1.resolve_right fun z => nomatch z)), r2, e, tK.now (w := W.d (D.bl k)) h2 M2 (.bl k)⟩
end
end Mp
set_option Elab.async false
set_option linter.all false
set_option maxRecDepth 100000
set_option maxHeartbeats 2000000
/-! Mp: {**d, k: v}. -/
namespace PySem
open Sem (wp)
namespace MpU
section
variable {prog : Program} {w : World} {K : Type} [DecidableEq K] {knd : KeyKind prog w K} {A : Around} {E : Value → Shared → Prop} {s : Shared}
theorem put_ok {d : Addr} {kvs : List (K × Value)} {k : K} {key v : Value} {Q : Unit → Shared → Prop} (hkey : knd.is k key = true) (hm : s.heap.DictOf knd d kvs)
    (hQ : ∀ h', h'.DictOf knd d (stored kvs k v) → Heap.SameBut d s.heap h' → Q () { s with heap := h' }) (hsz : kvs.length ≤ sizeLine) :
    wpAny (model prog w) A (dictPut d (knd.hash k) key v) Q E s := by
  obtain ⟨o, es, ep, ho, hc, hd, hk, hp, hn⟩ := hm
  have hes : es.size ≤ sizeLine := by have e1 := hp.length; have e2 : es.toList.length = es.size := by simp
                                      omega
  unfold dictPut
  refine wpAny_bind (wpAny_dictFind_of hkey ho hd hk ?_)
  have hidx : (es.findIdx? fun e => knd.is k e.key) = kvs.findIdx? fun kv => decide (kv.1 = k) := by
    rw [← hp.findIdx k]; obtain ⟨l⟩ := es; simp
  cases hi : es.findIdx? fun e => knd.is k e.key with
  | some i =>
    refine wpAny_updateDict ho hd (hQ _ ⟨_, _, ep, Heap.get?_update_self _ ho (Obj.isFreed_of_dict (Obj.data_mapDict hd _)), hc.mapDict _, Obj.data_mapDict hd _, hk.modify _ _, ?_, ?_⟩ (Heap.SameBut.update ..))
    · rw [stored, if_pos (any_of_findIdx_some (hidx ▸ hi))]
      have hl : (es.toList.findIdx? fun e => knd.is k e.key) = some i := by rw [← hi]; obtain ⟨l⟩ := es; simp
      have := hp.modify hn hl v
      obtain ⟨l⟩ := es
      simpa using this
    · rw [stored, if_pos (any_of_findIdx_some (hidx ▸ hi)), keys_map_store]; exact hn
  | none =>
    have hnot : k ∉ kvs.map (·.1) := not_mem_of_findIdx_none (hidx ▸ hi)
    have hany : ¬ (kvs.any fun kv => decide (kv.1 = k)) = true := by
      rw [List.any_eq_true]; rintro ⟨kv, hkv, he⟩
      exact hnot (List.mem_map.mpr ⟨kv, hkv, of_decide_eq_true he⟩)
    refine wpAny_updateDictKeys (hz := hes) ho hd (hQ _ ⟨_, _, ep + 1, Heap.get?_update_self _ ho (Obj.isFreed_of_dict (Obj.data_mapDictKeys hd _)), hc.mapDictKeys _, Obj.data_mapDictKeys hd _, hk.push hkey _, ?_, ?_⟩ (Heap.SameBut.update ..))
    · rw [stored, if_neg hany]
      have := hp.append hkey (knd.hash k) v
      obtain ⟨l⟩ := es
      simpa using this
    · rw [stored, if_neg hany, List.map_append, List.nodup_append]
      refine ⟨hn, by simp, ?_⟩
      intro a ha b hb
      simp only [List.map_cons, List.map_nil, List.mem_singleton] at hb
      subst hb
      exact fun e => hnot (e ▸ ha)
end
section
variable {prog : Program} {w : World} {A : Around} {E : Value → Shared → Prop} {s : Shared}
open L2
theorem pairs_at {w : World} {prog : Program} : ∀ {es : List DictEntry} {kvs : List (Key × Value)}, Pairs (mixKind prog w) es kvs → ∀ {i : Nat} {en : DictEntry}, es[i]? = some en → ∃ kv, kvs[i]? = some kv ∧ keyIs kv.1 en.key = true ∧ en.val = kv.2
  | _, _, .nil, i, en, e => by simp at e
  | _, _, .cons (kv := kv) h1 h2 t, 0, en, e => by
    simp at e
    subst e
    exact ⟨kv, rfl, h1, h2⟩
  | _, _, .cons h1 h2 t, i + 1, en, e => by
    obtain ⟨kv, q⟩ := pairs_at t (i := i) (by simpa using e)
    exact ⟨kv, by simpa using q.1, q.2⟩
/-- the pairs of the dict at a into the empty dict at d -/
theorem merge_ok {d a : Addr} {acc kvs : List (Key × Value)} {Q : Unit → Shared → Prop} (had : a ≠ d) (hs : (a == sysModules) = false) (hm : s.heap.DictOf (mixKind prog w) a kvs) (hd : s.heap.DictOf (mixKind prog w) d acc) (hl : acc.length + kvs.length ≤ sizeLine)
    (hQ : ∀ h', h'.DictOf (mixKind prog w) d (merged acc kvs) → Heap.SameBut d s.heap h' → Q () { s with heap := h' }) : wpAny (model prog w) A (mergeMapping d (.ref a) false) Q E s := by
  obtain ⟨o, es, ep, ho, hc, hdt, hk, hp, hn⟩ := id hm
  obtain ⟨o2, es2, ep2, ho2, hc2, hd2, hk2, hp2, hn2⟩ := id hd
  have hlen := hp.length
  rw [Array.length_toList] at hlen
  have hT : s.TypeIs (.ref a) "dict" := ⟨o, ho, hc.1⟩
  have row : ∀ (es' : Array DictEntry) (s : Shared) (acc : List (Key × Value)) (Q : PUnit → Shared → Prop), s.heap.get? a = some o → s.heap.DictOf (mixKind prog w) d acc → acc.length + kvs.length ≤ sizeLine →
      (∀ h', h'.DictOf (mixKind prog w) d (merged acc kvs) → Heap.SameBut d s.heap h' → Q ⟨⟩ { s with heap := h' }) → wpAny (model prog w) A (forIn (List.range es.size) PUnit.unit fun (i : Nat) (__s : PUnit) => do
        let __do_lift ← dictEntries a
        match __do_lift[i]? with
          | some e => do
            holding [e.key, e.val] (dictPut d e.hash e.key e.val)
            let __do_lift ← dictEpoch a
            if (__do_lift != ep) = true then do
                unsupported "dict.changed-during-merge"
                pure (ForInStep.yield PUnit.unit)
              else pure (ForInStep.yield PUnit.unit)
          | x => do
            unsupported "dict.changed-during-merge"
            pure (ForInStep.yield PUnit.unit)) Q E s := by
    intro es' s acc Q ha hm hl hQ
    refine wpAny_forIn_list _ (fun rest _ s' => ∃ i, rest = (List.range es.size).drop i ∧ i ≤ es.size ∧ s'.heap.DictOf (mixKind prog w) d (merged acc (kvs.take i)) ∧ Heap.SameBut d s.heap s'.heap ∧ s' = { s with heap := s'.heap }) Q (fun x rest b s' ⟨i, hr, hi, hd', hb, hs'⟩ => ?_) (fun b s' ⟨i, hr, hi, hd', hb, hs'⟩ => ?_) _ _ ⟨0, rfl, Nat.zero_le _, hm, Heap.SameBut.refl _ _, rfl⟩
    · have hlt : i < es.size := by
        by_cases h : i < es.size
        · exact h
        · rw [List.drop_eq_nil_of_le (by simp; omega)] at hr
          cases hr
      rw [List.drop_eq_getElem_cons (by simpa using hlt)] at hr
      simp only [List.cons.injEq, List.getElem_range] at hr
      obtain ⟨rfl, hr⟩ := hr
      have ha' : s'.heap.get? a = some o := hb.extBut _ _ had ha
      refine wpAny_bind (wpAny_dictEntries ha' hdt ?_)
      rw [Array.getElem?_eq_getElem hlt]
      dsimp only
      obtain ⟨kv, e1, e2, e3⟩ := pairs_at hp (i := x) (en := es[x]) (by simp [hlt])
      obtain ⟨k', e4, e5⟩ := hk es[x] (Array.getElem_mem hlt)
      have ek : k' = kv.1 := (mixKind prog w).inj _ _ _ e4 e2
      subst ek
      rw [e5]
      refine wpAny_bind (wpAny_holding (put_ok (knd := mixKind prog w) e2 hd' (fun h2 d2 b2 => ?_) ?_))
      · refine wpAny_bind (wpAny_dictEpoch (b2.extBut _ _ had ha') hdt ?_)
        rw [if_neg (by simp)]
        refine wpAny_pure ⟨x + 1, hr, hlt, ?_, ?_, ?_⟩
        · rw [merged_take_succ acc kvs x kv e1, ← e3]
          exact d2
        · exact ⟨b2.1.trans hb.1, fun c hc => (b2.2 c hc).trans (hb.2 c hc)⟩
        · rw [hs']
      · have := merged_length_le acc (kvs.take x)
        rw [List.length_take] at this
        omega
    · have : es.size ≤ i := by
        have := congrArg List.length hr
        simp at this
        omega
      rw [List.take_of_length_le (by omega)] at hd'
      rw [hs']
      exact hQ _ hd' hb
  unfold mergeMapping
  refine wpAny_bind (wpAny_isInstance (T := "dict") (b := true) hT PySem.F.sub_dict_dict ?_)
  rw [if_pos rfl]
  refine wpAny_bind (wpAny_specialOf hT PySem.F.slot_dict_iter.lookup ?_)
  refine wpAny_bind (wpAny_pure ?_)
  rw [show ((some (Value.builtin "dict.__iter__") : Option Value) == some (.builtin "dict.__iter__")) = true by decide]
  dsimp only
  rw [if_neg (show ¬ (a == sysModules) = true by rw [hs]; exact Bool.false_ne_true)]
  refine wpAny_bind (wpAny_dictEntries ho2 hd2 ?_)
  have fin : wpAny (model prog w) A (do
      let __do_lift ← dictEntries a
      let epoch ← dictEpoch a
      let _ ← forIn (List.range __do_lift.size) PUnit.unit fun (i : Nat) (__s : PUnit) => do
        let __do_lift ← dictEntries a
        match __do_lift[i]? with
          | some e => do
            holding [e.key, e.val] (dictPut d e.hash e.key e.val)
            let __do_lift ← dictEpoch a
            if (__do_lift != epoch) = true then do
                unsupported "dict.changed-during-merge"
                pure (ForInStep.yield PUnit.unit)
              else pure (ForInStep.yield PUnit.unit)
          | x => do
            unsupported "dict.changed-during-merge"
            pure (ForInStep.yield PUnit.unit)
      pure ()) Q E s := by
    refine wpAny_bind (wpAny_dictEntries ho hdt (wpAny_bind (wpAny_dictEpoch ho hdt (wpAny_bind (row es s acc _ ho hd hl fun h' d' b' => ?_)))))
    exact wpAny_pure (hQ h' d' b')
  split
  · refine wpAny_bind (wpAny_dictEntries ho hdt ?_)
    refine wpAny_bind (wpAny_forIn_array' _ (fun rest _ s' => (∀ e ∈ rest, e ∈ es) ∧ s' = s) _ (fun x rest b s' ⟨hr, hs'⟩ => ?_) (fun b s' ⟨hr, hs'⟩ => ?_) _ _ ⟨fun e he => by simpa using he, rfl⟩)
    · obtain ⟨k', e4, e5⟩ := hk x (hr x List.mem_cons_self)
      subst hs'
      rcases keyIs_shape e4 with ⟨i, t, _, ek⟩ | ⟨y, t, _, ek⟩
      · rw [ek]
        exact wpAny_pure ⟨fun e he => hr e (List.mem_cons_of_mem _ he), rfl⟩
      · rw [ek]
        exact wpAny_pure ⟨fun e he => hr e (List.mem_cons_of_mem _ he), rfl⟩
    · subst hs'
      exact fin
  · exact fin
end
end MpU
end PySem
set_option Elab.async false
set_option linter.all false
set_option maxRecDepth 100000
set_option maxHeartbeats 2000000
/-! Mp: {**d, k: v}, the rule. -/
namespace L2
open PySem PySem.Spec PyProof.Rows
section
variable {X : Cx} {ea ek ev : Expr} {ta tk tv : TE} {pos : Pos}
def tDup (ta tk tv : TE) : TE := fun σ H Q => ∀ p, H p = none → ta σ (upd H p (.dK [])) fun x H1 => ∃ a vks, x = .ref a ∧ Rd H1 a (.dK vks) ∧ a ≠ p ∧ H1 p = some (.dK []) ∧ vks.length ≤ 1000 ∧
  ∀ q, H1 q = none → q ≠ p → tk σ (upd (upd H1 p (.dK vks)) q (.dK [])) fun y H2 => tv σ H2 fun z H3 => ∃ k, y = kV k ∧ H3 p = some (.dK vks) ∧ H3 q = some (.dK []) ∧ Q (.ref p) (upd (upd H3 q (.dK [(k, z)])) p (.dK (putK vks k z)))
theorem pe_dupd (ha : PE X ea ta) (hk : PE X ek tk) (hv : PE X ev tv) : PE X (.Dict [none, some ek] [ea, ev] pos) (tDup ta tk tv) := by
  refine ⟨fun pins s σ H Q I q => ?_⟩
  rw [arm_eval_Dict]
  refine wpAny_bind (wpAny_standAt ?_)
  have hn := I.hok.fresh (Nat.le_refl s.heap.objs.size)
  have I1 := I.laid (a := s.heap.objs.size) (o := .dK []) (h' := s.heap.push { cls := .type "dict", data := .dict #[] }) (t' := s.toks) (fun _ _ q => Heap.get?_push_of_some _ q) (Nat.le_refl _) (dk_empty s.heap I.big)
  show wpAny _ _ (dictDisplay [(none, do let x ← eval ea X.env; standAt pos; pure x), (some (eval ek X.env), do let x ← eval ev X.env; standAt pos; pure x)]) _ _ _
  unfold dictDisplay
  simp only [List.forIn_cons, List.forIn_nil]
  refine wpAny_bind (wpAny_bind (wpAny_bind ?_))
  rw [if_pos (show ([] : List (Sem Value × Sem Value)).isEmpty = true from rfl)]
  refine wpAny_pure ?_
  dsimp only
  refine wpAny_bind (wpAny_alloc ?_)
  refine wpAny_bind (wpAny_holding (wpAny_bind (thn (ha.run pins _ σ _ _ I1 (q _ hn)) fun u s1 ⟨x, H1, J1, r1, a, vks, ex, hr, hap, hp1, hl, k1⟩ => wpAny_bind (wpAny_standAt (wpAny_pure ?_)))))
  subst ex
  obtain rfl : u = Value.ref a := r1
  obtain ⟨za, ya, ua, kva, da⟩ := dk_rd J1.hok hr
  obtain ⟨zp, yp, up, kvp, dp⟩ := dk_of J1.hok hp1
  cases kvp
  have hun : (ua.map (·.1)).Nodup := by
    obtain ⟨o, es, ep, _, _, _, _, _, hnd⟩ := da
    exact hnd
  have hmer : merged [] ua = ua := by rw [merged_append_of_fresh [] ua (by rw [List.nil_append]; exact hun), List.nil_append]
  have hul : ua.length = vks.length := kva.length.symm
  refine wpAny_bind (wpAny_onRaise (wpAny_tryCatch (wpAny_onRaise (wpAny_holding (MpU.merge_ok (prog := X.prog) (w := X.w) hap ya da dp (by rw [List.length_nil, hul]; have := sizeLine_eq; omega) fun h2 d2 b2 => ?_)))))
  rw [hmer] at d2
  have J2 : Inv X pins σ (upd H1 s.heap.objs.size (.dK vks)) { s1 with heap := h2, toks := s1.toks } :=
    d_write J1 (by rw [hp1]; exact True.intro) b2 (let ⟨o, _, _, h, _⟩ := d2; ⟨o, h⟩) (dk_new za yp kva d2)
  refine wpAny_pure ?_
  dsimp only
  rw [if_neg (by simp)]
  refine wpAny_bind (wpAny_pure ?_)
  dsimp only
  refine wpAny_pure ?_
  dsimp only
  rw [if_neg (by simp)]
  refine wpAny_bind (wpAny_bind (wpAny_holding ?_))
  have hn2 := J2.hok.fresh (Nat.le_refl h2.objs.size)
  have I3 := J2.laid (a := h2.objs.size) (o := .dK []) (h' := h2.push { cls := .type "dict", data := .dict #[] }) (t' := s1.toks) (fun _ _ q => Heap.get?_push_of_some _ q) (Nat.le_refl _) (dk_empty h2 J2.big)
  have hqp : h2.objs.size ≠ s.heap.objs.size := fun z => by
    rw [z, upd_same] at hn2
    cases hn2
  have hn1 : H1 h2.objs.size = none := by rw [upd_ne hqp] at hn2; exact hn2
  refine wpAny_subDict (knd := mixKind X.prog X.w) (show (1 : Nat) ≤ 15 by decide) ?_
  refine evalPairs_cons (thn (hk.run pins _ σ _ _ I3 (k1 _ hn1 hqp)) fun uk s3 ⟨y, H2, J3, r3, k2⟩ => wpAny_bind (thn (hv.run pins s3 σ H2 _ J3 k2) fun uv s4 ⟨z, H3, J4, r4, k, ey, e1, e2, k3⟩ => wpAny_bind (wpAny_standAt (wpAny_pure (evalPairs_nil ?_)))))
  subst ey
  obtain ⟨zp4, yp4, up4, kvp4, dp4⟩ := dk_of J4.hok e1
  obtain ⟨zq4, yq4, uq4, kvq4, dq4⟩ := dk_of J4.hok e2
  cases kvq4
  have hkey : keyIs k uk = true := kV_is (P := X.prog) (w := X.w) r3
  refine ⟨[(k, uv)], ⟨hkey, rfl, trivial⟩, dq4, fun h5 d5 b5 => ?_⟩
  have em : merged [] [(k, uv)] = [(k, uv)] := rfl
  rw [em] at d5
  have J5 : Inv X pins σ (upd H3 h2.objs.size (.dK [(k, z)])) { s4 with heap := h5, toks := s4.toks + 1 } :=
    d_write J4 (by rw [e2]; exact True.intro) b5 (let ⟨o, _, _, h, _⟩ := d5; ⟨o, h⟩) (dk_new (by show 1 ≤ sizeLine; decide) yq4 (.cons ⟨rfl, r4⟩ .nil) d5)
  have e1' : (upd H3 h2.objs.size (.dK [(k, z)])) s.heap.objs.size = some (.dK vks) := by rw [upd_ne hqp.symm]; exact e1
  obtain ⟨zp5, yp5, up5, kvp5, dp5⟩ := dk_of J5.hok e1'
  have hl5 : up5.length = vks.length := kvp5.length.symm
  refine wpAny_bind (wpAny_onRaise (wpAny_holding (MpU.merge_ok (prog := X.prog) (w := X.w) hqp yq4 d5 dp5 (by rw [hl5]; show vks.length + 1 ≤ _; have := sizeLine_eq; omega) fun h6 d6 b6 => ?_)))
  have em2 : merged up5 [(k, uv)] = stored up5 k uv := rfl
  rw [em2] at d6
  refine wpAny_pure ?_
  dsimp only
  have hz6 : (putK vks k z).length ≤ sizeLine := by
    have := length_putK vks k z
    have := sizeLine_eq
    omega
  have J6 := d_write (t' := s4.toks + 1) (ob := .dK (putK vks k z)) J5 (by rw [e1']; exact True.intro) b6 (let ⟨o, _, _, h, _⟩ := d6; ⟨o, h⟩) (dk_new hz6 yp5 (kvp5.put k r4) d6)
  exact wpAny_pure ⟨.ref s.heap.objs.size, _, J6, rfl, k3⟩
end
end L2
set_option Elab.async false
set_option linter.all false
set_option maxRecDepth 100000
set_option maxHeartbeats 1000000
/-! Mp: further expressions and statements. -/
namespace Mp
open PySem PySem.Spec PyProof.Rows L2
section
variable {G : Glo} {X : Cx} {Wx : WX} {st sa sb sc : Bool} {fa fb fc : Env → Mem → Ans W} {a b c : Expr} {pos : Pos} {m : List (List Addr)} {H : Hp} {μ : Mem} {σ : L2.St} {ρ : Env}
/-- {**a, k: v}, k and v names -/
theorem n_dupd {i j : Nat} {nk nv : Str} {pk pv : Pos} (ha : PE X a (tE G Wx sa fa)) (hi : X.N[i]? = some nk) (hvk : Vis X.env.scope nk) (hdk : (nk == ("__debug__" : Str)) = false) (hck : (nk == ("__classdict__" : Str)) = false)
    (hj : X.N[j]? = some nv) (hvv : Vis X.env.scope nv) (hdv : (nv == ("__debug__" : Str)) = false) (hcv : (nv == ("__classdict__" : Str)) = false) :
    PE X (.Dict [none, some (.Name nk pk)] [a, .Name nv pv] pos) (tE G Wx false fun ρ μ => bnd (fa ρ μ) (dupdK i j ρ)) := by
  refine PE.imp (pe_dupd ha (pe_var hi hvk hdk hck) (pe_var hj hvv hdv hcv)) fun σ H Q ⟨m, ρ, μ, S, h⟩ => ?_
  intro p hp
  obtain ⟨gh, z1⟩ := S.ms.gh
  obtain ⟨M0, A0⟩ := S.ms.aside (o := .dK []) z1 hp
  obtain ⟨r, μ', e, q⟩ := h
  have e : bnd (fa ρ μ) (dupdK i j ρ) = some (r, μ') := e
  refine ⟨m.set 0 (p :: gh), ρ, μ, A0.sim S M0, ?_⟩
  cases ex : fa ρ μ with
  | none => rw [ex] at e; cases e
  | some y =>
    obtain ⟨y, μ1⟩ := y
    rw [ex] at e
    cases y with
    | exc e1 =>
      cases e
      refine ⟨_, _, rfl, fun m' H' C d M' L' hC xr => ?_⟩
      have A' := A0.later L'
      obtain ⟨M2, K2, _⟩ := M'.back A'.z
      exact q _ H' C d M2 (A'.lat M') hC (xr.mono K2 fun _ _ _ z => z)
    | ok w =>
      refine ⟨_, _, rfl, fun v m1 H1 M1 L1 r1 => ?_⟩
      have A1 := A0.later L1
      have hp1 : H1 p = some (.dK []) := L1.gst.2 _ A0.z p List.mem_cons_self _ upd_same
      have e : dupdK i j ρ w μ1 = some (r, μ') := e
      unfold dupdK at e
      split at e
      · rename_i kvs kd vd hk hv _
        split at e
        · rename_i hc
          cases e
          simp only [Bool.and_eq_true, decide_eq_true_eq, Bool.not_eq_true'] at hc
          have S1 := (A1.sim S M1)
          obtain ⟨_, yk, ek, rk⟩ := S1.env i _ hk
          obtain ⟨_, yv, ev, rv⟩ := S1.env j _ hv
          obtain ⟨kk, ekk⟩ := keyOf_ok hc.1.1
          cases r1 with
          | dicK d k v z h => rw [hc.2] at z; cases z
          | @dic a1 vks _ hr hn ck qk =>
            have hap : a1 ≠ p := fun z => by subst z; exact hn (List.mem_flatten.mpr ⟨_, List.mem_of_getElem? A1.z, List.mem_cons_self⟩)
            refine ⟨a1, vks, rfl, hr, hap, hp1, by rw [kys_len ck]; exact hc.1.2, fun q1 hq1 hqp => ?_⟩
            refine ⟨yk, ek, yv, ev, kk, rk.key ekk, by rw [upd_ne hqp.symm, upd_same], upd_same, ?_⟩
            have eH : upd (upd (upd (upd H1 p (.dK vks)) q1 (.dK [])) q1 (.dK [(kk, yv)])) p (.dK (putK vks kk yv)) = upd (upd H1 q1 (.dK [(kk, yv)])) p (.dK (putK vks kk yv)) := by
              funext b
              by_cases h1 : b = p
              · subst h1; rw [upd_same, upd_same]
              · rw [upd_ne h1, upd_ne h1]
                by_cases h2 : b = q1
                · subst h2; rw [upd_same, upd_same]
                · rw [upd_ne h2, upd_ne h2, upd_ne h1, upd_ne h2]
            rw [eH]
            have L2 : Lat true m1 H1 m1 (upd H1 q1 (.dK [(kk, yv)])) := lat_new hq1
            have M2 := M1.new (o := .dK [(kk, yv)]) hq1
            have A2 := A1.later L2
            obtain ⟨M3, K3⟩ := M2.asideU (o := .dK (putK vks kk yv)) A2.z
            have A3 := A2.upd_ (o := .dK (putK vks kk yv))
            obtain ⟨M4, K4, nD⟩ := M3.back A3.z
            obtain ⟨p1, p2⟩ := dput_ok ekk rv ck qk
            exact q _ _ _ M4 (A3.lat M3) (.dic (.inl upd_same) nD p1 (((p2.mono L2.keep).mono K3).mono K4))
        · cases e
      · cases e
/-! ### globals, comprehensions without tests -/
theorem n_glb {x : Str} {v : V} {u : Value} {d : D} (hg : Gl X x) (hm : X.mg x = some u) (r : RelV v u) (hd : (x == ("__debug__" : Str)) = false) (rv : ∀ O H, RV G O H v d) : PE X (.Name x pos) (tE G Wx true fun _ μ => ret (.d d) μ) := n_cst (pe_glob hg hm r hd) rv
theorem p_nil : PTs X [] (tT G Wx true yesK) := ⟨fun pins s σ H Q I ⟨m, ρ, μ, S, h⟩ => pts_nil.run pins s σ H Q I (by
  obtain ⟨w, μ', e, q⟩ := h
  cases e
  exact q true m H S.ms .refl rfl)⟩
theorem p_one (h : PT X c (tT G Wx sc fc)) : PTs X [c] (tT G Wx sc fc) := pts_one h
/-! ### slices -/
theorem o_no : PO X none (tP G Wx true fun _ μ => ret none μ) := ⟨fun pins s σ H Q I ⟨m, ρ, μ, S, h⟩ => po_none.run pins s σ H Q I (by
  obtain ⟨w, μ', e, q⟩ := h
  cases e
  exact q none m H S.ms .refl rfl)⟩
theorem o_yes (h : PE X a (tE G Wx sa fa)) : PO X (some a) (tP G Wx sa fun ρ μ => bnd (fa ρ μ) someK) := ⟨fun pins s σ H Q I ⟨m, ρ, μ, S, h'⟩ => (po_some h).run pins s σ H Q I ⟨m, ρ, μ, S, h'.bnd (st2 := true) id (fun _ => rfl) fun v m1 H1 w μ1 M1 L1 r1 h1 => by
  unfold someK at h1
  split at h1
  · obtain rfl := RV.int_ r1
    exact ⟨_, rfl, h1.now M1 rfl⟩
  · exact h1.not_none.elim⟩⟩
theorem cut_len {α β : Type} {xs : List α} {ys : List β} (h : xs.length = ys.length) (lo hi : Option Int) : True := trivial
theorem sIx_eq (n d : Nat) (o : Option Int) : sIx n d o = HT.sIx n d o := by
  cases o <;> rfl
theorem RVs.cut {O : List Addr} {vs : List V} {xs : List D} (h : RVs G O H vs xs) (lo hi : Option Int) : RVs G O H (cutV vs lo hi) (cut xs lo hi) := by
  have e : cutV vs lo hi = Mp.cut vs lo hi := by
    unfold cutV Mp.cut
    simp only [sIx_eq]
  rw [e]
  unfold Mp.cut
  rw [h.length]
  exact (h.drop _).take _
theorem n_slcL {lo hi : Option Expr} {fl fh : Env → Mem → Ans (Option Int)} {p2 : Pos} (hK : X.K = G.K) (ha : PE X a (tE G Wx sa fa)) (hl : PO X lo (tP G Wx sb fl)) (hh : PO X hi (tP G Wx sc fh)) :
    PE X (.Subscript a (.Slice lo hi none p2) pos) (tE G Wx (sa && (sb && sc)) fun ρ μ => bndg (sb && sc) (fa ρ μ) fun x μ => bnd (fl ρ μ) fun l μ => bnd (fh ρ μ) fun u μ => slL x l u μ) := by
  refine PE.imp (pe_slice sl_list ha hl hh) fun σ H Q ⟨m, ρ, μ, S, h⟩ => ?_
  refine ⟨m, ρ, μ, S, h.bndg (st2 := sb && sc) and_l and_r fun x m1 H1 w μ1 M1 L1 n1 r1 h1 => ?_⟩
  refine ⟨m1, ρ, μ1, S.lat L1 M1, h1.bnd (st2 := sc) and_l and_r fun l m2 H2 lw μ2 M2 L2 r2 h2 => ?_⟩
  refine ⟨m2, ρ, μ2, (S.lat L1 M1).lat L2 M2, h2.bnd (st2 := true) id (fun _ => rfl) fun u m3 H3 uw μ3 M3 L3 r3 h3 => ?_⟩
  cases r2
  cases r3
  unfold slL at h3
  split at h3
  · rename_i xs e
    have r1' : RW G m3 H3 x w := by
      rcases n1 with n1 | n1
      · exact (r1.later L2 (.inl n1)).later L3 (.inl n1)
      · have : sb = true ∧ sc = true := by simpa using n1
        exact (r1.later L2 (.inr this.1)).later L3 (.inr this.2)
    obtain ⟨p, vs, rfl, q1, q2⟩ := RW.lst_ M3 r1' e
    exact ⟨p, vs, rfl, .inl q1, fun pp hpp => h3.lay M3 hpp (.lst (.inl upd_same) (M3.free hpp) ((q2.cut l u).mono (keep_new hpp)))⟩
  · exact h3.not_none.elim
end
end Mp
set_option Elab.async false
set_option linter.all false
set_option maxRecDepth 100000
set_option maxHeartbeats 1000000
/-! Mp: calls of built-in functions, list(x), several stores at once. -/
namespace Mp
open PySem PySem.Spec PyProof.Rows L2
section
variable {G : Glo} {X : Cx} {Wx : WX} {st sa sb sc : Bool} {fa fb fc : Env → Mem → Ans W} {fs : Env → Mem → Ans (List W)} {e a b c : Expr} {es : List Expr} {p pos : Pos} {x : Str}
theorem blt_red {g : Mem → List W → Option D} {σ : L2.St} {H : Hp} {Q : VK} (h : tE G Wx sa (fun ρ μ => bnd (fs ρ μ) (bltK g)) σ H Q) : tA G Wx sa fs σ H fun vs H1 => rBl G g vs H1 Q := by
  obtain ⟨m, ρ, μ, S, h⟩ := h
  refine ⟨m, ρ, μ, S, h.bnd (st2 := true) id (fun _ => rfl) fun vs m1 H1 ws μ1 M1 L1 r1 h1 => ?_⟩
  unfold bltK at h1
  obtain ⟨w, e, h2⟩ := h1.optd
  cases q : g μ1 ws with
  | none => rw [q] at e; cases e
  | some d =>
    rw [q] at e
    cases e
    obtain ⟨_, _, e', q'⟩ := h2
    cases e'
    exact ⟨m1, μ1, ws, d, M1, r1, q, fun v m' H' M' L' r' => q' v m' H' M' L' r'⟩
theorem n_bltB {id : String} {g : Mem → List W → Option D} (hc : CallR X (.builtin id) (rBl G g)) (hg : Gl X x) (hm : X.mg x = none) (hv : bootBuiltins x = some (.builtin id)) (hn : x ≠ "__name__") (hdb : (x == ("__debug__" : Str)) = false) (ha : PA X (e :: es) (tA G Wx sa fs))
    (he : starEach (e :: es) X.env = (false, eval e X.env) :: starEach es X.env) (hpl : (backTo pos (starEach es X.env)).any (·.1) = false) :
    PE X (.Call (.Name x p) (e :: es) [] pos) (tE G Wx sa fun ρ μ => bnd (fs ρ μ) (bltK g)) :=
  PE.imp (pe_callB hc hg hm hv ha hn hdb he hpl) fun σ H Q h => blt_red h
theorem n_bltT {T : String} {g : Mem → List W → Option D} (hc : CallR X (.type T) (rBl G g)) (hg : Gl X x) (hm : X.mg x = none) (hv : bootBuiltins x = some (.type T)) (hn : x ≠ "__name__") (hdb : (x == ("__debug__" : Str)) = false) (ha : PA X (e :: es) (tA G Wx sa fs))
    (he : starEach (e :: es) X.env = (false, eval e X.env) :: starEach es X.env) (hpl : (backTo pos (starEach es X.env)).any (·.1) = false) :
    PE X (.Call (.Name x p) (e :: es) [] pos) (tE G Wx sa fun ρ μ => bnd (fs ρ μ) (bltK g)) :=
  PE.imp (pe_callTy hc hg hm hv ha hn hdb he hpl) fun σ H Q h => blt_red h
theorem bl_len' (hK : X.K = G.K) : CallR X (.builtin "len") (rBl G lenG) := bl_len hK
/-- list(x) -/
theorem n_lstofD (hK : X.K = G.K) (hg : Gl X "list") (hm : X.mg "list" = none) (ha : PE X a (tE G Wx sa fa)) (h1 : starEach [a] X.env = (false, eval a X.env) :: starEach [] X.env) (hpl : (backTo pos (starEach [] X.env)).any (·.1) = false) :
    PE X (.Call (.Name "list" p) [a] [] pos) (tE G Wx sa fun ρ μ => bnd (fa ρ μ) lstD) := by
  refine PE.imp (pe_callTy call_list_of hg hm PyProof.Rows.boot_list (pa_cons ha pa_nil h1) (by decide) (by decide) h1 hpl) fun σ H Q ⟨m, ρ, μ, S, h⟩ => ?_
  refine ⟨m, ρ, μ, S, h.bnd (st2 := true) id (fun _ => rfl) fun v m1 H1 w μ1 M1 L1 r1 h1 => ?_⟩
  unfold lstD at h1
  split at h1
  · rename_i xs e
    obtain ⟨q, vs, rfl, h2, h3⟩ := RW.seq_ M1 r1 e
    exact ⟨q, vs, rfl, hK ▸ h2, fun pp hpp => h1.lay M1 hpp (.lst (.inl upd_same) (M1.free hpp) (h3.mono (keep_new hpp)))⟩
  · exact h1.not_none.elim
theorem n_lstofO (hK : X.K = G.K) (hg : Gl X "list") (hm : X.mg "list" = none) (ha : PE X a (tE G Wx sa fa)) (h1 : starEach [a] X.env = (false, eval a X.env) :: starEach [] X.env) (hpl : (backTo pos (starEach [] X.env)).any (·.1) = false) :
    PE X (.Call (.Name "list" p) [a] [] pos) (tE G Wx sa fun ρ μ => bnd (fa ρ μ) lstO) := by
  refine PE.imp (pe_callTy call_list_of hg hm PyProof.Rows.boot_list (pa_cons ha pa_nil h1) (by decide) (by decide) h1 hpl) fun σ H Q ⟨m, ρ, μ, S, h⟩ => ?_
  refine ⟨m, ρ, μ, S, h.bnd (st2 := true) id (fun _ => rfl) fun v m1 H1 w μ1 M1 L1 r1 h1 => ?_⟩
  unfold lstO at h1
  split at h1
  · rename_i xs e
    obtain ⟨q, vs, rfl, h2, h3⟩ := RW.seq_ M1 r1 e
    refine ⟨q, vs, rfl, hK ▸ h2, fun pp hpp => ?_⟩
    obtain ⟨_, _, e', q'⟩ := h1
    cases e'
    have K : Keep m1.flatten (m1 ++ [[pp]]).flatten H1 (upd H1 pp (.lst vs)) := fun b u eu n => ⟨by rw [upd_ne (ne_of_none eu hpp)]; exact eu, fun z => by
      have : b ∈ m1.flatten ∨ b = pp := by simpa using z
      rcases this with z | z
      · exact n z
      · exact ne_of_none eu hpp z⟩
    obtain ⟨M2, L2⟩ := M1.push0 (o := .lst vs) (ob := .lst (xs.map Cell.d)) hpp ⟨pp, [], vs, rfl, upd_same, (h3.mono K).cells⟩
    exact q' _ _ _ M2 L2 (by rw [← M1.len]; exact push_own (by have := M1.pos; have := M1.len; omega))
  · exact h1.not_none.elim
/-! ### a, b = x, y -/
theorem put_ok {m : List (List Addr)} {H : Hp} {σ : L2.St} {ρ ρ' : Env} {μ : Mem} {i : Nat} {v : V} {w : W} (S : Sim G m σ H ρ μ) (n : npt w) (r : RW G m H v w) (e : put ρ i w = some ρ') : Sim G m (σ.set i (some v)) H ρ' μ := by
  unfold put at e
  split at e
  · cases e
  · split at e
    · cases e
      exact S.set n r
    · cases e
theorem x_par2 {i j : Nat} {x y : Str} {px py pt : Pos} {kt k2 : Nat} {pt2 : Pos} (hc : X.calm = true) (hN : X.N.Nodup) (hi : X.N[i]? = some x) (hj : X.N[j]? = some y) (hij : i ≠ j)
    (hx : X.env.scope.names.lookup x = some .local) (hy : X.env.scope.names.lookup y = some .local) (ha : PA X [a, b] (tA G Wx sa fs))
    (hw : swappedStores [.Tuple [.Name x px, .Name y py] kt pt] (.Tuple [a, b] k2 pt2) X.env = pure (some [x, y]))
    (hs : swapsWithSole [.Tuple [.Name x px, .Name y py] kt pt] (.Tuple [a, b] k2 pt2) pos.line X.env = pure false) :
    PS X (.Assign [.Tuple [.Name x px, .Name y py] kt pt] (.Tuple [a, b] k2 pt2) pos) (tX G Wx fun ρ μ => xb (fs ρ μ) ρ (putsK [i, j] ρ)) := by
  refine PS.imp (ps_par hc hN hi hj hij hx hy ha hw hs) fun De σ H ⟨m, ρ, μ, S, h⟩ => ⟨m, ρ, μ, S, h.xb S (st := sa) fun vs m1 H1 ws μ1 S1 L1 r1 h1 => ?_⟩
  unfold putsK at h1
  split at h1
  · rename_i ρ' e
    match ws, vs, r1 with
    | [w1, w2], _, .cons (a := v1) ⟨n1, q1⟩ (.cons (a := v2) ⟨n2, q2⟩ .nil) =>
      unfold puts at e
      cases e1 : put ρ i w1 with
      | none => rw [e1] at e; cases e
      | some ρ1 =>
        rw [e1] at e
        dsimp only at e
        unfold puts at e
        cases e2 : put ρ1 j w2 with
        | none => rw [e2] at e; cases e
        | some ρ2 =>
          rw [e2] at e
          dsimp only at e
          unfold puts at e
          cases e
          exact ⟨v1, v2, rfl, h1.now (put_ok (put_ok S1 n1 q1 e1) n2 q2 e2)⟩
    | [], _, .nil => cases e
    | [w], _, .cons _ .nil =>
      unfold puts at e
      cases e1 : put ρ i w with
      | none => rw [e1] at e; cases e
      | some ρ1 => rw [e1] at e; cases e
    | w1 :: w2 :: w3 :: ws, _, .cons _ (.cons _ (.cons _ _)) =>
      unfold puts at e
      cases e1 : put ρ i w1 with
      | none => rw [e1] at e; cases e
      | some ρ1 =>
        rw [e1] at e
        dsimp only at e
        unfold puts at e
        cases e2 : put ρ1 j w2 with
        | none => rw [e2] at e; cases e
        | some ρ2 => rw [e2] at e; cases e
  · exact h1.none_.elim
/-! ### not reached -/
theorem n_any : PE X e (tE G Wx st fun _ _ => none) := ⟨fun pins s σ H Q I ⟨m, ρ, μ, S, h⟩ => h.not_none.elim⟩
theorem x_any {ss : List Stmt} : PSs X ss (tX G Wx fun _ _ => none) := ⟨fun pins s σ H D I ⟨m, ρ, μ, S, h⟩ => h.none_.elim⟩
theorem x_anyS {s : Stmt} : PS X s (tX G Wx fun _ _ => none) := ⟨fun pins s σ H D I ⟨m, ρ, μ, S, h⟩ => h.none_.elim⟩
end
end Mp
set_option linter.all false
set_option maxRecDepth 100000
/-! Mp: from a body to a promise. -/
namespace Mp
open PySem PySem.Spec PyProof.Rows L2
/-- a call of a def by its body -/
theorem callB_np {np nv : Nat} {f : Env → Mem → XA} {ws : List W} {μ : Mem} {a : R W × Mem} (h : callB np nv f ws μ = some a) : ws.length = np := by
  unfold callB at h
  split at h
  · assumption
  · cases h
section
variable {G : Glo}
theorem sim_start {m : List (List Addr)} {H : Hp} {μ : Mem} (M : MS G m H μ) {vs : List V} {ws : List W} (r : RWs G m H vs ws) (n : Nat) : Sim G m (vs.map some ++ List.replicate n none) H (ws.map some ++ List.replicate n none) μ where
  ms := M
  len := by simp [RWs.length r]
  env := fun i w e => by
    have hi : i < ws.length := by
      apply Nat.lt_of_not_le
      intro hle
      rw [List.getElem?_append_right (by simpa using hle)] at e
      have := List.mem_of_getElem? e
      rw [List.mem_replicate] at this
      exact nomatch this.2
    rw [List.getElem?_append_left (by simpa using hi), List.getElem?_map] at e
    have hl := RWs.length r
    have key : ∀ (vs : List V) (ws : List W) (i : Nat), RWs G m H vs ws → ws[i]? = some w → ∃ v, vs[i]? = some v ∧ npt w ∧ RW G m H v w := by
      intro vs ws i r
      induction r generalizing i with
      | nil => intro e; simp at e
      | cons h _ ih =>
        cases i with
        | zero => intro e; simp at e; subst e; exact ⟨_, rfl, h.1, h.2⟩
        | succ i => intro e; exact ih i (by simpa using e)
    cases q : ws[i]? with
    | none => rw [q] at e; cases e
    | some u =>
      rw [q] at e
      simp at e
      subst e
      obtain ⟨v, e1, e2, e3⟩ := key vs ws i r q
      refine ⟨e2, v, ?_, e3⟩
      rw [List.getElem?_append_left (by simpa [hl] using hi), List.getElem?_map, e1]
      rfl
theorem nd_of {α : Type} : ∀ {m : List (List α)} {as : List α}, m.flatten.Nodup → as ∈ m → as.Nodup
  | [], _, _, h => nomatch h
  | b :: m, as, n, h => by
    rw [List.flatten_cons, List.nodup_append] at n
    cases h with
    | head => exact n.1
    | tail _ h => exact nd_of n.2.1 h
theorem RW.mono_own {m m' : List (List Addr)} {H H' : Hp} {v : V} {l : Nat} (r : RW G m H v (.own l)) (h : l < m'.length) (k : ∀ (a : Addr) (r : List Addr), m'[l]? = some (a :: r) → ∃ r', m[l]? = some (a :: r')) : RW G m' H' v (.own l) :=
  ⟨⟨r.1.1, h⟩, fun a s e => let ⟨_, e'⟩ := k a s e; r.2 _ _ e'⟩
theorem leave_ok {m m' : List (List Addr)} {H H' : Hp} {μ μ' μ2 : Mem} {v : V} {w : W} {a : R W} (hl : m.length = μ.length) (h0 : 0 < μ.length) (M : MS G m' H' μ') (L : Lat false m H m' H') (r : RW G m' H' v w) (e : leave μ.length w μ' = some (a, μ2)) :
    ∃ u m2, a = .ok u ∧ MS G m2 H' μ2 ∧ Lat false m H m2 H' ∧ RW G m2 H' v u := by
  unfold leave at e
  cases w with
  | d x =>
    cases e
    refine ⟨_, _, rfl, M.take h0, L.take (by omega) h0, ?_⟩
    exact RV.mono (keep_sub flatten_take_sub) (r : RV G m'.flatten H' v x)
  | ptr l i => cases e
  | own l =>
    dsimp only at e
    split at e
    · rename_i hlt
      cases e
      refine ⟨_, _, rfl, M.take h0, L.take (by omega) h0, ?_⟩
      have h1 := r.1
      refine r.mono_own (by simp only [List.length_take]; omega) fun a s q => ⟨s, (take_get q).2⟩
    · rename_i hge
      cases q : μ'[l]? with
      | none => rw [q] at e; cases e
      | some o =>
        rw [q] at e
        cases e
        obtain ⟨as, ha, hO⟩ := M.own q
        have hll : l < m'.length := r.1.2
        have hb : μ.length ≤ l := Nat.le_of_not_lt hge
        have hsplit : m' = m'.take μ.length ++ m'.drop μ.length := (List.take_append_drop _ m').symm
        have hmem : ∀ x ∈ (m'.take μ.length ++ [as]).flatten, x ∈ m'.flatten := by
          intro x hx
          rw [List.flatten_append, List.mem_append] at hx
          rcases hx with hx | hx
          · exact flatten_take_sub x hx
          · simp at hx
            exact List.mem_flatten.mpr ⟨as, List.mem_of_getElem? ha, hx⟩
        have htl : (m'.take μ.length).length = μ.length := by simp only [List.length_take]; omega
        have htl' : (μ'.take μ.length).length = μ.length := by have := M.len; simp only [List.length_take]; omega
        refine ⟨_, m'.take μ.length ++ [as], rfl, ?_, ?_, ?_⟩
        · refine ⟨?_, ?_, ?_, ?_⟩
          · simp only [List.length_append, htl, htl', List.length_cons, List.length_nil]
          · intro j ob bs e1 e2
            refine OR_.mono (O := m'.flatten) (H := H') (keep_sub hmem) ?_ (fun _ _ _ z => z)
            rcases Nat.lt_or_ge j μ.length with hj | hj
            · rw [List.getElem?_append_left (by omega)] at e1 e2
              exact M.obj j ob bs (take_get e1).2 (take_get e2).2
            · rw [List.getElem?_append_right (by omega)] at e1 e2
              rw [htl'] at e1
              rw [htl] at e2
              cases hjj : j - μ.length with
              | zero =>
                rw [hjj] at e1 e2
                simp at e1 e2
                subst e1 e2
                exact hO
              | succ k => rw [hjj] at e1; simp at e1
          · have hn := M.nd
            have hd : ∃ i, m'[μ.length + i]? = some as := ⟨l - μ.length, by rw [show μ.length + (l - μ.length) = l by omega]; exact ha⟩
            rw [hsplit, List.flatten_append, List.nodup_append] at hn
            rw [List.flatten_append, List.nodup_append]
            obtain ⟨i, hi⟩ := hd
            have hmd : as ∈ m'.drop μ.length := List.mem_of_getElem? (i := i) (by rw [List.getElem?_drop]; exact hi)
            refine ⟨hn.1, ?_, ?_⟩
            · simp
              exact nd_of hn.2.1 hmd
            · intro x hx y hy
              refine hn.2.2 x hx y ?_
              simp at hy
              exact List.mem_flatten.mpr ⟨as, hmd, hy⟩
          · rw [List.getElem?_append_left (by omega), List.getElem?_take_of_lt h0]
            exact M.g0
        · have Lt := L.take (l := μ.length) (by omega) h0
          refine ⟨fun x o e n => ⟨(L.keep x o e n).1, fun z => (L.keep x o e n).2 (hmem x z)⟩, ?_, ?_, fun z => (nomatch z), ?_, L.gst.2⟩
          · simp only [List.length_append, htl, List.length_cons, List.length_nil]; omega
          · intro j x s hj e
            rw [List.getElem?_append_left (by omega)] at e
            exact L.root j x s hj (take_get e).2
          · rw [List.getElem?_append_left (by omega)]
            exact Lt.gst.1
        · refine ⟨⟨h0, by simp only [List.length_append, htl, List.length_cons, List.length_nil]; omega⟩, fun x s e => ?_⟩
          rw [List.getElem?_append_right (by omega), htl] at e
          simp at e
          subst e
          exact r.2 x s ha
variable {P : Program} {w : World} {mg : Str → Option Value} {base : Heap}
/-- THE RULE for a def -/
theorem fn_ok {x qual : Str} {st : Stmt} {fa : Addr} {fd : FuncData} {N ps : List Str} {k np id : Nat} {cf : Nat → List W → Mem → Ans W} {sem : Env → Mem → XA} (F : Fun G.K x qual st fa fd) (S : FnScope N ps (defScope st)) (hp : ps.length = np)
    (hcf : cf id = callB np N.length sem) (Wt : Nat → Prop)
    (hb : ∀ (cdv : Value) (A : Around) (outer : List PySem.Env) (s : Shared) (H : Hp) (E : XK), Room k (A.deeper (envOfC qual (defScope st) s.heap.objs.size fa cdv)) → 
      Takes (cxOf (L2.CX P w) P w G.K mg base N qual (defScope st) fa cdv A outer s H E) (fun cls d _ H => E cls d H) →
      PassesOwn (model P w) (A.deeper (envOfC qual (defScope st) s.heap.objs.size fa cdv)) (envOfC qual (defScope st) s.heap.objs.size fa cdv) (cxOf (L2.CX P w) P w G.K mg base N qual (defScope st) fa cdv A outer s H E).xe →
      PSs (cxOf (L2.CX P w) P w G.K mg base N qual (defScope st) fa cdv A outer s H E) (defBody st) (tX G (fun cls d _ H => E cls d H) sem)) :
    FnOk P w G.K mg base (L2.CX P w) (k + 1) fa fd ps (spF G cf np id) := by
  refine F.okX S (fun vs H Q E h => h.1.trans hp.symm) fun cdv A outer s H vs Q E hr h => ⟨_, hb cdv A outer s H E hr (takes_of rfl rfl rfl rfl) (passes_of rfl), ?_⟩
  obtain ⟨hl, m, μ, ws, M, r, a, μ2, e, h⟩ := h
  have hwl : ws.length = np := (RWs.length r).symm.trans hl
  have e' := e
  rw [hcf] at e'
  unfold callB at e'
  rw [if_pos hwl] at e'
  have Sm : Sim G m (L2.start N vs) H (ws.map some ++ List.replicate (N.length - np) none) μ := by
    have := sim_start (G := G) M r (N.length - np)
    unfold L2.start
    rw [hl]
    exact this
  refine ⟨m, _, μ, Sm, ?_⟩
  cases q : sem (ws.map some ++ List.replicate (N.length - np) none) μ with
  | none => rw [q] at e'; cases e'
  | some z =>
    obtain ⟨o, ρ', μ'⟩ := z
    rw [q] at e'
    refine ⟨o, ρ', μ', rfl, fun m' H' σ' S' L => ?_⟩
    have M' := S'.ms
    have h0 := M.pos
    have hml := M.len
    cases o with
    | nx =>
      cases e'
      exact h .non _ H' (M'.take h0) (L.take (by omega) h0) RV.non
    | bk => cases e'
    | ct => cases e'
    | rt u =>
      intro v rv
      obtain ⟨u', m2, e1, e2, e3, e4⟩ := leave_ok hml h0 M' L rv e'
      subst e1
      exact h v m2 H' e2 e3 e4
    | ex x =>
      cases e'
      intro C d hC hX
      refine h _ H' C d (M'.take h0) (L.take (by omega) h0) hC ?_
      exact XR.mono (keep_sub flatten_take_sub) (fun _ _ _ z => z) hX
end
end Mp
set_option linter.all false
set_option maxRecDepth 100000
/-! Mp: short words for what nodes compute, and the rules in these words (for printed proofs). -/
namespace Mp
open PySem PySem.Spec PyProof.Rows L2
/-! ### words -/
/-! ### the rules -/
section
variable {G : Glo} {X : Cx} {Wx : WX} {st sa sb sc so se : Bool} {fa fb fc fe fo fi' : SE} {fs : SA} {a b c e o i : Expr} {es : List Expr} {pos p : Pos}
theorem k_int {n : Int} {j : Nat} : PE X (.Constant (.int n) j pos) (tE G Wx true (eC (.int n))) := n_cst pe_int fun _ _ => .int _
theorem k_bl {n : Bool} {j : Nat} : PE X (.Constant (.bool n) j pos) (tE G Wx true (eC (.bl n))) := n_cst pe_bl fun _ _ => .bl _
theorem k_non {j : Nat} : PE X (.Constant .none j pos) (tE G Wx true (eC .non)) := n_cst pe_non fun _ _ => .non
theorem k_str {s : String} {x : Str} {j : Nat} (h : x = toS s) : PE X (.Constant (.str x) j pos) (tE G Wx true (eC (.str s))) := n_cst (v := .str x) pe_str fun _ _ => by subst h; exact .str _
theorem snd_binG (hK : X.K = G.K) : ∀ op : BOp, OpR X (binaryOp (opB op)) (rOp G (binG op))
  | .add => snd_add hK
  | .sub => snd_sub
  | .mul => snd_mul trivial
  | .fdiv => snd_fdiv
  | .mod => snd_mod
  | .pow => snd_pow
theorem k_bin {op : BOp} {oo : Operator} (hoo : opB op = oo) (hK : X.K = G.K) (ha : PE X a (tE G Wx sa fa)) (hb : PE X b (tE G Wx sb fb)) (hst : (sa && sb) = st) : PE X (.BinOp a oo b pos) (tE G Wx st (eBin op sb fa fb)) := by
  subst hst
  subst hoo
  refine PE.imp (pe_op (snd_binG hK op) ha hb) fun σ H Q ⟨m, ρ, μ, S, h⟩ => ?_
  refine ⟨m, ρ, μ, S, tK.bndg (st2 := sb) h and_l and_r fun x m1 H1 wa μ1 M1 L1 n1 r1 h1 => ?_⟩
  refine ⟨m1, ρ, μ1, S.lat L1 M1, h1.bnd (st2 := true) id (fun _ => rfl) fun y m2 H2 wb μ2 M2 L2 r2 h2 => ?_⟩
  obtain ⟨w, e, h3⟩ := h2.optd
  cases q : binG op μ2 wa wb with
  | none => rw [q] at e; cases e
  | some d =>
    rw [q] at e
    cases e
    obtain ⟨_, _, e4, h4⟩ := h3
    cases e4
    exact ⟨m2, μ2, wa, wb, d, M2, r1.later L2 n1, r2, q, fun v m' H' M' L' rv => h4 v m' H' M' L' rv⟩
theorem k_cmp {op : COp} {oo : CmpOp} {k : Nat} (hoo : opC op = oo) (hK : X.K = G.K) (hw : X.w = G.w) (hr : Room k X.A) (ha : PE X a (tE G Wx sa fa)) (hb : PE X b (tE G Wx sb fb)) (hm : behindInMarks oo b = false) (hst : (sa && sb) = st) : PE X (.Compare a [oo] [b] pos) (tE G Wx st (eCmp op sb fa fb)) := by
  subst hst
  subst hoo
  exact n_cmp (snd_cmp hK hw (by have := hr.un; omega) op) ha hb hm
theorem k_cmpT {op : COp} {oo : CmpOp} {k : Nat} (hoo : opC op = oo) (hK : X.K = G.K) (hw : X.w = G.w) (hr : Room k X.A) (ha : PE X a (tE G Wx sa fa)) (hb : PE X b (tE G Wx sb fb)) (hm : behindInMarks oo b = false) (hst : (sa && sb) = st) : PT X (.Compare a [oo] [b] pos) (tT G Wx st (eCmp op sb fa fb)) := by
  subst hst
  subst hoo
  exact n_cmpT (snd_cmp hK hw (by have := hr.un; omega) op) ha hb hm
theorem k_chn {o1 o2 : COp} {q1 q2 : CmpOp} {k : Nat} (h1 : opC o1 = q1) (h2 : opC o2 = q2) (hK : X.K = G.K) (hw : X.w = G.w) (hr : Room k X.A) (ha : PE X a (tE G Wx sa fa)) (hb : PE X b (tE G Wx sb fb)) (hc : PE X c (tE G Wx sc fc)) (hm : lastMarks [q1, q2] [b, c] = false) (hst : (sa && (sb && sc)) = st) :
    PE X (.Compare a [q1, q2] [b, c] pos) (tE G Wx st (eChn o1 o2 sb sc fa fb fc)) := by
  subst hst
  subst h1 h2
  exact n_chn (snd_cmp hK hw (by have := hr.un; omega) o1) (snd_cmp hK hw (by have := hr.un; omega) o2) ha hb hc hm
theorem k_chnT {o1 o2 : COp} {q1 q2 : CmpOp} {k : Nat} (h1 : opC o1 = q1) (h2 : opC o2 = q2) (hK : X.K = G.K) (hw : X.w = G.w) (hr : Room k X.A) (ha : PE X a (tE G Wx sa fa)) (hb : PE X b (tE G Wx sb fb)) (hc : PE X c (tE G Wx sc fc)) (hm : lastMarks [q1, q2] [b, c] = false) (hst : (sa && (sb && sc)) = st) :
    PT X (.Compare a [q1, q2] [b, c] pos) (tT G Wx st (eChn o1 o2 sb sc fa fb fc)) := by
  subst hst
  subst h1 h2
  exact n_chnT (snd_cmp hK hw (by have := hr.un; omega) o1) (snd_cmp hK hw (by have := hr.un; omega) o2) ha hb hc hm
/-- a def that is called -/
structure FnR (P : Program) (w : World) (G : Glo) (mg : Str → Option Value) (base : Heap) (cf : Nat → List W → Mem → Ans W) (k f np : Nat) (fad : Addr) (fd : FuncData) (ps : List Str) : Prop where
  ok : FnOk P w G.K mg base (L2.CX P w) k fad fd ps (spF G cf np f)
  b : Binds G.K fd ps []
  hn : ∀ ws μ a, cf f ws μ = some a → ws.length = np
structure GF (K : PySem.W.Frag) (mg : Str → Option Value) (x : Str) (fad : Addr) : Prop where
  m : mg x = some (.ref fad)
  k : PySem.W.keepIn K (.ref fad) = true
variable {P : Program} {w : World} {mg : Str → Option Value} {base : Heap} {k kx f np : Nat} {fad : Addr} {fd : FuncData} {ps : List Str} {cf : Nat → List W → Mem → Ans W} {x mth : Str} {apos : Pos} {cl : Nat} {Ca pa : Addr}
theorem k_call (R : FnR X.prog X.w G X.mg X.base cf k f np fad fd ps) (g : GF G.K X.mg x fad) (hK : X.K = G.K) (hr : Room kx X.A) (hk : k ≤ kx) (hg : Gl X x) (tk : Takes X Wx) (ha : PA X (e :: es) (tA G Wx sa fs)) (hdb : (x == ("__debug__" : Str)) = false)
    (he : starEach (e :: es) X.env = (false, eval e X.env) :: starEach es X.env) (hpl : (backTo pos (starEach es X.env)).any (·.1) = false) : PE X (.Call (.Name x p) (e :: es) [] pos) (tE G Wx false (eCall cf f fs)) :=
  n_call (by rw [hK]; exact R.ok) (hr.mono hk) hg g.m (by rw [hK]; exact g.k) (by rw [hK]; exact R.b) tk R.hn ha hdb he hpl
theorem k_call0 (R : FnR X.prog X.w G X.mg X.base cf k f np fad fd ps) (g : GF G.K X.mg x fad) (hK : X.K = G.K) (hr : Room kx X.A) (hk : k ≤ kx) (hg : Gl X x) (tk : Takes X Wx) (hdb : (x == ("__debug__" : Str)) = false) : PE X (.Call (.Name x p) [] [] pos) (tE G Wx false (eCall cf f aNil)) :=
  n_call0 (by rw [hK]; exact R.ok) (hr.mono hk) hg g.m (by rw [hK]; exact g.k) (by rw [hK]; exact R.b) tk R.hn hdb
theorem k_new {fz : Bool} (R : FnR X.prog X.w G X.mg X.base cf k f np fad fd ps) (M : Mk G.K Ca fad) (hc : G.cls cl = some Ca) (hm : X.mg x = some (.ref Ca)) (hK : X.K = G.K) (hr : Room kx X.A) (hk : k + 1 ≤ kx) (hg : Gl X x) (tk : Takes X Wx) (ha : PA X (e :: es) (tA G Wx sa fs)) (hdb : (x == ("__debug__" : Str)) = false)
    (he : starEach (e :: es) X.env = (false, eval e X.env) :: starEach es X.env) (hpl : (backTo pos (starEach es X.env)).any (·.1) = false) : PE X (.Call (.Name x p) (e :: es) [] pos) (tE G Wx false (eNew cf cl f fz fs)) :=
  n_new (by rw [hK]; exact M) (by rw [hK]; exact R.ok) (hr.mono hk) hg hm hc (by rw [hK]; exact R.b) tk R.hn ha hdb he hpl
theorem k_meth (R : FnR X.prog X.w G X.mg X.base cf k f np fad fd ps) (hc : G.cls cl = some Ca) (cc : Cls G.K Ca) (hm : Meth G.K Ca mth fad) (hx : mth ∉ G.fnm) (hK : X.K = G.K) (hr : Room kx X.A) (hk : k ≤ kx) (tk : Takes X Wx) (ho : PE X o (tE G Wx so fo)) (ha : PA X (e :: es) (tA G Wx sa fs))
    (hst : starEach (e :: es) X.env = (false, eval e X.env) :: starEach es X.env) (hpl : (backTo pos (starEach es X.env)).any (·.1) = false)
    (hab : attributeBase o mth X.env (eval o X.env) = eval o X.env) (hf : methodCallForm ((e :: es).length + ([] : List Keyword).length) (backTo pos (starEach (e :: es) X.env)) (backToKw pos (keywordEach [] X.env)) = true) (hl : (apos.endLine == pos.line) = true) :
    PE X (.Call (.Attribute o mth apos) (e :: es) [] pos) (tE G Wx false (eMeth cf cl f fo fs)) :=
  n_meth (by rw [hK]; exact R.ok) (hr.mono hk) hc (by rw [hK]; exact cc) (by rw [hK]; exact hm) hx (by rw [hK]; exact R.b) tk R.hn ho ha hst hpl hab hf hl
theorem k_meth0 (R : FnR X.prog X.w G X.mg X.base cf k f np fad fd ps) (hc : G.cls cl = some Ca) (cc : Cls G.K Ca) (hm : Meth G.K Ca mth fad) (hx : mth ∉ G.fnm) (hK : X.K = G.K) (hr : Room kx X.A) (hk : k ≤ kx) (tk : Takes X Wx) (ho : PE X o (tE G Wx so fo)) 
    (hab : attributeBase o mth X.env (eval o X.env) = eval o X.env) (hl : (apos.endLine == pos.line) = true) :
    PE X (.Call (.Attribute o mth apos) [] [] pos) (tE G Wx false (eMeth cf cl f fo aNil)) :=
  n_meth0 (by rw [hK]; exact R.ok) (hr.mono hk) hc (by rw [hK]; exact cc) (by rw [hK]; exact hm) hx (by rw [hK]; exact R.b) tk R.hn ho hab hl
theorem k_prop (R : FnR X.prog X.w G X.mg X.base cf k f np fad fd ps) (hc : G.cls cl = some Ca) (cc : Cls G.K Ca) (hp : PropOf G.K Ca mth pa fad) (hK : X.K = G.K) (hr : Room kx X.A) (hk : k + 1 ≤ kx) (ho : PE X o (tE G Wx so fo)) (hab : attributeBase o mth X.env (eval o X.env) = eval o X.env) :
    PE X (.Attribute o mth pos) (tE G Wx false (eProp cf cl f fo)) :=
  n_prop (by rw [hK]; exact R.ok) (hr.mono hk) hc (by rw [hK]; exact cc) (by rw [hK]; exact hp) (by rw [hK]; exact R.b) R.hn ho hab
/-- fuel 0 -/
theorem fn_zero {K : Nat} (hp : ps.length = np) : FnOk P w G.K mg base (L2.CX P w) K fad fd ps (spF G (fun _ _ _ => none) np f) :=
  ⟨fun vs H Q E h => h.1.trans hp.symm, fun A outer s H args us vs Q E _ _ _ _ ⟨_, _, _, _, _, _, _, _, z, _⟩ => nomatch z⟩
end
end Mp
set_option linter.all false
set_option maxRecDepth 100000
/-! Mp: the rules in short words, further. -/
namespace Mp
open PySem PySem.Spec PyProof.Rows L2
section
variable {G : Glo} {X : Cx} {Wx : WX} {st sa sb sc so se : Bool} {fa fb fc fe fo : SE} {fs : SA} {a b c e o i : Expr} {es rest : List Expr} {pos p : Pos} {x : Str}
theorem k_var {j : Nat} (hN : X.N[j]? = some x) (hv : Vis X.env.scope x) (hd : (x == ("__debug__" : Str)) = false) (hcd : (x == ("__classdict__" : Str)) = false) : PE X (.Name x pos) (tE G Wx true (eV j)) := n_var hN hv hd hcd
theorem k_neg (ha : PE X a (tE G Wx sa fa)) : PE X (.UnaryOp .USub a pos) (tE G Wx sa (eNeg fa)) := n_neg ha
theorem k_and (ha : PE X a (tE G Wx sa fa)) (hb : PE X (.BoolOp .And (b :: rest) pos) (tE G Wx sb fb)) (hst : (sa && sb) = st) : PE X (.BoolOp .And (a :: b :: rest) pos) (tE G Wx st (eAnd fa fb)) := by subst hst; exact n_and ha hb
theorem k_or (ha : PE X a (tE G Wx sa fa)) (hb : PE X (.BoolOp .Or (b :: rest) pos) (tE G Wx sb fb)) (hst : (sa && sb) = st) : PE X (.BoolOp .Or (a :: b :: rest) pos) (tE G Wx st (eOr fa fb)) := by subst hst; exact n_or ha hb
theorem k_not (ha : PE X a (tE G Wx sa fa)) : PE X (.UnaryOp .Not a pos) (tE G Wx sa (eNot fa)) := n_not ha
theorem k_andT (ha : PT X a (tT G Wx sa fa)) (hb : PW X (.BoolOp .And (b :: rest) pos) (tT G Wx sb fb)) (hst : (sa && sb) = st) : PW X (.BoolOp .And (a :: b :: rest) pos) (tT G Wx st (eAnd fa fb)) := by subst hst; exact n_andT ha hb
theorem k_orT (ha : PT X a (tT G Wx sa fa)) (hb : PW X (.BoolOp .Or (b :: rest) pos) (tT G Wx sb fb)) (hst : (sa && sb) = st) : PW X (.BoolOp .Or (a :: b :: rest) pos) (tT G Wx st (eOr fa fb)) := by subst hst; exact n_orT ha hb
theorem k_notT (ha : PT X a (tT G Wx sa fa)) : PT X (.UnaryOp .Not a pos) (tT G Wx sa (eNot fa)) := n_notT ha
theorem k_post (hK : X.K = G.K) (ha : PE X a (tE G Wx sa fa)) (he : ∀ whole, isTrue a X.env whole = (do let v ← whole; standAt a.pos; holding [v] (truthy v))) : PT X a (tT G Wx sa (ePost fa)) := n_post hK ha he
theorem k_ite (hc : PT X c (tT G Wx sc fc)) (ha : PE X a (tE G Wx sa fa)) (hb : PE X b (tE G Wx sb fb)) (hst : (sc && (sa && sb)) = st) : PE X (.IfExp c a b pos) (tE G Wx st (eIte fc fa fb)) := by subst hst; exact n_ite hc ha hb
theorem k_nil : PA X [] (tA G Wx true aNil) := tA_nil
theorem k_cons {fr : SA} (ha : PE X e (tE G Wx sa fa)) (hr : PA X es (tA G Wx sb fr)) (hs : starEach (e :: es) X.env = (false, eval e X.env) :: starEach es X.env) (hst : (sa && sb) = st) : PA X (e :: es) (tA G Wx st (aCons fa fr)) := by subst hst; exact tA_cons ha hr hs
theorem k_star {fr : SA} (hK : X.K = G.K) (ha : PE X e (tE G Wx sa fa)) (hr : PA X es (tA G Wx sb fr)) (hst : (sa && sb) = st) : PA X (.Starred e p :: es) (tA G Wx st (aStar fa fr)) := by subst hst; exact tA_star hK ha hr
theorem k_tup {k : Nat} (ha : PA X es (tA G Wx sa fs)) : PE X (.Tuple es k pos) (tE G Wx sa (eTup fs)) := n_tup ha
theorem k_lstD (ha : PA X es (tA G Wx sa fs)) : PE X (.List es pos) (tE G Wx sa (eLst false fs)) := n_lstD ha
theorem k_lstO (ha : PA X es (tA G Wx sa fs)) : PE X (.List es pos) (tE G Wx false (eLst true fs)) := n_lstO ha
theorem k_sub {k : Nat} (hK : X.K = G.K) (hw : X.w = G.w) (hr : Room k X.A) (ha : PE X a (tE G Wx sa fa)) (hb : PE X b (tE G Wx sb fb)) (hs : PlainIx b) (hst : (sa && sb) = st) : PE X (.Subscript a b pos) (tE G Wx st (eSub sb fa fb)) := by subst hst; exact n_sub hK hw (by have := hr.un; omega) ha hb hs
theorem k_slcL {sv : Bool} {lo hi : Option Expr} {fl fh : SO} {p2 : Pos} (hK : X.K = G.K) (ha : PE X a (tE G Wx sa fa)) (hl : PO X lo (tP G Wx sb fl)) (hh : PO X hi (tP G Wx sc fh)) (hst : (sa && (sb && sc)) = st) (hsv : (sb && sc) = sv) :
    PE X (.Subscript a (.Slice lo hi none p2) pos) (tE G Wx st (eSlc sv fa fl fh)) := by subst hst; subst hsv; exact n_slcL hK ha hl hh
theorem k_no : PO X none (tP G Wx true oNo) := o_no
theorem k_yes (h : PE X a (tE G Wx sa fa)) : PO X (some a) (tP G Wx sa (oYes fa)) := o_yes h
theorem k_fld {f : Nat} (hx : G.fnm[f]? = some x) (hK : X.K = G.K) (hC : ∀ c C, G.cls c = some C → Cls G.K C) (hN : ∀ c C, G.cls c = some C → NoAttr G.K C x) (ha : PE X a (tE G Wx sa fa)) (hb : attributeBase a x X.env (eval a X.env) = eval a X.env) :
    PE X (.Attribute a x pos) (tE G Wx sa (eFld f fa)) := n_fld hx (by rw [hK]; exact hC) (by rw [hK]; exact hN) ha hb
theorem k_isi1 {t : Ty} (hK : X.K = G.K) (hI : ∀ c C, G.cls c = some C → Isi G C) (hg : Gl X "isinstance") (hmg : X.mg "isinstance" = none) (ha : PE X a (tE G Wx sa fa)) (hc : PTy G X t c)
    (h1 : starEach [a, c] X.env = (false, eval a X.env) :: starEach [c] X.env) (h2 : starEach [c] X.env = (false, eval c X.env) :: starEach [] X.env) : PE X (.Call (.Name "isinstance" p) [a, c] [] pos) (tE G Wx sa (eIsi [t] fa)) := n_isi1 hK hI hg hmg ha hc h1 h2
theorem k_isiT {ts : List Ty} {cs : List Expr} {kk : Nat} {tpos : Pos} (hK : X.K = G.K) (hI : ∀ c C, G.cls c = some C → Isi G C) (hg : Gl X "isinstance") (hmg : X.mg "isinstance" = none) (ha : PE X a (tE G Wx sa fa)) (hc : PTys G X ts cs) (hne : ts ≠ []) (hlen : ts.length ≤ 10)
    (h1 : starEach [a, .Tuple cs kk tpos] X.env = (false, eval a X.env) :: starEach [.Tuple cs kk tpos] X.env) : PE X (.Call (.Name "isinstance" p) [a, .Tuple cs kk tpos] [] pos) (tE G Wx sa (eIsi ts fa)) := n_isiT hK hI hg hmg ha hc hne hlen h1
/-- a class' name -/
theorem pe_tyN {T : String} (hg : Gl X x) (hm : X.mg x = none) (hv : bootBuiltins x = some (.type T)) (hn : x ≠ "__name__") (hd : (x == ("__debug__" : Str)) = false) : PE X (.Name x pos) (tC (.ty T)) :=
  ⟨fun pins s σ H Q I h => ld_blt I hg hm hv ⟨.ty T, H, I, rfl, h⟩ hn hd⟩
theorem k_ty {t : Ty} (hg : Gl X x) (hm : X.mg x = none) (hv : bootBuiltins x = some (.type (tyN t))) (hn : x ≠ "__name__") (hd : (x == ("__debug__" : Str)) = false) (h : ∀ c, t ≠ .cls c) : PTy G X t (.Name x pos) :=
  ⟨_, _, pe_tyN hg hm hv hn hd, .ty _, .bi h⟩
theorem k_tyC {cl : Nat} {C : Addr} (hg : Gl X x) (hm : X.mg x = some (.ref C)) (hd : (x == ("__debug__" : Str)) = false) (h : G.cls cl = some C) (hI : ∀ c C, G.cls c = some C → Isi G C) : PTy G X (.cls cl) (.Name x pos) :=
  ⟨_, _, pe_glob (v := .ref C) hg hm rfl hd, .own C, .own h (hI _ _ h)⟩
theorem k_bltB {id : String} {g : Mem → List W → Option D} (hc : CallR X (.builtin id) (rBl G g)) (hg : Gl X x) (hm : X.mg x = none) (hv : bootBuiltins x = some (.builtin id)) (hn : x ≠ "__name__") (hdb : (x == ("__debug__" : Str)) = false) (ha : PA X (e :: es) (tA G Wx sa fs))
    (he : starEach (e :: es) X.env = (false, eval e X.env) :: starEach es X.env) (hpl : (backTo pos (starEach es X.env)).any (·.1) = false) : PE X (.Call (.Name x p) (e :: es) [] pos) (tE G Wx sa (eBlt g fs)) := n_bltB hc hg hm hv hn hdb ha he hpl
theorem k_bltT {T : String} {g : Mem → List W → Option D} (hc : CallR X (.type T) (rBl G g)) (hg : Gl X x) (hm : X.mg x = none) (hv : bootBuiltins x = some (.type T)) (hn : x ≠ "__name__") (hdb : (x == ("__debug__" : Str)) = false) (ha : PA X (e :: es) (tA G Wx sa fs))
    (he : starEach (e :: es) X.env = (false, eval e X.env) :: starEach es X.env) (hpl : (backTo pos (starEach es X.env)).any (·.1) = false) : PE X (.Call (.Name x p) (e :: es) [] pos) (tE G Wx sa (eBlt g fs)) := n_bltT hc hg hm hv hn hdb ha he hpl
theorem k_listD (hK : X.K = G.K) (hg : Gl X "list") (hm : X.mg "list" = none) (ha : PE X a (tE G Wx sa fa)) (h1 : starEach [a] X.env = (false, eval a X.env) :: starEach [] X.env) (hpl : (backTo pos (starEach [] X.env)).any (·.1) = false) : PE X (.Call (.Name "list" p) [a] [] pos) (tE G Wx sa (eUn lstD fa)) := n_lstofD hK hg hm ha h1 hpl
theorem k_listO (hK : X.K = G.K) (hg : Gl X "list") (hm : X.mg "list" = none) (ha : PE X a (tE G Wx sa fa)) (h1 : starEach [a] X.env = (false, eval a X.env) :: starEach [] X.env) (hpl : (backTo pos (starEach [] X.env)).any (·.1) = false) : PE X (.Call (.Name "list" p) [a] [] pos) (tE G Wx sa (eUn lstO fa)) := n_lstofO hK hg hm ha h1 hpl
theorem k_dupd {i j : Nat} {nk nv : Str} {pk pv : Pos} (ha : PE X a (tE G Wx sa fa)) (hi : X.N[i]? = some nk) (hvk : Vis X.env.scope nk) (hdk : (nk == ("__debug__" : Str)) = false) (hck : (nk == ("__classdict__" : Str)) = false)
    (hj : X.N[j]? = some nv) (hvv : Vis X.env.scope nv) (hdv : (nv == ("__debug__" : Str)) = false) (hcv : (nv == ("__classdict__" : Str)) = false) :
    PE X (.Dict [none, some (.Name nk pk)] [a, .Name nv pv] pos) (tE G Wx false (eDupd i j fa)) := n_dupd ha hi hvk hdk hck hj hvv hdv hcv
theorem k_glb {d : D} {v : V} {u : Value} (hg : Gl X x) (hm : X.mg x = some u) (r : RelV v u) (hd : (x == ("__debug__" : Str)) = false) (rv : ∀ O H, RV G O H v d) : PE X (.Name x pos) (tE G Wx true (eC d)) := n_glb hg hm r hd rv
theorem k_eqD {k : Nat} (hr : Room k X.A) (ha : PE X a (tE G Wx sa fa)) (hb' : PE X b (tE G Wx sb fb)) (hm : behindInMarks .Eq b = false) (hst : (sa && sb) = st) : PE X (.Compare a [.Eq] [b] pos) (tE G Wx st (eEqD fa fb)) := by subst hst; exact n_eqD (by have := hr.un; omega) ha hb' hm
/-- what is known of a class with its own == -/
structure EqC (G : Glo) (C fad : Addr) : Prop where
  hs : PySem.W.findIn G.K (.ref C) "__eq__" = some (some (.ref fad))
  hf : PySem.W.isFn G.K (.ref fad) = true
  hNF : ∀ n ∈ ["NoneType", "bool", "int", "str", "tuple", "list", "dict"], PySem.W.notFirst G.K C (.type n) = true
  hNC : ∀ c' C', G.cls c' = some C' → PySem.W.notFirst G.K C (.ref C') = true
variable {k kx f np : Nat} {fad Ca : Addr} {fd : FuncData} {ps : List Str} {cf : Nat → List W → Mem → Ans W} {cl : Nat}
theorem k_eqI (R : FnR X.prog X.w G X.mg X.base cf k f 2 fad fd ps) (E : EqC G Ca fad) (hc : G.cls cl = some Ca) (hK : X.K = G.K) (hr : Room kx X.A) (hk : k ≤ kx) (hI : ∀ c C, G.cls c = some C → Isi G C) (ha : PE X a (tE G Wx sa fa)) (hb : PE X b (tE G Wx sb fb)) (hm : behindInMarks .Eq b = false) :
    PE X (.Compare a [.Eq] [b] pos) (tE G Wx false (eEqI cf f cl fa fb)) :=
  n_eqI hK (by rw [hK]; exact R.ok) (hr.mono hk) hc (by rw [hK]; exact E.hs) (by rw [hK]; exact E.hf) (by rw [hK]; exact R.b) hI (by rw [hK]; exact E.hNF) (by rw [hK]; exact E.hNC) ha hb hm
theorem k_eqIT (R : FnR X.prog X.w G X.mg X.base cf k f 2 fad fd ps) (E : EqC G Ca fad) (hc : G.cls cl = some Ca) (hK : X.K = G.K) (hr : Room kx X.A) (hk : k ≤ kx) (hI : ∀ c C, G.cls c = some C → Isi G C) (ha : PE X a (tE G Wx sa fa)) (hb : PE X b (tE G Wx sb fb)) (hm : behindInMarks .Eq b = false) :
    PT X (.Compare a [.Eq] [b] pos) (tT G Wx false (eEqI cf f cl fa fb)) :=
  n_eqIT hK (by rw [hK]; exact R.ok) (hr.mono hk) hc (by rw [hK]; exact E.hs) (by rw [hK]; exact E.hf) (by rw [hK]; exact R.b) hI (by rw [hK]; exact E.hNF) (by rw [hK]; exact E.hNC) ha hb hm
/-! ### what is walked; comprehensions -/
variable {tg iter elt : Expr} {ifs : List Expr} {scope : Scope} {own : List (Str × Nat)} {t : Tg} {fi : SI} {adr : Addr} {ks : List String} {us : List Value} {elts : List Expr} {kk : Nat} {tpos : Pos}
theorem k_seq (hK : X.K = G.K) (he : PE X e (tE G Wx sa fe)) : PI X tg e (tI G Wx sa (iUn seqI fe)) := n_seq hK he
theorem k_rng1 (hg : Gl X "range") (hm : X.mg "range" = none) (ha : PE X a (tE G Wx sa fa)) (hs : starEach [a] X.env = [(false, eval a X.env)]) : PI X tg (.Call (.Name "range" p) [a] [] pos) (tI G Wx sa (iUn rngI fa)) := n_rng1 hg hm ha hs
theorem k_rng2 (hg : Gl X "range") (hm : X.mg "range" = none) (ha : PE X a (tE G Wx sa fa)) (hb : PE X b (tE G Wx sb fb)) (hs : starEach [a, b] X.env = [(false, eval a X.env), (false, eval b X.env)]) (hs2 : starEach [b] X.env = [(false, eval b X.env)]) (hst : (sa && sb) = st) :
    PI X tg (.Call (.Name "range" p) [a, b] [] pos) (tI G Wx st (iTwo rngI2 fa fb)) := by subst hst; exact n_rng2 hg hm ha hb hs hs2
theorem k_enm (hK : X.K = G.K) (hg : Gl X "enumerate") (hm : X.mg "enumerate" = none) (he : PE X e (tE G Wx sa fa)) (hs : starEach [e] X.env = [(false, eval e X.env)]) : PI X (.Tuple elts kk tpos) (.Call (.Name "enumerate" p) [e] [] pos) (tI G Wx sa (iUn enmI fa)) := n_enm hK hg hm he hs
theorem k_zip (hK : X.K = G.K) (hg : Gl X "zip") (hm : X.mg "zip" = none) (ha : PE X e (tE G Wx sa fa)) (hb : PE X b (tE G Wx sb fb)) (hs : starEach [e, b] X.env = (false, eval e X.env) :: starEach [b] X.env) (hs2 : starEach [b] X.env = [(false, eval b X.env)]) (hst : (sa && sb) = st) :
    PI X (.Tuple elts kk tpos) (.Call (.Name "zip" p) [e, b] [] pos) (tI G Wx st (iTwo zipI fa fb)) := by subst hst; exact n_zip hK hg hm ha hb hs hs2
theorem k_zipK (hK : X.K = G.K) (hD : KD G adr ks us) (hg : Gl X "zip") (hm : X.mg "zip" = none) (ha : PE X e (tC (.ref adr))) (hb : PE X b (tE G Wx sb fb)) (hs : starEach [e, b] X.env = (false, eval e X.env) :: starEach [b] X.env) (hs2 : starEach [b] X.env = [(false, eval b X.env)]) :
    PI X (.Tuple elts kk tpos) (.Call (.Name "zip" p) [e, b] [] pos) (tI G Wx sb (iUn (zipKI ks) fb)) := n_zipK hK hD hg hm ha hb hs hs2
theorem k_dzip {p2 pos2 : Pos} (hK : X.K = G.K) (hc : X.calm = true) (hD : KD G adr ks us) (hnd : ks.Nodup) (hgd : Gl X "dict") (hmd : X.mg "dict" = none) (hg : Gl X "zip") (hm : X.mg "zip" = none) (ha : PE X e (tC (.ref adr))) (hb : PE X b (tE G Wx sb fb))
    (hs : starEach [e, b] X.env = (false, eval e X.env) :: starEach [b] X.env) (hs2 : starEach [b] X.env = [(false, eval b X.env)]) (hs3 : starEach [.Call (.Name "zip" p2) [e, b] [] pos2] X.env = [(false, eval (.Call (.Name "zip" p2) [e, b] [] pos2) X.env)]) :
    PE X (.Call (.Name "dict" p) [.Call (.Name "zip" p2) [e, b] [] pos2] [] pos) (tE G Wx sb (eUn (dzipK ks) fb)) := n_dzip hK hc hD hnd hgd hmd hg hm ha hb hs hs2 hs3
theorem k_compD {vs : List Nat} (hc : X.calm = true) (hN : X.N.Nodup) (hi : PI X tg iter (tI G Wx sa fi)) (ok : BlkOk X.N X.env.scope scope own) (hv : ∀ i ∈ tvs t, i ∈ own.map (·.2))
    (hg : ∀ (s : Shared) (H : Hp) (C : Addr) (cl : List (Str × Addr)) (fp : List Addr), PG (X.blk s H scope (compEnvC scope cl C X.env) fp) tg (gT G t)) (ht : ∀ (s : Shared) (H : Hp) (C : Addr) (cl : List (Str × Addr)) (fp : List Addr), PTs (X.blk s H scope (compEnvC scope cl C X.env) fp) ifs (tT G WN sc fc))
    (he : ∀ (s : Shared) (H : Hp) (C : Addr) (cl : List (Str × Addr)) (fp : List Addr), PE (X.blk s H scope (compEnvC scope cl C X.env) fp) elt (tE G WN se fe)) (hs : ∀ x, foldedSetIterable iter X.env x = pure x) (hvs : own.map (·.2) = vs) :
    PE X (.ListComp elt [⟨tg, iter, ifs, 0⟩] scope pos) (tE G Wx false (eComp false t vs fi fc fe)) := by subst hvs; exact n_comp hc hN hi ok hv hg ht he hs
theorem k_compO {vs : List Nat} (hc : X.calm = true) (hN : X.N.Nodup) (hi : PI X tg iter (tI G Wx sa fi)) (ok : BlkOk X.N X.env.scope scope own) (hv : ∀ i ∈ tvs t, i ∈ own.map (·.2))
    (hg : ∀ (s : Shared) (H : Hp) (C : Addr) (cl : List (Str × Addr)) (fp : List Addr), PG (X.blk s H scope (compEnvC scope cl C X.env) fp) tg (gT G t)) (ht : ∀ (s : Shared) (H : Hp) (C : Addr) (cl : List (Str × Addr)) (fp : List Addr), PTs (X.blk s H scope (compEnvC scope cl C X.env) fp) ifs (tT G WN sc fc))
    (he : ∀ (s : Shared) (H : Hp) (C : Addr) (cl : List (Str × Addr)) (fp : List Addr), PE (X.blk s H scope (compEnvC scope cl C X.env) fp) elt (tE G WN se fe)) (hs : ∀ x, foldedSetIterable iter X.env x = pure x) (hvs : own.map (·.2) = vs) :
    PE X (.ListComp elt [⟨tg, iter, ifs, 0⟩] scope pos) (tE G Wx false (eComp true t vs fi fc fe)) := by subst hvs; exact n_compO hc hN hi ok hv hg ht he hs
/-! ### statements -/
variable {f' g' : SX} {r body ssA ssB : List Stmt} {s : Stmt} {npos : Pos}
theorem j_nil : PSs X [] (tX G Wx sNil) := x_nil
theorem j_cons (h1 : PS X s (tX G Wx f')) (h2 : PSs X r (tX G Wx g')) : PSs X (s :: r) (tX G Wx (sSeq f' g')) := x_cons h1 h2
theorem j_pass : PS X (.Pass pos) (tX G Wx sNil) := x_pass
theorem j_exp (he : PE X e (tE G Wx sa fa)) (hs : swapsWith e none pos.line X.env = pure false) : PS X (.Expr e pos) (tX G Wx (sExp fa)) := x_exp he hs
theorem j_ret (he : PE X e (tE G Wx sa fa)) : PS X (.Return (some e) pos) (tX G Wx (sRet fa)) := x_ret he
theorem j_retN : PS X (.Return none pos) (tX G Wx sRetN) := x_retN
theorem j_if (hc : PT X c (tT G Wx sc fc)) (ha : PSs X ssA (tX G Wx f')) (hb : PSs X ssB (tX G Wx g')) : PS X (.If c ssA ssB pos) (tX G Wx (sIf fc f' g')) := x_if hc ha hb
theorem j_asg {i : Nat} (he : PE X e (tE G Wx sa fa)) (hN : X.N.Nodup) (hi : X.N[i]? = some x) (hx : Loc X.env.scope x) (hf : X.fn x = true ∨ X.env.scope.names.lookup x = some .local) (hs : swapsWith e (some (.Name x npos)) pos.line X.env = pure false) :
    PS X (.Assign [.Name x npos] e pos) (tX G Wx (sAsg i fa)) := x_asgV he hN hi hx hf hs
theorem j_asgT (he : PE X e (tE G Wx sa fa)) (hg : PG X tg (gT G t)) (hs : swapsWithSole [tg] e pos.line X.env = pure false) (hw : swappedStores [tg] e X.env = pure none) (h1 : (assignEach [tg] X.env).map (·.2) = [assign tg X.env]) :
    PS X (.Assign [tg] e pos) (tX G Wx (sAsgT t fa)) := x_asgT he hg hs hw h1
theorem j_for (hp : PassesOwn (model X.prog X.w) X.A X.env X.xe) (hc : X.calm = true) (hi : PI X tg iter (tI G Wx sa fi)) (hg : PG X tg (gT G t)) (hb : PSs X body (tX G Wx f')) (hs : ∀ x, foldedSetIterable iter X.env x = pure x) :
    PS X (.For tg iter body [] pos) (tX G Wx (sFor t fi f')) := x_for hp hc hi hg hb hs
theorem j_while {n : Nat} (hp : PassesOwn (model X.prog X.w) X.A X.env X.xe) (hc : PT X c (tT G Wx sa fc)) (hb : PSs X body (tX G Wx f')) : PS X (.While c body [] pos) (tX G Wx (sWhile fc f' n)) := x_while hp hc hb
theorem j_par2 {i j : Nat} {x y : Str} {px py pt : Pos} {kt k2 : Nat} {pt2 : Pos} (hc : X.calm = true) (hN : X.N.Nodup) (hi : X.N[i]? = some x) (hj : X.N[j]? = some y) (hij : i ≠ j)
    (hx : X.env.scope.names.lookup x = some .local) (hy : X.env.scope.names.lookup y = some .local) (ha : PA X [a, b] (tA G Wx sa fs))
    (hw : swappedStores [.Tuple [.Name x px, .Name y py] kt pt] (.Tuple [a, b] k2 pt2) X.env = pure (some [x, y]))
    (hs : swapsWithSole [.Tuple [.Name x px, .Name y py] kt pt] (.Tuple [a, b] k2 pt2) pos.line X.env = pure false) :
    PS X (.Assign [.Tuple [.Name x px, .Name y py] kt pt] (.Tuple [a, b] k2 pt2) pos) (tX G Wx (sPar [i, j] fs)) := x_par2 hc hN hi hj hij hx hy ha hw hs
theorem j_setF {f : Nat} {n : Str} {pos' : Pos} (hx : G.fnm[f]? = some n) (hK : X.K = G.K) (hC : ∀ c C, G.cls c = some C → Cls G.K C) (hN : ∀ c C, G.cls c = some C → NoAttr G.K C n) (he : PE X e (tE G Wx sa fe)) (ho : PE X o (tE G Wx so fo)) (hs : swapsWith e (some (.Attribute o n pos')) pos.line X.env = pure false) :
    PS X (.Assign [.Attribute o n pos'] e pos) (tX G Wx (sSetF f fe fo)) := x_setF hx (by rw [hK]; exact hC) (by rw [hK]; exact hN) he ho hs
theorem j_setI {fj : SE} {pos' : Pos} {k : Nat} (hr : Room k X.A) (he : PE X e (tE G Wx sa fe)) (ho : PE X o (tE G Wx so fo)) (hi : PE X i (tE G Wx sb fj))
    (hs : swapsWithSole [.Subscript o i pos'] e pos.line X.env = pure false) (hw : swappedStores [.Subscript o i pos'] e X.env = pure none) (h1 : (assignEach [.Subscript o i pos'] X.env).map (·.2) = [assign (.Subscript o i pos') X.env])
    (ha : ∀ v, assign (.Subscript o i pos') X.env v = (do
      let ov ← holding [v] (eval o X.env)
      let iv ← holding [v, ov] (eval i X.env)
      standAt pos'
      holding [v, ov, iv] (setItem ov iv v)
      release [v, ov, iv] [])) :
    PS X (.Assign [.Subscript o i pos'] e pos) (tX G Wx (sSetI sb fe fo fj)) := x_setI (by have := hr.un; omega) he ho hi hs hw h1 ha
/-- what is known of an own error -/
structure XC1 (P : Program) (K : PySem.W.Frag) (mg : Str → Option Value) (C fI cc cda : Addr) (f : Str) : Prop where
  T : BkX.BkC P K mg C cc cda
  I : BkX.BkI1 K C fI cc cda f
structure XC0 (P : Program) (K : PySem.W.Frag) (mg : Str → Option Value) (C fI cc cda : Addr) : Prop where
  T : BkX.BkC P K mg C cc cda
  I : BkX.BkI0 K C fI cc cda
variable {C fI cc cda : Addr} {fn : Str} {pos2 : Pos} {c' fi' : Nat}
theorem j_rse1 (hcl : G.xcl c' = some C) (hfn : G.fnm[fi']? = some fn) (D1 : XC1 X.prog G.K X.mg C fI cc cda fn) (hK : X.K = G.K) (hc : X.calm = true) (tk : Takes X Wx) (hr : Room k X.A) (ha : PA X [e] (tA G Wx sa fs)) (hg : Gl X x) (hm : X.mg x = some (.ref C)) (hd : (x == ("__debug__" : Str)) = false)
    (he : starEach (e :: []) X.env = (false, eval e X.env) :: starEach [] X.env) (hpl : (backTo pos (starEach [] X.env)).any (·.1) = false) :
    PS X (.Raise (some (.Call (.Name x p) [e] [] pos)) none pos2) (tX G Wx (sRse c' fi' fs)) := x_rse1 hc tk hcl hfn (by rw [hK]; exact D1.T) (by rw [hK]; exact D1.I) hr ha hg hm hd he hpl
theorem j_rse0 (hcl : G.xcl c' = some C) (D1 : XC0 X.prog G.K X.mg C fI cc cda) (hK : X.K = G.K) (hc : X.calm = true) (tk : Takes X Wx) (hr : Room k X.A) (hg : Gl X x) (hm : X.mg x = some (.ref C)) (hd : (x == ("__debug__" : Str)) = false) :
    PS X (.Raise (some (.Call (.Name x p) [] [] pos)) none pos2) (tX G Wx (sRse0 c')) := x_rse0 hc tk hcl (by rw [hK]; exact D1.T) (by rw [hK]; exact D1.I) hr hg hm hd
theorem j_try {h₀ : ExceptHandler} {hds : List ExceptHandler} {l : List Hk} {fb : SX} {n : Nat} (hn : X.N.length = n) (hK : X.K = G.K) (hN : X.N.Nodup) (hs : X.stack = X.env :: X.outer) (hf : X.env.frame = some X.env.locals) (tk : Takes X Wx)
    (hb : ∀ (W : WX) (pn : List (Addr × Obj)) (xe : Value → Shared → Prop), Takes (X.tr pn xe) W → PassesOwn (model X.prog X.w) X.A X.env xe → PSs (X.tr pn xe) body (tX G W fb)) (hh : HKs G X (h₀ :: hds) l) :
    PS X (.Try body (h₀ :: hds) [] [] pos) (tX G Wx (sTry n l fb)) := x_try hn hK hN hs hf tk hb hh
theorem j_any : PSs X r (tX G Wx sNone) := x_any
theorem k_any : PE X e (tE G Wx st eNone) := n_any
end
end Mp
set_option linter.all false
set_option maxRecDepth 100000
/-! Mp: suites in short words; blocks; the empty memory. -/
namespace Mp
open PySem PySem.Spec PyProof.Rows L2
def blkB (N : List Str) (sc scope : Scope) (own : List (Str × Nat)) : Bool :=
  decide (scope.kind = .function) && (scope.names.all fun y => decide (scope.names.lookup y.1 = some y.2)) && (own.all fun p => decide (N[p.2]? = some p.1)) &&
  (scope.names.all fun y => !decide (y.2 = .free) || decide (sc.names.lookup y.1 = some .cell) || decide (sc.names.lookup y.1 = some .free)) &&
  (scope.names.all fun y => !(decide (y.2 = .local) || decide (y.2 = .cell)) || decide (y.1 ∈ own.map (·.1)) || decide (y.1 ∉ N))
theorem blk_ok {N : List Str} {sc scope : Scope} {own : List (Str × Nat)} (h : blkB N sc scope own = true) : BlkOk N sc scope own := by
  unfold blkB at h
  simp only [Bool.and_eq_true, List.all_eq_true, decide_eq_true_eq, Bool.or_eq_true, Bool.not_eq_true', decide_eq_false_iff_not, Bool.or_eq_false_iff] at h
  obtain ⟨⟨⟨⟨h1, h2⟩, h3⟩, h4⟩, h5⟩ := h
  refine ⟨h1, fun y hy => h2 y hy, fun p hp => h3 p hp, fun y hy e => ?_, fun y hy e => ?_⟩
  · rcases h4 y hy with (q | q) | q
    · exact (q e).elim
    · exact .inl q
    · exact .inr q
  · rcases h5 y hy with (q | q) | q
    · rcases e with e | e
      · exact (q.1 e).elim
      · exact (q.2 e).elim
    · exact .inl q
    · exact .inr q
section
variable {G : Glo} {X : Cx} {a : Addr} {oe : Obj} {cls : Value} {d : Option Addr} {nm : Option Nat} {pn : List (Addr × Obj)} {e : Expr} {es : List Expr} {f : Exc → Option D} {g : Exc → Option (List D)} {pos p : Pos}
theorem u_str {s : String} {x : Str} {j : Nat} (h : x = toS s) : PE X (.Constant (.str x) j pos) (tSu G a cls d nm (uC (.str s))) := s_cst (v := .str x) pe_str fun _ _ => by subst h; exact .str _
theorem u_int {n : Int} {j : Nat} : PE X (.Constant (.int n) j pos) (tSu G a cls d nm (uC (.int n))) := s_cst pe_int fun _ _ => .int _
theorem u_bl {n : Bool} {j : Nat} : PE X (.Constant (.bool n) j pos) (tSu G a cls d nm (uC (.bl n))) := s_cst pe_bl fun _ _ => .bl _
theorem u_non {j : Nat} : PE X (.Constant .none j pos) (tSu G a cls d nm (uC .non)) := s_cst pe_non fun _ _ => .non
/-- facts of the errors -/
structure XAll (G : Glo) (fs : List Str) : Prop where
  f : ∀ c C, G.xcl c = some C → XfC G.K C
  c : ∀ c C, G.xcl c = some C → ExcC G.K C
  no : ∀ n ∈ fs, ∀ c C, G.xcl c = some C → PySem.W.findIn G.K (.ref C) n = some none
theorem u_fld {fs : List Str} {i fi : Nat} {n en : Str} {epos : Pos} (hx : G.fnm[fi]? = some n) (hK : X.K = G.K) (A : XAll G fs) (hm : n ∈ fs) (hN : X.N[i]? = some en) (hv : Vis X.env.scope en) (hd : (en == ("__debug__" : Str)) = false) (hcd : (en == ("__classdict__" : Str)) = false)
    (hz : Zc cls d oe) (hf : ∃ vs, oe.data = .fields vs) (hb : attributeBase (.Name en epos) n X.env (eval (.Name en epos) X.env) = eval (.Name en epos) X.env) :
    PE (X.suite a ((a, oe) :: pn)) (.Attribute (.Name en epos) n pos) (tSu G a cls d (some i) (uF fi)) := s_fld hx (by rw [hK]; exact A.f) (by rw [hK]; exact A.no n hm) hN hv hd hcd hz hf hb
theorem u_nil : PA X [] (tSuA G a cls d nm uNil) := sA_nil
theorem u_cons (h1 : PE X e (tSu G a cls d nm f)) (h2 : PA X es (tSuA G a cls d nm g)) (hs : starEach (e :: es) X.env = (false, eval e X.env) :: starEach es X.env) : PA X (e :: es) (tSuA G a cls d nm (uCons f g)) := sA_cons h1 h2 hs
theorem u_tup {k : Nat} (h : PA X es (tSuA G a cls d nm g)) : PE X (.Tuple es k pos) (tSu G a cls d nm (uTup g)) := s_tup h
theorem u_lst (h : PA X es (tSuA G a cls d nm g)) : PE X (.List es pos) (tSu G a cls d nm (uLst g)) := s_lst h
theorem u_ite {fs : List Str} {i : Nat} {en nB : Str} {B : Addr} {c : Expr} {p1 p2 p3 p4 pos : Pos} (hK : X.K = G.K) (A : XAll G fs) (hB : ∀ c C, G.xcl c = some C → PySem.W.kitOne G.K (.ref C) (.ref B) = some true) (hz : Zc cls d oe) (hf : ∃ vs, oe.data = .fields vs)
    (hg : Gl X "isinstance") (hmg : X.mg "isinstance" = none) (hgB : Gl X nB) (hmB : X.mg nB = some (.ref B)) (hdB : (nB == ("__debug__" : Str)) = false) (hN : X.N[i]? = some en) (hv : Vis X.env.scope en) (hd : (en == ("__debug__" : Str)) = false) (hcd : (en == ("__classdict__" : Str)) = false)
    (h1 : starEach [.Name en p2, .Name nB p3] X.env = (false, eval (.Name en p2) X.env) :: starEach [.Name nB p3] X.env) (h2 : starEach [.Name nB p3] X.env = (false, eval (.Name nB p3) X.env) :: starEach [] X.env)
    (he : ∀ whole, isTrue (.Call (.Name "isinstance" p1) [.Name en p2, .Name nB p3] [] p4) X.env whole = (do let v ← whole; standAt (Expr.pos (.Call (.Name "isinstance" p1) [.Name en p2, .Name nB p3] [] p4)); holding [v] (truthy v)))
    (ha : PE (X.suite a ((a, oe) :: pn)) e (tSu G a cls d (some i) f)) :
    PE (X.suite a ((a, oe) :: pn)) (.IfExp (.Call (.Name "isinstance" p1) [.Name en p2, .Name nB p3] [] p4) e c pos) (tSu G a cls d (some i) f) :=
  s_iteB (by rw [hK]; exact A.c) (by rw [hK]; exact hB) hz hf hg hmg hgB hmB hdB hN hv hd hcd h1 h2 he ha ⟨fun _ _ _ _ _ _ h => h.elim⟩
end
theorem asg_nil {xs : List D} {ρ ρ' : Env} (h : asgR .nil (.inr xs) ρ = some ρ') : xs.length = 0 := by
  cases xs with
  | nil => rfl
  | cons _ _ => simp [asgR] at h
theorem asg_cons {a b : Tg} {xs : List D} {ρ ρ' : Env} (h : asgR (.cons a b) (.inr xs) ρ = some ρ') : ∃ y ys ρ1, xs = y :: ys ∧ asgR b (.inr ys) ρ1 = some ρ' := by
  cases xs with
  | nil => simp [asgR] at h
  | cons y ys =>
    simp only [asgR] at h
    split at h
    · exact ⟨y, ys, _, rfl, h⟩
    · cases h
theorem asg_len2 {a b : Tg} {xs : List D} {ρ ρ' : Env} (h : asgR (.cons a (.cons b .nil)) (.inr xs) ρ = some ρ') : xs.length = 2 := by
  obtain ⟨y, ys, _, e1, h1⟩ := asg_cons h
  obtain ⟨z, zs, _, e2, h2⟩ := asg_cons h1
  have := asg_nil h2
  simp [e1, e2, this]
theorem asg_len3 {a b c : Tg} {xs : List D} {ρ ρ' : Env} (h : asgR (.cons a (.cons b (.cons c .nil))) (.inr xs) ρ = some ρ') : xs.length = 3 := by
  obtain ⟨y, ys, _, e1, h1⟩ := asg_cons h
  obtain ⟨z, zs, _, e2, h2⟩ := asg_cons h1
  obtain ⟨u, us, _, e3, h3⟩ := asg_cons h2
  have := asg_nil h3
  simp [e1, e2, e3, this]
theorem kcl_of {K : PySem.W.Frag} {C : Addr} (h1 : PySem.W.isClsIn K C = true) (h2 : PySem.W.typeIn K (.ref C) = some (.type "type")) : ((PySem.W.clsIn K C).isSome && PySem.W.typeIn K (.ref C) == some (.type "type")) = true := by
  have h1' : (PySem.W.clsIn K C).isSome = true := h1
  rw [h1', h2]
  rfl
theorem nf7 {K : PySem.W.Frag} {C : Addr} (a : PySem.W.notFirst K C (.type "NoneType") = true) (b : PySem.W.notFirst K C (.type "bool") = true) (c : PySem.W.notFirst K C (.type "int") = true) (d : PySem.W.notFirst K C (.type "str") = true) (e : PySem.W.notFirst K C (.type "tuple") = true) (f : PySem.W.notFirst K C (.type "list") = true) (g : PySem.W.notFirst K C (.type "dict") = true) :
    ∀ n ∈ ["NoneType", "bool", "int", "str", "tuple", "list", "dict"], PySem.W.notFirst K C (.type n) = true := by
  intro n hn
  simp only [List.mem_cons, List.mem_nil_iff, or_false] at hn
  rcases hn with rfl | rfl | rfl | rfl | rfl | rfl | rfl <;> assumption
theorem ms_empty {G : Glo} {H : Hp} : MS G [[]] H [.dead] where
  len := rfl
  obj := fun l o as e1 e2 => by
    cases l with
    | zero =>
      simp at e1 e2
      subst e1 e2
      intro a ha
      cases ha
    | succ l => simp at e1
  nd := by simp
  g0 := rfl
end Mp
set_option Elab.async false
set_option linter.all false
set_option maxRecDepth 100000
set_option maxHeartbeats 1000000
/-! Mp: further rules: len of any place. -/
namespace Mp
open PySem PySem.Spec PyProof.Rows L2
section
variable {X : Cx} {G : Glo} {Wx : WX} {st sa sb sc so se : Bool} {fa fb fc fe fo fi' : SE} {fs : SA} {a b c e o i : Expr} {es : List Expr} {pos p : Pos} {x : Str}
theorem callR_or {id : Value} {r r' : List V → Hp → VK → Prop} (h : CallR X id r) (h' : CallR X id r') : CallR X id (fun xs H Q => r xs H Q ∨ r' xs H Q) :=
  fun pins s σ H xs us Q I q k => k.elim (h pins s σ H xs us Q I q) (h' pins s σ H xs us Q I q)
theorem k_len (hK : X.K = G.K) (hg : Gl X "len") (hm : X.mg "len" = none) (ha : PE X a (tE G Wx sa fa)) (h1 : starEach [a] X.env = (false, eval a X.env) :: starEach [] X.env) (hpl : (backTo pos (starEach [] X.env)).any (·.1) = false) :
    PE X (.Call (.Name "len" p) [a] [] pos) (tE G Wx sa (eUn lenU fa)) := by
  refine PE.imp (pe_callB (callR_or (bl_len' hK) call_len_seq) hg hm rfl (pa_cons ha pa_nil h1) (by decide) (by decide) h1 hpl) fun σ H Q ⟨m, ρ, μ, S, h⟩ => ?_
  refine ⟨m, ρ, μ, S, h.bnd (st2 := true) id (fun _ => rfl) fun v m1 H1 w μ1 M1 L1 r1 h1 => ?_⟩
  by_cases hp : ∃ l i, w = .ptr l i
  · obtain ⟨l, i, rfl⟩ := hp
    unfold lenU at h1
    dsimp only at h1
    split at h1
    · rename_i xs e
      obtain ⟨q, vs, rfl, h2, h3⟩ := RW.lst_ M1 r1 e
      exact .inr ⟨q, vs, rfl, .inl (.inl h2), by rw [h3.length]; exact h1.now M1 (.int _)⟩
    · exact h1.not_none.elim
  · have hn : npt w := by
      cases w with
      | ptr l i => exact (hp ⟨l, i, rfl⟩).elim
      | _ => trivial
    have e0 : lenU w μ1 = opt ((lenG μ1 [w]).map W.d) μ1 := by
      cases w with
      | ptr l i => exact (hp ⟨l, i, rfl⟩).elim
      | _ => rfl
    rw [e0] at h1
    obtain ⟨u, e, h2⟩ := h1.optd
    cases q : lenG μ1 [w] with
    | none => rw [q] at e; cases e
    | some d =>
      rw [q] at e
      cases e
      refine .inl ⟨m1, μ1, [w], d, M1, .cons ⟨hn, r1⟩ .nil, q, fun v m' H' M' L' r' => ?_⟩
      obtain ⟨_, _, e4, h4⟩ := h2
      cases e4
      exact h4 v m' H' M' L' r'
end
end Mp
set_option linter.all false
/-! Mp: rewriting rules for running what nodes compute. -/
namespace Mp
section
variable {α β : Type} {μ μ' : Mem} {ρ ρ' : Env} {w : W} {x y : D} {e : Exc} {l i j k n : Nat} {b : Bool}
@[simp] theorem ret_eq (a : α) : ret a μ = some (.ok a, μ) := (rfl)
@[simp] theorem opt_some (a : α) : opt (some a) μ = some (.ok a, μ) := (rfl)
@[simp] theorem bnd_ok (a : α) (f : α → Mem → Ans β) : bnd (some (.ok a, μ)) f = f a μ := (rfl)
@[simp] theorem bnd_exc (f : α → Mem → Ans β) : bnd (some (.exc e, μ)) f = some (.exc e, μ) := (rfl)
@[simp] theorem bnd_none (f : α → Mem → Ans β) : bnd none f = none := (rfl)
@[simp] theorem bndg_d (s : Bool) (f : W → Mem → Ans β) : bndg s (some (.ok (.d x), μ)) f = f (.d x) μ := (rfl)
@[simp] theorem bndg_own (s : Bool) (f : W → Mem → Ans β) : bndg s (some (.ok (.own l), μ)) f = f (.own l) μ := (rfl)
@[simp] theorem bndg_ptr (f : W → Mem → Ans β) : bndg true (some (.ok (.ptr l i), μ)) f = f (.ptr l i) μ := (rfl)
@[simp] theorem bndg_exc (s : Bool) (f : W → Mem → Ans β) : bndg s (some (.exc e, μ)) f = some (.exc e, μ) := (rfl)
@[simp] theorem xb_ok (a : α) (f : α → Mem → XA) : xb (some (.ok a, μ)) ρ f = f a μ := (rfl)
@[simp] theorem xb_exc (f : α → Mem → XA) : xb (some (.exc e, μ)) ρ f = some (.ex e, ρ, μ) := (rfl)
@[simp] theorem xbg_d (s : Bool) (f : W → Mem → XA) : xbg s (some (.ok (.d x), μ)) ρ f = f (.d x) μ := (rfl)
@[simp] theorem xbg_own (s : Bool) (f : W → Mem → XA) : xbg s (some (.ok (.own l), μ)) ρ f = f (.own l) μ := (rfl)
@[simp] theorem xbg_ptr (f : W → Mem → XA) : xbg true (some (.ok (.ptr l i), μ)) ρ f = f (.ptr l i) μ := (rfl)
@[simp] theorem xbg_exc (s : Bool) (f : W → Mem → XA) : xbg s (some (.exc e, μ)) ρ f = some (.ex e, ρ, μ) := (rfl)
@[simp] theorem xs_nx (f : Env → Mem → XA) : xs (some (.nx, ρ, μ)) f = f ρ μ := (rfl)
@[simp] theorem xs_rt (f : Env → Mem → XA) : xs (some (.rt w, ρ, μ)) f = some (.rt w, ρ, μ) := (rfl)
@[simp] theorem xs_ex (f : Env → Mem → XA) : xs (some (.ex e, ρ, μ)) f = some (.ex e, ρ, μ) := (rfl)
@[simp] theorem xs_bk (f : Env → Mem → XA) : xs (some (.bk, ρ, μ)) f = some (.bk, ρ, μ) := (rfl)
@[simp] theorem xs_ct (f : Env → Mem → XA) : xs (some (.ct, ρ, μ)) f = some (.ct, ρ, μ) := (rfl)
@[simp] theorem xnx_eq : xnx ρ μ = some (.nx, ρ, μ) := (rfl)
/-! words -/
@[simp] theorem eC_eq : eC x ρ μ = some (.ok (.d x), μ) := (rfl)
def getV (o : Option (Option W)) (μ : Mem) : Ans W := match o with | some (some w) => ret w μ | _ => none
@[simp] theorem getV_eq : getV (some (some w)) μ = some (.ok w, μ) := (rfl)
@[simp] theorem eV_eq : eV i ρ μ = getV ρ[i]? μ := (rfl)
@[simp] theorem negK_eq (a : Int) : negK (.d (.int a)) μ = some (.ok (.d (.int (-a))), μ) := (rfl)
@[simp] theorem eNeg_eq (fa : SE) : eNeg fa ρ μ = bnd (fa ρ μ) negK := (rfl)
@[simp] theorem eBin_eq (op : BOp) (sb : Bool) (fa fb : SE) : eBin op sb fa fb ρ μ = bndg sb (fa ρ μ) fun x μ => bnd (fb ρ μ) fun y μ => opt ((binG op μ x y).map W.d) μ := (rfl)
@[simp] theorem eCmp_eq (op : COp) (sb : Bool) (fa fb : SE) : eCmp op sb fa fb ρ μ = bndg sb (fa ρ μ) fun x μ => bnd (fb ρ μ) fun y μ => opt ((cmp μ op x y).map fun k => .d (.bl k)) μ := (rfl)
def chnK (o2 : COp) (fc : SE) (ρ : Env) (y : W) (μ : Mem) : Option Bool → Ans W
  | some true => bnd (fc ρ μ) fun z μ => opt ((cmp μ o2 y z).map fun k => .d (.bl k)) μ
  | some false => ret (.d (.bl false)) μ
  | none => none
@[simp] theorem chnK_t (o2 : COp) (fc : SE) : chnK o2 fc ρ w μ (some true) = bnd (fc ρ μ) fun z μ => opt ((cmp μ o2 w z).map fun k => .d (.bl k)) μ := (rfl)
@[simp] theorem chnK_f (o2 : COp) (fc : SE) : chnK o2 fc ρ w μ (some false) = some (.ok (.d (.bl false)), μ) := (rfl)
@[simp] theorem eChn_eq (o1 o2 : COp) (sb sc : Bool) (fa fb fc : SE) : eChn o1 o2 sb sc fa fb fc ρ μ = bndg sb (fa ρ μ) fun x μ => bndg sc (fb ρ μ) fun y μ => chnK o2 fc ρ y μ (cmp μ o1 x y) := (rfl)
@[simp] theorem eAnd_eq (fa fb : SE) : eAnd fa fb ρ μ = bnd (fa ρ μ) (andK fb ρ) := (rfl)
@[simp] theorem eOr_eq (fa fb : SE) : eOr fa fb ρ μ = bnd (fa ρ μ) (orK fb ρ) := (rfl)
@[simp] theorem eNot_eq (fa : SE) : eNot fa ρ μ = bnd (fa ρ μ) notK := (rfl)
@[simp] theorem eIte_eq (fc fa fb : SE) : eIte fc fa fb ρ μ = bnd (fc ρ μ) (iteK fa fb ρ) := (rfl)
@[simp] theorem andK_t (f : SE) : andK f ρ (.d (.bl true)) μ = f ρ μ := (rfl)
@[simp] theorem andK_f (f : SE) : andK f ρ (.d (.bl false)) μ = some (.ok (.d (.bl false)), μ) := (rfl)
@[simp] theorem orK_t (f : SE) : orK f ρ (.d (.bl true)) μ = some (.ok (.d (.bl true)), μ) := (rfl)
@[simp] theorem orK_f (f : SE) : orK f ρ (.d (.bl false)) μ = f ρ μ := (rfl)
@[simp] theorem notK_eq : notK (.d (.bl b)) μ = some (.ok (.d (.bl !b)), μ) := (rfl)
@[simp] theorem iteK_t (f g : SE) : iteK f g ρ (.d (.bl true)) μ = f ρ μ := (rfl)
@[simp] theorem iteK_f (f g : SE) : iteK f g ρ (.d (.bl false)) μ = g ρ μ := (rfl)
@[simp] theorem ePost_eq (fa : SE) : ePost fa ρ μ = post true (fa ρ μ) := (rfl)
def truK (o : Option Bool) (μ : Mem) : Ans W := match o with | some b => some (.ok (.d (.bl b)), μ) | none => none
@[simp] theorem truK_eq : truK (some b) μ = some (.ok (.d (.bl b)), μ) := (rfl)
@[simp] theorem post_ok : post true (some (.ok w, μ)) = truK (truth μ w) μ := (rfl)
@[simp] theorem post_exc : post true (some (.exc e, μ)) = some (.exc e, μ) := (rfl)
@[simp] theorem eTup_eq (fs : SA) : eTup fs ρ μ = bnd (fs ρ μ) tupK := (rfl)
@[simp] theorem eLst_eq (own : Bool) (fs : SA) : eLst own fs ρ μ = bnd (fs ρ μ) fun ws μ => mkL own ws μ := (rfl)
@[simp] theorem eSub_eq (sb : Bool) (fa fb : SE) : eSub sb fa fb ρ μ = bndg sb (fa ρ μ) fun x μ => bnd (fb ρ μ) fun y μ => opt (getI μ x y) μ := (rfl)
@[simp] theorem eSlc_eq (s : Bool) (fa : SE) (fl fh : SO) : eSlc s fa fl fh ρ μ = bndg s (fa ρ μ) fun x μ => bnd (fl ρ μ) fun l μ => bnd (fh ρ μ) fun u μ => slL x l u μ := (rfl)
@[simp] theorem eFld_eq (f : Nat) (fa : SE) : eFld f fa ρ μ = bnd (fa ρ μ) fun w μ => opt (getF μ w f) μ := (rfl)
@[simp] theorem eCall_eq (cf : Nat → List W → Mem → Ans W) (f : Nat) (fs : SA) : eCall cf f fs ρ μ = bnd (fs ρ μ) fun ws μ => cf f ws μ := (rfl)
@[simp] theorem eMeth_eq (cf : Nat → List W → Mem → Ans W) (c f : Nat) (fa : SE) (fs : SA) : eMeth cf c f fa fs ρ μ = bndg false (fa ρ μ) fun w μ => if clsOf μ w = some c then bnd (fs ρ μ) fun ws μ => cf f (w :: ws) μ else none := (rfl)
def okK1 (x : Ans W) : Ans W := match x with | some (.ok w, μ') => some (.ok w, μ') | _ => none
@[simp] theorem okK1_ok : okK1 (some (.ok w, μ)) = some (.ok w, μ) := (rfl)
@[simp] theorem propK_eq (cf : Nat → List W → Mem → Ans W) (c f : Nat) : propK cf c f w μ = if clsOf μ w = some c then okK1 (cf f [w] μ) else none := (rfl)
@[simp] theorem eProp_eq (cf : Nat → List W → Mem → Ans W) (c f : Nat) (fa : SE) : eProp cf c f fa ρ μ = bnd (fa ρ μ) (propK cf c f) := (rfl)
@[simp] theorem eNew_eq (cf : Nat → List W → Mem → Ans W) (c f : Nat) (fz : Bool) (fs : SA) : eNew cf c f fz fs ρ μ = bnd (fs ρ μ) fun ws μ => newK c fz μ.length (cf f (.own μ.length :: ws) (μ ++ [.ins c []])) := (rfl)
@[simp] theorem eIsi_eq (ts : List Ty) (fa : SE) : eIsi ts fa ρ μ = bnd (fa ρ μ) fun w μ => opt ((isAny μ w ts).map fun k => .d (.bl k)) μ := (rfl)
@[simp] theorem eBlt_eq (g : Mem → List W → Option D) (fs : SA) : eBlt g fs ρ μ = bnd (fs ρ μ) (bltK g) := (rfl)
@[simp] theorem bltK_eq (g : Mem → List W → Option D) (ws : List W) : bltK g ws μ = opt ((g μ ws).map W.d) μ := (rfl)
@[simp] theorem eUn_eq (k : W → Mem → Ans W) (fa : SE) : eUn k fa ρ μ = bnd (fa ρ μ) k := (rfl)
@[simp] theorem eDupd_eq (fa : SE) : eDupd i j fa ρ μ = bnd (fa ρ μ) (dupdK i j ρ) := (rfl)
@[simp] theorem eEqI_eq (cf : Nat → List W → Mem → Ans W) (f c : Nat) (fa fb : SE) : eEqI cf f c fa fb ρ μ = bndg false (fa ρ μ) fun x μ => bndg false (fb ρ μ) fun y μ => eqIK cf f c x y μ := (rfl)
@[simp] theorem eEqD_eq (fa fb : SE) : eEqD fa fb ρ μ = bndg false (fa ρ μ) fun x μ => bnd (fb ρ μ) fun y μ => eqDK x y μ := (rfl)
@[simp] theorem eComp_t (t : Tg) (vs : List Nat) (fi : SI) (fc fe : SE) : eComp true t vs fi fc fe ρ μ = bnd (fi ρ μ) fun xs μ => bnd (compL t fc fe (Mp.wipe ρ vs) xs μ) compO := (rfl)
@[simp] theorem eComp_f (t : Tg) (vs : List Nat) (fi : SI) (fc fe : SE) : eComp false t vs fi fc fe ρ μ = bnd (fi ρ μ) fun xs μ => bnd (compL t fc fe (Mp.wipe ρ vs) xs μ) compD := (rfl)
@[simp] theorem aNil_eq : aNil ρ μ = some (.ok [], μ) := (rfl)
@[simp] theorem aCons_eq (fa : SE) (fs : SA) : aCons fa fs ρ μ = bndg false (fa ρ μ) fun w μ => bnd (fs ρ μ) fun ws μ => some (.ok (w :: ws), μ) := (rfl)
@[simp] theorem aStar_eq (fa : SE) (fs : SA) : aStar fa fs ρ μ = bnd (fa ρ μ) (starK fs ρ) := (rfl)
@[simp] theorem starK_tup (fs : SA) (xs : List D) : starK fs ρ (.d (.tup xs)) μ = bnd (fs ρ μ) fun ws μ => some (.ok (xs.map W.d ++ ws), μ) := (rfl)
@[simp] theorem starK_lst (fs : SA) (xs : List D) : starK fs ρ (.d (.lst xs)) μ = bnd (fs ρ μ) fun ws μ => some (.ok (xs.map W.d ++ ws), μ) := (rfl)
@[simp] theorem oNo_eq : oNo ρ μ = some (.ok none, μ) := (rfl)
@[simp] theorem oYes_eq (fa : SE) : oYes fa ρ μ = bnd (fa ρ μ) someK := (rfl)
@[simp] theorem someK_eq (a : Int) : someK (.d (.int a)) μ = some (.ok (some a), μ) := (rfl)
@[simp] theorem iUn_eq (k : W → Mem → Ans (List D)) (fa : SE) : iUn k fa ρ μ = bnd (fa ρ μ) k := (rfl)
@[simp] theorem iTwo_eq (k : W → W → Mem → Ans (List D)) (fa fb : SE) : iTwo k fa fb ρ μ = bndg false (fa ρ μ) fun x μ => bnd (fb ρ μ) fun y μ => k x y μ := (rfl)
@[simp] theorem yesK_eq : yesK ρ μ = some (.ok (.d (.bl true)), μ) := (rfl)
@[simp] theorem sNil_eq : sNil ρ μ = some (.nx, ρ, μ) := (rfl)
@[simp] theorem sSeq_eq (f g : SX) : sSeq f g ρ μ = xs (f ρ μ) g := (rfl)
@[simp] theorem sExp_eq (fa : SE) : sExp fa ρ μ = xb (fa ρ μ) ρ fun _ μ => some (.nx, ρ, μ) := (rfl)
@[simp] theorem sRet_eq (fa : SE) : sRet fa ρ μ = xb (fa ρ μ) ρ fun w μ => some (.rt w, ρ, μ) := (rfl)
@[simp] theorem sRetN_eq : sRetN ρ μ = some (.rt (.d .non), ρ, μ) := (rfl)
@[simp] theorem ifK_t (f g : SX) : ifK f g ρ (.d (.bl true)) μ = f ρ μ := (rfl)
@[simp] theorem ifK_f (f g : SX) : ifK f g ρ (.d (.bl false)) μ = g ρ μ := (rfl)
@[simp] theorem sIf_eq (fc : SE) (f g : SX) : sIf fc f g ρ μ = xb (fc ρ μ) ρ (ifK f g ρ) := (rfl)
@[simp] theorem sAsg_eq (fa : SE) : sAsg i fa ρ μ = xb (fa ρ μ) ρ (asgK i ρ) := (rfl)
def nxK (o : Option Env) (μ : Mem) : XA := match o with | some ρ' => xnx ρ' μ | none => none
@[simp] theorem nxK_eq : nxK (some ρ) μ = some (.nx, ρ, μ) := (rfl)
def nxM (ρ : Env) (o : Option Mem) : XA := match o with | some μ' => xnx ρ μ' | none => none
@[simp] theorem nxM_eq : nxM ρ (some μ) = some (.nx, ρ, μ) := (rfl)
@[simp] theorem asgK_eq : asgK i ρ w μ = nxK (put ρ i w) μ := (rfl)
@[simp] theorem asgTK_d (t : Tg) : asgTK t ρ (.d x) μ = nxK (asgR t (.inl x) ρ) μ := (rfl)
@[simp] theorem sAsgT_eq (t : Tg) (fa : SE) : sAsgT t fa ρ μ = xb (fa ρ μ) ρ (asgTK t ρ) := (rfl)
@[simp] theorem sPar_eq (is : List Nat) (fs : SA) : sPar is fs ρ μ = xb (fs ρ μ) ρ (putsK is ρ) := (rfl)
@[simp] theorem putsK_eq (is : List Nat) (ws : List W) : putsK is ρ ws μ = nxK (puts ρ is ws) μ := (rfl)
@[simp] theorem puts_nil : puts ρ [] [] = some ρ := (rfl)
def putsR (is : List Nat) (ws : List W) : Option Env → Option Env | some ρ' => puts ρ' is ws | none => none
@[simp] theorem putsR_eq (is : List Nat) (ws : List W) : putsR is ws (some ρ) = puts ρ is ws := (rfl)
@[simp] theorem puts_cons (is : List Nat) (ws : List W) : puts ρ (i :: is) (w :: ws) = putsR is ws (put ρ i w) := (rfl)
@[simp] theorem put_d : put ρ i (.d x) = if i < ρ.length then some (ρ.set i (some (.d x))) else none := (rfl)
@[simp] theorem put_own : put ρ i (.own l) = if i < ρ.length then some (ρ.set i (some (.own l))) else none := (rfl)
@[simp] theorem sFor_eq (t : Tg) (fi : SI) (f : SX) : sFor t fi f ρ μ = xb (fi ρ μ) ρ fun xs μ => forL t f xs ρ μ := (rfl)
@[simp] theorem sWhile_eq (fc : SE) (f : SX) : sWhile fc f n ρ μ = whileL fc f n ρ μ := (rfl)
@[simp] theorem sSetF_eq (f : Nat) (fe fo : SE) : sSetF f fe fo ρ μ = xbg false (fe ρ μ) ρ fun w μ => xb (fo ρ μ) ρ (setFK f w ρ) := (rfl)
@[simp] theorem setFK_eq (f : Nat) (v : W) : setFK f v ρ w μ = nxM ρ (setF μ w f v) := (rfl)
@[simp] theorem sSetI_eq (sb : Bool) (fe fo fi : SE) : sSetI sb fe fo fi ρ μ = xbg false (fe ρ μ) ρ fun v μ => xbg sb (fo ρ μ) ρ fun x μ => xb (fi ρ μ) ρ (setIK v x ρ) := (rfl)
@[simp] theorem setIK_eq : setIK (.d x) w ρ (.d y) μ = nxM ρ (setI μ w y x) := (rfl)
@[simp] theorem sRse_eq (c f : Nat) (fs : SA) : sRse c f fs ρ μ = xb (fs ρ μ) ρ (rseK c f ρ) := (rfl)
@[simp] theorem rseK_eq (c f : Nat) : rseK c f ρ [.d x] μ = some (.ex ⟨c, [(f, x)]⟩, ρ, μ) := (rfl)
@[simp] theorem sRse0_eq (c : Nat) : sRse0 c ρ μ = some (.ex ⟨c, []⟩, ρ, μ) := (rfl)
@[simp] theorem sTry_eq (hs : List Hk) (f : SX) : sTry n hs f ρ μ = tryK n hs (f ρ μ) := (rfl)
@[simp] theorem tryK_nx (hs : List Hk) : tryK n hs (some (.nx, ρ, μ)) = some (.nx, ρ, μ) := (rfl)
@[simp] theorem tryK_rt (hs : List Hk) : tryK n hs (some (.rt w, ρ, μ)) = some (.rt w, ρ, μ) := (rfl)
@[simp] theorem tryK_ex (hs : List Hk) : tryK n hs (some (.ex e, ρ, μ)) = if ρ.length = n then handleK hs e ρ μ else none := (rfl)
/-! targets -/
@[simp] theorem asgR_var : asgR (.var i) (.inl x) ρ = if i < ρ.length then some (ρ.set i (some (.d x))) else none := (rfl)
@[simp] theorem asgR_nil : asgR .nil (.inr []) ρ = some ρ := (rfl)
def asgC (b : Tg) (xs : List D) : Option Env → Option Env | some ρ' => asgR b (.inr xs) ρ' | none => none
@[simp] theorem asgC_eq (b : Tg) (xs : List D) : asgC b xs (some ρ) = asgR b (.inr xs) ρ := (rfl)
@[simp] theorem asgR_cons (a b : Tg) (xs : List D) : asgR (.cons a b) (.inr (x :: xs)) ρ = asgC b xs (asgR a (.inl x) ρ) := by
  rw [asgR]; rfl
@[simp] theorem asgR_tup (a b : Tg) (xs : List D) : asgR (.cons a b) (.inl (.tup (x :: xs))) ρ = asgC b xs (asgR a (.inl x) ρ) := by
  rw [asgR]; rfl
@[simp] theorem asgR_lst (a b : Tg) (xs : List D) : asgR (.cons a b) (.inl (.lst (x :: xs))) ρ = asgC b xs (asgR a (.inl x) ρ) := by
  rw [asgR]; rfl
@[simp] theorem wipe_nil : Mp.wipe ρ [] = ρ := (rfl)
@[simp] theorem wipe_cons (vs : List Nat) : Mp.wipe ρ (i :: vs) = (Mp.wipe ρ vs).set i none := (rfl)
/-! loops -/
@[simp] theorem forL_nil (t : Tg) (f : SX) : forL t f [] ρ μ = some (.nx, ρ, μ) := (rfl)
def forS (t : Tg) (f : SX) (r : List D) : XA → XA
  | some (.nx, ρ2, μ2) => forL t f r ρ2 μ2
  | some (.ct, ρ2, μ2) => forL t f r ρ2 μ2
  | some (.bk, ρ2, μ2) => xnx ρ2 μ2
  | o => o
def forB (t : Tg) (f : SX) (r : List D) (μ : Mem) : Option Env → XA | some ρ1 => forS t f r (f ρ1 μ) | none => none
theorem forL_cons (t : Tg) (f : SX) (r : List D) : forL t f (x :: r) ρ μ = forB t f r μ (asgR t (.inl x) ρ) := by
  rw [forL]; unfold asgT
  cases asgR t (.inl x) ρ with
  | none => rfl
  | some ρ1 =>
    show _ = forS t f r (f ρ1 μ)
    dsimp only
    cases f ρ1 μ with
    | none => rfl
    | some o => obtain ⟨o, p⟩ := o; cases o <;> rfl
@[simp] theorem forB_eq (t : Tg) (f : SX) (r : List D) : forB t f r μ (some ρ) = forS t f r (f ρ μ) := (rfl)
@[simp] theorem forS_nx (t : Tg) (f : SX) (r : List D) : forS t f r (some (.nx, ρ, μ)) = forL t f r ρ μ := (rfl)
@[simp] theorem forS_ct (t : Tg) (f : SX) (r : List D) : forS t f r (some (.ct, ρ, μ)) = forL t f r ρ μ := (rfl)
@[simp] theorem forS_bk (t : Tg) (f : SX) (r : List D) : forS t f r (some (.bk, ρ, μ)) = some (.nx, ρ, μ) := (rfl)
@[simp] theorem forS_rt (t : Tg) (f : SX) (r : List D) : forS t f r (some (.rt w, ρ, μ)) = some (.rt w, ρ, μ) := (rfl)
@[simp] theorem forS_ex (t : Tg) (f : SX) (r : List D) : forS t f r (some (.ex e, ρ, μ)) = some (.ex e, ρ, μ) := (rfl)
def whlS (c : SE) (f : SX) (n : Nat) : XA → XA
  | some (.nx, ρ2, μ2) => whileL c f n ρ2 μ2
  | some (.ct, ρ2, μ2) => whileL c f n ρ2 μ2
  | some (.bk, ρ2, μ2) => xnx ρ2 μ2
  | o => o
def whlK (c : SE) (f : SX) (n : Nat) (ρ : Env) (w : W) (μ : Mem) : XA := match w with
  | .d (.bl false) => xnx ρ μ
  | .d (.bl true) => whlS c f n (f ρ μ)
  | _ => none
theorem whileL_succ (c : SE) (f : SX) : whileL c f (n + 1) ρ μ = xb (c ρ μ) ρ (whlK c f n ρ) := by
  rw [whileL]; congr 1
@[simp] theorem whlK_f (c : SE) (f : SX) : whlK c f n ρ (.d (.bl false)) μ = some (.nx, ρ, μ) := (rfl)
@[simp] theorem whlK_t (c : SE) (f : SX) : whlK c f n ρ (.d (.bl true)) μ = whlS c f n (f ρ μ) := (rfl)
@[simp] theorem whlS_nx (c : SE) (f : SX) : whlS c f n (some (.nx, ρ, μ)) = whileL c f n ρ μ := (rfl)
@[simp] theorem whlS_rt (c : SE) (f : SX) : whlS c f n (some (.rt w, ρ, μ)) = some (.rt w, ρ, μ) := (rfl)
@[simp] theorem whlS_ex (c : SE) (f : SX) : whlS c f n (some (.ex e, ρ, μ)) = some (.ex e, ρ, μ) := (rfl)
@[simp] theorem compL_nil (t : Tg) (c f : SE) : compL t c f ρ [] μ = some (.ok [], μ) := (rfl)
def cmpY (y : D) : Ans (List D) → Ans (List D) | some (.ok ys, μ3) => some (.ok (y :: ys), μ3) | _ => none
def cmpE (t : Tg) (c f : SE) (ρ : Env) (xs : List D) : Ans W → Ans (List D) | some (.ok (.d y), μ2) => cmpY y (compL t c f ρ xs μ2) | _ => none
def cmpC (t : Tg) (c f : SE) (ρ : Env) (xs : List D) (ρ' : Env) : Ans W → Ans (List D)
  | some (.ok (.d (.bl true)), μ1) => cmpE t c f ρ xs (f ρ' μ1)
  | some (.ok (.d (.bl false)), μ1) => compL t c f ρ xs μ1
  | _ => none
def cmpB (t : Tg) (c f : SE) (ρ : Env) (xs : List D) (μ : Mem) : Option Env → Ans (List D) | some ρ' => cmpC t c f ρ xs ρ' (c ρ' μ) | none => none
theorem compL_cons (t : Tg) (c f : SE) (xs : List D) : compL t c f ρ (x :: xs) μ = cmpB t c f ρ xs μ (asgR t (.inl x) ρ) := by
  rw [compL]; unfold asgT
  cases asgR t (.inl x) ρ with
  | none => rfl
  | some ρ1 =>
    show _ = cmpC t c f ρ xs ρ1 (c ρ1 μ)
    dsimp only
    generalize c ρ1 μ = z
    rcases z with _ | ⟨w | e, μ1⟩
    · rfl
    · rcases w with v | l | ⟨l, i⟩
      · cases v with
        | bl b =>
          cases b with
          | false => rfl
          | true =>
            show _ = cmpE t c f ρ xs (f ρ1 μ1)
            dsimp only
            generalize f ρ1 μ1 = z2
            rcases z2 with _ | ⟨w2 | e2, μ2⟩
            · rfl
            · rcases w2 with v2 | l2 | ⟨l2, i2⟩ <;> rfl
            · rfl
        | _ => rfl
      · rfl
      · rfl
    · rfl
@[simp] theorem cmpB_eq (t : Tg) (c f : SE) (xs : List D) : cmpB t c f ρ xs μ (some ρ') = cmpC t c f ρ xs ρ' (c ρ' μ) := (rfl)
@[simp] theorem cmpC_t (t : Tg) (c f : SE) (xs : List D) : cmpC t c f ρ xs ρ' (some (.ok (.d (.bl true)), μ)) = cmpE t c f ρ xs (f ρ' μ) := (rfl)
@[simp] theorem cmpC_f (t : Tg) (c f : SE) (xs : List D) : cmpC t c f ρ xs ρ' (some (.ok (.d (.bl false)), μ)) = compL t c f ρ xs μ := (rfl)
@[simp] theorem cmpE_eq (t : Tg) (c f : SE) (xs : List D) : cmpE t c f ρ xs (some (.ok (.d y), μ)) = cmpY y (compL t c f ρ xs μ) := (rfl)
@[simp] theorem cmpY_eq (ys : List D) : cmpY y (some (.ok ys, μ)) = some (.ok (y :: ys), μ) := (rfl)
/-! a call's body -/
@[simp] theorem leave_d : leave n (.d x) μ = some (.ok (.d x), μ.take n) := (rfl)
def callE (n : Nat) : XA → Ans W
  | some (.rt w, _, μ') => leave n w μ'
  | some (.nx, _, μ') => ret (.d .non) (μ'.take n)
  | some (.ex e, _, μ') => some (.exc e, μ'.take n)
  | _ => none
theorem callB_eq (np nv : Nat) (f : Env → Mem → XA) (ws : List W) (h : ws.length = np) : callB np nv f ws μ = callE μ.length (f (ws.map some ++ List.replicate (nv - np) none) μ) := by
  subst h; unfold callB; rw [if_pos rfl]; unfold callE; cases f (ws.map some ++ List.replicate (nv - ws.length) none) μ with
  | none => rfl
  | some o => obtain ⟨o, p⟩ := o; cases o <;> rfl
@[simp] theorem callE_rt : callE n (some (.rt w, ρ, μ)) = leave n w μ := (rfl)
@[simp] theorem callE_nx : callE n (some (.nx, ρ, μ)) = some (.ok (.d .non), μ.take n) := (rfl)
@[simp] theorem callE_ex : callE n (some (.ex e, ρ, μ)) = some (.exc e, μ.take n) := (rfl)
/-! comparisons, truth, types -/
@[simp] theorem LIM_eq : LIM = 16777216 := (rfl)
@[simp] theorem cmp_lt (a b : Int) : cmp μ .lt (.d (.int a)) (.d (.int b)) = some (decide (a < b)) := (rfl)
@[simp] theorem cmp_le (a b : Int) : cmp μ .le (.d (.int a)) (.d (.int b)) = some (decide (a ≤ b)) := (rfl)
@[simp] theorem cmp_gt (a b : Int) : cmp μ .gt (.d (.int a)) (.d (.int b)) = some (decide (b < a)) := (rfl)
@[simp] theorem cmp_ge (a b : Int) : cmp μ .ge (.d (.int a)) (.d (.int b)) = some (decide (b ≤ a)) := (rfl)
@[simp] theorem cmp_eq (a b : W) : cmp μ .eq a b = eqW μ a b := (rfl)
@[simp] theorem cmp_ne (a b : W) : cmp μ .ne a b = (eqW μ a b).map fun k => !k := (rfl)
@[simp] theorem cmp_is (a b : W) : cmp μ .is a b = isW μ a b := (rfl)
@[simp] theorem cmp_isN (a b : W) : cmp μ .isN a b = (isW μ a b).map fun k => !k := (rfl)
@[simp] theorem cmp_inn (a b : W) : cmp μ .inn a b = inW μ a b := (rfl)
@[simp] theorem cmp_nin (a b : W) : cmp μ .nin a b = (inW μ a b).map fun k => !k := (rfl)
@[simp] theorem eqW_d : eqW μ (.d x) (.d y) = eqO x y := (rfl)
def isNon : D → Bool | .non => true | _ => false
@[simp] theorem isW_d : isW μ (.d x) (.d .non) = some (isNon x) := by cases x <;> rfl
@[simp] theorem isNon_non : isNon .non = true := (rfl)
@[simp] theorem isNon_bl : isNon (.bl b) = false := (rfl)
@[simp] theorem isNon_int (a : Int) : isNon (.int a) = false := (rfl)
@[simp] theorem isNon_str (s : String) : isNon (.str s) = false := (rfl)
@[simp] theorem isNon_tup (xs : List D) : isNon (.tup xs) = false := (rfl)
@[simp] theorem isNon_lst (xs : List D) : isNon (.lst xs) = false := (rfl)
@[simp] theorem isNon_ins (xs : List (Nat × D)) : isNon (.ins n xs) = false := (rfl)
@[simp] theorem fl_non : fl n .non = true := by cases n <;> rfl
@[simp] theorem fl_bl : fl n (.bl b) = true := by cases n <;> rfl
@[simp] theorem fl_int (a : Int) : fl n (.int a) = true := by cases n <;> rfl
@[simp] theorem fl_str (s : String) : fl n (.str s) = true := by cases n <;> rfl
@[simp] theorem fl_tup (xs : List D) : fl (n + 1) (.tup xs) = flA n xs := by rw [fl]
@[simp] theorem fl_lst (xs : List D) : fl (n + 1) (.lst xs) = flA n xs := by rw [fl]
@[simp] theorem flA_nil : flA n [] = true := by rw [flA]
@[simp] theorem flA_cons (xs : List D) : flA n (x :: xs) = (fl n x && flA n xs) := by rw [flA]
theorem fl_mono : ∀ (n : Nat) (x : D), fl n x = true → fl (n + 1) x = true := by
  have H : ∀ (n : Nat), (∀ x : D, fl n x = true → fl (n + 1) x = true) → ∀ xs : List D, flA n xs = true → flA (n + 1) xs = true := by
    intro n h xs
    induction xs with
    | nil => intro _; rfl
    | cons x xs ih => intro z; rw [flA_cons, Bool.and_eq_true] at z ⊢; exact ⟨h x z.1, ih z.2⟩
  intro n
  induction n with
  | zero => intro x h; cases x <;> simp_all [fl]
  | succ n ih => intro x h; cases x <;> simp_all [fl]
theorem fl_up (x : D) : ∀ {m : Nat} (n : Nat), fl m x = true → m ≤ n → fl n x = true
  | m, 0, h, k => by have : m = 0 := by omega
                     subst this; exact h
  | m, n + 1, h, k => by
    rcases Nat.lt_or_ge n m with q | q
    · have : m = n + 1 := by omega
      subst this; exact h
    · exact fl_mono _ _ (fl_up x n h q)
theorem eqO_fl (hx : fl 8 x = true) (hy : fl 8 y = true) : eqO x y = some (eqD x y) := by unfold eqO; rw [hx, hy]; rfl
@[simp] theorem eqO_eq : eqO x y = if (fl 8 x && fl 8 y) = true then some (eqD x y) else none := (rfl)
@[simp] theorem eqD_int (a c : Int) : eqD (.int a) (.int c) = decide (a = c) := by rw [eqD]; rfl
@[simp] theorem eqD_str (a c : String) : eqD (.str a) (.str c) = decide (a = c) := by rw [eqD]; rfl
@[simp] theorem eqD_non : eqD .non .non = true := by rw [eqD]
@[simp] theorem eqD_bl (a c : Bool) : eqD (.bl a) (.bl c) = decide (a = c) := by rw [eqD]; cases a <;> cases c <;> rfl
@[simp] theorem eqD_lst (a c : List D) : eqD (.lst a) (.lst c) = eqA a c := by rw [eqD]
@[simp] theorem eqD_tup (a c : List D) : eqD (.tup a) (.tup c) = eqA a c := by rw [eqD]
@[simp] theorem eqD_sn (a : String) : eqD (.str a) .non = false := (rfl)
@[simp] theorem eqD_ns (a : String) : eqD .non (.str a) = false := (rfl)
@[simp] theorem eqD_in (a : Int) : eqD (.int a) .non = false := (rfl)
@[simp] theorem eqD_ni (a : Int) : eqD .non (.int a) = false := (rfl)
@[simp] theorem eqD_si (a : String) (c : Int) : eqD (.str a) (.int c) = false := (rfl)
@[simp] theorem eqD_is (a : String) (c : Int) : eqD (.int c) (.str a) = false := (rfl)
@[simp] theorem eqD_sb (a : String) : eqD (.str a) (.bl b) = false := (rfl)
@[simp] theorem eqD_bs (a : String) : eqD (.bl b) (.str a) = false := (rfl)
@[simp] theorem eqD_nb : eqD .non (.bl b) = false := (rfl)
@[simp] theorem eqD_bn : eqD (.bl b) .non = false := (rfl)
@[simp] theorem eqD_bi (c : Int) : eqD (.bl b) (.int c) = decide ((if b then 1 else 0) = c) := (rfl)
@[simp] theorem eqD_ib (c : Int) : eqD (.int c) (.bl b) = decide (c = (if b then 1 else 0)) := (rfl)
@[simp] theorem eqD_tn (a : List D) : eqD (.tup a) .non = false := (rfl)
@[simp] theorem eqD_nt (a : List D) : eqD .non (.tup a) = false := (rfl)
@[simp] theorem eqD_ln (a : List D) : eqD (.lst a) .non = false := (rfl)
@[simp] theorem eqD_nl (a : List D) : eqD .non (.lst a) = false := (rfl)
@[simp] theorem eqD_sl (s : String) (a : List D) : eqD (.str s) (.lst a) = false := (rfl)
@[simp] theorem eqD_ls (s : String) (a : List D) : eqD (.lst a) (.str s) = false := (rfl)
@[simp] theorem eqD_st (s : String) (a : List D) : eqD (.str s) (.tup a) = false := (rfl)
@[simp] theorem eqD_ts (s : String) (a : List D) : eqD (.tup a) (.str s) = false := (rfl)
@[simp] theorem eqD_il (s : Int) (a : List D) : eqD (.int s) (.lst a) = false := (rfl)
@[simp] theorem eqD_li (s : Int) (a : List D) : eqD (.lst a) (.int s) = false := (rfl)
@[simp] theorem eqD_it (s : Int) (a : List D) : eqD (.int s) (.tup a) = false := (rfl)
@[simp] theorem eqD_ti (s : Int) (a : List D) : eqD (.tup a) (.int s) = false := (rfl)
@[simp] theorem eqD_lt (s a : List D) : eqD (.lst s) (.tup a) = false := (rfl)
@[simp] theorem eqD_tl (s a : List D) : eqD (.tup s) (.lst a) = false := (rfl)
@[simp] theorem eqD_bl2 (a : List D) : eqD (.bl b) (.lst a) = false := (rfl)
@[simp] theorem eqD_lb (a : List D) : eqD (.lst a) (.bl b) = false := (rfl)
@[simp] theorem eqD_bt (a : List D) : eqD (.bl b) (.tup a) = false := (rfl)
@[simp] theorem eqD_tb (a : List D) : eqD (.tup a) (.bl b) = false := (rfl)
@[simp] theorem eqA_nil : eqA [] [] = true := by rw [eqA]
@[simp] theorem eqA_cons (xs ys : List D) : eqA (x :: xs) (y :: ys) = (eqD x y && eqA xs ys) := by rw [eqA]
@[simp] theorem eqA_nc (ys : List D) : eqA [] (y :: ys) = false := (rfl)
@[simp] theorem eqA_cn (ys : List D) : eqA (y :: ys) [] = false := (rfl)
@[simp] theorem truth_bl : truth μ (.d (.bl b)) = some b := (rfl)
@[simp] theorem truth_non : truth μ (.d .non) = some false := (rfl)
@[simp] theorem truth_int (a : Int) : truth μ (.d (.int a)) = some (a != 0) := (rfl)
@[simp] theorem truth_tup (xs : List D) : truth μ (.d (.tup xs)) = some (!xs.isEmpty) := (rfl)
@[simp] theorem truth_lst (xs : List D) : truth μ (.d (.lst xs)) = some (!xs.isEmpty) := (rfl)
@[simp] theorem isTy_non (t : Ty) : isTy μ (.d .non) t = some false := (rfl)
@[simp] theorem isTy_bl (t : Ty) : isTy μ (.d (.bl b)) t = some (t == .bool || t == .int) := (rfl)
@[simp] theorem isTy_int (t : Ty) (a : Int) : isTy μ (.d (.int a)) t = some (t == .int) := (rfl)
@[simp] theorem isTy_str (t : Ty) (a : String) : isTy μ (.d (.str a)) t = some (t == .str) := (rfl)
@[simp] theorem isTy_tup (t : Ty) (a : List D) : isTy μ (.d (.tup a)) t = some (t == .tuple) := (rfl)
@[simp] theorem isTy_lst (t : Ty) (a : List D) : isTy μ (.d (.lst a)) t = some (t == .list) := (rfl)
@[simp] theorem isTy_dic (t : Ty) (a : List (D × D)) : isTy μ (.d (.dic a)) t = some (t == .dict) := (rfl)
@[simp] theorem isTy_ins (c : Nat) (a : List (Nat × D)) : isTy μ (.d (.ins c a)) (.cls c) = some true := by simp [isTy]
def orO : Option Bool → Option Bool → Option Bool | some a, some b => some (a || b) | _, _ => none
@[simp] theorem orO_eq (a c : Bool) : orO (some a) (some c) = some (a || c) := (rfl)
@[simp] theorem isAny_nil : isAny μ w [] = some false := (rfl)
@[simp] theorem isAny_cons (t : Ty) (ts : List Ty) : isAny μ w (t :: ts) = orO (isTy μ w t) (isAny μ w ts) := by
  rw [isAny]; cases isTy μ w t <;> cases isAny μ w ts <;> rfl
@[simp] theorem asL_lst (xs : List D) : asL μ (.d (.lst xs)) = some xs := (rfl)
@[simp] theorem asS_lst (xs : List D) : asS μ (.d (.lst xs)) = some xs := (rfl)
@[simp] theorem asS_tup (xs : List D) : asS μ (.d (.tup xs)) = some xs := (rfl)
@[simp] theorem asS_own : asS μ (.own l) = asL μ (.own l) := (rfl)
@[simp] theorem asS_ptr : asS μ (.ptr l i) = asL μ (.ptr l i) := (rfl)
@[simp] theorem asD_d : asD μ (.d x) = some x := (rfl)
/-! tuples, lists -/
def toC (x : D) : Option (List D) → Option (List D) | some xs => some (x :: xs) | none => none
@[simp] theorem toC_eq (xs : List D) : toC x (some xs) = some (x :: xs) := (rfl)
@[simp] theorem toDs_nil : toDs [] = some [] := (rfl)
@[simp] theorem toDs_cons (r : List W) : toDs (.d x :: r) = toC x (toDs r) := by rw [toDs]; cases toDs r <;> rfl
@[simp] theorem toDs_map (xs : List D) : toDs (xs.map W.d) = some xs := by
  induction xs with
  | nil => rfl
  | cons x xs ih => rw [List.map_cons, toDs_cons, ih]; rfl
@[simp] theorem toDs_app (xs : List D) (ws : List W) : toDs (xs.map W.d ++ ws) = (toDs ws).map (xs ++ ·) := by
  induction xs with
  | nil => rw [List.map_nil, List.nil_append]; cases toDs ws <;> rfl
  | cons x xs ih => rw [List.map_cons, List.cons_append, toDs_cons, ih]; cases toDs ws <;> rfl
def tupS : Option (List D) → Mem → Ans W | some xs, μ => if okLen xs then ret (.d (.tup xs)) μ else none | none, _ => none
@[simp] theorem tupK_eq (ws : List W) : tupK ws μ = tupS (toDs ws) μ := by unfold tupK; cases toDs ws <;> rfl
@[simp] theorem tupS_eq (xs : List D) : tupS (some xs) μ = if xs.length ≤ LIM then some (.ok (.d (.tup xs)), μ) else none := by
  unfold tupS okLen; simp only [decide_eq_true_eq]; rfl
def lstS : Option (List D) → Mem → Ans W | some xs, μ => if okLen xs then ret (.d (.lst xs)) μ else none | none, _ => none
@[simp] theorem mkL_f (ws : List W) : mkL false ws μ = lstS (toDs ws) μ := by unfold mkL; cases toDs ws <;> rfl
@[simp] theorem lstS_eq (xs : List D) : lstS (some xs) μ = if xs.length ≤ LIM then some (.ok (.d (.lst xs)), μ) else none := by
  unfold lstS okLen; simp only [decide_eq_true_eq]; rfl
@[simp] theorem compD_eq (xs : List D) : compD xs μ = if xs.length ≤ LIM then some (.ok (.d (.lst xs)), μ) else none := by
  unfold compD okLen; simp only [decide_eq_true_eq]; rfl
@[simp] theorem compO_eq (xs : List D) : compO xs μ = if xs.length ≤ LIM then some (.ok (.own μ.length), μ ++ [.lst (xs.map Cell.d)]) else none := by
  unfold compO okLen; simp only [decide_eq_true_eq]
@[simp] theorem lstD_lst (xs : List D) : lstD (.d (.lst xs)) μ = some (.ok (.d (.lst xs)), μ) := (rfl)
@[simp] theorem lstD_tup (xs : List D) : lstD (.d (.tup xs)) μ = some (.ok (.d (.lst xs)), μ) := (rfl)
@[simp] theorem lstO_lst (xs : List D) : lstO (.d (.lst xs)) μ = some (.ok (.own μ.length), μ ++ [.lst (xs.map Cell.d)]) := (rfl)
@[simp] theorem lstO_tup (xs : List D) : lstO (.d (.tup xs)) μ = some (.ok (.own μ.length), μ ++ [.lst (xs.map Cell.d)]) := (rfl)
@[simp] theorem seqI_lst (xs : List D) : seqI (.d (.lst xs)) μ = some (.ok xs, μ) := (rfl)
@[simp] theorem seqI_tup (xs : List D) : seqI (.d (.tup xs)) μ = some (.ok xs, μ) := (rfl)
@[simp] theorem seqI_str (s : String) : seqI (.d (.str s)) μ = some (.ok (s.toList.map fun c => .str (String.ofList [c])), μ) := (rfl)
@[simp] theorem enmI_lst (xs : List D) : enmI (.d (.lst xs)) μ = some (.ok (enum 0 xs), μ) := (rfl)
def okR (j : Int) : Bool := decide (j < 4611686018427387904 ∧ -4611686018427387904 ≤ j)
theorem rngI_eq (j : Int) (h : okR j = true) : rngI (.d (.int j)) μ = some (.ok ((List.range j.toNat).map fun (k : Nat) => .int (0 + (k : Int))), μ) := by
  show (if _ then _ else _) = _
  rw [if_pos (of_decide_eq_true h)]; rfl
theorem okR_nat {n : Nat} (h : n ≤ 16777216) : okR (n : Int) = true := by unfold okR; rw [decide_eq_true_eq]; omega
theorem okR_small {j : Int} (h : -1000 ≤ j ∧ j < 16777217) : okR j = true := by unfold okR; rw [decide_eq_true_eq]; omega
/-- the numbers below n -/
def nums (n : Nat) : List D := (List.range n).map fun (k : Nat) => .int (k : Int)
@[simp] theorem nums_length : (nums n).length = n := by simp [nums]
theorem mem_nums {n : Nat} : x ∈ nums n ↔ ∃ k : Nat, k < n ∧ x = .int k := by
  simp only [nums, List.mem_map, List.mem_range]
  exact ⟨fun ⟨k, a, b⟩ => ⟨k, a, b.symm⟩, fun ⟨k, a, b⟩ => ⟨k, a, b.symm⟩⟩
theorem rngI_nat (h : n ≤ 16777216) : rngI (.d (.int (n : Int))) μ = some (.ok (nums n), μ) := by
  rw [rngI_eq _ (okR_nat h)]
  simp [nums]
theorem rngI_int {j : Int} (h0 : 0 ≤ j) (h : j ≤ 16777216) : rngI (.d (.int j)) μ = some (.ok (nums j.toNat), μ) := by
  rw [rngI_eq _ (okR_small (by omega))]
  simp [nums]
@[simp] theorem zipI_eq (a c : List D) : zipI (.d (.lst a)) (.d (.lst c)) μ = if a.length = c.length then some (.ok (zipD a c), μ) else none := (rfl)
@[simp] theorem getI_tup (a : Int) (xs : List D) : getI μ (.d (.tup xs)) (.d (.int a)) = (atN xs a).map W.d := (rfl)
@[simp] theorem getI_lst (a : Int) (xs : List D) : getI μ (.d (.lst xs)) (.d (.int a)) = (atN xs a).map W.d := (rfl)
@[simp] theorem getI_dic (s : String) (xs : List (D × D)) : getI μ (.d (.dic xs)) (.d (.str s)) = (dget xs (.str s)).map W.d := (rfl)
@[simp] theorem getF_ins (f : Nat) (fs : List (Nat × D)) : getF μ (.d (.ins n fs)) f = (fs.lookup f).map W.d := (rfl)
@[simp] theorem clsOf_ins (fs : List (Nat × D)) : clsOf μ (.d (.ins n fs)) = some n := (rfl)
/-! arithmetic -/
@[simp] theorem bin_add (a c : Int) : binG .add μ (.d (.int a)) (.d (.int c)) = some (.int (a + c)) := (rfl)
@[simp] theorem bin_sub (a c : Int) : binG .sub μ (.d (.int a)) (.d (.int c)) = some (.int (a - c)) := (rfl)
@[simp] theorem bin_mul (a c : Int) : binG .mul μ (.d (.int a)) (.d (.int c)) = if (-P64 < a ∧ a < P64) ∨ (-P64 < c ∧ c < P64) then some (.int (a * c)) else none := (rfl)
@[simp] theorem bin_fdiv (a c : Int) : binG .fdiv μ (.d (.int a)) (.d (.int c)) = if 0 < c ∧ c < 1073741824 then some (.int (a / c)) else none := (rfl)
@[simp] theorem bin_mod (a c : Int) : binG .mod μ (.d (.int a)) (.d (.int c)) = if 0 < c then some (.int (a % c)) else none := (rfl)
@[simp] theorem bin_pow (a c : Int) : binG .pow μ (.d (.int a)) (.d (.int c)) = if 0 ≤ c ∧ c ≤ 1000 ∧ 0 ≤ a ∧ a < 1000 then some (.int (a ^ c.toNat)) else none := (rfl)
@[simp] theorem bin_addL (a c : List D) : binG .add μ (.d (.lst a)) (.d (.lst c)) = if a.length + c.length ≤ LIM then some (.lst (a ++ c)) else none := (rfl)
@[simp] theorem bin_addT (a c : List D) : binG .add μ (.d (.tup a)) (.d (.tup c)) = if a.length + c.length ≤ LIM then some (.tup (a ++ c)) else none := (rfl)
@[simp] theorem P64_eq : P64 = 18446744073709551616 := (rfl)
@[simp] theorem b_int_int (a : Int) : b_int μ [.d (.int a)] = some (.int a) := (rfl)
@[simp] theorem b_max2_eq (a c : Int) : b_max2 μ [.d (.int a), .d (.int c)] = some (.int (if c > a then c else a)) := (rfl)
@[simp] theorem b_min2_eq (a c : Int) : b_min2 μ [.d (.int a), .d (.int c)] = some (.int (if c < a then c else a)) := (rfl)
@[simp] theorem lenU_d : lenU (.d x) μ = opt ((lenG μ [.d x]).map W.d) μ := (rfl)
@[simp] theorem lenU_own : lenU (.own l) μ = opt ((lenG μ [.own l]).map W.d) μ := (rfl)
theorem lenU_ptr {xs : List D} (h : asL μ (.ptr l i) = some xs) : lenU (.ptr l i) μ = some (.ok (.d (.int xs.length)), μ) := by simp [lenU, h]
@[simp] theorem lenG_lst (xs : List D) : lenG μ [.d (.lst xs)] = some (.int xs.length) := (rfl)
@[simp] theorem lenG_tup (xs : List D) : lenG μ [.d (.tup xs)] = some (.int xs.length) := (rfl)
@[simp] theorem b_tuple_lst (xs : List D) : b_tuple μ [.d (.lst xs)] = some (.tup xs) := (rfl)
end
end Mp
set_option linter.all false
set_option maxRecDepth 100000
set_option maxHeartbeats 4000000
namespace K01
open Mp
def g_PARTS : D := .dic [(.str "check", .tup [.str "room", .str "standing", .str "units"]), (.str "deep", .tup [.int 1, .int 2, .int 3, .int 4]), (.str "parts", .tup [.str "any", .str "whole"]), (.str "period", .tup [.str "own", .str "now", .str "open"]), (.str "rate", .tup [.str "own", .str "now"])]
def ks_PARTS : List String := ["check", "deep", "parts", "period", "rate"]
/-- is_integer -/
def sem_0 (cf : Nat → List W → Mem → Ans W) (ρ : Env) (μ : Mem) : XA := (sSeq (sRet (eAnd (eIsi [.int] (eV 0)) (eAnd (eNot (eIsi [.bool] (eV 0))) (eCmp .ge true (eV 0) (eV 1))))) sNil) ρ μ
/-- is_word -/
def sem_1 (cf : Nat → List W → Mem → Ans W) (ρ : Env) (μ : Mem) : XA := (sSeq (sIf (eCmp .eq true (eV 0) (eC (.str "deep"))) (sSeq (sRet (eAnd (eCall cf 0 (aCons (eV 1) (aCons (eC (.int 1)) aNil))) (eCmp .inn true (eV 1) (eSub true (eC g_PARTS) (eV 0))))) sNil) sNil) (sSeq (sRet (eAnd (eIsi [.str] (eV 1)) (eCmp .inn true (eV 1) (eSub true (eC g_PARTS) (eV 0))))) sNil)) ρ μ
def lp_2_0 (cf : Nat → List W → Mem → Ans W) (ρ : Env) (μ : Mem) : XA := (sSeq (sIf (eNot (ePost (eCall cf 1 (aCons (eV 7) (aCons (eV 8) aNil))))) (sSeq (sRse 1 1 (aCons (eV 7) aNil)) sNil) sNil) sNil) ρ μ
/-- Rule.__init__ -/
def sem_2 (cf : Nat → List W → Mem → Ans W) (ρ : Env) (μ : Mem) : XA := (sSeq (sAsg 6 (eTup (aCons (eV 1) (aCons (eV 2) (aCons (eV 3) (aCons (eV 4) (aCons (eV 5) aNil))))))) (sSeq (sFor (.cons (.var 7) (.cons (.var 8) .nil)) (iUn (zipKI ks_PARTS) (eV 6)) (lp_2_0 cf)) (sSeq (sSetF 0 (eUn (dzipK ks_PARTS) (eV 6)) (eV 0)) sNil))) ρ μ
/-- Rule.check -/
def sem_3 (cf : Nat → List W → Mem → Ans W) (ρ : Env) (μ : Mem) : XA := (sSeq (sRet (eSub true (eFld 0 (eV 0)) (eC (.str "check")))) sNil) ρ μ
/-- Rule.deep -/
def sem_4 (cf : Nat → List W → Mem → Ans W) (ρ : Env) (μ : Mem) : XA := (sSeq (sRet (eSub true (eFld 0 (eV 0)) (eC (.str "deep")))) sNil) ρ μ
/-- Rule.parts -/
def sem_5 (cf : Nat → List W → Mem → Ans W) (ρ : Env) (μ : Mem) : XA := (sSeq (sRet (eSub true (eFld 0 (eV 0)) (eC (.str "parts")))) sNil) ρ μ
/-- Rule.period -/
def sem_6 (cf : Nat → List W → Mem → Ans W) (ρ : Env) (μ : Mem) : XA := (sSeq (sRet (eSub true (eFld 0 (eV 0)) (eC (.str "period")))) sNil) ρ μ
/-- Rule.rate -/
def sem_7 (cf : Nat → List W → Mem → Ans W) (ρ : Env) (μ : Mem) : XA := (sSeq (sRet (eSub true (eFld 0 (eV 0)) (eC (.str "rate")))) sNil) ρ μ
/-- Rule.changed -/
def sem_8 (cf : Nat → List W → Mem → Ans W) (ρ : Env) (μ : Mem) : XA := (sSeq (sIf (eOr (eNot (ePost (eIsi [.str] (eV 1)))) (eCmp .nin true (eV 1) (eC g_PARTS))) (sSeq (sRse 2 1 (aCons (eV 1) aNil)) sNil) sNil) (sSeq (sAsg 3 (eDupd 1 2 (eFld 0 (eV 0)))) (sSeq (sRet (eNew cf 0 2 true (aCons (eSub true (eV 3) (eC (.str "check"))) (aCons (eSub true (eV 3) (eC (.str "deep"))) (aCons (eSub true (eV 3) (eC (.str "parts"))) (aCons (eSub true (eV 3) (eC (.str "period"))) (aCons (eSub true (eV 3) (eC (.str "rate"))) aNil))))))) sNil))) ρ μ
/-- Rule.__eq__ -/
def sem_9 (cf : Nat → List W → Mem → Ans W) (ρ : Env) (μ : Mem) : XA := (sSeq (sRet (eAnd (eIsi [(.cls 0)] (eV 1)) (eEqD (eFld 0 (eV 0)) (eFld 0 (eV 1))))) sNil) ρ μ
def lp_10_0 (cf : Nat → List W → Mem → Ans W) (ρ : Env) (μ : Mem) : XA := (sSeq (sAsg 2 (eBin .mod true (eBlt b_int (aCons (eBin .add true (eBin .add true (eBin .mul true (eV 2) (eC (.int 48271))) (eBin .mod true (eBlt b_int (aCons (eV 3) aNil)) (eC (.int 2147483629)))) (eC (.int 1))) aNil)) (eC (.int 2147483647)))) sNil) ρ μ
/-- _law_mix -/
def sem_10 (cf : Nat → List W → Mem → Ans W) (ρ : Env) (μ : Mem) : XA := (sSeq (sAsg 2 (eV 1)) (sSeq (sFor (.var 3) (iUn seqI (eV 0)) (lp_10_0 cf)) (sSeq (sRet (eLst true (aCons (eV 2) (aCons (eUn lstO (eV 0)) (aCons (eC (.int 0)) aNil))))) sNil))) ρ μ
/-- _law_next -/
def sem_11 (cf : Nat → List W → Mem → Ans W) (ρ : Env) (μ : Mem) : XA := (sSeq (sAsg 2 (eSub true (eBin .add true (eSub true (eV 0) (eC (.int 1))) (eLst false (aCons (eC (.int 0)) aNil))) (eBin .mod true (eBlt b_int (aCons (eSub true (eV 0) (eC (.int 2))) aNil)) (eBlt b_max2 (aCons (eC (.int 1)) (aCons (eUn lenU (eSub true (eV 0) (eC (.int 1)))) aNil)))))) (sSeq (sIf (eCmp .ge true (eV 2) (eBin .pow true (eC (.int 10)) (eC (.int 18)))) (sSeq (sSetI true (eBin .fdiv true (eV 2) (eV 1)) (eSub true (eV 0) (eC (.int 1))) (eBin .mod true (eBlt b_int (aCons (eSub true (eV 0) (eC (.int 2))) aNil)) (eUn lenU (eSub true (eV 0) (eC (.int 1)))))) (sSeq (sRet (eBin .mod true (eBlt b_int (aCons (eV 2) aNil)) (eV 1))) sNil)) sNil) (sSeq (sSetI true (eBin .mod true (eBlt b_int (aCons (eBin .add true (eBin .add true (eBin .mul true (eSub true (eV 0) (eC (.int 0))) (eC (.int 48271))) (eBin .mul true (eV 2) (eC (.int 69621)))) (eC (.int 11))) aNil)) (eC (.int 2147483647))) (eV 0) (eC (.int 0))) (sSeq (sSetI true (eBin .add true (eSub true (eV 0) (eC (.int 2))) (eC (.int 1))) (eV 0) (eC (.int 2))) (sSeq (sRet (eBin .mod true (eBlt b_int (aCons (eBin .fdiv true (eSub true (eV 0) (eC (.int 0))) (eC (.int 7))) aNil)) (eV 1))) sNil))))) ρ μ
def cc_12_0 (cf : Nat → List W → Mem → Ans W) (ρ : Env) (μ : Mem) : Ans W := (eNot (ePost (eCall cf 12 (aCons (eSub true (eV 0) (eV 2)) (aCons (eSub true (eV 1) (eV 2)) aNil))))) ρ μ
def el_12_1 (cf : Nat → List W → Mem → Ans W) (ρ : Env) (μ : Mem) : Ans W := (eV 2) ρ μ
/-- _law_alike -/
def sem_12 (cf : Nat → List W → Mem → Ans W) (ρ : Env) (μ : Mem) : XA := (sSeq (sIf (ePost (eIsi [.dict] (eV 1))) (sSeq (sRet (eAnd (eIsi [.dict] (eV 0)) (eAnd (eCall cf 12 (aCons (eUn lstD (eV 0)) (aCons (eUn lstD (eV 1)) aNil))) (eCmp .eq true (eV 0) (eV 1))))) sNil) sNil) (sSeq (sIf (ePost (eIsi [.tuple, .list] (eV 1))) (sSeq (sIf (eOr (eNot (ePost (eIsi [.tuple, .list] (eV 0)))) (eCmp .ne true (eIsi [.list] (eV 0)) (eIsi [.list] (eV 1)))) (sSeq (sRet (eC (.bl false))) sNil) sNil) (sSeq (sIf (eCmp .ne true (eUn lenU (eV 0)) (eUn lenU (eV 1))) (sSeq (sRet (eC (.bl false))) sNil) sNil) (sSeq (sRet (eCmp .eq true (eComp false (.var 2) [2] (iUn rngI (eUn lenU (eV 1))) (cc_12_0 cf) (el_12_1 cf)) (eLst false aNil))) sNil))) sNil) (sSeq (sIf (eOr (eCmp .is true (eV 1) (eC .non)) (ePost (eIsi [.str] (eV 1)))) (sSeq (sRet (eAnd (eCmp .eq true (eV 0) (eV 1)) (eCmp .eq true (eIsi [.str] (eV 0)) (eIsi [.str] (eV 1))))) sNil) sNil) (sSeq (sRet (eAnd (eIsi [.int] (eV 0)) (eAnd (eCmp .eq true (eIsi [.bool] (eV 0)) (eIsi [.bool] (eV 1))) (eCmp .eq true (eV 0) (eV 1))))) sNil)))) ρ μ
/-- _law_pick -/
def sem_13 (cf : Nat → List W → Mem → Ans W) (ρ : Env) (μ : Mem) : XA := (sSeq (sRet (eSub false (eV 1) (eCall cf 11 (aCons (eV 0) (aCons (eUn lenU (eV 1)) aNil))))) sNil) ρ μ
/-- _law_parts -/
def sem_14 (cf : Nat → List W → Mem → Ans W) (ρ : Env) (μ : Mem) : XA := (sSeq (sAsg 0 (eLst false (aCons (eTup (aCons (eC (.str "check")) (aCons (eLst false (aCons (eC (.str "room")) (aCons (eC (.str "standing")) (aCons (eC (.str "units")) aNil)))) aNil))) (aCons (eTup (aCons (eC (.str "deep")) (aCons (eLst false (aCons (eC (.int 1)) (aCons (eC (.int 2)) (aCons (eC (.int 3)) (aCons (eC (.int 4)) aNil))))) aNil))) (aCons (eTup (aCons (eC (.str "parts")) (aCons (eLst false (aCons (eC (.str "any")) (aCons (eC (.str "whole")) aNil))) aNil))) aNil))))) (sSeq (sRet (eBin .add true (eV 0) (eLst false (aCons (eTup (aCons (eC (.str "period")) (aCons (eLst false (aCons (eC (.str "own")) (aCons (eC (.str "now")) (aCons (eC (.str "open")) aNil)))) aNil))) (aCons (eTup (aCons (eC (.str "rate")) (aCons (eLst false (aCons (eC (.str "own")) (aCons (eC (.str "now")) aNil))) aNil))) aNil))))) sNil)) ρ μ
def el_15_0 (cf : Nat → List W → Mem → Ans W) (ρ : Env) (μ : Mem) : Ans W := (eCall cf 13 (aCons (eV 0) (aCons (eV 2) aNil))) ρ μ
/-- _law_words -/
def sem_15 (cf : Nat → List W → Mem → Ans W) (ρ : Env) (μ : Mem) : XA := (sSeq (sRet (eComp true (.cons (.var 1) (.cons (.var 2) .nil)) [1, 2] (iUn seqI (eCall cf 14 aNil)) yesK (el_15_0 cf))) sNil) ρ μ
/-- _law_built -/
def sem_16 (cf : Nat → List W → Mem → Ans W) (ρ : Env) (μ : Mem) : XA := (sSeq (sRet (eNew cf 0 2 true (aCons (eSub true (eV 0) (eC (.int 0))) (aCons (eSub true (eV 0) (eC (.int 1))) (aCons (eSub true (eV 0) (eC (.int 2))) (aCons (eSub true (eV 0) (eC (.int 3))) (aCons (eSub true (eV 0) (eC (.int 4))) aNil))))))) sNil) ρ μ
def lp_17_0 (cf : Nat → List W → Mem → Ans W) (ρ : Env) (μ : Mem) : XA := (sSeq (sIf (eOr (ePost (eIsi [.bool] (eV 1))) (eCmp .nin true (eV 1) (eV 3))) (sSeq (sRet (eV 2)) sNil) sNil) sNil) ρ μ
/-- _law_fault -/
def sem_17 (cf : Nat → List W → Mem → Ans W) (ρ : Env) (μ : Mem) : XA := (sSeq (sFor (.cons (.cons (.var 2) (.cons (.var 3) .nil)) (.cons (.var 1) .nil)) (iTwo zipI (eCall cf 14 aNil) (eV 0)) (lp_17_0 cf)) (sSeq (sRet (eC .non)) sNil)) ρ μ
/-- _law_tried -/
def sem_18 (cf : Nat → List W → Mem → Ans W) (ρ : Env) (μ : Mem) : XA := (sSeq (sAsg 4 (eC .non)) (sSeq (sTry 6 [⟨1, (some 5), .inl (4, (uTup (uCons (uC (.str "rule")) (uCons (uF 1) uNil))))⟩, ⟨2, (some 5), .inl (4, (uTup (uCons (uC (.str "part")) (uCons (uF 1) uNil))))⟩] (sSeq (sAsg 4 (eIte (eCmp .is true (eV 0) (eC .non)) (eCall cf 16 (aCons (eV 1) aNil)) (eMeth cf 0 8 (eV 0) (aCons (eV 2) (aCons (eV 3) aNil))))) sNil)) (sSeq (sRet (eV 4)) sNil))) ρ μ
/-- _law_told -/
def sem_19 (cf : Nat → List W → Mem → Ans W) (ρ : Env) (μ : Mem) : XA := (sSeq (sRet (eLst false (aCons (eProp cf 0 3 (eV 0)) (aCons (eProp cf 0 4 (eV 0)) (aCons (eProp cf 0 5 (eV 0)) (aCons (eProp cf 0 6 (eV 0)) (aCons (eProp cf 0 7 (eV 0)) aNil))))))) sNil) ρ μ
def lp_20_0 (cf : Nat → List W → Mem → Ans W) (ρ : Env) (μ : Mem) : XA := (sSeq (sSetI false (eCall cf 13 (aCons (eV 1) (aCons (eV 2) aNil))) (eV 4) (eCall cf 11 (aCons (eV 1) (aCons (eC (.int 5)) aNil)))) sNil) ρ μ
def lp_20_1 (cf : Nat → List W → Mem → Ans W) (ρ : Env) (μ : Mem) : XA := (sSeq (sAsg 4 (eCall cf 15 (aCons (eV 1) aNil))) (sSeq (sFor (.var 5) (iUn rngI (eCall cf 11 (aCons (eV 1) (aCons (eC (.int 3)) aNil)))) (lp_20_0 cf)) (frzK 4 (sSeq (sPar [6, 7] (aCons (eCall cf 18 (aCons (eC .non) (aCons (eV 4) (aCons (eC .non) (aCons (eC .non) aNil))))) (aCons (eCall cf 17 (aCons (eV 4) aNil)) aNil))) (sSeq (sIf (eCmp .isN true (eV 7) (eC .non)) (sSeq (sIf (eCmp .ne true (eV 6) (eTup (aCons (eC (.str "rule")) (aCons (eV 7) aNil)))) (sSeq (sRet (eC (.bl false))) sNil) sNil) sNil) (sSeq (sIf (eOr (eNot (ePost (eCall cf 12 (aCons (eCall cf 19 (aCons (eV 6) aNil)) (aCons (eV 4) aNil))))) (eOr (eNot (eEqI cf 9 0 (eV 6) (eCall cf 16 (aCons (eV 4) aNil)))) (eEqI cf 9 0 (eV 6) (eV 4)))) (sSeq (sRet (eC (.bl false))) sNil) sNil) (sSeq (sAsg 8 (eCall cf 11 (aCons (eV 1) (aCons (eC (.int 7)) aNil)))) (sSeq (sAsg 9 (eIte (eCmp .lt true (eV 8) (eC (.int 5))) (eSub true (eSub true (eCall cf 14 aNil) (eV 8)) (eC (.int 0))) (eCall cf 13 (aCons (eV 1) (aCons (eLst false (aCons (eC (.str "Check")) (aCons (eC .non) (aCons (eC (.int 5)) (aCons (eC (.str "")) (aCons (eLst false (aCons (eC (.str "deep")) aNil)) (aCons (eC (.str "words")) aNil))))))) aNil))))) (sSeq (sAsg 10 (eCall cf 13 (aCons (eV 1) (aCons (eBin .add true (eSub true (eSub true (eCall cf 14 aNil) (eBin .mod true (eV 8) (eC (.int 5)))) (eC (.int 1))) (eSlc true (eV 2) oNo (oYes (eC (.int 9))))) aNil)))) (sSeq (sAsg 11 (eCall cf 18 (aCons (eV 6) (aCons (eC .non) (aCons (eV 9) (aCons (eV 10) aNil)))))) (sSeq (sIf (eCmp .gt true (eV 8) (eC (.int 4))) (sSeq (sIf (eNot (ePost (eCall cf 12 (aCons (eV 11) (aCons (eTup (aCons (eC (.str "part")) (aCons (eV 9) aNil))) aNil))))) (sSeq (sRet (eC (.bl false))) sNil) sNil) sNil) (sSeq (sIf (eOr (ePost (eIsi [.bool] (eV 10))) (eCmp .nin false (eV 10) (eSub true (eSub true (eCall cf 14 aNil) (eV 8)) (eC (.int 1))))) (sSeq (sIf (eCmp .ne true (eV 11) (eTup (aCons (eC (.str "rule")) (aCons (eV 9) aNil)))) (sSeq (sRet (eC (.bl false))) sNil) sNil) sNil) (sSeq (sIf (eOr (eCmp .ne true (eCall cf 19 (aCons (eV 11) aNil)) (eBin .add true (eBin .add true (eSlc true (eV 4) oNo (oYes (eV 8))) (eLst false (aCons (eV 10) aNil))) (eSlc true (eV 4) (oYes (eBin .add true (eV 8) (eC (.int 1)))) oNo))) (eCmp .ne true (eEqI cf 9 0 (eV 11) (eV 6)) (eCmp .eq true (eV 10) (eSub true (eV 4) (eV 8))))) (sSeq (sRet (eC (.bl false))) sNil) sNil) sNil)) sNil)) sNil))))))) sNil))))) ρ μ
/-- law -/
def sem_20 (cf : Nat → List W → Mem → Ans W) (ρ : Env) (μ : Mem) : XA := (sSeq (sAsg 1 (eCall cf 10 (aCons (eV 0) (aCons (eC (.int 1)) aNil)))) (sSeq (sAsg 2 (eLst false (aCons (eC (.str "room")) (aCons (eC (.str "own")) (aCons (eC (.str "now")) (aCons (eC (.str "any")) (aCons (eC (.str "")) (aCons (eC (.str "Any")) (aCons (eC .non) (aCons (eC (.int 0)) (aCons (eC (.int 5)) (aCons (eC (.bl true)) (aCons (eC (.str "1")) (aCons (eLst false (aCons (eC (.str "own")) aNil)) (aCons (eC (.int 2)) (aCons (eC (.str "units")) (aCons (eC (.str "open")) aNil))))))))))))))))) (sSeq (sFor (.var 3) (iUn rngI (eC (.int 6))) (lp_20_1 cf)) (sSeq (sRet (eC (.bl true))) sNil)))) ρ μ
def callF : Nat → Nat → List W → Mem → Ans W
  | 0 => fun _ _ _ => none
  | n + 1 => fun f => match f with
    | 0 => callB 2 2 (sem_0 (callF n))
    | 1 => callB 2 2 (sem_1 (callF n))
    | 2 => callB 6 9 (sem_2 (callF n))
    | 3 => callB 1 1 (sem_3 (callF n))
    | 4 => callB 1 1 (sem_4 (callF n))
    | 5 => callB 1 1 (sem_5 (callF n))
    | 6 => callB 1 1 (sem_6 (callF n))
    | 7 => callB 1 1 (sem_7 (callF n))
    | 8 => callB 3 4 (sem_8 (callF n))
    | 9 => callB 2 2 (sem_9 (callF n))
    | 10 => callB 2 4 (sem_10 (callF n))
    | 11 => callB 2 3 (sem_11 (callF n))
    | 12 => callB 2 3 (sem_12 (callF n))
    | 13 => callB 2 2 (sem_13 (callF n))
    | 14 => callB 0 1 (sem_14 (callF n))
    | 15 => callB 1 3 (sem_15 (callF n))
    | 16 => callB 1 1 (sem_16 (callF n))
    | 17 => callB 1 4 (sem_17 (callF n))
    | 18 => callB 4 6 (sem_18 (callF n))
    | 19 => callB 1 1 (sem_19 (callF n))
    | 20 => callB 1 12 (sem_20 (callF n))
    | _ => fun _ _ => none
theorem cf_0 (n : Nat) (a0 a1 : W) (μ : Mem) : callF (n + 1) 0 [a0, a1] μ = callE μ.length (sem_0 (callF n) [some a0, some a1] μ) := callB_eq 2 2 (sem_0 (callF n)) [a0, a1] rfl
theorem cf_1 (n : Nat) (a0 a1 : W) (μ : Mem) : callF (n + 1) 1 [a0, a1] μ = callE μ.length (sem_1 (callF n) [some a0, some a1] μ) := callB_eq 2 2 (sem_1 (callF n)) [a0, a1] rfl
theorem cf_2 (n : Nat) (a0 a1 a2 a3 a4 a5 : W) (μ : Mem) : callF (n + 1) 2 [a0, a1, a2, a3, a4, a5] μ = callE μ.length (sem_2 (callF n) [some a0, some a1, some a2, some a3, some a4, some a5, none, none, none] μ) := callB_eq 6 9 (sem_2 (callF n)) [a0, a1, a2, a3, a4, a5] rfl
theorem cf_3 (n : Nat) (a0 : W) (μ : Mem) : callF (n + 1) 3 [a0] μ = callE μ.length (sem_3 (callF n) [some a0] μ) := callB_eq 1 1 (sem_3 (callF n)) [a0] rfl
theorem cf_4 (n : Nat) (a0 : W) (μ : Mem) : callF (n + 1) 4 [a0] μ = callE μ.length (sem_4 (callF n) [some a0] μ) := callB_eq 1 1 (sem_4 (callF n)) [a0] rfl
theorem cf_5 (n : Nat) (a0 : W) (μ : Mem) : callF (n + 1) 5 [a0] μ = callE μ.length (sem_5 (callF n) [some a0] μ) := callB_eq 1 1 (sem_5 (callF n)) [a0] rfl
theorem cf_6 (n : Nat) (a0 : W) (μ : Mem) : callF (n + 1) 6 [a0] μ = callE μ.length (sem_6 (callF n) [some a0] μ) := callB_eq 1 1 (sem_6 (callF n)) [a0] rfl
theorem cf_7 (n : Nat) (a0 : W) (μ : Mem) : callF (n + 1) 7 [a0] μ = callE μ.length (sem_7 (callF n) [some a0] μ) := callB_eq 1 1 (sem_7 (callF n)) [a0] rfl
theorem cf_8 (n : Nat) (a0 a1 a2 : W) (μ : Mem) : callF (n + 1) 8 [a0, a1, a2] μ = callE μ.length (sem_8 (callF n) [some a0, some a1, some a2, none] μ) := callB_eq 3 4 (sem_8 (callF n)) [a0, a1, a2] rfl
theorem cf_9 (n : Nat) (a0 a1 : W) (μ : Mem) : callF (n + 1) 9 [a0, a1] μ = callE μ.length (sem_9 (callF n) [some a0, some a1] μ) := callB_eq 2 2 (sem_9 (callF n)) [a0, a1] rfl
theorem cf_10 (n : Nat) (a0 a1 : W) (μ : Mem) : callF (n + 1) 10 [a0, a1] μ = callE μ.length (sem_10 (callF n) [some a0, some a1, none, none] μ) := callB_eq 2 4 (sem_10 (callF n)) [a0, a1] rfl
theorem cf_11 (n : Nat) (a0 a1 : W) (μ : Mem) : callF (n + 1) 11 [a0, a1] μ = callE μ.length (sem_11 (callF n) [some a0, some a1, none] μ) := callB_eq 2 3 (sem_11 (callF n)) [a0, a1] rfl
theorem cf_12 (n : Nat) (a0 a1 : W) (μ : Mem) : callF (n + 1) 12 [a0, a1] μ = callE μ.length (sem_12 (callF n) [some a0, some a1, none] μ) := callB_eq 2 3 (sem_12 (callF n)) [a0, a1] rfl
theorem cf_13 (n : Nat) (a0 a1 : W) (μ : Mem) : callF (n + 1) 13 [a0, a1] μ = callE μ.length (sem_13 (callF n) [some a0, some a1] μ) := callB_eq 2 2 (sem_13 (callF n)) [a0, a1] rfl
theorem cf_14 (n : Nat) (μ : Mem) : callF (n + 1) 14 [] μ = callE μ.length (sem_14 (callF n) [none] μ) := callB_eq 0 1 (sem_14 (callF n)) [] rfl
theorem cf_15 (n : Nat) (a0 : W) (μ : Mem) : callF (n + 1) 15 [a0] μ = callE μ.length (sem_15 (callF n) [some a0, none, none] μ) := callB_eq 1 3 (sem_15 (callF n)) [a0] rfl
theorem cf_16 (n : Nat) (a0 : W) (μ : Mem) : callF (n + 1) 16 [a0] μ = callE μ.length (sem_16 (callF n) [some a0] μ) := callB_eq 1 1 (sem_16 (callF n)) [a0] rfl
theorem cf_17 (n : Nat) (a0 : W) (μ : Mem) : callF (n + 1) 17 [a0] μ = callE μ.length (sem_17 (callF n) [some a0, none, none, none] μ) := callB_eq 1 4 (sem_17 (callF n)) [a0] rfl
theorem cf_18 (n : Nat) (a0 a1 a2 a3 : W) (μ : Mem) : callF (n + 1) 18 [a0, a1, a2, a3] μ = callE μ.length (sem_18 (callF n) [some a0, some a1, some a2, some a3, none, none] μ) := callB_eq 4 6 (sem_18 (callF n)) [a0, a1, a2, a3] rfl
theorem cf_19 (n : Nat) (a0 : W) (μ : Mem) : callF (n + 1) 19 [a0] μ = callE μ.length (sem_19 (callF n) [some a0] μ) := callB_eq 1 1 (sem_19 (callF n)) [a0] rfl
theorem cf_20 (n : Nat) (a0 : W) (μ : Mem) : callF (n + 1) 20 [a0] μ = callE μ.length (sem_20 (callF n) [some a0, none, none, none, none, none, none, none, none, none, none, none] μ) := callB_eq 1 12 (sem_20 (callF n)) [a0] rfl
end K01
set_option linter.all false
set_option maxRecDepth 100000
set_option maxHeartbeats 4000000
namespace K01
open PySem PySem.Spec PyProof.Rows L2 Mp
def top (i : Nat) : Stmt := PySem.Challenge.pw_counterbook_k01_rules_refused.main.body.getD i (.Pass ⟨0, 0, 0, 0⟩)
/-- is_integer -/
abbrev st_0 : Stmt := top 6
/-- is_word -/
abbrev st_1 : Stmt := top 7
/-- Rule.__init__ -/
abbrev st_2 : Stmt := inClass (top 8) 0
/-- Rule.check -/
abbrev st_3 : Stmt := inClass (top 8) 1
/-- Rule.deep -/
abbrev st_4 : Stmt := inClass (top 8) 2
/-- Rule.parts -/
abbrev st_5 : Stmt := inClass (top 8) 3
/-- Rule.period -/
abbrev st_6 : Stmt := inClass (top 8) 4
/-- Rule.rate -/
abbrev st_7 : Stmt := inClass (top 8) 5
/-- Rule.changed -/
abbrev st_8 : Stmt := inClass (top 8) 6
/-- Rule.__eq__ -/
abbrev st_9 : Stmt := inClass (top 8) 7
/-- _law_mix -/
abbrev st_10 : Stmt := top 10
/-- _law_next -/
abbrev st_11 : Stmt := top 11
/-- _law_alike -/
abbrev st_12 : Stmt := top 12
/-- _law_pick -/
abbrev st_13 : Stmt := top 13
/-- _law_parts -/
abbrev st_14 : Stmt := top 14
/-- _law_words -/
abbrev st_15 : Stmt := top 15
/-- _law_built -/
abbrev st_16 : Stmt := top 16
/-- _law_fault -/
abbrev st_17 : Stmt := top 17
/-- _law_tried -/
abbrev st_18 : Stmt := top 18
/-- _law_told -/
abbrev st_19 : Stmt := top 19
/-- law -/
abbrev st_20 : Stmt := top 20
theorem nd_PARTS : ks_PARTS.Nodup := by decide +kernel
theorem sc_0 : FnScope ["thing", "least"] ["thing", "least"] (defScope st_0) := ⟨rfl, rfl, rfl, by decide +kernel, rfl, by decide +kernel, by decide +kernel⟩
theorem sc_1 : FnScope ["part", "thing"] ["part", "thing"] (defScope st_1) := ⟨rfl, rfl, rfl, by decide +kernel, rfl, by decide +kernel, by decide +kernel⟩
theorem sc_2 : FnScope ["self", "check", "deep", "parts", "period", "rate", "given", "part", "word"] ["self", "check", "deep", "parts", "period", "rate"] (defScope st_2) := ⟨rfl, rfl, rfl, by decide +kernel, rfl, by decide +kernel, by decide +kernel⟩
theorem sc_3 : FnScope ["self"] ["self"] (defScope st_3) := ⟨rfl, rfl, rfl, by decide +kernel, rfl, by decide +kernel, by decide +kernel⟩
theorem sc_4 : FnScope ["self"] ["self"] (defScope st_4) := ⟨rfl, rfl, rfl, by decide +kernel, rfl, by decide +kernel, by decide +kernel⟩
theorem sc_5 : FnScope ["self"] ["self"] (defScope st_5) := ⟨rfl, rfl, rfl, by decide +kernel, rfl, by decide +kernel, by decide +kernel⟩
theorem sc_6 : FnScope ["self"] ["self"] (defScope st_6) := ⟨rfl, rfl, rfl, by decide +kernel, rfl, by decide +kernel, by decide +kernel⟩
theorem sc_7 : FnScope ["self"] ["self"] (defScope st_7) := ⟨rfl, rfl, rfl, by decide +kernel, rfl, by decide +kernel, by decide +kernel⟩
theorem sc_8 : FnScope ["self", "part", "word", "new"] ["self", "part", "word"] (defScope st_8) := ⟨rfl, rfl, rfl, by decide +kernel, rfl, by decide +kernel, by decide +kernel⟩
theorem sc_9 : FnScope ["self", "other"] ["self", "other"] (defScope st_9) := ⟨rfl, rfl, rfl, by decide +kernel, rfl, by decide +kernel, by decide +kernel⟩
theorem sc_10 : FnScope ["_law_script", "_law_seed", "_law_state", "_law_cell"] ["_law_script", "_law_seed"] (defScope st_10) := ⟨rfl, rfl, rfl, by decide +kernel, rfl, by decide +kernel, by decide +kernel⟩
theorem sc_11 : FnScope ["_law_h", "_law_cap", "_law_cell"] ["_law_h", "_law_cap"] (defScope st_11) := ⟨rfl, rfl, rfl, by decide +kernel, rfl, by decide +kernel, by decide +kernel⟩
theorem sc_12 : FnScope ["_law_found", "_law_due", "_law_k"] ["_law_found", "_law_due"] (defScope st_12) := ⟨rfl, rfl, rfl, by decide +kernel, rfl, by decide +kernel, by decide +kernel⟩
theorem sc_13 : FnScope ["_law_h", "_law_things"] ["_law_h", "_law_things"] (defScope st_13) := ⟨rfl, rfl, rfl, by decide +kernel, rfl, by decide +kernel, by decide +kernel⟩
theorem sc_14 : FnScope ["_law_found"] [] (defScope st_14) := ⟨rfl, rfl, rfl, by decide +kernel, rfl, by decide +kernel, by decide +kernel⟩
theorem sc_15 : FnScope ["_law_h", "_law_part", "_law_words_here"] ["_law_h"] (defScope st_15) := ⟨rfl, rfl, rfl, by decide +kernel, rfl, by decide +kernel, by decide +kernel⟩
theorem sc_16 : FnScope ["_law_words_here"] ["_law_words_here"] (defScope st_16) := ⟨rfl, rfl, rfl, by decide +kernel, rfl, by decide +kernel, by decide +kernel⟩
theorem sc_17 : FnScope ["_law_words_here", "_law_word", "_law_part", "_law_allowed"] ["_law_words_here"] (defScope st_17) := ⟨rfl, rfl, rfl, by decide +kernel, rfl, by decide +kernel, by decide +kernel⟩
theorem sc_18 : FnScope ["_law_rule", "_law_words_here", "_law_part", "_law_word", "_law_found", "error"] ["_law_rule", "_law_words_here", "_law_part", "_law_word"] (defScope st_18) := ⟨rfl, rfl, rfl, by decide +kernel, rfl, by decide +kernel, by decide +kernel⟩
theorem sc_19 : FnScope ["_law_rule"] ["_law_rule"] (defScope st_19) := ⟨rfl, rfl, rfl, by decide +kernel, rfl, by decide +kernel, by decide +kernel⟩
theorem sc_20 : FnScope ["_law_script", "_law_h", "_law_odd", "_law_turn", "_law_words_here", "_law_change", "_law_found", "_law_fault_here", "_law_at", "_law_part", "_law_word", "_law_later"] ["_law_script"] (defScope st_20) := ⟨rfl, rfl, rfl, by decide +kernel, rfl, by decide +kernel, by decide +kernel⟩
def fnms : List Str := ["words", "part"]
theorem fnd : fnms.Nodup := by decide +kernel
theorem nf_changed : ("changed" : Str) ∉ fnms := by decide +kernel
structure Tb where
  f0 : Addr
  f1 : Addr
  f2 : Addr
  f3 : Addr
  f4 : Addr
  f5 : Addr
  f6 : Addr
  f7 : Addr
  f8 : Addr
  f9 : Addr
  f10 : Addr
  f11 : Addr
  f12 : Addr
  f13 : Addr
  f14 : Addr
  f15 : Addr
  f16 : Addr
  f17 : Addr
  f18 : Addr
  f19 : Addr
  f20 : Addr
  C_Rule : Addr
  X_BookError : Addr
  X_InvalidRule : Addr
  X_UnknownPart : Addr
  I_InvalidRule : Addr
  cc_InvalidRule : Addr
  cd_InvalidRule : Addr
  I_UnknownPart : Addr
  cc_UnknownPart : Addr
  cd_UnknownPart : Addr
  p3 : Addr
  p4 : Addr
  p5 : Addr
  p6 : Addr
  p7 : Addr
  g_PARTS : Addr
  d0 : FuncData
  d1 : FuncData
  d2 : FuncData
  d3 : FuncData
  d4 : FuncData
  d5 : FuncData
  d6 : FuncData
  d7 : FuncData
  d8 : FuncData
  d9 : FuncData
  d10 : FuncData
  d11 : FuncData
  d12 : FuncData
  d13 : FuncData
  d14 : FuncData
  d15 : FuncData
  d16 : FuncData
  d17 : FuncData
  d18 : FuncData
  d19 : FuncData
  d20 : FuncData
def GG (K : PySem.W.Frag) (w : World) (t : Tb) : Glo := ⟨K, w, fun c => match c with | 0 => some t.C_Rule | _ => none, fun c => match c with | 0 => some t.X_BookError | 1 => some t.X_InvalidRule | 2 => some t.X_UnknownPart | _ => none, fnms, fnd⟩
structure TX (P : Program) (w : World) (K : PySem.W.Frag) (mg : Str → Option Value) (t : Tb) : Prop where
  F0 : Fun K "is_integer" "is_integer" st_0 t.f0 t.d0
  b0 : Binds K t.d0 ["thing", "least"] []
  gf_0 : GF K mg "is_integer" t.f0
  F1 : Fun K "is_word" "is_word" st_1 t.f1 t.d1
  b1 : Binds K t.d1 ["part", "thing"] []
  gf_1 : GF K mg "is_word" t.f1
  F2 : Fun K "__init__" "Rule.__init__" st_2 t.f2 t.d2
  b2 : Binds K t.d2 ["self", "check", "deep", "parts", "period", "rate"] []
  F3 : Fun K "check" "Rule.check" st_3 t.f3 t.d3
  b3 : Binds K t.d3 ["self"] []
  pr_3 : PropOf K t.C_Rule "check" t.p3 t.f3
  F4 : Fun K "deep" "Rule.deep" st_4 t.f4 t.d4
  b4 : Binds K t.d4 ["self"] []
  pr_4 : PropOf K t.C_Rule "deep" t.p4 t.f4
  F5 : Fun K "parts" "Rule.parts" st_5 t.f5 t.d5
  b5 : Binds K t.d5 ["self"] []
  pr_5 : PropOf K t.C_Rule "parts" t.p5 t.f5
  F6 : Fun K "period" "Rule.period" st_6 t.f6 t.d6
  b6 : Binds K t.d6 ["self"] []
  pr_6 : PropOf K t.C_Rule "period" t.p6 t.f6
  F7 : Fun K "rate" "Rule.rate" st_7 t.f7 t.d7
  b7 : Binds K t.d7 ["self"] []
  pr_7 : PropOf K t.C_Rule "rate" t.p7 t.f7
  F8 : Fun K "changed" "Rule.changed" st_8 t.f8 t.d8
  b8 : Binds K t.d8 ["self", "part", "word"] []
  me_8 : Meth K t.C_Rule "changed" t.f8
  F9 : Fun K "__eq__" "Rule.__eq__" st_9 t.f9 t.d9
  b9 : Binds K t.d9 ["self", "other"] []
  F10 : Fun K "_law_mix" "_law_mix" st_10 t.f10 t.d10
  b10 : Binds K t.d10 ["_law_script", "_law_seed"] []
  gf_10 : GF K mg "_law_mix" t.f10
  F11 : Fun K "_law_next" "_law_next" st_11 t.f11 t.d11
  b11 : Binds K t.d11 ["_law_h", "_law_cap"] []
  gf_11 : GF K mg "_law_next" t.f11
  F12 : Fun K "_law_alike" "_law_alike" st_12 t.f12 t.d12
  b12 : Binds K t.d12 ["_law_found", "_law_due"] []
  gf_12 : GF K mg "_law_alike" t.f12
  F13 : Fun K "_law_pick" "_law_pick" st_13 t.f13 t.d13
  b13 : Binds K t.d13 ["_law_h", "_law_things"] []
  gf_13 : GF K mg "_law_pick" t.f13
  F14 : Fun K "_law_parts" "_law_parts" st_14 t.f14 t.d14
  b14 : Binds K t.d14 [] []
  gf_14 : GF K mg "_law_parts" t.f14
  F15 : Fun K "_law_words" "_law_words" st_15 t.f15 t.d15
  b15 : Binds K t.d15 ["_law_h"] []
  gf_15 : GF K mg "_law_words" t.f15
  F16 : Fun K "_law_built" "_law_built" st_16 t.f16 t.d16
  b16 : Binds K t.d16 ["_law_words_here"] []
  gf_16 : GF K mg "_law_built" t.f16
  F17 : Fun K "_law_fault" "_law_fault" st_17 t.f17 t.d17
  b17 : Binds K t.d17 ["_law_words_here"] []
  gf_17 : GF K mg "_law_fault" t.f17
  F18 : Fun K "_law_tried" "_law_tried" st_18 t.f18 t.d18
  b18 : Binds K t.d18 ["_law_rule", "_law_words_here", "_law_part", "_law_word"] []
  gf_18 : GF K mg "_law_tried" t.f18
  F19 : Fun K "_law_told" "_law_told" st_19 t.f19 t.d19
  b19 : Binds K t.d19 ["_law_rule"] []
  gf_19 : GF K mg "_law_told" t.f19
  F20 : Fun K "law" "law" st_20 t.f20 t.d20
  b20 : Binds K t.d20 ["_law_script"] []
  cl_Rule : Cls K t.C_Rule
  mgc_Rule : mg "Rule" = some (.ref t.C_Rule)
  mk_Rule : Mk K t.C_Rule t.f2
  eq_Rule : EqC (GG K w t) t.C_Rule t.f9
  cls : ∀ c C, (GG K w t).cls c = some C → Cls K C
  isi : ∀ c C, (GG K w t).cls c = some C → Isi (GG K w t) C
  na_words : ∀ c C, (GG K w t).cls c = some C → NoAttr K C "words"
  mgx_BookError : mg "BookError" = some (.ref t.X_BookError)
  mgx_InvalidRule : mg "InvalidRule" = some (.ref t.X_InvalidRule)
  x1_InvalidRule : XC1 P K mg t.X_InvalidRule t.I_InvalidRule t.cc_InvalidRule t.cd_InvalidRule "part"
  exm_InvalidRule : ∀ c C, (GG K w t).xcl c = some C → PySem.W.exmOne K (.ref C) (.ref t.X_InvalidRule) = some (exm c 1)
  mgx_UnknownPart : mg "UnknownPart" = some (.ref t.X_UnknownPart)
  x1_UnknownPart : XC1 P K mg t.X_UnknownPart t.I_UnknownPart t.cc_UnknownPart t.cd_UnknownPart "part"
  exm_UnknownPart : ∀ c C, (GG K w t).xcl c = some C → PySem.W.exmOne K (.ref C) (.ref t.X_UnknownPart) = some (exm c 2)
  xall : XAll (GG K w t) fnms
  kb_BookError : ∀ c C, (GG K w t).xcl c = some C → PySem.W.kitOne K (.ref C) (.ref t.X_BookError) = some true
  mg_PARTS : mg "PARTS" = some (.ref t.g_PARTS)
  rv_PARTS : ∀ O H, RV (GG K w t) O H (.ref t.g_PARTS) g_PARTS
  kd0_PARTS : ∃ us, KD (GG K w t) t.g_PARTS ks_PARTS us
  nb_bool : mg "bool" = none
  nb_dict : mg "dict" = none
  nb_int : mg "int" = none
  nb_isinstance : mg "isinstance" = none
  nb_len : mg "len" = none
  nb_list : mg "list" = none
  nb_max : mg "max" = none
  nb_range : mg "range" = none
  nb_str : mg "str" = none
  nb_tuple : mg "tuple" = none
  nb_zip : mg "zip" = none
section
variable {P : Program} {w : World} {K : PySem.W.Frag} {mg : Str → Option Value} {base : Heap} {t : Tb}
structure All (P : Program) (w : World) (K : PySem.W.Frag) (mg : Str → Option Value) (base : Heap) (t : Tb) (n : Nat) : Prop where
  r0 : FnR P w (GG K w t) mg base (callF n) (2 * n) 0 2 t.f0 t.d0 ["thing", "least"]
  r1 : FnR P w (GG K w t) mg base (callF n) (2 * n) 1 2 t.f1 t.d1 ["part", "thing"]
  r2 : FnR P w (GG K w t) mg base (callF n) (2 * n) 2 6 t.f2 t.d2 ["self", "check", "deep", "parts", "period", "rate"]
  r3 : FnR P w (GG K w t) mg base (callF n) (2 * n) 3 1 t.f3 t.d3 ["self"]
  r4 : FnR P w (GG K w t) mg base (callF n) (2 * n) 4 1 t.f4 t.d4 ["self"]
  r5 : FnR P w (GG K w t) mg base (callF n) (2 * n) 5 1 t.f5 t.d5 ["self"]
  r6 : FnR P w (GG K w t) mg base (callF n) (2 * n) 6 1 t.f6 t.d6 ["self"]
  r7 : FnR P w (GG K w t) mg base (callF n) (2 * n) 7 1 t.f7 t.d7 ["self"]
  r8 : FnR P w (GG K w t) mg base (callF n) (2 * n) 8 3 t.f8 t.d8 ["self", "part", "word"]
  r9 : FnR P w (GG K w t) mg base (callF n) (2 * n) 9 2 t.f9 t.d9 ["self", "other"]
  r10 : FnR P w (GG K w t) mg base (callF n) (2 * n) 10 2 t.f10 t.d10 ["_law_script", "_law_seed"]
  r11 : FnR P w (GG K w t) mg base (callF n) (2 * n) 11 2 t.f11 t.d11 ["_law_h", "_law_cap"]
  r12 : FnR P w (GG K w t) mg base (callF n) (2 * n) 12 2 t.f12 t.d12 ["_law_found", "_law_due"]
  r13 : FnR P w (GG K w t) mg base (callF n) (2 * n) 13 2 t.f13 t.d13 ["_law_h", "_law_things"]
  r14 : FnR P w (GG K w t) mg base (callF n) (2 * n) 14 0 t.f14 t.d14 []
  r15 : FnR P w (GG K w t) mg base (callF n) (2 * n) 15 1 t.f15 t.d15 ["_law_h"]
  r16 : FnR P w (GG K w t) mg base (callF n) (2 * n) 16 1 t.f16 t.d16 ["_law_words_here"]
  r17 : FnR P w (GG K w t) mg base (callF n) (2 * n) 17 1 t.f17 t.d17 ["_law_words_here"]
  r18 : FnR P w (GG K w t) mg base (callF n) (2 * n) 18 4 t.f18 t.d18 ["_law_rule", "_law_words_here", "_law_part", "_law_word"]
  r19 : FnR P w (GG K w t) mg base (callF n) (2 * n) 19 1 t.f19 t.d19 ["_law_rule"]
  r20 : FnR P w (GG K w t) mg base (callF n) (2 * n) 20 1 t.f20 t.d20 ["_law_script"]
/-- is_integer -/
theorem ok_0 (T : TX P w K mg t) {n : Nat} (R : All P w K mg base t n) : FnOk P w K mg base (L2.CX P w) (2 * n + 1 + 1) t.f0 t.d0 ["thing", "least"] (spF (GG K w t) (callF (n + 1)) 2 0) := by
  exact fn_ok (G := GG K w t) (sem := sem_0 (callF n)) T.F0 sc_0 rfl rfl (fun _ => True) fun cdv A outer s H E hr tk hp =>
    (j_cons (j_ret (k_and (k_isi1 rfl T.isi rfl T.nb_isinstance (k_var rfl (by first | exact Or.inl rfl | exact Or.inr (Or.inl rfl) | exact Or.inr (Or.inr rfl)) rfl rfl) (k_ty rfl T.nb_int rfl (by decide) rfl (by intro _ h; cases h)) rfl rfl) (k_and (k_not (k_isi1 rfl T.isi rfl T.nb_isinstance (k_var rfl (by first | exact Or.inl rfl | exact Or.inr (Or.inl rfl) | exact Or.inr (Or.inr rfl)) rfl rfl) (k_ty rfl T.nb_bool rfl (by decide) rfl (by intro _ h; cases h)) rfl rfl)) (pe_one (k_cmp rfl rfl rfl hr (k_var rfl (by first | exact Or.inl rfl | exact Or.inr (Or.inl rfl) | exact Or.inr (Or.inr rfl)) rfl rfl) (k_var rfl (by first | exact Or.inl rfl | exact Or.inr (Or.inl rfl) | exact Or.inr (Or.inr rfl)) rfl rfl) rfl rfl)) rfl) rfl)) j_nil)
/-- is_word -/
theorem ok_1 (T : TX P w K mg t) {n : Nat} (R : All P w K mg base t n) : FnOk P w K mg base (L2.CX P w) (2 * n + 1 + 1) t.f1 t.d1 ["part", "thing"] (spF (GG K w t) (callF (n + 1)) 2 1) := by
  exact fn_ok (G := GG K w t) (sem := sem_1 (callF n)) T.F1 sc_1 rfl rfl (fun _ => True) fun cdv A outer s H E hr tk hp =>
    (j_cons (j_if (k_cmpT rfl rfl rfl hr (k_var rfl (by first | exact Or.inl rfl | exact Or.inr (Or.inl rfl) | exact Or.inr (Or.inr rfl)) rfl rfl) (k_str rfl) rfl rfl) (j_cons (j_ret (k_and (k_call R.r0 T.gf_0 rfl hr (Nat.le_succ _) rfl tk (k_cons (k_var rfl (by first | exact Or.inl rfl | exact Or.inr (Or.inl rfl) | exact Or.inr (Or.inr rfl)) rfl rfl) (k_cons k_int k_nil rfl rfl) rfl rfl) rfl rfl rfl) (pe_one (k_cmp rfl rfl rfl hr (k_var rfl (by first | exact Or.inl rfl | exact Or.inr (Or.inl rfl) | exact Or.inr (Or.inr rfl)) rfl rfl) (k_sub rfl rfl hr (k_glb (v := .ref t.g_PARTS) rfl T.mg_PARTS rfl rfl T.rv_PARTS) (k_var rfl (by first | exact Or.inl rfl | exact Or.inr (Or.inl rfl) | exact Or.inr (Or.inr rfl)) rfl rfl) (fun _ _ => rfl) rfl) rfl rfl)) rfl)) j_nil) j_nil) (j_cons (j_ret (k_and (k_isi1 rfl T.isi rfl T.nb_isinstance (k_var rfl (by first | exact Or.inl rfl | exact Or.inr (Or.inl rfl) | exact Or.inr (Or.inr rfl)) rfl rfl) (k_ty rfl T.nb_str rfl (by decide) rfl (by intro _ h; cases h)) rfl rfl) (pe_one (k_cmp rfl rfl rfl hr (k_var rfl (by first | exact Or.inl rfl | exact Or.inr (Or.inl rfl) | exact Or.inr (Or.inr rfl)) rfl rfl) (k_sub rfl rfl hr (k_glb (v := .ref t.g_PARTS) rfl T.mg_PARTS rfl rfl T.rv_PARTS) (k_var rfl (by first | exact Or.inl rfl | exact Or.inr (Or.inl rfl) | exact Or.inr (Or.inr rfl)) rfl rfl) (fun _ _ => rfl) rfl) rfl rfl)) rfl)) j_nil))
/-- Rule.__init__ -/
theorem ok_2 (T : TX P w K mg t) {n : Nat} (R : All P w K mg base t n) : FnOk P w K mg base (L2.CX P w) (2 * n + 1 + 1) t.f2 t.d2 ["self", "check", "deep", "parts", "period", "rate"] (spF (GG K w t) (callF (n + 1)) 6 2) := by
  obtain ⟨us_PARTS, kd_PARTS⟩ := T.kd0_PARTS
  exact fn_ok (G := GG K w t) (sem := sem_2 (callF n)) T.F2 sc_2 rfl rfl (fun _ => True) fun cdv A outer s H E hr tk hp =>
    (j_cons (j_asg (k_tup (k_cons (k_var rfl (by first | exact Or.inl rfl | exact Or.inr (Or.inl rfl) | exact Or.inr (Or.inr rfl)) rfl rfl) (k_cons (k_var rfl (by first | exact Or.inl rfl | exact Or.inr (Or.inl rfl) | exact Or.inr (Or.inr rfl)) rfl rfl) (k_cons (k_var rfl (by first | exact Or.inl rfl | exact Or.inr (Or.inl rfl) | exact Or.inr (Or.inr rfl)) rfl rfl) (k_cons (k_var rfl (by first | exact Or.inl rfl | exact Or.inr (Or.inl rfl) | exact Or.inr (Or.inr rfl)) rfl rfl) (k_cons (k_var rfl (by first | exact Or.inl rfl | exact Or.inr (Or.inl rfl) | exact Or.inr (Or.inr rfl)) rfl rfl) k_nil rfl rfl) rfl rfl) rfl rfl) rfl rfl) rfl rfl)) sc_2.nd rfl (by first | exact Or.inl rfl | exact Or.inr rfl) (by first | exact Or.inl rfl | exact Or.inr rfl) rfl) (j_cons (j_for hp rfl (k_zipK rfl kd_PARTS rfl T.nb_zip (pe_glob (v := .ref t.g_PARTS) rfl T.mg_PARTS rfl rfl) (k_var rfl (by first | exact Or.inl rfl | exact Or.inr (Or.inl rfl) | exact Or.inr (Or.inr rfl)) rfl rfl) rfl rfl) (g_tup (n := 2) rfl rfl (g_cons (g_var sc_2.nd rfl (by first | exact Or.inl rfl | exact Or.inr rfl) (by first | exact Or.inl rfl | exact Or.inr rfl)) (g_cons (g_var sc_2.nd rfl (by first | exact Or.inl rfl | exact Or.inr rfl) (by first | exact Or.inl rfl | exact Or.inr rfl)) g_nil rfl) rfl) rfl (fun xs _ _ h => asg_len2 h) rfl) (j_cons (j_if (k_notT (k_post rfl (k_call R.r1 T.gf_1 rfl hr (Nat.le_succ _) rfl tk (k_cons (k_var rfl (by first | exact Or.inl rfl | exact Or.inr (Or.inl rfl) | exact Or.inr (Or.inr rfl)) rfl rfl) (k_cons (k_var rfl (by first | exact Or.inl rfl | exact Or.inr (Or.inl rfl) | exact Or.inr (Or.inr rfl)) rfl rfl) k_nil rfl rfl) rfl rfl) rfl rfl rfl) fun _ => rfl)) (j_cons (j_rse1 (c' := 1) (fi' := 1) rfl rfl T.x1_InvalidRule rfl rfl tk hr (k_cons (k_var rfl (by first | exact Or.inl rfl | exact Or.inr (Or.inl rfl) | exact Or.inr (Or.inr rfl)) rfl rfl) k_nil rfl rfl) rfl T.mgx_InvalidRule rfl rfl rfl) j_nil) j_nil) j_nil) fun _ => rfl) (j_cons (j_setF (f := 0) rfl rfl T.cls T.na_words (k_dzip rfl rfl kd_PARTS nd_PARTS rfl T.nb_dict rfl T.nb_zip (pe_glob (v := .ref t.g_PARTS) rfl T.mg_PARTS rfl rfl) (k_var rfl (by first | exact Or.inl rfl | exact Or.inr (Or.inl rfl) | exact Or.inr (Or.inr rfl)) rfl rfl) rfl rfl rfl) (k_var rfl (by first | exact Or.inl rfl | exact Or.inr (Or.inl rfl) | exact Or.inr (Or.inr rfl)) rfl rfl) rfl) j_nil)))
/-- Rule.check -/
theorem ok_3 (T : TX P w K mg t) {n : Nat} (R : All P w K mg base t n) : FnOk P w K mg base (L2.CX P w) (2 * n + 1 + 1) t.f3 t.d3 ["self"] (spF (GG K w t) (callF (n + 1)) 1 3) := by
  exact fn_ok (G := GG K w t) (sem := sem_3 (callF n)) T.F3 sc_3 rfl rfl (fun _ => True) fun cdv A outer s H E hr tk hp =>
    (j_cons (j_ret (k_sub rfl rfl hr (k_fld (f := 0) rfl rfl T.cls T.na_words (k_var rfl (by first | exact Or.inl rfl | exact Or.inr (Or.inl rfl) | exact Or.inr (Or.inr rfl)) rfl rfl) rfl) (k_str rfl) (fun _ _ => rfl) rfl)) j_nil)
/-- Rule.deep -/
theorem ok_4 (T : TX P w K mg t) {n : Nat} (R : All P w K mg base t n) : FnOk P w K mg base (L2.CX P w) (2 * n + 1 + 1) t.f4 t.d4 ["self"] (spF (GG K w t) (callF (n + 1)) 1 4) := by
  exact fn_ok (G := GG K w t) (sem := sem_4 (callF n)) T.F4 sc_4 rfl rfl (fun _ => True) fun cdv A outer s H E hr tk hp =>
    (j_cons (j_ret (k_sub rfl rfl hr (k_fld (f := 0) rfl rfl T.cls T.na_words (k_var rfl (by first | exact Or.inl rfl | exact Or.inr (Or.inl rfl) | exact Or.inr (Or.inr rfl)) rfl rfl) rfl) (k_str rfl) (fun _ _ => rfl) rfl)) j_nil)
/-- Rule.parts -/
theorem ok_5 (T : TX P w K mg t) {n : Nat} (R : All P w K mg base t n) : FnOk P w K mg base (L2.CX P w) (2 * n + 1 + 1) t.f5 t.d5 ["self"] (spF (GG K w t) (callF (n + 1)) 1 5) := by
  exact fn_ok (G := GG K w t) (sem := sem_5 (callF n)) T.F5 sc_5 rfl rfl (fun _ => True) fun cdv A outer s H E hr tk hp =>
    (j_cons (j_ret (k_sub rfl rfl hr (k_fld (f := 0) rfl rfl T.cls T.na_words (k_var rfl (by first | exact Or.inl rfl | exact Or.inr (Or.inl rfl) | exact Or.inr (Or.inr rfl)) rfl rfl) rfl) (k_str rfl) (fun _ _ => rfl) rfl)) j_nil)
/-- Rule.period -/
theorem ok_6 (T : TX P w K mg t) {n : Nat} (R : All P w K mg base t n) : FnOk P w K mg base (L2.CX P w) (2 * n + 1 + 1) t.f6 t.d6 ["self"] (spF (GG K w t) (callF (n + 1)) 1 6) := by
  exact fn_ok (G := GG K w t) (sem := sem_6 (callF n)) T.F6 sc_6 rfl rfl (fun _ => True) fun cdv A outer s H E hr tk hp =>
    (j_cons (j_ret (k_sub rfl rfl hr (k_fld (f := 0) rfl rfl T.cls T.na_words (k_var rfl (by first | exact Or.inl rfl | exact Or.inr (Or.inl rfl) | exact Or.inr (Or.inr rfl)) rfl rfl) rfl) (k_str rfl) (fun _ _ => rfl) rfl)) j_nil)
/-- Rule.rate -/
theorem ok_7 (T : TX P w K mg t) {n : Nat} (R : All P w K mg base t n) : FnOk P w K mg base (L2.CX P w) (2 * n + 1 + 1) t.f7 t.d7 ["self"] (spF (GG K w t) (callF (n + 1)) 1 7) := by
  exact fn_ok (G := GG K w t) (sem := sem_7 (callF n)) T.F7 sc_7 rfl rfl (fun _ => True) fun cdv A outer s H E hr tk hp =>
    (j_cons (j_ret (k_sub rfl rfl hr (k_fld (f := 0) rfl rfl T.cls T.na_words (k_var rfl (by first | exact Or.inl rfl | exact Or.inr (Or.inl rfl) | exact Or.inr (Or.inr rfl)) rfl rfl) rfl) (k_str rfl) (fun _ _ => rfl) rfl)) j_nil)
/-- Rule.changed -/
theorem ok_8 (T : TX P w K mg t) {n : Nat} (R : All P w K mg base t n) : FnOk P w K mg base (L2.CX P w) (2 * n + 1 + 1) t.f8 t.d8 ["self", "part", "word"] (spF (GG K w t) (callF (n + 1)) 3 8) := by
  exact fn_ok (G := GG K w t) (sem := sem_8 (callF n)) T.F8 sc_8 rfl rfl (fun _ => True) fun cdv A outer s H E hr tk hp =>
    (j_cons (j_if (PW.pt (k_orT (k_notT (k_post rfl (k_isi1 rfl T.isi rfl T.nb_isinstance (k_var rfl (by first | exact Or.inl rfl | exact Or.inr (Or.inl rfl) | exact Or.inr (Or.inr rfl)) rfl rfl) (k_ty rfl T.nb_str rfl (by decide) rfl (by intro _ h; cases h)) rfl rfl) fun _ => rfl)) (pw_or1 (k_cmpT rfl rfl rfl hr (k_var rfl (by first | exact Or.inl rfl | exact Or.inr (Or.inl rfl) | exact Or.inr (Or.inr rfl)) rfl rfl) (k_glb (v := .ref t.g_PARTS) rfl T.mg_PARTS rfl rfl T.rv_PARTS) rfl rfl)) rfl)) (j_cons (j_rse1 (c' := 2) (fi' := 1) rfl rfl T.x1_UnknownPart rfl rfl tk hr (k_cons (k_var rfl (by first | exact Or.inl rfl | exact Or.inr (Or.inl rfl) | exact Or.inr (Or.inr rfl)) rfl rfl) k_nil rfl rfl) rfl T.mgx_UnknownPart rfl rfl rfl) j_nil) j_nil) (j_cons (j_asg (k_dupd (k_fld (f := 0) rfl rfl T.cls T.na_words (k_var rfl (by first | exact Or.inl rfl | exact Or.inr (Or.inl rfl) | exact Or.inr (Or.inr rfl)) rfl rfl) rfl) rfl (by first | exact Or.inl rfl | exact Or.inr (Or.inl rfl) | exact Or.inr (Or.inr rfl)) rfl rfl rfl (by first | exact Or.inl rfl | exact Or.inr (Or.inl rfl) | exact Or.inr (Or.inr rfl)) rfl rfl) sc_8.nd rfl (by first | exact Or.inl rfl | exact Or.inr rfl) (by first | exact Or.inl rfl | exact Or.inr rfl) rfl) (j_cons (j_ret (k_new R.r2 T.mk_Rule (cl := 0) rfl T.mgc_Rule rfl hr (Nat.le_refl _) rfl tk (k_cons (k_sub rfl rfl hr (k_var rfl (by first | exact Or.inl rfl | exact Or.inr (Or.inl rfl) | exact Or.inr (Or.inr rfl)) rfl rfl) (k_str rfl) (fun _ _ => rfl) rfl) (k_cons (k_sub rfl rfl hr (k_var rfl (by first | exact Or.inl rfl | exact Or.inr (Or.inl rfl) | exact Or.inr (Or.inr rfl)) rfl rfl) (k_str rfl) (fun _ _ => rfl) rfl) (k_cons (k_sub rfl rfl hr (k_var rfl (by first | exact Or.inl rfl | exact Or.inr (Or.inl rfl) | exact Or.inr (Or.inr rfl)) rfl rfl) (k_str rfl) (fun _ _ => rfl) rfl) (k_cons (k_sub rfl rfl hr (k_var rfl (by first | exact Or.inl rfl | exact Or.inr (Or.inl rfl) | exact Or.inr (Or.inr rfl)) rfl rfl) (k_str rfl) (fun _ _ => rfl) rfl) (k_cons (k_sub rfl rfl hr (k_var rfl (by first | exact Or.inl rfl | exact Or.inr (Or.inl rfl) | exact Or.inr (Or.inr rfl)) rfl rfl) (k_str rfl) (fun _ _ => rfl) rfl) k_nil rfl rfl) rfl rfl) rfl rfl) rfl rfl) rfl rfl) rfl rfl rfl)) j_nil)))
/-- Rule.__eq__ -/
theorem ok_9 (T : TX P w K mg t) {n : Nat} (R : All P w K mg base t n) : FnOk P w K mg base (L2.CX P w) (2 * n + 1 + 1) t.f9 t.d9 ["self", "other"] (spF (GG K w t) (callF (n + 1)) 2 9) := by
  exact fn_ok (G := GG K w t) (sem := sem_9 (callF n)) T.F9 sc_9 rfl rfl (fun _ => True) fun cdv A outer s H E hr tk hp =>
    (j_cons (j_ret (k_and (k_isi1 rfl T.isi rfl T.nb_isinstance (k_var rfl (by first | exact Or.inl rfl | exact Or.inr (Or.inl rfl) | exact Or.inr (Or.inr rfl)) rfl rfl) (k_tyC (cl := 0) rfl T.mgc_Rule rfl rfl T.isi) rfl rfl) (pe_one (k_eqD hr (k_fld (f := 0) rfl rfl T.cls T.na_words (k_var rfl (by first | exact Or.inl rfl | exact Or.inr (Or.inl rfl) | exact Or.inr (Or.inr rfl)) rfl rfl) rfl) (k_fld (f := 0) rfl rfl T.cls T.na_words (k_var rfl (by first | exact Or.inl rfl | exact Or.inr (Or.inl rfl) | exact Or.inr (Or.inr rfl)) rfl rfl) rfl) rfl rfl)) rfl)) j_nil)
/-- _law_mix -/
theorem ok_10 (T : TX P w K mg t) {n : Nat} (R : All P w K mg base t n) : FnOk P w K mg base (L2.CX P w) (2 * n + 1 + 1) t.f10 t.d10 ["_law_script", "_law_seed"] (spF (GG K w t) (callF (n + 1)) 2 10) := by
  exact fn_ok (G := GG K w t) (sem := sem_10 (callF n)) T.F10 sc_10 rfl rfl (fun _ => True) fun cdv A outer s H E hr tk hp =>
    (j_cons (j_asg (k_var rfl (by first | exact Or.inl rfl | exact Or.inr (Or.inl rfl) | exact Or.inr (Or.inr rfl)) rfl rfl) sc_10.nd rfl (by first | exact Or.inl rfl | exact Or.inr rfl) (by first | exact Or.inl rfl | exact Or.inr rfl) rfl) (j_cons (j_for hp rfl (k_seq rfl (k_var rfl (by first | exact Or.inl rfl | exact Or.inr (Or.inl rfl) | exact Or.inr (Or.inr rfl)) rfl rfl)) (g_var sc_10.nd rfl (by first | exact Or.inl rfl | exact Or.inr rfl) (by first | exact Or.inl rfl | exact Or.inr rfl)) (j_cons (j_asg (k_bin rfl rfl (k_bltT (bl_int) rfl T.nb_int rfl (by decide) rfl (k_cons (k_bin rfl rfl (k_bin rfl rfl (k_bin rfl rfl (k_var rfl (by first | exact Or.inl rfl | exact Or.inr (Or.inl rfl) | exact Or.inr (Or.inr rfl)) rfl rfl) k_int rfl) (k_bin rfl rfl (k_bltT (bl_int) rfl T.nb_int rfl (by decide) rfl (k_cons (k_var rfl (by first | exact Or.inl rfl | exact Or.inr (Or.inl rfl) | exact Or.inr (Or.inr rfl)) rfl rfl) k_nil rfl rfl) rfl rfl) k_int rfl) rfl) k_int rfl) k_nil rfl rfl) rfl rfl) k_int rfl) sc_10.nd rfl (by first | exact Or.inl rfl | exact Or.inr rfl) (by first | exact Or.inl rfl | exact Or.inr rfl) rfl) j_nil) fun _ => rfl) (j_cons (j_ret (k_lstO (k_cons (k_var rfl (by first | exact Or.inl rfl | exact Or.inr (Or.inl rfl) | exact Or.inr (Or.inr rfl)) rfl rfl) (k_cons (k_listO rfl rfl T.nb_list (k_var rfl (by first | exact Or.inl rfl | exact Or.inr (Or.inl rfl) | exact Or.inr (Or.inr rfl)) rfl rfl) rfl rfl) (k_cons k_int k_nil rfl rfl) rfl rfl) rfl rfl))) j_nil)))
/-- _law_next -/
theorem ok_11 (T : TX P w K mg t) {n : Nat} (R : All P w K mg base t n) : FnOk P w K mg base (L2.CX P w) (2 * n + 1 + 1) t.f11 t.d11 ["_law_h", "_law_cap"] (spF (GG K w t) (callF (n + 1)) 2 11) := by
  exact fn_ok (G := GG K w t) (sem := sem_11 (callF n)) T.F11 sc_11 rfl rfl (fun _ => True) fun cdv A outer s H E hr tk hp =>
    (j_cons (j_asg (k_sub rfl rfl hr (k_bin rfl rfl (k_sub rfl rfl hr (k_var rfl (by first | exact Or.inl rfl | exact Or.inr (Or.inl rfl) | exact Or.inr (Or.inr rfl)) rfl rfl) k_int (fun _ _ => rfl) rfl) (k_lstD (k_cons k_int k_nil rfl rfl)) rfl) (k_bin rfl rfl (k_bltT (bl_int) rfl T.nb_int rfl (by decide) rfl (k_cons (k_sub rfl rfl hr (k_var rfl (by first | exact Or.inl rfl | exact Or.inr (Or.inl rfl) | exact Or.inr (Or.inr rfl)) rfl rfl) k_int (fun _ _ => rfl) rfl) k_nil rfl rfl) rfl rfl) (k_bltB (bl_max2 rfl) rfl T.nb_max rfl (by decide) rfl (k_cons k_int (k_cons (k_len rfl rfl T.nb_len (k_sub rfl rfl hr (k_var rfl (by first | exact Or.inl rfl | exact Or.inr (Or.inl rfl) | exact Or.inr (Or.inr rfl)) rfl rfl) k_int (fun _ _ => rfl) rfl) rfl rfl) k_nil rfl rfl) rfl rfl) rfl rfl) rfl) (fun _ _ => rfl) rfl) sc_11.nd rfl (by first | exact Or.inl rfl | exact Or.inr rfl) (by first | exact Or.inl rfl | exact Or.inr rfl) rfl) (j_cons (j_if (k_cmpT rfl rfl rfl hr (k_var rfl (by first | exact Or.inl rfl | exact Or.inr (Or.inl rfl) | exact Or.inr (Or.inr rfl)) rfl rfl) (k_bin rfl rfl k_int k_int rfl) rfl rfl) (j_cons (j_setI hr (k_bin rfl rfl (k_var rfl (by first | exact Or.inl rfl | exact Or.inr (Or.inl rfl) | exact Or.inr (Or.inr rfl)) rfl rfl) (k_var rfl (by first | exact Or.inl rfl | exact Or.inr (Or.inl rfl) | exact Or.inr (Or.inr rfl)) rfl rfl) rfl) (k_sub rfl rfl hr (k_var rfl (by first | exact Or.inl rfl | exact Or.inr (Or.inl rfl) | exact Or.inr (Or.inr rfl)) rfl rfl) k_int (fun _ _ => rfl) rfl) (k_bin rfl rfl (k_bltT (bl_int) rfl T.nb_int rfl (by decide) rfl (k_cons (k_sub rfl rfl hr (k_var rfl (by first | exact Or.inl rfl | exact Or.inr (Or.inl rfl) | exact Or.inr (Or.inr rfl)) rfl rfl) k_int (fun _ _ => rfl) rfl) k_nil rfl rfl) rfl rfl) (k_len rfl rfl T.nb_len (k_sub rfl rfl hr (k_var rfl (by first | exact Or.inl rfl | exact Or.inr (Or.inl rfl) | exact Or.inr (Or.inr rfl)) rfl rfl) k_int (fun _ _ => rfl) rfl) rfl rfl) rfl) rfl rfl rfl fun _ => rfl) (j_cons (j_ret (k_bin rfl rfl (k_bltT (bl_int) rfl T.nb_int rfl (by decide) rfl (k_cons (k_var rfl (by first | exact Or.inl rfl | exact Or.inr (Or.inl rfl) | exact Or.inr (Or.inr rfl)) rfl rfl) k_nil rfl rfl) rfl rfl) (k_var rfl (by first | exact Or.inl rfl | exact Or.inr (Or.inl rfl) | exact Or.inr (Or.inr rfl)) rfl rfl) rfl)) j_nil)) j_nil) (j_cons (j_setI hr (k_bin rfl rfl (k_bltT (bl_int) rfl T.nb_int rfl (by decide) rfl (k_cons (k_bin rfl rfl (k_bin rfl rfl (k_bin rfl rfl (k_sub rfl rfl hr (k_var rfl (by first | exact Or.inl rfl | exact Or.inr (Or.inl rfl) | exact Or.inr (Or.inr rfl)) rfl rfl) k_int (fun _ _ => rfl) rfl) k_int rfl) (k_bin rfl rfl (k_var rfl (by first | exact Or.inl rfl | exact Or.inr (Or.inl rfl) | exact Or.inr (Or.inr rfl)) rfl rfl) k_int rfl) rfl) k_int rfl) k_nil rfl rfl) rfl rfl) k_int rfl) (k_var rfl (by first | exact Or.inl rfl | exact Or.inr (Or.inl rfl) | exact Or.inr (Or.inr rfl)) rfl rfl) k_int rfl rfl rfl fun _ => rfl) (j_cons (j_setI hr (k_bin rfl rfl (k_sub rfl rfl hr (k_var rfl (by first | exact Or.inl rfl | exact Or.inr (Or.inl rfl) | exact Or.inr (Or.inr rfl)) rfl rfl) k_int (fun _ _ => rfl) rfl) k_int rfl) (k_var rfl (by first | exact Or.inl rfl | exact Or.inr (Or.inl rfl) | exact Or.inr (Or.inr rfl)) rfl rfl) k_int rfl rfl rfl fun _ => rfl) (j_cons (j_ret (k_bin rfl rfl (k_bltT (bl_int) rfl T.nb_int rfl (by decide) rfl (k_cons (k_bin rfl rfl (k_sub rfl rfl hr (k_var rfl (by first | exact Or.inl rfl | exact Or.inr (Or.inl rfl) | exact Or.inr (Or.inr rfl)) rfl rfl) k_int (fun _ _ => rfl) rfl) k_int rfl) k_nil rfl rfl) rfl rfl) (k_var rfl (by first | exact Or.inl rfl | exact Or.inr (Or.inl rfl) | exact Or.inr (Or.inr rfl)) rfl rfl) rfl)) j_nil)))))
/-- _law_alike -/
theorem ok_12 (T : TX P w K mg t) {n : Nat} (R : All P w K mg base t n) : FnOk P w K mg base (L2.CX P w) (2 * n + 1 + 1) t.f12 t.d12 ["_law_found", "_law_due"] (spF (GG K w t) (callF (n + 1)) 2 12) := by
  exact fn_ok (G := GG K w t) (sem := sem_12 (callF n)) T.F12 sc_12 rfl rfl (fun _ => True) fun cdv A outer s H E hr tk hp =>
    (j_cons (j_if (k_post rfl (k_isi1 rfl T.isi rfl T.nb_isinstance (k_var rfl (by first | exact Or.inl rfl | exact Or.inr (Or.inl rfl) | exact Or.inr (Or.inr rfl)) rfl rfl) (k_ty rfl T.nb_dict rfl (by decide) rfl (by intro _ h; cases h)) rfl rfl) fun _ => rfl) (j_cons (j_ret (k_and (k_isi1 rfl T.isi rfl T.nb_isinstance (k_var rfl (by first | exact Or.inl rfl | exact Or.inr (Or.inl rfl) | exact Or.inr (Or.inr rfl)) rfl rfl) (k_ty rfl T.nb_dict rfl (by decide) rfl (by intro _ h; cases h)) rfl rfl) (k_and (k_call R.r12 T.gf_12 rfl hr (Nat.le_succ _) rfl tk (k_cons (k_listD rfl rfl T.nb_list (k_var rfl (by first | exact Or.inl rfl | exact Or.inr (Or.inl rfl) | exact Or.inr (Or.inr rfl)) rfl rfl) rfl rfl) (k_cons (k_listD rfl rfl T.nb_list (k_var rfl (by first | exact Or.inl rfl | exact Or.inr (Or.inl rfl) | exact Or.inr (Or.inr rfl)) rfl rfl) rfl rfl) k_nil rfl rfl) rfl rfl) rfl rfl rfl) (pe_one (k_cmp rfl rfl rfl hr (k_var rfl (by first | exact Or.inl rfl | exact Or.inr (Or.inl rfl) | exact Or.inr (Or.inr rfl)) rfl rfl) (k_var rfl (by first | exact Or.inl rfl | exact Or.inr (Or.inl rfl) | exact Or.inr (Or.inr rfl)) rfl rfl) rfl rfl)) rfl) rfl)) j_nil) j_nil) (j_cons (j_if (k_post rfl (k_isiT rfl T.isi rfl T.nb_isinstance (k_var rfl (by first | exact Or.inl rfl | exact Or.inr (Or.inl rfl) | exact Or.inr (Or.inr rfl)) rfl rfl) (.cons (k_ty rfl T.nb_tuple rfl (by decide) rfl (by intro _ h; cases h)) rfl (.cons (k_ty rfl T.nb_list rfl (by decide) rfl (by intro _ h; cases h)) rfl .nil)) (by decide) (by decide) rfl) fun _ => rfl) (j_cons (j_if (PW.pt (k_orT (k_notT (k_post rfl (k_isiT rfl T.isi rfl T.nb_isinstance (k_var rfl (by first | exact Or.inl rfl | exact Or.inr (Or.inl rfl) | exact Or.inr (Or.inr rfl)) rfl rfl) (.cons (k_ty rfl T.nb_tuple rfl (by decide) rfl (by intro _ h; cases h)) rfl (.cons (k_ty rfl T.nb_list rfl (by decide) rfl (by intro _ h; cases h)) rfl .nil)) (by decide) (by decide) rfl) fun _ => rfl)) (pw_or1 (k_cmpT rfl rfl rfl hr (k_isi1 rfl T.isi rfl T.nb_isinstance (k_var rfl (by first | exact Or.inl rfl | exact Or.inr (Or.inl rfl) | exact Or.inr (Or.inr rfl)) rfl rfl) (k_ty rfl T.nb_list rfl (by decide) rfl (by intro _ h; cases h)) rfl rfl) (k_isi1 rfl T.isi rfl T.nb_isinstance (k_var rfl (by first | exact Or.inl rfl | exact Or.inr (Or.inl rfl) | exact Or.inr (Or.inr rfl)) rfl rfl) (k_ty rfl T.nb_list rfl (by decide) rfl (by intro _ h; cases h)) rfl rfl) rfl rfl)) rfl)) (j_cons (j_ret k_bl) j_nil) j_nil) (j_cons (j_if (k_cmpT rfl rfl rfl hr (k_len rfl rfl T.nb_len (k_var rfl (by first | exact Or.inl rfl | exact Or.inr (Or.inl rfl) | exact Or.inr (Or.inr rfl)) rfl rfl) rfl rfl) (k_len rfl rfl T.nb_len (k_var rfl (by first | exact Or.inl rfl | exact Or.inr (Or.inl rfl) | exact Or.inr (Or.inr rfl)) rfl rfl) rfl rfl) rfl rfl) (j_cons (j_ret k_bl) j_nil) j_nil) (j_cons (j_ret (k_cmp rfl rfl rfl hr (k_compD (own := [("_law_k", 2)]) rfl sc_12.nd (k_rng1 rfl T.nb_range (k_len rfl rfl T.nb_len (k_var rfl (by first | exact Or.inl rfl | exact Or.inr (Or.inl rfl) | exact Or.inr (Or.inr rfl)) rfl rfl) rfl rfl) rfl) (blk_ok rfl) (by decide) (fun _ _ _ _ _ => (g_var sc_12.nd rfl (by first | exact Or.inl rfl | exact Or.inr rfl) (by first | exact Or.inl rfl | exact Or.inr rfl))) (fun _ _ _ _ _ => (p_one (k_notT (k_post rfl (k_call R.r12 T.gf_12 rfl hr (Nat.le_succ _) rfl takes0 (k_cons (k_sub rfl rfl hr (k_var rfl (by first | exact Or.inl rfl | exact Or.inr (Or.inl rfl) | exact Or.inr (Or.inr rfl)) rfl rfl) (k_var rfl (by first | exact Or.inl rfl | exact Or.inr (Or.inl rfl) | exact Or.inr (Or.inr rfl)) rfl rfl) (fun _ _ => rfl) rfl) (k_cons (k_sub rfl rfl hr (k_var rfl (by first | exact Or.inl rfl | exact Or.inr (Or.inl rfl) | exact Or.inr (Or.inr rfl)) rfl rfl) (k_var rfl (by first | exact Or.inl rfl | exact Or.inr (Or.inl rfl) | exact Or.inr (Or.inr rfl)) rfl rfl) (fun _ _ => rfl) rfl) k_nil rfl rfl) rfl rfl) rfl rfl rfl) fun _ => rfl)))) (fun _ _ _ _ _ => (k_var rfl (by first | exact Or.inl rfl | exact Or.inr (Or.inl rfl) | exact Or.inr (Or.inr rfl)) rfl rfl)) (fun _ => rfl) rfl) (k_lstD k_nil) rfl rfl)) j_nil))) j_nil) (j_cons (j_if (PW.pt (k_orT (k_cmpT rfl rfl rfl hr (k_var rfl (by first | exact Or.inl rfl | exact Or.inr (Or.inl rfl) | exact Or.inr (Or.inr rfl)) rfl rfl) k_non rfl rfl) (pw_or1 (k_post rfl (k_isi1 rfl T.isi rfl T.nb_isinstance (k_var rfl (by first | exact Or.inl rfl | exact Or.inr (Or.inl rfl) | exact Or.inr (Or.inr rfl)) rfl rfl) (k_ty rfl T.nb_str rfl (by decide) rfl (by intro _ h; cases h)) rfl rfl) fun _ => rfl)) rfl)) (j_cons (j_ret (k_and (k_cmp rfl rfl rfl hr (k_var rfl (by first | exact Or.inl rfl | exact Or.inr (Or.inl rfl) | exact Or.inr (Or.inr rfl)) rfl rfl) (k_var rfl (by first | exact Or.inl rfl | exact Or.inr (Or.inl rfl) | exact Or.inr (Or.inr rfl)) rfl rfl) rfl rfl) (pe_one (k_cmp rfl rfl rfl hr (k_isi1 rfl T.isi rfl T.nb_isinstance (k_var rfl (by first | exact Or.inl rfl | exact Or.inr (Or.inl rfl) | exact Or.inr (Or.inr rfl)) rfl rfl) (k_ty rfl T.nb_str rfl (by decide) rfl (by intro _ h; cases h)) rfl rfl) (k_isi1 rfl T.isi rfl T.nb_isinstance (k_var rfl (by first | exact Or.inl rfl | exact Or.inr (Or.inl rfl) | exact Or.inr (Or.inr rfl)) rfl rfl) (k_ty rfl T.nb_str rfl (by decide) rfl (by intro _ h; cases h)) rfl rfl) rfl rfl)) rfl)) j_nil) j_nil) (j_cons (j_ret (k_and (k_isi1 rfl T.isi rfl T.nb_isinstance (k_var rfl (by first | exact Or.inl rfl | exact Or.inr (Or.inl rfl) | exact Or.inr (Or.inr rfl)) rfl rfl) (k_ty rfl T.nb_int rfl (by decide) rfl (by intro _ h; cases h)) rfl rfl) (k_and (k_cmp rfl rfl rfl hr (k_isi1 rfl T.isi rfl T.nb_isinstance (k_var rfl (by first | exact Or.inl rfl | exact Or.inr (Or.inl rfl) | exact Or.inr (Or.inr rfl)) rfl rfl) (k_ty rfl T.nb_bool rfl (by decide) rfl (by intro _ h; cases h)) rfl rfl) (k_isi1 rfl T.isi rfl T.nb_isinstance (k_var rfl (by first | exact Or.inl rfl | exact Or.inr (Or.inl rfl) | exact Or.inr (Or.inr rfl)) rfl rfl) (k_ty rfl T.nb_bool rfl (by decide) rfl (by intro _ h; cases h)) rfl rfl) rfl rfl) (pe_one (k_cmp rfl rfl rfl hr (k_var rfl (by first | exact Or.inl rfl | exact Or.inr (Or.inl rfl) | exact Or.inr (Or.inr rfl)) rfl rfl) (k_var rfl (by first | exact Or.inl rfl | exact Or.inr (Or.inl rfl) | exact Or.inr (Or.inr rfl)) rfl rfl) rfl rfl)) rfl) rfl)) j_nil))))
/-- _law_pick -/
theorem ok_13 (T : TX P w K mg t) {n : Nat} (R : All P w K mg base t n) : FnOk P w K mg base (L2.CX P w) (2 * n + 1 + 1) t.f13 t.d13 ["_law_h", "_law_things"] (spF (GG K w t) (callF (n + 1)) 2 13) := by
  exact fn_ok (G := GG K w t) (sem := sem_13 (callF n)) T.F13 sc_13 rfl rfl (fun _ => True) fun cdv A outer s H E hr tk hp =>
    (j_cons (j_ret (k_sub rfl rfl hr (k_var rfl (by first | exact Or.inl rfl | exact Or.inr (Or.inl rfl) | exact Or.inr (Or.inr rfl)) rfl rfl) (k_call R.r11 T.gf_11 rfl hr (Nat.le_succ _) rfl tk (k_cons (k_var rfl (by first | exact Or.inl rfl | exact Or.inr (Or.inl rfl) | exact Or.inr (Or.inr rfl)) rfl rfl) (k_cons (k_len rfl rfl T.nb_len (k_var rfl (by first | exact Or.inl rfl | exact Or.inr (Or.inl rfl) | exact Or.inr (Or.inr rfl)) rfl rfl) rfl rfl) k_nil rfl rfl) rfl rfl) rfl rfl rfl) (fun _ _ => rfl) rfl)) j_nil)
/-- _law_parts -/
theorem ok_14 (T : TX P w K mg t) {n : Nat} (R : All P w K mg base t n) : FnOk P w K mg base (L2.CX P w) (2 * n + 1 + 1) t.f14 t.d14 [] (spF (GG K w t) (callF (n + 1)) 0 14) := by
  exact fn_ok (G := GG K w t) (sem := sem_14 (callF n)) T.F14 sc_14 rfl rfl (fun _ => True) fun cdv A outer s H E hr tk hp =>
    (j_cons (j_asg (k_lstD (k_cons (k_tup (k_cons (k_str rfl) (k_cons (k_lstD (k_cons (k_str rfl) (k_cons (k_str rfl) (k_cons (k_str rfl) k_nil rfl rfl) rfl rfl) rfl rfl)) k_nil rfl rfl) rfl rfl)) (k_cons (k_tup (k_cons (k_str rfl) (k_cons (k_lstD (k_cons k_int (k_cons k_int (k_cons k_int (k_cons k_int k_nil rfl rfl) rfl rfl) rfl rfl) rfl rfl)) k_nil rfl rfl) rfl rfl)) (k_cons (k_tup (k_cons (k_str rfl) (k_cons (k_lstD (k_cons (k_str rfl) (k_cons (k_str rfl) k_nil rfl rfl) rfl rfl)) k_nil rfl rfl) rfl rfl)) k_nil rfl rfl) rfl rfl) rfl rfl)) sc_14.nd rfl (by first | exact Or.inl rfl | exact Or.inr rfl) (by first | exact Or.inl rfl | exact Or.inr rfl) rfl) (j_cons (j_ret (k_bin rfl rfl (k_var rfl (by first | exact Or.inl rfl | exact Or.inr (Or.inl rfl) | exact Or.inr (Or.inr rfl)) rfl rfl) (k_lstD (k_cons (k_tup (k_cons (k_str rfl) (k_cons (k_lstD (k_cons (k_str rfl) (k_cons (k_str rfl) (k_cons (k_str rfl) k_nil rfl rfl) rfl rfl) rfl rfl)) k_nil rfl rfl) rfl rfl)) (k_cons (k_tup (k_cons (k_str rfl) (k_cons (k_lstD (k_cons (k_str rfl) (k_cons (k_str rfl) k_nil rfl rfl) rfl rfl)) k_nil rfl rfl) rfl rfl)) k_nil rfl rfl) rfl rfl)) rfl)) j_nil))
/-- _law_words -/
theorem ok_15 (T : TX P w K mg t) {n : Nat} (R : All P w K mg base t n) : FnOk P w K mg base (L2.CX P w) (2 * n + 1 + 1) t.f15 t.d15 ["_law_h"] (spF (GG K w t) (callF (n + 1)) 1 15) := by
  exact fn_ok (G := GG K w t) (sem := sem_15 (callF n)) T.F15 sc_15 rfl rfl (fun _ => True) fun cdv A outer s H E hr tk hp =>
    (j_cons (j_ret (k_compO (own := [("_law_part", 1), ("_law_words_here", 2)]) rfl sc_15.nd (k_seq rfl (k_call0 R.r14 T.gf_14 rfl hr (Nat.le_succ _) rfl tk rfl)) (blk_ok rfl) (by decide) (fun _ _ _ _ _ => (g_tup (n := 2) rfl rfl (g_cons (g_var sc_15.nd rfl (by first | exact Or.inl rfl | exact Or.inr rfl) (by first | exact Or.inl rfl | exact Or.inr rfl)) (g_cons (g_var sc_15.nd rfl (by first | exact Or.inl rfl | exact Or.inr rfl) (by first | exact Or.inl rfl | exact Or.inr rfl)) g_nil rfl) rfl) rfl (fun xs _ _ h => asg_len2 h) rfl)) (fun _ _ _ _ _ => p_nil) (fun _ _ _ _ _ => (k_call R.r13 T.gf_13 rfl hr (Nat.le_succ _) rfl takes0 (k_cons (k_var rfl (by first | exact Or.inl rfl | exact Or.inr (Or.inl rfl) | exact Or.inr (Or.inr rfl)) rfl rfl) (k_cons (k_var rfl (by first | exact Or.inl rfl | exact Or.inr (Or.inl rfl) | exact Or.inr (Or.inr rfl)) rfl rfl) k_nil rfl rfl) rfl rfl) rfl rfl rfl)) (fun _ => rfl) rfl)) j_nil)
/-- _law_built -/
theorem ok_16 (T : TX P w K mg t) {n : Nat} (R : All P w K mg base t n) : FnOk P w K mg base (L2.CX P w) (2 * n + 1 + 1) t.f16 t.d16 ["_law_words_here"] (spF (GG K w t) (callF (n + 1)) 1 16) := by
  exact fn_ok (G := GG K w t) (sem := sem_16 (callF n)) T.F16 sc_16 rfl rfl (fun _ => True) fun cdv A outer s H E hr tk hp =>
    (j_cons (j_ret (k_new R.r2 T.mk_Rule (cl := 0) rfl T.mgc_Rule rfl hr (Nat.le_refl _) rfl tk (k_cons (k_sub rfl rfl hr (k_var rfl (by first | exact Or.inl rfl | exact Or.inr (Or.inl rfl) | exact Or.inr (Or.inr rfl)) rfl rfl) k_int (fun _ _ => rfl) rfl) (k_cons (k_sub rfl rfl hr (k_var rfl (by first | exact Or.inl rfl | exact Or.inr (Or.inl rfl) | exact Or.inr (Or.inr rfl)) rfl rfl) k_int (fun _ _ => rfl) rfl) (k_cons (k_sub rfl rfl hr (k_var rfl (by first | exact Or.inl rfl | exact Or.inr (Or.inl rfl) | exact Or.inr (Or.inr rfl)) rfl rfl) k_int (fun _ _ => rfl) rfl) (k_cons (k_sub rfl rfl hr (k_var rfl (by first | exact Or.inl rfl | exact Or.inr (Or.inl rfl) | exact Or.inr (Or.inr rfl)) rfl rfl) k_int (fun _ _ => rfl) rfl) (k_cons (k_sub rfl rfl hr (k_var rfl (by first | exact Or.inl rfl | exact Or.inr (Or.inl rfl) | exact Or.inr (Or.inr rfl)) rfl rfl) k_int (fun _ _ => rfl) rfl) k_nil rfl rfl) rfl rfl) rfl rfl) rfl rfl) rfl rfl) rfl rfl rfl)) j_nil)
/-- _law_fault -/
theorem ok_17 (T : TX P w K mg t) {n : Nat} (R : All P w K mg base t n) : FnOk P w K mg base (L2.CX P w) (2 * n + 1 + 1) t.f17 t.d17 ["_law_words_here"] (spF (GG K w t) (callF (n + 1)) 1 17) := by
  exact fn_ok (G := GG K w t) (sem := sem_17 (callF n)) T.F17 sc_17 rfl rfl (fun _ => True) fun cdv A outer s H E hr tk hp =>
    (j_cons (j_for hp rfl (k_zip rfl rfl T.nb_zip (k_call0 R.r14 T.gf_14 rfl hr (Nat.le_succ _) rfl tk rfl) (k_var rfl (by first | exact Or.inl rfl | exact Or.inr (Or.inl rfl) | exact Or.inr (Or.inr rfl)) rfl rfl) rfl rfl rfl) (g_tup (n := 2) rfl rfl (g_cons (g_tup (n := 2) rfl rfl (g_cons (g_var sc_17.nd rfl (by first | exact Or.inl rfl | exact Or.inr rfl) (by first | exact Or.inl rfl | exact Or.inr rfl)) (g_cons (g_var sc_17.nd rfl (by first | exact Or.inl rfl | exact Or.inr rfl) (by first | exact Or.inl rfl | exact Or.inr rfl)) g_nil rfl) rfl) rfl (fun xs _ _ h => asg_len2 h) rfl) (g_cons (g_var sc_17.nd rfl (by first | exact Or.inl rfl | exact Or.inr rfl) (by first | exact Or.inl rfl | exact Or.inr rfl)) g_nil rfl) rfl) rfl (fun xs _ _ h => asg_len2 h) rfl) (j_cons (j_if (PW.pt (k_orT (k_post rfl (k_isi1 rfl T.isi rfl T.nb_isinstance (k_var rfl (by first | exact Or.inl rfl | exact Or.inr (Or.inl rfl) | exact Or.inr (Or.inr rfl)) rfl rfl) (k_ty rfl T.nb_bool rfl (by decide) rfl (by intro _ h; cases h)) rfl rfl) fun _ => rfl) (pw_or1 (k_cmpT rfl rfl rfl hr (k_var rfl (by first | exact Or.inl rfl | exact Or.inr (Or.inl rfl) | exact Or.inr (Or.inr rfl)) rfl rfl) (k_var rfl (by first | exact Or.inl rfl | exact Or.inr (Or.inl rfl) | exact Or.inr (Or.inr rfl)) rfl rfl) rfl rfl)) rfl)) (j_cons (j_ret (k_var rfl (by first | exact Or.inl rfl | exact Or.inr (Or.inl rfl) | exact Or.inr (Or.inr rfl)) rfl rfl)) j_nil) j_nil) j_nil) fun _ => rfl) (j_cons (j_ret k_non) j_nil))
/-- _law_tried -/
theorem ok_18 (T : TX P w K mg t) {n : Nat} (R : All P w K mg base t n) : FnOk P w K mg base (L2.CX P w) (2 * n + 1 + 1) t.f18 t.d18 ["_law_rule", "_law_words_here", "_law_part", "_law_word"] (spF (GG K w t) (callF (n + 1)) 4 18) := by
  exact fn_ok (G := GG K w t) (sem := sem_18 (callF n)) T.F18 sc_18 rfl rfl (fun _ => True) fun cdv A outer s H E hr tk hp =>
    (j_cons (j_asg k_non sc_18.nd rfl (by first | exact Or.inl rfl | exact Or.inr rfl) (by first | exact Or.inl rfl | exact Or.inr rfl) rfl) (j_cons (j_try rfl rfl sc_18.nd rfl rfl tk (fun _ _ _ tk hp => (j_cons (j_asg (k_ite (k_cmpT rfl rfl rfl hr (k_var rfl (by first | exact Or.inl rfl | exact Or.inr (Or.inl rfl) | exact Or.inr (Or.inr rfl)) rfl rfl) k_non rfl rfl) (k_call R.r16 T.gf_16 rfl hr (Nat.le_succ _) rfl tk (k_cons (k_var rfl (by first | exact Or.inl rfl | exact Or.inr (Or.inl rfl) | exact Or.inr (Or.inr rfl)) rfl rfl) k_nil rfl rfl) rfl rfl rfl) (k_meth R.r8 (cl := 0) rfl T.cl_Rule T.me_8 nf_changed rfl hr (Nat.le_succ _) tk (k_var rfl (by first | exact Or.inl rfl | exact Or.inr (Or.inl rfl) | exact Or.inr (Or.inr rfl)) rfl rfl) (k_cons (k_var rfl (by first | exact Or.inl rfl | exact Or.inr (Or.inl rfl) | exact Or.inr (Or.inr rfl)) rfl rfl) (k_cons (k_var rfl (by first | exact Or.inl rfl | exact Or.inr (Or.inl rfl) | exact Or.inr (Or.inr rfl)) rfl rfl) k_nil rfl rfl) rfl rfl) rfl rfl rfl rfl rfl) rfl) sc_18.nd rfl (by first | exact Or.inl rfl | exact Or.inr rfl) (by first | exact Or.inl rfl | exact Or.inr rfl) rfl) j_nil)) (.asg (k := 1) ⟨rfl, rfl, Or.inl T.mgx_InvalidRule⟩ T.exm_InvalidRule (.nm rfl rfl) (j := 4) rfl (by first | exact Or.inl rfl | exact Or.inr rfl) (by first | exact Or.inl rfl | exact Or.inr rfl) (fun _ _ _ _ _ hz hf => (u_ite (i := 5) rfl T.xall T.kb_BookError hz hf rfl T.nb_isinstance rfl T.mgx_BookError rfl rfl (by first | exact Or.inl rfl | exact Or.inr (Or.inl rfl) | exact Or.inr (Or.inr rfl)) rfl rfl rfl rfl (fun _ => rfl) (u_tup (u_cons (u_str rfl) (u_cons (u_fld (i := 5) (fi := 1) rfl rfl T.xall (by decide) rfl (by first | exact Or.inl rfl | exact Or.inr (Or.inl rfl) | exact Or.inr (Or.inr rfl)) rfl rfl hz hf rfl) u_nil rfl) rfl)))) rfl (.asg (k := 2) ⟨rfl, rfl, Or.inl T.mgx_UnknownPart⟩ T.exm_UnknownPart (.nm rfl rfl) (j := 4) rfl (by first | exact Or.inl rfl | exact Or.inr rfl) (by first | exact Or.inl rfl | exact Or.inr rfl) (fun _ _ _ _ _ hz hf => (u_tup (u_cons (u_str rfl) (u_cons (u_fld (i := 5) (fi := 1) rfl rfl T.xall (by decide) rfl (by first | exact Or.inl rfl | exact Or.inr (Or.inl rfl) | exact Or.inr (Or.inr rfl)) rfl rfl hz hf rfl) u_nil rfl) rfl))) rfl .nil))) (j_cons (j_ret (k_var rfl (by first | exact Or.inl rfl | exact Or.inr (Or.inl rfl) | exact Or.inr (Or.inr rfl)) rfl rfl)) j_nil)))
/-- _law_told -/
theorem ok_19 (T : TX P w K mg t) {n : Nat} (R : All P w K mg base t n) : FnOk P w K mg base (L2.CX P w) (2 * n + 1 + 1) t.f19 t.d19 ["_law_rule"] (spF (GG K w t) (callF (n + 1)) 1 19) := by
  exact fn_ok (G := GG K w t) (sem := sem_19 (callF n)) T.F19 sc_19 rfl rfl (fun _ => True) fun cdv A outer s H E hr tk hp =>
    (j_cons (j_ret (k_lstD (k_cons (k_prop R.r3 (cl := 0) rfl T.cl_Rule T.pr_3 rfl hr (Nat.le_refl _) (k_var rfl (by first | exact Or.inl rfl | exact Or.inr (Or.inl rfl) | exact Or.inr (Or.inr rfl)) rfl rfl) rfl) (k_cons (k_prop R.r4 (cl := 0) rfl T.cl_Rule T.pr_4 rfl hr (Nat.le_refl _) (k_var rfl (by first | exact Or.inl rfl | exact Or.inr (Or.inl rfl) | exact Or.inr (Or.inr rfl)) rfl rfl) rfl) (k_cons (k_prop R.r5 (cl := 0) rfl T.cl_Rule T.pr_5 rfl hr (Nat.le_refl _) (k_var rfl (by first | exact Or.inl rfl | exact Or.inr (Or.inl rfl) | exact Or.inr (Or.inr rfl)) rfl rfl) rfl) (k_cons (k_prop R.r6 (cl := 0) rfl T.cl_Rule T.pr_6 rfl hr (Nat.le_refl _) (k_var rfl (by first | exact Or.inl rfl | exact Or.inr (Or.inl rfl) | exact Or.inr (Or.inr rfl)) rfl rfl) rfl) (k_cons (k_prop R.r7 (cl := 0) rfl T.cl_Rule T.pr_7 rfl hr (Nat.le_refl _) (k_var rfl (by first | exact Or.inl rfl | exact Or.inr (Or.inl rfl) | exact Or.inr (Or.inr rfl)) rfl rfl) rfl) k_nil rfl rfl) rfl rfl) rfl rfl) rfl rfl) rfl rfl))) j_nil)
/-- law -/
theorem ok_20 (T : TX P w K mg t) {n : Nat} (R : All P w K mg base t n) : FnOk P w K mg base (L2.CX P w) (2 * n + 1 + 1) t.f20 t.d20 ["_law_script"] (spF (GG K w t) (callF (n + 1)) 1 20) := by
  exact fn_ok (G := GG K w t) (sem := sem_20 (callF n)) T.F20 sc_20 rfl rfl (fun _ => True) fun cdv A outer s H E hr tk hp =>
    (j_cons (j_asg (k_call R.r10 T.gf_10 rfl hr (Nat.le_succ _) rfl tk (k_cons (k_var rfl (by first | exact Or.inl rfl | exact Or.inr (Or.inl rfl) | exact Or.inr (Or.inr rfl)) rfl rfl) (k_cons k_int k_nil rfl rfl) rfl rfl) rfl rfl rfl) sc_20.nd rfl (by first | exact Or.inl rfl | exact Or.inr rfl) (by first | exact Or.inl rfl | exact Or.inr rfl) rfl) (j_cons (j_asg (k_lstD (k_cons (k_str rfl) (k_cons (k_str rfl) (k_cons (k_str rfl) (k_cons (k_str rfl) (k_cons (k_str rfl) (k_cons (k_str rfl) (k_cons k_non (k_cons k_int (k_cons k_int (k_cons k_bl (k_cons (k_str rfl) (k_cons (k_lstD (k_cons (k_str rfl) k_nil rfl rfl)) (k_cons k_int (k_cons (k_str rfl) (k_cons (k_str rfl) k_nil rfl rfl) rfl rfl) rfl rfl) rfl rfl) rfl rfl) rfl rfl) rfl rfl) rfl rfl) rfl rfl) rfl rfl) rfl rfl) rfl rfl) rfl rfl) rfl rfl) rfl rfl)) sc_20.nd rfl (by first | exact Or.inl rfl | exact Or.inr rfl) (by first | exact Or.inl rfl | exact Or.inr rfl) rfl) (j_cons (j_for hp rfl (k_rng1 rfl T.nb_range k_int rfl) (g_var sc_20.nd rfl (by first | exact Or.inl rfl | exact Or.inr rfl) (by first | exact Or.inl rfl | exact Or.inr rfl)) (j_cons (j_asg (k_call R.r15 T.gf_15 rfl hr (Nat.le_succ _) rfl tk (k_cons (k_var rfl (by first | exact Or.inl rfl | exact Or.inr (Or.inl rfl) | exact Or.inr (Or.inr rfl)) rfl rfl) k_nil rfl rfl) rfl rfl rfl) sc_20.nd rfl (by first | exact Or.inl rfl | exact Or.inr rfl) (by first | exact Or.inl rfl | exact Or.inr rfl) rfl) (j_cons (j_for hp rfl (k_rng1 rfl T.nb_range (k_call R.r11 T.gf_11 rfl hr (Nat.le_succ _) rfl tk (k_cons (k_var rfl (by first | exact Or.inl rfl | exact Or.inr (Or.inl rfl) | exact Or.inr (Or.inr rfl)) rfl rfl) (k_cons k_int k_nil rfl rfl) rfl rfl) rfl rfl rfl) rfl) (g_var sc_20.nd rfl (by first | exact Or.inl rfl | exact Or.inr rfl) (by first | exact Or.inl rfl | exact Or.inr rfl)) (j_cons (j_setI hr (k_call R.r13 T.gf_13 rfl hr (Nat.le_succ _) rfl tk (k_cons (k_var rfl (by first | exact Or.inl rfl | exact Or.inr (Or.inl rfl) | exact Or.inr (Or.inr rfl)) rfl rfl) (k_cons (k_var rfl (by first | exact Or.inl rfl | exact Or.inr (Or.inl rfl) | exact Or.inr (Or.inr rfl)) rfl rfl) k_nil rfl rfl) rfl rfl) rfl rfl rfl) (k_var rfl (by first | exact Or.inl rfl | exact Or.inr (Or.inl rfl) | exact Or.inr (Or.inr rfl)) rfl rfl) (k_call R.r11 T.gf_11 rfl hr (Nat.le_succ _) rfl tk (k_cons (k_var rfl (by first | exact Or.inl rfl | exact Or.inr (Or.inl rfl) | exact Or.inr (Or.inr rfl)) rfl rfl) (k_cons k_int k_nil rfl rfl) rfl rfl) rfl rfl rfl) rfl rfl rfl fun _ => rfl) j_nil) fun _ => rfl) (x_frz (i := 4) (j_cons (j_par2 rfl sc_20.nd rfl rfl (by decide) rfl rfl (k_cons (k_call R.r18 T.gf_18 rfl hr (Nat.le_succ _) rfl tk (k_cons k_non (k_cons (k_var rfl (by first | exact Or.inl rfl | exact Or.inr (Or.inl rfl) | exact Or.inr (Or.inr rfl)) rfl rfl) (k_cons k_non (k_cons k_non k_nil rfl rfl) rfl rfl) rfl rfl) rfl rfl) rfl rfl rfl) (k_cons (k_call R.r17 T.gf_17 rfl hr (Nat.le_succ _) rfl tk (k_cons (k_var rfl (by first | exact Or.inl rfl | exact Or.inr (Or.inl rfl) | exact Or.inr (Or.inr rfl)) rfl rfl) k_nil rfl rfl) rfl rfl rfl) k_nil rfl rfl) rfl rfl) rfl rfl) (j_cons (j_if (k_cmpT rfl rfl rfl hr (k_var rfl (by first | exact Or.inl rfl | exact Or.inr (Or.inl rfl) | exact Or.inr (Or.inr rfl)) rfl rfl) k_non rfl rfl) (j_cons (j_if (k_cmpT rfl rfl rfl hr (k_var rfl (by first | exact Or.inl rfl | exact Or.inr (Or.inl rfl) | exact Or.inr (Or.inr rfl)) rfl rfl) (k_tup (k_cons (k_str rfl) (k_cons (k_var rfl (by first | exact Or.inl rfl | exact Or.inr (Or.inl rfl) | exact Or.inr (Or.inr rfl)) rfl rfl) k_nil rfl rfl) rfl rfl)) rfl rfl) (j_cons (j_ret k_bl) j_nil) j_nil) j_nil) (j_cons (j_if (PW.pt (k_orT (k_notT (k_post rfl (k_call R.r12 T.gf_12 rfl hr (Nat.le_succ _) rfl tk (k_cons (k_call R.r19 T.gf_19 rfl hr (Nat.le_succ _) rfl tk (k_cons (k_var rfl (by first | exact Or.inl rfl | exact Or.inr (Or.inl rfl) | exact Or.inr (Or.inr rfl)) rfl rfl) k_nil rfl rfl) rfl rfl rfl) (k_cons (k_var rfl (by first | exact Or.inl rfl | exact Or.inr (Or.inl rfl) | exact Or.inr (Or.inr rfl)) rfl rfl) k_nil rfl rfl) rfl rfl) rfl rfl rfl) fun _ => rfl)) (k_orT (k_notT (k_eqIT R.r9 T.eq_Rule (cl := 0) rfl rfl hr (Nat.le_succ _) T.isi (k_var rfl (by first | exact Or.inl rfl | exact Or.inr (Or.inl rfl) | exact Or.inr (Or.inr rfl)) rfl rfl) (k_call R.r16 T.gf_16 rfl hr (Nat.le_succ _) rfl tk (k_cons (k_var rfl (by first | exact Or.inl rfl | exact Or.inr (Or.inl rfl) | exact Or.inr (Or.inr rfl)) rfl rfl) k_nil rfl rfl) rfl rfl rfl) rfl)) (pw_or1 (k_eqIT R.r9 T.eq_Rule (cl := 0) rfl rfl hr (Nat.le_succ _) T.isi (k_var rfl (by first | exact Or.inl rfl | exact Or.inr (Or.inl rfl) | exact Or.inr (Or.inr rfl)) rfl rfl) (k_var rfl (by first | exact Or.inl rfl | exact Or.inr (Or.inl rfl) | exact Or.inr (Or.inr rfl)) rfl rfl) rfl)) rfl) rfl)) (j_cons (j_ret k_bl) j_nil) j_nil) (j_cons (j_asg (k_call R.r11 T.gf_11 rfl hr (Nat.le_succ _) rfl tk (k_cons (k_var rfl (by first | exact Or.inl rfl | exact Or.inr (Or.inl rfl) | exact Or.inr (Or.inr rfl)) rfl rfl) (k_cons k_int k_nil rfl rfl) rfl rfl) rfl rfl rfl) sc_20.nd rfl (by first | exact Or.inl rfl | exact Or.inr rfl) (by first | exact Or.inl rfl | exact Or.inr rfl) rfl) (j_cons (j_asg (k_ite (k_cmpT rfl rfl rfl hr (k_var rfl (by first | exact Or.inl rfl | exact Or.inr (Or.inl rfl) | exact Or.inr (Or.inr rfl)) rfl rfl) k_int rfl rfl) (k_sub rfl rfl hr (k_sub rfl rfl hr (k_call0 R.r14 T.gf_14 rfl hr (Nat.le_succ _) rfl tk rfl) (k_var rfl (by first | exact Or.inl rfl | exact Or.inr (Or.inl rfl) | exact Or.inr (Or.inr rfl)) rfl rfl) (fun _ _ => rfl) rfl) k_int (fun _ _ => rfl) rfl) (k_call R.r13 T.gf_13 rfl hr (Nat.le_succ _) rfl tk (k_cons (k_var rfl (by first | exact Or.inl rfl | exact Or.inr (Or.inl rfl) | exact Or.inr (Or.inr rfl)) rfl rfl) (k_cons (k_lstD (k_cons (k_str rfl) (k_cons k_non (k_cons k_int (k_cons (k_str rfl) (k_cons (k_lstD (k_cons (k_str rfl) k_nil rfl rfl)) (k_cons (k_str rfl) k_nil rfl rfl) rfl rfl) rfl rfl) rfl rfl) rfl rfl) rfl rfl)) k_nil rfl rfl) rfl rfl) rfl rfl rfl) rfl) sc_20.nd rfl (by first | exact Or.inl rfl | exact Or.inr rfl) (by first | exact Or.inl rfl | exact Or.inr rfl) rfl) (j_cons (j_asg (k_call R.r13 T.gf_13 rfl hr (Nat.le_succ _) rfl tk (k_cons (k_var rfl (by first | exact Or.inl rfl | exact Or.inr (Or.inl rfl) | exact Or.inr (Or.inr rfl)) rfl rfl) (k_cons (k_bin rfl rfl (k_sub rfl rfl hr (k_sub rfl rfl hr (k_call0 R.r14 T.gf_14 rfl hr (Nat.le_succ _) rfl tk rfl) (k_bin rfl rfl (k_var rfl (by first | exact Or.inl rfl | exact Or.inr (Or.inl rfl) | exact Or.inr (Or.inr rfl)) rfl rfl) k_int rfl) (fun _ _ => rfl) rfl) k_int (fun _ _ => rfl) rfl) (k_slcL rfl (k_var rfl (by first | exact Or.inl rfl | exact Or.inr (Or.inl rfl) | exact Or.inr (Or.inr rfl)) rfl rfl) k_no (k_yes k_int) rfl rfl) rfl) k_nil rfl rfl) rfl rfl) rfl rfl rfl) sc_20.nd rfl (by first | exact Or.inl rfl | exact Or.inr rfl) (by first | exact Or.inl rfl | exact Or.inr rfl) rfl) (j_cons (j_asg (k_call R.r18 T.gf_18 rfl hr (Nat.le_succ _) rfl tk (k_cons (k_var rfl (by first | exact Or.inl rfl | exact Or.inr (Or.inl rfl) | exact Or.inr (Or.inr rfl)) rfl rfl) (k_cons k_non (k_cons (k_var rfl (by first | exact Or.inl rfl | exact Or.inr (Or.inl rfl) | exact Or.inr (Or.inr rfl)) rfl rfl) (k_cons (k_var rfl (by first | exact Or.inl rfl | exact Or.inr (Or.inl rfl) | exact Or.inr (Or.inr rfl)) rfl rfl) k_nil rfl rfl) rfl rfl) rfl rfl) rfl rfl) rfl rfl rfl) sc_20.nd rfl (by first | exact Or.inl rfl | exact Or.inr rfl) (by first | exact Or.inl rfl | exact Or.inr rfl) rfl) (j_cons (j_if (k_cmpT rfl rfl rfl hr (k_var rfl (by first | exact Or.inl rfl | exact Or.inr (Or.inl rfl) | exact Or.inr (Or.inr rfl)) rfl rfl) k_int rfl rfl) (j_cons (j_if (k_notT (k_post rfl (k_call R.r12 T.gf_12 rfl hr (Nat.le_succ _) rfl tk (k_cons (k_var rfl (by first | exact Or.inl rfl | exact Or.inr (Or.inl rfl) | exact Or.inr (Or.inr rfl)) rfl rfl) (k_cons (k_tup (k_cons (k_str rfl) (k_cons (k_var rfl (by first | exact Or.inl rfl | exact Or.inr (Or.inl rfl) | exact Or.inr (Or.inr rfl)) rfl rfl) k_nil rfl rfl) rfl rfl)) k_nil rfl rfl) rfl rfl) rfl rfl rfl) fun _ => rfl)) (j_cons (j_ret k_bl) j_nil) j_nil) j_nil) (j_cons (j_if (PW.pt (k_orT (k_post rfl (k_isi1 rfl T.isi rfl T.nb_isinstance (k_var rfl (by first | exact Or.inl rfl | exact Or.inr (Or.inl rfl) | exact Or.inr (Or.inr rfl)) rfl rfl) (k_ty rfl T.nb_bool rfl (by decide) rfl (by intro _ h; cases h)) rfl rfl) fun _ => rfl) (pw_or1 (k_cmpT rfl rfl rfl hr (k_var rfl (by first | exact Or.inl rfl | exact Or.inr (Or.inl rfl) | exact Or.inr (Or.inr rfl)) rfl rfl) (k_sub rfl rfl hr (k_sub rfl rfl hr (k_call0 R.r14 T.gf_14 rfl hr (Nat.le_succ _) rfl tk rfl) (k_var rfl (by first | exact Or.inl rfl | exact Or.inr (Or.inl rfl) | exact Or.inr (Or.inr rfl)) rfl rfl) (fun _ _ => rfl) rfl) k_int (fun _ _ => rfl) rfl) rfl rfl)) rfl)) (j_cons (j_if (k_cmpT rfl rfl rfl hr (k_var rfl (by first | exact Or.inl rfl | exact Or.inr (Or.inl rfl) | exact Or.inr (Or.inr rfl)) rfl rfl) (k_tup (k_cons (k_str rfl) (k_cons (k_var rfl (by first | exact Or.inl rfl | exact Or.inr (Or.inl rfl) | exact Or.inr (Or.inr rfl)) rfl rfl) k_nil rfl rfl) rfl rfl)) rfl rfl) (j_cons (j_ret k_bl) j_nil) j_nil) j_nil) (j_cons (j_if (PW.pt (k_orT (k_cmpT rfl rfl rfl hr (k_call R.r19 T.gf_19 rfl hr (Nat.le_succ _) rfl tk (k_cons (k_var rfl (by first | exact Or.inl rfl | exact Or.inr (Or.inl rfl) | exact Or.inr (Or.inr rfl)) rfl rfl) k_nil rfl rfl) rfl rfl rfl) (k_bin rfl rfl (k_bin rfl rfl (k_slcL rfl (k_var rfl (by first | exact Or.inl rfl | exact Or.inr (Or.inl rfl) | exact Or.inr (Or.inr rfl)) rfl rfl) k_no (k_yes (k_var rfl (by first | exact Or.inl rfl | exact Or.inr (Or.inl rfl) | exact Or.inr (Or.inr rfl)) rfl rfl)) rfl rfl) (k_lstD (k_cons (k_var rfl (by first | exact Or.inl rfl | exact Or.inr (Or.inl rfl) | exact Or.inr (Or.inr rfl)) rfl rfl) k_nil rfl rfl)) rfl) (k_slcL rfl (k_var rfl (by first | exact Or.inl rfl | exact Or.inr (Or.inl rfl) | exact Or.inr (Or.inr rfl)) rfl rfl) (k_yes (k_bin rfl rfl (k_var rfl (by first | exact Or.inl rfl | exact Or.inr (Or.inl rfl) | exact Or.inr (Or.inr rfl)) rfl rfl) k_int rfl)) k_no rfl rfl) rfl) rfl rfl) (pw_or1 (k_cmpT rfl rfl rfl hr (k_eqI R.r9 T.eq_Rule (cl := 0) rfl rfl hr (Nat.le_succ _) T.isi (k_var rfl (by first | exact Or.inl rfl | exact Or.inr (Or.inl rfl) | exact Or.inr (Or.inr rfl)) rfl rfl) (k_var rfl (by first | exact Or.inl rfl | exact Or.inr (Or.inl rfl) | exact Or.inr (Or.inr rfl)) rfl rfl) rfl) (k_cmp rfl rfl rfl hr (k_var rfl (by first | exact Or.inl rfl | exact Or.inr (Or.inl rfl) | exact Or.inr (Or.inr rfl)) rfl rfl) (k_sub rfl rfl hr (k_var rfl (by first | exact Or.inl rfl | exact Or.inr (Or.inl rfl) | exact Or.inr (Or.inr rfl)) rfl rfl) (k_var rfl (by first | exact Or.inl rfl | exact Or.inr (Or.inl rfl) | exact Or.inr (Or.inr rfl)) rfl rfl) (fun _ _ => rfl) rfl) rfl rfl) rfl rfl)) rfl)) (j_cons (j_ret k_bl) j_nil) j_nil) j_nil)) j_nil)) j_nil))))))) j_nil))))) fun _ => rfl) (j_cons (j_ret k_bl) j_nil))))
theorem all_ok (T : TX P w K mg t) : ∀ n, All P w K mg base t n
  | 0 => ⟨⟨fn_zero rfl, T.b0, fun _ _ _ h => nomatch h⟩, ⟨fn_zero rfl, T.b1, fun _ _ _ h => nomatch h⟩, ⟨fn_zero rfl, T.b2, fun _ _ _ h => nomatch h⟩, ⟨fn_zero rfl, T.b3, fun _ _ _ h => nomatch h⟩, ⟨fn_zero rfl, T.b4, fun _ _ _ h => nomatch h⟩, ⟨fn_zero rfl, T.b5, fun _ _ _ h => nomatch h⟩, ⟨fn_zero rfl, T.b6, fun _ _ _ h => nomatch h⟩, ⟨fn_zero rfl, T.b7, fun _ _ _ h => nomatch h⟩, ⟨fn_zero rfl, T.b8, fun _ _ _ h => nomatch h⟩, ⟨fn_zero rfl, T.b9, fun _ _ _ h => nomatch h⟩, ⟨fn_zero rfl, T.b10, fun _ _ _ h => nomatch h⟩, ⟨fn_zero rfl, T.b11, fun _ _ _ h => nomatch h⟩, ⟨fn_zero rfl, T.b12, fun _ _ _ h => nomatch h⟩, ⟨fn_zero rfl, T.b13, fun _ _ _ h => nomatch h⟩, ⟨fn_zero rfl, T.b14, fun _ _ _ h => nomatch h⟩, ⟨fn_zero rfl, T.b15, fun _ _ _ h => nomatch h⟩, ⟨fn_zero rfl, T.b16, fun _ _ _ h => nomatch h⟩, ⟨fn_zero rfl, T.b17, fun _ _ _ h => nomatch h⟩, ⟨fn_zero rfl, T.b18, fun _ _ _ h => nomatch h⟩, ⟨fn_zero rfl, T.b19, fun _ _ _ h => nomatch h⟩, ⟨fn_zero rfl, T.b20, fun _ _ _ h => nomatch h⟩⟩
  | n + 1 => have R := all_ok T n
    ⟨⟨ok_0 T R, T.b0, fun _ _ _ h => callB_np h⟩,
    ⟨ok_1 T R, T.b1, fun _ _ _ h => callB_np h⟩,
    ⟨ok_2 T R, T.b2, fun _ _ _ h => callB_np h⟩,
    ⟨ok_3 T R, T.b3, fun _ _ _ h => callB_np h⟩,
    ⟨ok_4 T R, T.b4, fun _ _ _ h => callB_np h⟩,
    ⟨ok_5 T R, T.b5, fun _ _ _ h => callB_np h⟩,
    ⟨ok_6 T R, T.b6, fun _ _ _ h => callB_np h⟩,
    ⟨ok_7 T R, T.b7, fun _ _ _ h => callB_np h⟩,
    ⟨ok_8 T R, T.b8, fun _ _ _ h => callB_np h⟩,
    ⟨ok_9 T R, T.b9, fun _ _ _ h => callB_np h⟩,
    ⟨ok_10 T R, T.b10, fun _ _ _ h => callB_np h⟩,
    ⟨ok_11 T R, T.b11, fun _ _ _ h => callB_np h⟩,
    ⟨ok_12 T R, T.b12, fun _ _ _ h => callB_np h⟩,
    ⟨ok_13 T R, T.b13, fun _ _ _ h => callB_np h⟩,
    ⟨ok_14 T R, T.b14, fun _ _ _ h => callB_np h⟩,
    ⟨ok_15 T R, T.b15, fun _ _ _ h => callB_np h⟩,
    ⟨ok_16 T R, T.b16, fun _ _ _ h => callB_np h⟩,
    ⟨ok_17 T R, T.b17, fun _ _ _ h => callB_np h⟩,
    ⟨ok_18 T R, T.b18, fun _ _ _ h => callB_np h⟩,
    ⟨ok_19 T R, T.b19, fun _ _ _ h => callB_np h⟩,
    ⟨ok_20 T R, T.b20, fun _ _ _ h => callB_np h⟩⟩
end
end K01
set_option linter.all false
/-! Mp: plain facts for runs. -/
namespace Mp
@[simp] theorem take_len (μ : Mem) : μ.take μ.length = μ := List.take_length
@[simp] theorem take_app (μ : Mem) (o : List Ob) : (μ ++ o).take μ.length = μ := by simp
@[simp] theorem take_app1 (μ : Mem) (o : Ob) : List.take (List.length μ + 1) (μ ++ [o]) = μ ++ [o] := List.take_of_length_le (by simp)
@[simp] theorem take_set (μ : Mem) (l : Nat) (o : Ob) : (μ.set l o).take μ.length = μ.set l o := by
  have := List.take_length (l := μ.set l o)
  rwa [List.length_set] at this
@[simp] theorem ty_beq (a b : Ty) : (a == b) = decide (a = b) := (rfl)
/-- data that is asked about -/
def plain : D → Bool | .ins _ _ => false | _ => true
/-- an integer from one on -/
def isI (x : D) (k : Int) : Bool := match x with | .int i => decide (k ≤ i) | _ => false
theorem ix_nat {n : Nat} {i : Int} (h : 0 ≤ i) (k : i < n) : ixn n i = some i.toNat := by unfold ixn; rw [if_pos h, if_pos k]
theorem at_nat {α : Type} {xs : List α} {i : Int} {y : α} (h : 0 ≤ i) (k : xs[i.toNat]? = some y) : atN xs i = some y := by
  have hl : i.toNat < xs.length := (List.getElem?_eq_some_iff.mp k).1
  unfold atN
  rw [ix_nat h (by omega)]
  exact k
theorem at_ofNat {α : Type} {xs : List α} {i : Nat} {y : α} (k : xs[i]? = some y) : atN xs (i : Int) = some y := at_nat (Int.natCast_nonneg i) (by simpa using k)
theorem at_last {α : Type} {xs : List α} {y : α} (k : xs.getLast? = some y) : atN xs (-1) = some y := by
  rw [List.getLast?_eq_getElem?] at k
  have hl : xs.length - 1 < xs.length := (List.getElem?_eq_some_iff.mp k).1
  unfold atN ixn
  rw [if_neg (by omega), if_pos (by omega)]
  have : (-1 + (xs.length : Int)).toNat = xs.length - 1 := by omega
  simpa [this] using k
section
variable {α : Type} {a b c d e f : α} {xs : List α}
@[simp] theorem atN_0 : atN (a :: xs) 0 = some a := at_ofNat (i := 0) (by simp)
@[simp] theorem atN_1 : atN (a :: b :: xs) 1 = some b := at_ofNat (i := 1) (by simp)
@[simp] theorem atN_2 : atN (a :: b :: c :: xs) 2 = some c := at_ofNat (i := 2) (by simp)
@[simp] theorem atN_3 : atN (a :: b :: c :: d :: xs) 3 = some d := at_ofNat (i := 3) (by simp)
@[simp] theorem atN_4 : atN (a :: b :: c :: d :: e :: xs) 4 = some e := at_ofNat (i := 4) (by simp)
@[simp] theorem atN_last : atN (xs ++ [a]) (-1) = some a := at_last (by simp)
end
/-! owned objects -/
section
variable {μ : Mem} {l i j : Nat} {k : Int} {x y : D} {xs : List D} {cs : List Cell}
theorem getI_own (h : μ[l]? = some (.lst cs)) (hj : ixn cs.length k = some j) (hc : cs[j]? = some (.d x)) : getI μ (.own l) (.d (.int k)) = some (.d x) := by simp [getI, h, hj, hc]
theorem getI_ownS (h : μ[l]? = some (.lst cs)) (hj : ixn cs.length k = some j) (hc : cs[j]? = some (.sub xs)) : getI μ (.own l) (.d (.int k)) = some (.ptr l j) := by simp [getI, h, hj, hc]
theorem asL_ptr (h : μ[l]? = some (.lst cs)) (hc : cs[j]? = some (.sub xs)) : asL μ (.ptr l j) = some xs := by simp [asL, h, hc]
@[simp] theorem cellsD_map (xs : List D) : cellsD (xs.map Cell.d) = some xs := by
  induction xs with
  | nil => rfl
  | cons x xs ih => rw [List.map_cons, cellsD, ih]
theorem asL_own (h : μ[l]? = some (.lst (xs.map Cell.d))) : asL μ (.own l) = some xs := by simp [asL, h]
theorem setI_own (h : μ[l]? = some (.lst cs)) (hj : ixn cs.length k = some j) (hc : cs[j]? = some (.d x)) : setI μ (.own l) (.int k) y = some (μ.set l (.lst (cs.set j (.d y)))) := by simp [setI, h, hj, hc]
theorem setI_ptr (h : μ[l]? = some (.lst cs)) (hc : cs[i]? = some (.sub xs)) (hj : ixn xs.length k = some j) : setI μ (.ptr l i) (.int k) y = some (μ.set l (.lst (cs.set i (.sub (xs.set j y))))) := by simp [setI, asL, h, hc, hj]
theorem lt_of_at (h : μ[l]? = some (.lst cs)) : l < μ.length := (List.getElem?_eq_some_iff.mp h).1
theorem set_at {o : Ob} (h : l < μ.length) : (μ.set l o)[l]? = some o := by simp [h]
end
/-! comprehensions that change nothing -/
theorem compL_run {t : Tg} {c f : SE} {ρ : Env} {μ : Mem} (e : D → Env) (p : D → Bool) (h : D → D) : ∀ xs : List D,
    (∀ x ∈ xs, asgR t (.inl x) ρ = some (e x) ∧ c (e x) μ = some (.ok (.d (.bl (p x))), μ) ∧ (p x = true → f (e x) μ = some (.ok (.d (h x)), μ))) →
    compL t c f ρ xs μ = some (.ok ((xs.filter p).map h), μ)
  | [], _ => rfl
  | x :: xs, k => by
    obtain ⟨h1, h2, h3⟩ := k x (by simp)
    have ih := compL_run e p h xs fun y hy => k y (by simp [hy])
    rw [compL_cons, h1, cmpB_eq, h2]
    cases hp : p x with
    | true => rw [cmpC_t, h3 hp, cmpE_eq, ih, cmpY_eq, List.filter_cons_of_pos hp]; rfl
    | false => rw [cmpC_f, ih, List.filter_cons_of_neg (by simp [hp])]
theorem flA_iff {n : Nat} : ∀ {xs : List D}, flA n xs = true ↔ ∀ x ∈ xs, fl n x = true
  | [] => by simp
  | x :: xs => by simp [flA_iff (xs := xs)]
theorem eqD_refl : ∀ (n : Nat) (x : D), fl n x = true → eqD x x = true := by
  have H : ∀ n : Nat, (∀ x : D, fl n x = true → eqD x x = true) → ∀ xs : List D, flA n xs = true → eqA xs xs = true := by
    intro n h xs
    induction xs with
    | nil => intro _; rfl
    | cons x xs ih => intro z; rw [flA_cons, Bool.and_eq_true] at z; rw [eqA_cons, h x z.1, ih z.2]; rfl
  intro n
  induction n with
  | zero => intro x h; cases x <;> simp_all [fl]
  | succ n ih =>
    intro x h
    cases x with
    | tup xs => rw [eqD_tup]; exact H n ih xs (by simpa using h)
    | lst xs => rw [eqD_lst]; exact H n ih xs (by simpa using h)
    | _ => simp_all [fl]
/-! data that is compared part by part -/
mutual
def alk : Nat → D → Bool
  | _, .non => true | _, .bl _ => true | _, .int _ => true | _, .str _ => true
  | 0, .tup _ => false | 0, .lst _ => false
  | n + 1, .tup xs => decide (xs.length ≤ 16777216) && alkA n xs | n + 1, .lst xs => decide (xs.length ≤ 16777216) && alkA n xs
  | _, .ins _ _ => false | _, .dic _ => false
def alkA : Nat → List D → Bool
  | _, [] => true
  | n, x :: xs => alk n x && alkA n xs
end
section
variable {n : Nat} {b : Bool} {x : D}
@[simp] theorem alk_non : alk n .non = true := by cases n <;> rfl
@[simp] theorem alk_bl : alk n (.bl b) = true := by cases n <;> rfl
@[simp] theorem alk_int (a : Int) : alk n (.int a) = true := by cases n <;> rfl
@[simp] theorem alk_str (s : String) : alk n (.str s) = true := by cases n <;> rfl
@[simp] theorem alk_tup (xs : List D) : alk (n + 1) (.tup xs) = (decide (xs.length ≤ 16777216) && alkA n xs) := by rw [alk]
@[simp] theorem alk_lst (xs : List D) : alk (n + 1) (.lst xs) = (decide (xs.length ≤ 16777216) && alkA n xs) := by rw [alk]
@[simp] theorem alkA_nil : alkA n [] = true := by rw [alkA]
@[simp] theorem alkA_cons (xs : List D) : alkA n (x :: xs) = (alk n x && alkA n xs) := by rw [alkA]
end
theorem alkA_iff {n : Nat} : ∀ {xs : List D}, alkA n xs = true ↔ ∀ x ∈ xs, alk n x = true
  | [] => by simp
  | x :: xs => by simp [alkA_iff (xs := xs)]
theorem alk_fl : ∀ (n : Nat) (x : D), alk n x = true → fl n x = true := by
  intro n
  induction n with
  | zero => intro x h; cases x <;> simp_all [alk]
  | succ n ih =>
    intro x h
    cases x with
    | tup xs => rw [fl_tup, flA_iff]; rw [alk_tup, Bool.and_eq_true, alkA_iff] at h; exact fun y hy => ih y (h.2 y hy)
    | lst xs => rw [fl_lst, flA_iff]; rw [alk_lst, Bool.and_eq_true, alkA_iff] at h; exact fun y hy => ih y (h.2 y hy)
    | _ => simp_all [alk]
theorem eqIK_ok {cf : Nat → List W → Mem → Ans W} {f c : Nat} {x y : W} {μ μ' : Mem} {k : Bool} (h1 : clsOf μ x = some c) (h2 : ((isTy μ y .int).isSome || (isTy μ y (.cls c)).isSome) = true) (h3 : cf f [x, y] μ = some (.ok (.d (.bl k)), μ')) :
    eqIK cf f c x y μ = some (.ok (.d (.bl k)), μ') := by
  unfold eqIK
  rw [if_pos ⟨h1, h2⟩, h3]
end Mp
set_option linter.all false
set_option maxRecDepth 1000000
namespace K01
open Mp
theorem run_is_integer (n : Nat) (x : D) (k : Int) (μ : Mem) (hx : plain x = true) : callF (n + 1) 0 [.d x, .d (.int k)] μ = some (.ok (.d (.bl (isI x k))), μ) := by
  rw [cf_0]
  cases x <;> simp [plain] at hx <;> simp [sem_0, isAny, isTy, isI, cmp, ordW]
def tups (p : String) : List D := if p = "check" then [.str "room", .str "standing", .str "units"] else if p = "deep" then [.int 1, .int 2, .int 3, .int 4] else if p = "parts" then [.str "any", .str "whole"]
  else if p = "period" then [.str "own", .str "now", .str "open"] else [.str "own", .str "now"]
def parts : List String := ["check", "deep", "parts", "period", "rate"]
theorem getP {p : String} (hp : p ∈ parts) (μ : Mem) : getI μ (.d g_PARTS) (.d (.str p)) = some (.d (.tup (tups p))) := by
  simp only [parts, List.mem_cons, List.mem_nil_iff, or_false] at hp
  rcases hp with rfl | rfl | rfl | rfl | rfl <;> rfl
theorem flT {p : String} (hp : p ∈ parts) : flA 0 (tups p) = true := by
  simp only [parts, List.mem_cons, List.mem_nil_iff, or_false] at hp
  rcases hp with rfl | rfl | rfl | rfl | rfl <;> rfl
/-- a right word of a part -/
def okW (p : String) (x : D) : Bool := (if p = "deep" then isI x 1 else match x with | .str _ => true | _ => false) && (tups p).any fun y => eqD y x
theorem run_is_word (n : Nat) {p : String} (hp : p ∈ parts) (x : D) (μ : Mem) (hx : plain x = true) : callF (n + 2) 1 [.d (.str p), .d x] μ = some (.ok (.d (.bl (okW p x))), μ) := by
  rw [cf_1]
  by_cases hd : p = "deep"
  · subst hd
    have h0 := run_is_integer n x 1 μ hx
    have hg := getP hp μ
    cases x <;> simp [isI] at h0 <;> simp [sem_1, okW, cmp, eqW, asD, eqO, fl, eqD, h0, isI]
    rename_i i
    by_cases h1 : 1 ≤ i <;> simp [h1, hg, inW, fl, flT hp]
  · have hd' : (p == "deep") = false := by simp [hd]
    cases x <;> simp [plain] at hx <;> simp [hd, hd', sem_1, okW, cmp, eqW, asD, eqO, fl, eqD, isAny, isTy, getP hp, inW, flT hp]
def firstBad (ps : List String) (xs : List D) : Option String := match ps, xs with
  | p :: ps, x :: xs => if okW p x then firstBad ps xs else some p
  | _, _ => none
def rule (xs : List D) : D := .ins 0 [(0, .dic ((ks_PARTS.map D.str).zip xs))]
/-- the loop of __init__ -/
theorem loop_init (n : Nat) (μ : Mem) (a b c d e f g : Option W) : ∀ (ps : List String) (xs : List D) (h i : Option W), (∀ p ∈ ps, p ∈ parts) → (∀ x ∈ xs, plain x = true) → ps.length = xs.length →
    ∃ h' i', forL (.cons (.var 7) (.cons (.var 8) .nil)) (lp_2_0 (callF (n + 2))) (zipD (ps.map D.str) xs) [a, b, c, d, e, f, g, h, i] μ =
      some ((match firstBad ps xs with | some p => .ex ⟨1, [(1, .str p)]⟩ | none => .nx), [a, b, c, d, e, f, g, h', i'], μ)
  | [], [], h, i, _, _, _ => ⟨h, i, rfl⟩
  | p :: ps, x :: xs, h, i, hp, hx, hn => by
    have h1 := run_is_word n (hp p (by simp)) x μ (hx x (by simp))
    obtain ⟨h', i', ih⟩ := loop_init n μ a b c d e f g ps xs (some (.d (.str p))) (some (.d x)) (fun q hq => hp q (by simp [hq])) (fun q hq => hx q (by simp [hq])) (by simpa using hn)
    simp only [firstBad, List.map_cons, zipD]
    rw [forL_cons]
    cases hb : okW p x with
    | true =>
      refine ⟨h', i', ?_⟩
      simp [lp_2_0, h1, hb, truth, ih]
    | false =>
      refine ⟨some (.d (.str p)), some (.d x), ?_⟩
      simp [lp_2_0, h1, hb, truth]
theorem ks_len : ks_PARTS.length = 5 := rfl
theorem run_new (n : Nat) (x0 x1 x2 x3 x4 : D) (μ : Mem) (hx : ∀ x ∈ [x0, x1, x2, x3, x4], plain x = true) :
    newK 0 true μ.length (callF (n + 3) 2 [.own μ.length, .d x0, .d x1, .d x2, .d x3, .d x4] (μ ++ [.ins 0 []])) =
      match firstBad parts [x0, x1, x2, x3, x4] with
      | some p => some (.exc ⟨1, [(1, .str p)]⟩, μ)
      | none => some (.ok (.d (rule [x0, x1, x2, x3, x4])), μ) := by
  obtain ⟨h', i', e⟩ := loop_init n (μ ++ [.ins 0 []]) (some (.own μ.length)) (some (.d x0)) (some (.d x1)) (some (.d x2)) (some (.d x3)) (some (.d x4)) (some (.d (.tup [x0, x1, x2, x3, x4]))) ks_PARTS [x0, x1, x2, x3, x4] none none (fun p hp => hp) hx rfl
  rw [cf_2]
  have e5 : (5 : Nat) ≤ LIM := by decide
  change forL _ _ _ _ _ = some ((match firstBad parts [x0, x1, x2, x3, x4] with | some p => _ | none => _), _, _) at e
  cases q : firstBad parts [x0, x1, x2, x3, x4] with
  | some p => simp [sem_2, zipKI, ks_len, e5, tupK, toDs, okLen, e, q, newK, List.replicate]
  | none => simp [sem_2, zipKI, ks_len, e5, tupK, toDs, okLen, e, q, newK, List.replicate, setF, dzipK, putFl, cellsF, rule]
/-! drawing -/
structure Hs where
  a : Int
  ns : List Int
  c : Int
def hob (s : Hs) : Ob := .lst [.d (.int s.a), .sub (s.ns.map D.int), .d (.int s.c)]
def Hok (s : Hs) : Prop := 0 ≤ s.c ∧ s.ns.length ≤ 63
theorem int_at (ns : List Int) (j : Nat) (h : j ≤ ns.length) : ∃ x, (ns.map D.int ++ [D.int 0])[j]? = some (D.int x) ∧ (ns = [] → x = 0) := by
  rcases Nat.lt_or_ge j ns.length with q | q
  · refine ⟨ns[j], ?_, fun e => by subst e; simp at q⟩
    rw [List.getElem?_append_left (by simpa using q)]
    simp [q]
  · have : j = ns.length := by omega
    subst this
    refine ⟨0, ?_, fun _ => rfl⟩
    rw [List.getElem?_append_right (by simp)]
    simp
theorem run_next (n : Nat) {l : Nat} {μ : Mem} {s : Hs} (h : μ[l]? = some (hob s)) (hs : Hok s) (cap : Int) (h1 : 0 < cap) (h2 : cap < 1073741824) :
    ∃ r s', Hok s' ∧ 0 ≤ r ∧ r < cap ∧ callF (n + 1) 11 [.own l, .d (.int cap)] μ = some (.ok (.d (.int r)), μ.set l (hob s')) := by
  obtain ⟨a, ns, c⟩ := s
  obtain ⟨hc, hl⟩ := hs
  dsimp only at hc hl
  have h : μ[l]? = some (.lst [.d (.int a), .sub (ns.map D.int), .d (.int c)]) := h
  have hlt : l < μ.length := (List.getElem?_eq_some_iff.mp h).1
  have es : ∀ o, (μ.set l o)[l]? = some o := fun o => by simp [hlt]
  obtain ⟨m, em⟩ : ∃ m : Int, m = if (ns.length : Int) > 1 then (ns.length : Int) else 1 := ⟨_, rfl⟩
  have hm : 0 < m := by rw [em]; split <;> omega
  have hj0 : 0 ≤ c % m := Int.emod_nonneg _ (by omega)
  have hj1 : c % m < m := Int.emod_lt_of_pos _ hm
  obtain ⟨x, hx, hx0⟩ := int_at ns (c % m).toNat (by omega)
  have hat : atN (ns.map D.int ++ [D.int 0]) (c % m) = some (D.int x) := at_nat hj0 hx
  have hL : ns.length + 1 ≤ 16777216 := by omega
  have g0 : getI μ (.own l) (.d (.int 0)) = some (.d (.int a)) := getI_own h rfl rfl
  have g1 : getI μ (.own l) (.d (.int 1)) = some (.ptr l 1) := getI_ownS h rfl rfl
  have g2 : getI μ (.own l) (.d (.int 2)) = some (.d (.int c)) := getI_own h rfl rfl
  have p1 : asL μ (.ptr l 1) = some (ns.map D.int) := asL_ptr h rfl
  have b1 : binG .add μ (.ptr l 1) (.d (.lst [.int 0])) = some (.lst (ns.map D.int ++ [.int 0])) := by simp [binG, bin, addW, p1, hL]
  have l1 : lenU (.ptr l 1) μ = some (.ok (.d (.int ns.length)), μ) := by rw [lenU_ptr p1, List.length_map]
  rw [cf_11]
  by_cases hb : (1000000000000000000 : Int) ≤ x
  · have hne : ns ≠ [] := fun z => by rw [hx0 z] at hb; omega
    have hpos : 0 < ns.length := List.length_pos_iff.mpr hne
    have hq0 : 0 ≤ c % (ns.length : Int) := Int.emod_nonneg _ (by omega)
    have hq1 : c % (ns.length : Int) < ns.length := Int.emod_lt_of_pos _ (by omega)
    refine ⟨x % cap, ⟨a, ns.set (c % (ns.length : Int)).toNat (x / cap), c⟩, ⟨hc, by simpa using hl⟩, Int.emod_nonneg _ (by omega), Int.emod_lt_of_pos _ h1, ?_⟩
    have s1 := setI_ptr (i := 1) (xs := ns.map D.int) (k := c % (ns.length : Int)) (y := .int (x / cap)) h rfl (ix_nat hq0 (by simpa using hq1))
    simp [sem_11, g1, g2, b1, l1, hat, ← em, hm, hb, hpos, h1, h2, s1]
    simp [hob, List.map_set]
  · refine ⟨(a * 48271 + x * 69621 + 11) % 2147483647 / 7 % cap, ⟨(a * 48271 + x * 69621 + 11) % 2147483647, ns, c + 1⟩, ⟨by dsimp only; omega, hl⟩, Int.emod_nonneg _ (by omega), Int.emod_lt_of_pos _ h1, ?_⟩
    have s0 := fun (y : D) => setI_own (k := 0) (y := y) h rfl rfl
    obtain ⟨a', ea⟩ : ∃ a', a' = (a * 48271 + x * 69621 + 11) % 2147483647 := ⟨_, rfl⟩
    have q2 : getI (μ.set l (.lst [.d (.int a'), .sub (ns.map D.int), .d (.int c)])) (.own l) (.d (.int 2)) = some (.d (.int c)) := getI_own (es _) rfl rfl
    have s2 : setI (μ.set l (.lst [.d (.int a'), .sub (ns.map D.int), .d (.int c)])) (.own l) (.int 2) (.int (c + 1)) = some (μ.set l (.lst [.d (.int a'), .sub (ns.map D.int), .d (.int (c + 1))])) := by
      rw [setI_own (k := 2) (es _) rfl rfl, List.set_set]; rfl
    have q0 : getI (μ.set l (.lst [.d (.int a'), .sub (ns.map D.int), .d (.int (c + 1))])) (.own l) (.d (.int 0)) = some (.d (.int a')) := getI_own (es _) rfl rfl
    simp [sem_11, g0, g1, g2, b1, l1, hat, ← em, hm, hb, h1, h2, s0, q2, s2, q0, ← ea]
    rfl
theorem run_pick (n : Nat) {l : Nat} {μ : Mem} {s : Hs} (h : μ[l]? = some (hob s)) (hs : Hok s) (xs : List D) (h1 : xs ≠ []) (h2 : xs.length < 1073741824) :
    ∃ x s', Hok s' ∧ x ∈ xs ∧ callF (n + 2) 13 [.own l, .d (.lst xs)] μ = some (.ok (.d x), μ.set l (hob s')) := by
  have hl : 0 < xs.length := List.length_pos_iff.mpr h1
  obtain ⟨r, s', hs', h0, hr, e⟩ := run_next n h hs xs.length (by omega) (by omega)
  have hx : xs[r.toNat]? = some (xs[r.toNat]'(by omega)) := List.getElem?_eq_getElem _
  refine ⟨xs[r.toNat]'(by omega), s', hs', List.getElem_mem _, ?_⟩
  rw [cf_13]
  simp [sem_13, e, at_nat h0 hx]
theorem loop_mix (n : Nat) (μ : Mem) (a b : Option W) : ∀ (ns : List Int) (x : Int) (d : Option W), ∃ x' d', forL (.var 3) (lp_10_0 (callF n)) (ns.map D.int) [a, b, some (.d (.int x)), d] μ = some (.nx, [a, b, some (.d (.int x')), d'], μ)
  | [], x, d => ⟨x, d, rfl⟩
  | c :: ns, x, d => by
    obtain ⟨x', d', ih⟩ := loop_mix n μ a b ns ((x * 48271 + c % 2147483629 + 1) % 2147483647) (some (.d (.int c)))
    refine ⟨x', d', ?_⟩
    rw [List.map_cons, forL_cons]
    simp [lp_10_0, ih]
theorem run_mix (n : Nat) (ns : List Int) (h : ns.length ≤ 63) (seed : Int) (μ : Mem) : ∃ s, Hok s ∧ callF (n + 1) 10 [.d (.lst (ns.map D.int)), .d (.int seed)] μ = some (.ok (.own μ.length), μ ++ [hob s]) := by
  obtain ⟨x', d', e⟩ := loop_mix n μ (some (.d (.lst (ns.map D.int)))) (some (.d (.int seed))) ns seed none
  refine ⟨⟨x', ns, 0⟩, ⟨by simp, h⟩, ?_⟩
  rw [cf_10]
  simp [-List.map_map, sem_10, e, mkL, toCells, okLen, leave, hob]
def partsL : List D := [.tup [.str "check", .lst [.str "room", .str "standing", .str "units"]], .tup [.str "deep", .lst [.int 1, .int 2, .int 3, .int 4]], .tup [.str "parts", .lst [.str "any", .str "whole"]],
  .tup [.str "period", .lst [.str "own", .str "now", .str "open"]], .tup [.str "rate", .lst [.str "own", .str "now"]]]
theorem run_parts (n : Nat) (μ : Mem) : callF (n + 1) 14 [] μ = some (.ok (.d (.lst partsL)), μ) := by
  rw [cf_14]
  simp [sem_14, partsL]
/-- right words of a rule -/
def okWs (xs : List D) : Prop := ∃ x0 x1 x2 x3 x4, xs = [x0, x1, x2, x3, x4] ∧ x0 ∈ tups "check" ∧ x1 ∈ tups "deep" ∧ x2 ∈ tups "parts" ∧ x3 ∈ tups "period" ∧ x4 ∈ tups "rate"
theorem okW_mem {p : String} {x : D} (hp : p ∈ parts) (h : x ∈ tups p) : okW p x = true := by
  simp only [parts, List.mem_cons, List.mem_nil_iff, or_false] at hp
  rcases hp with rfl | rfl | rfl | rfl | rfl
  · simp [tups] at h; rcases h with rfl | rfl | rfl <;> simp [okW, tups]
  · simp [tups] at h; rcases h with rfl | rfl | rfl | rfl <;> simp [okW, isI, tups]
  · simp [tups] at h; rcases h with rfl | rfl <;> simp [okW, tups]
  · simp [tups] at h; rcases h with rfl | rfl | rfl <;> simp [okW, tups]
  · simp [tups] at h; rcases h with rfl | rfl <;> simp [okW, tups]
theorem run_words (n : Nat) {l : Nat} {μ : Mem} {s : Hs} (h : μ[l]? = some (hob s)) (hs : Hok s) :
    ∃ xs s', Hok s' ∧ okWs xs ∧ callF (n + 3) 15 [.own l] μ = some (.ok (.own μ.length), μ.set l (hob s') ++ [.lst (xs.map Cell.d)]) := by
  have hl := (List.getElem?_eq_some_iff.mp h).1
  have up : ∀ o, (μ.set l o)[l]? = some o := fun o => by simp [hl]
  obtain ⟨x0, s0, k0, m0, e0⟩ := run_pick n h hs [.str "room", .str "standing", .str "units"] (by simp) (by simp)
  obtain ⟨x1, s1, k1, m1, e1⟩ := run_pick n (up _) k0 [.int 1, .int 2, .int 3, .int 4] (by simp) (by simp)
  rw [List.set_set] at e1
  obtain ⟨x2, s2, k2, m2, e2⟩ := run_pick n (up _) k1 [.str "any", .str "whole"] (by simp) (by simp)
  rw [List.set_set] at e2
  obtain ⟨x3, s3, k3, m3, e3⟩ := run_pick n (up _) k2 [.str "own", .str "now", .str "open"] (by simp) (by simp)
  rw [List.set_set] at e3
  obtain ⟨x4, s4, k4, m4, e4⟩ := run_pick n (up _) k3 [.str "own", .str "now"] (by simp) (by simp)
  rw [List.set_set] at e4
  refine ⟨[x0, x1, x2, x3, x4], s4, k4, ⟨x0, x1, x2, x3, x4, rfl, m0, m1, m2, m3, m4⟩, ?_⟩
  rw [cf_15]
  simp [sem_15, run_parts, partsL, compL_cons, el_15_0, e0, e1, e2, e3, e4, leave]
theorem run_built (n : Nat) (x0 x1 x2 x3 x4 : D) (μ : Mem) (hx : ∀ x ∈ [x0, x1, x2, x3, x4], plain x = true) :
    callF (n + 4) 16 [.d (.lst [x0, x1, x2, x3, x4])] μ =
      match firstBad parts [x0, x1, x2, x3, x4] with
      | some p => some (.exc ⟨1, [(1, .str p)]⟩, μ)
      | none => some (.ok (.d (rule [x0, x1, x2, x3, x4])), μ) := by
  have h := run_new n x0 x1 x2 x3 x4 μ hx
  have a0 : atN [x0, x1, x2, x3, x4] 0 = some x0 := rfl
  have a1 : atN [x0, x1, x2, x3, x4] 1 = some x1 := rfl
  have a2 : atN [x0, x1, x2, x3, x4] 2 = some x2 := rfl
  have a3 : atN [x0, x1, x2, x3, x4] 3 = some x3 := rfl
  have a4 : atN [x0, x1, x2, x3, x4] 4 = some x4 := rfl
  rw [cf_16]
  cases q : firstBad parts [x0, x1, x2, x3, x4] <;> rw [q] at h <;> simp [sem_16, a0, a1, a2, a3, a4, h]
/-! equal values are alike -/
theorem alike_row (μ : Mem) (N : Nat) (xs : List D) (b : Bool) (ih : ∀ x ∈ xs, callF N 12 [.d x, .d x] μ = some (.ok (.d (.bl true)), μ)) (hl : xs.length ≤ 16777216) :
    compL (.var 2) (cc_12_0 (callF N)) (el_12_1 (callF N)) [some (.d (if b then .tup xs else .lst xs)), some (.d (if b then .tup xs else .lst xs)), none] (nums xs.length) μ = some (.ok [], μ) := by
  have := compL_run (t := .var 2) (c := cc_12_0 (callF N)) (f := el_12_1 (callF N)) (ρ := [some (.d (if b then .tup xs else .lst xs)), some (.d (if b then .tup xs else .lst xs)), none]) (μ := μ)
    (fun y => [some (.d (if b then .tup xs else .lst xs)), some (.d (if b then .tup xs else .lst xs)), some (.d y)]) (fun _ => false) id (nums xs.length) (by
      intro x hx
      obtain ⟨k, hk, rfl⟩ := mem_nums.mp hx
      have e : atN xs (k : Int) = some xs[k] := at_ofNat (List.getElem?_eq_getElem hk)
      have i1 := ih xs[k] (List.getElem_mem hk)
      refine ⟨by simp, ?_, fun z => nomatch z⟩
      cases b <;> simp [cc_12_0, e, i1])
  rw [this]
  simp
theorem alike_at (μ : Mem) (n : Nat) (x : D) (h : alk 0 x = true) : callF (n + 1) 12 [.d x, .d x] μ = some (.ok (.d (.bl true)), μ) := by
  rw [cf_12]
  cases x <;> simp [alk] at h <;> simp [sem_12]
theorem alike_tup (μ : Mem) (N : Nat) (xs : List D) (hl : xs.length ≤ 16777216) (hf : fl 8 (.tup xs) = true) (ih : ∀ x ∈ xs, callF N 12 [.d x, .d x] μ = some (.ok (.d (.bl true)), μ)) : callF (N + 1) 12 [.d (.tup xs), .d (.tup xs)] μ = some (.ok (.d (.bl true)), μ) := by
  have hr := alike_row μ N xs true ih hl
  have hb : rngI (.d (.int xs.length)) μ = some (.ok (nums xs.length), μ) := rngI_nat hl
  rw [cf_12]
  simp at hr
  simp [sem_12, hr, hb]
theorem alike_lst (μ : Mem) (N : Nat) (xs : List D) (hl : xs.length ≤ 16777216) (hf : fl 8 (.lst xs) = true) (ih : ∀ x ∈ xs, callF N 12 [.d x, .d x] μ = some (.ok (.d (.bl true)), μ)) : callF (N + 1) 12 [.d (.lst xs), .d (.lst xs)] μ = some (.ok (.d (.bl true)), μ) := by
  have hr := alike_row μ N xs false ih hl
  have hb : rngI (.d (.int xs.length)) μ = some (.ok (nums xs.length), μ) := rngI_nat hl
  rw [cf_12]
  simp at hr
  simp [sem_12, hr, hb]
theorem run_alike (μ : Mem) : ∀ (d n : Nat) (x : D), alk d x = true → d ≤ 6 → callF (n + d + 1) 12 [.d x, .d x] μ = some (.ok (.d (.bl true)), μ) := by
  intro d
  induction d with
  | zero => intro n x h _; exact alike_at μ n x h
  | succ d ih =>
    intro n x h hd
    have hf : fl 8 x = true := fl_up x 8 (alk_fl _ _ h) (by omega)
    cases x with
    | tup xs =>
      rw [alk_tup, Bool.and_eq_true, alkA_iff] at h
      exact alike_tup μ _ xs (of_decide_eq_true h.1) hf fun x hx => ih n x (h.2 x hx) (by omega)
    | lst xs =>
      rw [alk_lst, Bool.and_eq_true, alkA_iff] at h
      exact alike_lst μ _ xs (of_decide_eq_true h.1) hf fun x hx => ih n x (h.2 x hx) (by omega)
    | ins c fs => simp [alk] at h
    | dic kvs => simp [alk] at h
    | non => exact alike_at μ _ _ rfl
    | bl b => exact alike_at μ _ _ rfl
    | int i => exact alike_at μ _ _ rfl
    | str s => exact alike_at μ _ _ rfl
/-- the parts of a rule -/
theorem run_check (n : Nat) (x0 x1 x2 x3 x4 : D) (μ : Mem) : callF (n + 1) 3 [.d (rule [x0, x1, x2, x3, x4])] μ = some (.ok (.d x0), μ) := by
  rw [cf_3]; simp [sem_3, rule, ks_PARTS, List.lookup, dget, kq]
theorem run_deep (n : Nat) (x0 x1 x2 x3 x4 : D) (μ : Mem) : callF (n + 1) 4 [.d (rule [x0, x1, x2, x3, x4])] μ = some (.ok (.d x1), μ) := by
  rw [cf_4]; simp [sem_4, rule, ks_PARTS, List.lookup, dget, kq]
theorem run_parts5 (n : Nat) (x0 x1 x2 x3 x4 : D) (μ : Mem) : callF (n + 1) 5 [.d (rule [x0, x1, x2, x3, x4])] μ = some (.ok (.d x2), μ) := by
  rw [cf_5]; simp [sem_5, rule, ks_PARTS, List.lookup, dget, kq]
theorem run_period (n : Nat) (x0 x1 x2 x3 x4 : D) (μ : Mem) : callF (n + 1) 6 [.d (rule [x0, x1, x2, x3, x4])] μ = some (.ok (.d x3), μ) := by
  rw [cf_6]; simp [sem_6, rule, ks_PARTS, List.lookup, dget, kq]
theorem run_rate (n : Nat) (x0 x1 x2 x3 x4 : D) (μ : Mem) : callF (n + 1) 7 [.d (rule [x0, x1, x2, x3, x4])] μ = some (.ok (.d x4), μ) := by
  rw [cf_7]; simp [sem_7, rule, ks_PARTS, List.lookup, dget, kq]
/-- Rule.changed -/
def setW (s : String) (v : D) (xs : List D) : List D := (parts.zip xs).map fun px => if px.1 = s then v else px.2
theorem run_changed (n : Nat) (x0 x1 x2 x3 x4 v : D) (s : String) (μ : Mem) (hs : s ∈ parts) (hx : ∀ x ∈ [x0, x1, x2, x3, x4], plain x = true) (hv : plain v = true) (hf : ∀ x ∈ [x0, x1, x2, x3, x4], fl 0 x = true) :
    callF (n + 4) 8 [.d (rule [x0, x1, x2, x3, x4]), .d (.str s), .d v] μ =
      match firstBad parts (setW s v [x0, x1, x2, x3, x4]) with
      | some q => some (.exc ⟨1, [(1, .str q)]⟩, μ)
      | none => some (.ok (.d (rule (setW s v [x0, x1, x2, x3, x4]))), μ) := by
  have a0 := hx x0 (by simp)
  have a1 := hx x1 (by simp)
  have a2 := hx x2 (by simp)
  have a3 := hx x3 (by simp)
  have a4 := hx x4 (by simp)
  have f0 := hf x0 (by simp)
  have f1 := hf x1 (by simp)
  have f2 := hf x2 (by simp)
  have f3 := hf x3 (by simp)
  have f4 := hf x4 (by simp)
  rw [cf_8]
  simp only [parts, List.mem_cons, List.mem_nil_iff, or_false] at hs
  rcases hs with rfl | rfl | rfl | rfl | rfl
  · rw [show setW "check" v [x0, x1, x2, x3, x4] = [v, x1, x2, x3, x4] from rfl]
    have R := run_new n v x1 x2 x3 x4 μ (by simp [*])
    cases q : firstBad parts [v, x1, x2, x3, x4] <;> rw [q] at R <;> simp [sem_8, inW, g_PARTS, dget, kq, rule, List.lookup, dupdK, kdM, f0, f1, f2, f3, f4, okK, ks_PARTS, dput, R]
  · rw [show setW "deep" v [x0, x1, x2, x3, x4] = [x0, v, x2, x3, x4] from rfl]
    have R := run_new n x0 v x2 x3 x4 μ (by simp [*])
    cases q : firstBad parts [x0, v, x2, x3, x4] <;> rw [q] at R <;> simp [sem_8, inW, g_PARTS, dget, kq, rule, List.lookup, dupdK, kdM, f0, f1, f2, f3, f4, okK, ks_PARTS, dput, R]
  · rw [show setW "parts" v [x0, x1, x2, x3, x4] = [x0, x1, v, x3, x4] from rfl]
    have R := run_new n x0 x1 v x3 x4 μ (by simp [*])
    cases q : firstBad parts [x0, x1, v, x3, x4] <;> rw [q] at R <;> simp [sem_8, inW, g_PARTS, dget, kq, rule, List.lookup, dupdK, kdM, f0, f1, f2, f3, f4, okK, ks_PARTS, dput, R]
  · rw [show setW "period" v [x0, x1, x2, x3, x4] = [x0, x1, x2, v, x4] from rfl]
    have R := run_new n x0 x1 x2 v x4 μ (by simp [*])
    cases q : firstBad parts [x0, x1, x2, v, x4] <;> rw [q] at R <;> simp [sem_8, inW, g_PARTS, dget, kq, rule, List.lookup, dupdK, kdM, f0, f1, f2, f3, f4, okK, ks_PARTS, dput, R]
  · rw [show setW "rate" v [x0, x1, x2, x3, x4] = [x0, x1, x2, x3, v] from rfl]
    have R := run_new n x0 x1 x2 x3 v μ (by simp [*])
    cases q : firstBad parts [x0, x1, x2, x3, v] <;> rw [q] at R <;> simp [sem_8, inW, g_PARTS, dget, kq, rule, List.lookup, dupdK, kdM, f0, f1, f2, f3, f4, okK, ks_PARTS, dput, R]
theorem run_changedU (n : Nat) (r v p : D) (μ : Mem) (hp : plain p = true) (h : ∀ s, p = .str s → s ∉ parts) : callF (n + 1) 8 [.d r, .d p, .d v] μ = some (.exc ⟨2, [(1, p)]⟩, μ) := by
  rw [cf_8]
  cases p <;> simp [plain] at hp <;> try (simp [sem_8]; done)
  rename_i s
  have hs := h s rfl
  simp only [parts, List.mem_cons, List.mem_nil_iff, or_false, not_or] at hs
  obtain ⟨h1, h2, h3, h4, h5⟩ := hs
  simp [sem_8, inW, g_PARTS, dget, kq, h1, h2, h3, h4, h5, Ne.symm h1, Ne.symm h2, Ne.symm h3, Ne.symm h4, Ne.symm h5]
theorem run_ruleeq (n : Nat) (x0 x1 x2 x3 x4 y0 y1 y2 y3 y4 : D) (μ : Mem) (hx : ∀ x ∈ [x0, x1, x2, x3, x4], fl 0 x = true) (hy : ∀ x ∈ [y0, y1, y2, y3, y4], fl 0 x = true) :
    callF (n + 1) 9 [.d (rule [x0, x1, x2, x3, x4]), .d (rule [y0, y1, y2, y3, y4])] μ = some (.ok (.d (.bl (eqA [x0, x1, x2, x3, x4] [y0, y1, y2, y3, y4]))), μ) := by
  have f0 := hx x0 (by simp)
  have f1 := hx x1 (by simp)
  have f2 := hx x2 (by simp)
  have f3 := hx x3 (by simp)
  have f4 := hx x4 (by simp)
  have g0 := hy y0 (by simp)
  have g1 := hy y1 (by simp)
  have g2 := hy y2 (by simp)
  have g3 := hy y3 (by simp)
  have g4 := hy y4 (by simp)
  rw [cf_9]
  simp [sem_9, rule, ks_PARTS, List.lookup, eqDK, flK, eqK, f0, f1, f2, f3, f4, g0, g1, g2, g3, g4, kq, dget, okK, kdM]
theorem run_ruleeqL (n : Nat) (xs ys : List D) (μ : Mem) : callF (n + 1) 9 [.d (rule xs), .d (.lst ys)] μ = some (.ok (.d (.bl false)), μ) := by
  rw [cf_9]
  simp [sem_9]
/-! ### law k01 -/
/-- what may stand among the words -/
def wd (x : D) : Prop := plain x = true ∧ alk 1 x = true
def isB : D → Bool | .bl _ => true | _ => false
theorem okW_eq {p : String} {x : D} (hp : p ∈ parts) (hx : wd x) : okW p x = (!isB x && (tups p).any fun y => eqD y x) := by
  obtain ⟨h1, h2⟩ := hx
  simp only [parts, List.mem_cons, List.mem_nil_iff, or_false] at hp
  rcases hp with rfl | rfl | rfl | rfl | rfl <;> cases x <;> simp [plain] at h1 <;> simp [okW, tups, isB, isI, alk] at h2 ⊢ <;> omega
def pairsP (ps : List String) (xs : List D) : List D := zipD (ps.map fun p => .tup [.str p, .lst (tups p)]) xs
theorem isTy_bool (x : D) (μ : Mem) (h : plain x = true) : isTy μ (.d x) .bool = some (isB x) := by
  cases x <;> simp [plain] at h <;> simp [isB]
theorem loop_fault (n : Nat) (μ : Mem) (a : Option W) : ∀ (ps : List String) (xs : List D) (b c d : Option W), (∀ p ∈ ps, p ∈ parts) → (∀ x ∈ xs, wd x) → ps.length = xs.length →
    ∃ b' c' d', forL (.cons (.cons (.var 2) (.cons (.var 3) .nil)) (.cons (.var 1) .nil)) (lp_17_0 (callF n)) (pairsP ps xs) [a, b, c, d] μ =
      some ((match firstBad ps xs with | some p => .rt (.d (.str p)) | none => .nx), [a, b', c', d'], μ)
  | [], [], b, c, d, _, _, _ => ⟨b, c, d, rfl⟩
  | p :: ps, x :: xs, b, c, d, hp, hx, hn => by
    have hp0 := hp p (by simp)
    have hx0 := hx x (by simp)
    have hT : flA 8 (tups p) = true := by
      have := flT hp0
      rw [flA_iff] at this ⊢
      exact fun y hy => fl_up y 8 (this y hy) (by omega)
    have hX : fl 8 x = true := fl_up x 8 (alk_fl _ _ hx0.2) (by omega)
    obtain ⟨b', c', d', ih⟩ := loop_fault n μ a ps xs (some (.d x)) (some (.d (.str p))) (some (.d (.lst (tups p)))) (fun q hq => hp q (by simp [hq])) (fun q hq => hx q (by simp [hq])) (by simpa using hn)
    have hi : inW μ (.d x) (.d (.lst (tups p))) = some ((tups p).any fun y => eqD y x) := by simp [inW, hX, hT]
    have hb := isTy_bool x μ hx0.1
    rw [show pairsP (p :: ps) (x :: xs) = .tup [.tup [.str p, .lst (tups p)], x] :: pairsP ps xs from rfl, forL_cons]
    rw [show firstBad (p :: ps) (x :: xs) = if okW p x then firstBad ps xs else some p from rfl, okW_eq hp0 hx0]
    cases hB : isB x with
    | true =>
      rw [hB] at hb
      refine ⟨some (.d x), some (.d (.str p)), some (.d (.lst (tups p))), ?_⟩
      simp [lp_17_0, hb]
    | false =>
      rw [hB] at hb
      cases hA : (tups p).any fun y => eqD y x with
      | true =>
        rw [hA] at hi
        refine ⟨b', c', d', ?_⟩
        simp [lp_17_0, hb, hi, ih]
      | false =>
        rw [hA] at hi
        refine ⟨some (.d x), some (.d (.str p)), some (.d (.lst (tups p))), ?_⟩
        simp [lp_17_0, hb, hi]
def optS : Option String → D | some p => .str p | none => .non
theorem run_fault (n : Nat) (x0 x1 x2 x3 x4 : D) (μ : Mem) (hx : ∀ x ∈ [x0, x1, x2, x3, x4], wd x) :
    callF (n + 2) 17 [.d (.lst [x0, x1, x2, x3, x4])] μ = some (.ok (.d (optS (firstBad parts [x0, x1, x2, x3, x4]))), μ) := by
  obtain ⟨b', c', d', e⟩ := loop_fault (n + 1) μ (some (.d (.lst [x0, x1, x2, x3, x4]))) parts [x0, x1, x2, x3, x4] none none none (fun p hp => hp) hx rfl
  rw [show pairsP parts [x0, x1, x2, x3, x4] = zipD partsL [x0, x1, x2, x3, x4] from rfl] at e
  have l1 : partsL.length = 5 := rfl
  rw [cf_17]
  cases q : firstBad parts [x0, x1, x2, x3, x4] <;> rw [q] at e <;> simp [sem_17, run_parts, l1, e, optS]
theorem run_told (n : Nat) (x0 x1 x2 x3 x4 : D) (μ : Mem) : callF (n + 2) 19 [.d (rule [x0, x1, x2, x3, x4])] μ = some (.ok (.d (.lst [x0, x1, x2, x3, x4])), μ) := by
  rw [cf_19]
  have hc : clsOf μ (.d (rule [x0, x1, x2, x3, x4])) = some 0 := rfl
  simp [sem_19, run_check, run_deep, run_parts5, run_period, run_rate, hc]
def ruleE (xs : List D) : D := match firstBad parts xs with | some p => .tup [.str "rule", .str p] | none => rule xs
theorem run_tried0 (n : Nat) (x0 x1 x2 x3 x4 : D) (μ : Mem) (hx : ∀ x ∈ [x0, x1, x2, x3, x4], wd x) :
    callF (n + 5) 18 [.d .non, .d (.lst [x0, x1, x2, x3, x4]), .d .non, .d .non] μ = some (.ok (.d (ruleE [x0, x1, x2, x3, x4])), μ) := by
  have R := run_built n x0 x1 x2 x3 x4 μ fun x h => (hx x h).1
  rw [cf_18]
  cases q : firstBad parts [x0, x1, x2, x3, x4] <;> rw [q] at R <;> simp [sem_18, R, ruleE, q, handleK, exm, uTup, uCons, uNil, uC, uF, okLen, unset, List.lookup]
theorem run_tried1 (n : Nat) (x0 x1 x2 x3 x4 v : D) (s : String) (μ : Mem) (hs : s ∈ parts) (hx : ∀ x ∈ [x0, x1, x2, x3, x4], plain x = true ∧ fl 0 x = true) (hv : plain v = true) :
    callF (n + 5) 18 [.d (rule [x0, x1, x2, x3, x4]), .d .non, .d (.str s), .d v] μ = some (.ok (.d (ruleE (setW s v [x0, x1, x2, x3, x4]))), μ) := by
  have R := run_changed n x0 x1 x2 x3 x4 v s μ hs (fun x h => (hx x h).1) hv fun x h => (hx x h).2
  have hc : clsOf μ (.d (rule [x0, x1, x2, x3, x4])) = some 0 := rfl
  have hn : isNon (rule [x0, x1, x2, x3, x4]) = false := rfl
  rw [cf_18]
  cases q : firstBad parts (setW s v [x0, x1, x2, x3, x4]) <;> rw [q] at R <;> simp [sem_18, hc, hn, R, ruleE, q, handleK, exm, uTup, uCons, uNil, uC, uF, okLen, unset, List.lookup]
theorem run_tried2 (n : Nat) (xs : List D) (v p : D) (μ : Mem) (hp : plain p = true) (h : ∀ s, p = .str s → s ∉ parts) :
    callF (n + 5) 18 [.d (rule xs), .d .non, .d p, .d v] μ = some (.ok (.d (.tup [.str "part", p])), μ) := by
  have R := run_changedU (n + 3) (rule xs) v p μ hp h
  have hc : clsOf μ (.d (rule xs)) = some 0 := rfl
  have hn : isNon (rule xs) = false := rfl
  rw [cf_18]
  simp [sem_18, hc, hn, R, handleK, exm, uTup, uCons, uNil, uC, uF, okLen, unset, List.lookup]
def oddL : List D := [.str "room", .str "own", .str "now", .str "any", .str "", .str "Any", .non, .int 0, .int 5, .bl true, .str "1", .lst [.str "own"], .int 2, .str "units", .str "open"]
theorem odd_wd : ∀ x ∈ oddL, wd x := by
  intro x hx
  simp only [oddL, List.mem_cons, List.mem_nil_iff, or_false] at hx
  rcases hx with rfl | rfl | rfl | rfl | rfl | rfl | rfl | rfl | rfl | rfl | rfl | rfl | rfl | rfl | rfl <;> exact ⟨rfl, rfl⟩
theorem tups_wd {p : String} (hp : p ∈ parts) : ∀ x ∈ tups p, wd x ∧ fl 0 x = true := by
  intro x hx
  simp only [parts, List.mem_cons, List.mem_nil_iff, or_false] at hp
  rcases hp with rfl | rfl | rfl | rfl | rfl <;> simp [tups] at hx
  · rcases hx with rfl | rfl | rfl <;> exact ⟨⟨rfl, rfl⟩, rfl⟩
  · rcases hx with rfl | rfl | rfl | rfl <;> exact ⟨⟨rfl, rfl⟩, rfl⟩
  · rcases hx with rfl | rfl <;> exact ⟨⟨rfl, rfl⟩, rfl⟩
  · rcases hx with rfl | rfl | rfl <;> exact ⟨⟨rfl, rfl⟩, rfl⟩
  · rcases hx with rfl | rfl <;> exact ⟨⟨rfl, rfl⟩, rfl⟩
theorem mem_of_okW {p : String} {x : D} (hp : p ∈ parts) (h : okW p x = true) : x ∈ tups p := by
  simp only [parts, List.mem_cons, List.mem_nil_iff, or_false] at hp
  rcases hp with rfl | rfl | rfl | rfl | rfl <;> cases x <;> simp [okW, isI, tups] at h ⊢ <;> grind
/-- the changes of words -/
theorem loop_change (n l w : Nat) (hlw : l ≠ w) (a0 a3 a6 a7 a8 a9 a10 a11 : Option W) : ∀ (js : List D) (v : Option W) (s : Hs) (xs : List D) (μ : Mem), μ[l]? = some (hob s) → Hok s → μ[w]? = some (.lst (xs.map Cell.d)) → xs.length = 5 → (∀ x ∈ xs, wd x) → (∀ j ∈ js, ∃ k, j = .int k) →
    ∃ (v' : Option W) (s' : Hs) (xs' : List D) (μ' : Mem), forL (.var 5) (lp_20_0 (callF (n + 2))) js [a0, some (.own l), some (.d (.lst oddL)), a3, some (.own w), v, a6, a7, a8, a9, a10, a11] μ =
        some (.nx, [a0, some (.own l), some (.d (.lst oddL)), a3, some (.own w), v', a6, a7, a8, a9, a10, a11], μ') ∧
      μ'[l]? = some (hob s') ∧ Hok s' ∧ μ'[w]? = some (.lst (xs'.map Cell.d)) ∧ xs'.length = 5 ∧ (∀ x ∈ xs', wd x)
  | [], v, s, xs, μ, h1, h2, h3, h4, h5, _ => ⟨v, s, xs, μ, rfl, h1, h2, h3, h4, h5⟩
  | j :: js, v, s, xs, μ, h1, h2, h3, h4, h5, h6 => by
    have hw : w < μ.length := lt_of_at h3
    have hl : l < μ.length := (List.getElem?_eq_some_iff.mp h1).1
    obtain ⟨x, s1, k1, m1, e1⟩ := run_pick n h1 h2 oddL (by simp [oddL]) (by simp [oddL])
    obtain ⟨r, s2, k2, r0, r1, e2⟩ := run_next (n + 1) (l := l) (μ := μ.set l (hob s1)) (s := s1) (by simp [hl]) k1 5 (by omega) (by omega)
    have g3 : (μ.set l (hob s2))[w]? = some (.lst (xs.map Cell.d)) := by rw [List.getElem?_set_ne hlw]; exact h3
    have e3 : setI (μ.set l (hob s2)) (.own w) (.int r) x = some ((μ.set l (hob s2)).set w (.lst ((xs.map Cell.d).set r.toNat (.d x)))) :=
      setI_own (x := xs[r.toNat]'(by omega)) g3 (ix_nat r0 (by simp [h4]; omega)) (by simp)
    obtain ⟨v', s', xs', μ', ih, q⟩ := loop_change n l w hlw a0 a3 a6 a7 a8 a9 a10 a11 js (some (.d j)) s2 (xs.set r.toNat x) ((μ.set l (hob s2)).set w (.lst ((xs.map Cell.d).set r.toNat (.d x))))
      (by rw [List.getElem?_set_ne (Ne.symm hlw)]; simp [hl]) k2 (by simp [hw, List.map_set]) (by simpa using h4)
      (fun y hy => (List.mem_or_eq_of_mem_set hy).elim (h5 y) fun z => z ▸ odd_wd x m1) fun y hy => h6 y (by simp [hy])
    refine ⟨v', s', xs', μ', ?_, q⟩
    rw [forL_cons]
    simp [lp_20_0, e1, e2, e3, ih]
theorem firstBad_none {xs : List D} (h : firstBad parts xs = none) (hl : xs.length = 5) : okWs xs := by
  match xs, hl with
  | [x0, x1, x2, x3, x4], _ =>
    simp only [firstBad, parts] at h
    split at h
    · rename_i h0
      split at h
      · rename_i h1
        split at h
        · rename_i h2
          split at h
          · rename_i h3
            split at h
            · rename_i h4
              exact ⟨x0, x1, x2, x3, x4, rfl, mem_of_okW (by decide) h0, mem_of_okW (by decide) h1, mem_of_okW (by decide) h2, mem_of_okW (by decide) h3, mem_of_okW (by decide) h4⟩
            · cases h
          · cases h
        · cases h
      · cases h
    · cases h
theorem okWs.bad {xs : List D} (h : okWs xs) : firstBad parts xs = none := by
  obtain ⟨x0, x1, x2, x3, x4, rfl, h0, h1, h2, h3, h4⟩ := h
  simp [firstBad, parts, okW_mem (p := "check") (by decide) h0, okW_mem (p := "deep") (by decide) h1, okW_mem (p := "parts") (by decide) h2, okW_mem (p := "period") (by decide) h3, okW_mem (p := "rate") (by decide) h4]
theorem okWs.all {xs : List D} (h : okWs xs) : ∀ x ∈ xs, wd x ∧ fl 0 x = true := by
  obtain ⟨x0, x1, x2, x3, x4, rfl, h0, h1, h2, h3, h4⟩ := h
  intro x hx
  simp only [List.mem_cons, List.mem_nil_iff, or_false] at hx
  rcases hx with rfl | rfl | rfl | rfl | rfl
  · exact tups_wd (p := "check") (by decide) _ h0
  · exact tups_wd (p := "deep") (by decide) _ h1
  · exact tups_wd (p := "parts") (by decide) _ h2
  · exact tups_wd (p := "period") (by decide) _ h3
  · exact tups_wd (p := "rate") (by decide) _ h4
theorem okWs.len {xs : List D} (h : okWs xs) : xs.length = 5 := by obtain ⟨x0, x1, x2, x3, x4, rfl, _⟩ := h; rfl
/-- with another word -/
theorem bad_set {xs : List D} (h : okWs xs) {s : String} (hs : s ∈ parts) (v : D) : firstBad parts (setW s v xs) = if okW s v then none else some s := by
  obtain ⟨x0, x1, x2, x3, x4, rfl, h0, h1, h2, h3, h4⟩ := h
  have q0 := okW_mem (p := "check") (by decide) h0
  have q1 := okW_mem (p := "deep") (by decide) h1
  have q2 := okW_mem (p := "parts") (by decide) h2
  have q3 := okW_mem (p := "period") (by decide) h3
  have q4 := okW_mem (p := "rate") (by decide) h4
  simp only [parts, List.mem_cons, List.mem_nil_iff, or_false] at hs
  rcases hs with rfl | rfl | rfl | rfl | rfl <;> simp [setW, parts, firstBad, q0, q1, q2, q3, q4]
theorem lt_at {μ : Mem} {l : Nat} {o : Ob} (h : μ[l]? = some o) : l < μ.length := (List.getElem?_eq_some_iff.mp h).1
theorem at_facts (r : Int) (r0 : 0 ≤ r) (r1 : r < 5) (y0 y1 y2 y3 y4 : D) (ok : okWs [y0, y1, y2, y3, y4]) : ∃ (p : String) (y : D), p ∈ parts ∧ atN partsL r = some (.tup [.str p, .lst (tups p)]) ∧ atN [y0, y1, y2, y3, y4] r = some y ∧ y ∈ [y0, y1, y2, y3, y4] ∧
    ∀ v, (cut [y0, y1, y2, y3, y4] none (some r) ++ [v] ++ cut [y0, y1, y2, y3, y4] (some (r + 1)) none = setW p v [y0, y1, y2, y3, y4]) ∧ eqA (setW p v [y0, y1, y2, y3, y4]) [y0, y1, y2, y3, y4] = eqD v y := by
  have q0 : eqD y0 y0 = true := eqD_refl 0 _ (ok.all y0 (by simp)).2
  have q1 : eqD y1 y1 = true := eqD_refl 0 _ (ok.all y1 (by simp)).2
  have q2 : eqD y2 y2 = true := eqD_refl 0 _ (ok.all y2 (by simp)).2
  have q3 : eqD y3 y3 = true := eqD_refl 0 _ (ok.all y3 (by simp)).2
  have q4 : eqD y4 y4 = true := eqD_refl 0 _ (ok.all y4 (by simp)).2
  have : r = 0 ∨ r = 1 ∨ r = 2 ∨ r = 3 ∨ r = 4 := by omega
  rcases this with rfl | rfl | rfl | rfl | rfl
  · exact ⟨"check", y0, by decide, rfl, rfl, by simp, fun v => ⟨rfl, by simp [setW, parts, *]⟩⟩
  · exact ⟨"deep", y1, by decide, rfl, rfl, by simp, fun v => ⟨rfl, by simp [setW, parts, *]⟩⟩
  · exact ⟨"parts", y2, by decide, rfl, rfl, by simp, fun v => ⟨rfl, by simp [setW, parts, *]⟩⟩
  · exact ⟨"period", y3, by decide, rfl, rfl, by simp, fun v => ⟨rfl, by simp [setW, parts, *]⟩⟩
  · exact ⟨"rate", y4, by decide, rfl, rfl, by simp, fun v => ⟨rfl, by simp [setW, parts, *]⟩⟩
/-- one turn of the law -/
theorem turn (n l : Nat) (s : Hs) (μ : Mem) (h1 : μ[l]? = some (hob s)) (h2 : Hok s) (a0 a3 a4 a5 a6 a7 a8 a9 a10 a11 : Option W) :
    ∃ (b3 b4 b5 b6 b7 b8 b9 b10 b11 : Option W) (s' : Hs) (μ' : Mem),
      lp_20_1 (callF (n + 6)) [a0, some (.own l), some (.d (.lst oddL)), a3, a4, a5, a6, a7, a8, a9, a10, a11] μ = some (.nx, [a0, some (.own l), some (.d (.lst oddL)), b3, b4, b5, b6, b7, b8, b9, b10, b11], μ') ∧
      μ'[l]? = some (hob s') ∧ Hok s' := by
  have hl : l < μ.length := lt_at h1
  obtain ⟨xs, s1, k1, ok0, e0⟩ := run_words (n + 3) h1 h2
  obtain ⟨μ1, hμ1⟩ : ∃ μ1, μ1 = μ.set l (hob s1) ++ [.lst (xs.map Cell.d)] := ⟨_, rfl⟩
  rw [← hμ1] at e0
  have g1 : μ1[l]? = some (hob s1) := by rw [hμ1, List.getElem?_append_left (by simpa using hl)]; simp [hl]
  have g1w : μ1[μ.length]? = some (.lst (xs.map Cell.d)) := by rw [hμ1, List.getElem?_append_right (by simp)]; simp
  obtain ⟨w, hw⟩ : ∃ w, w = μ.length := ⟨_, rfl⟩
  rw [← hw] at g1w e0
  have hlw : l ≠ w := by omega
  obtain ⟨r, s2, k2, r0, r1, e1⟩ := run_next (n + 5) g1 k1 3 (by omega) (by omega)
  have hl1 : l < μ1.length := lt_at g1
  obtain ⟨v', s3, ys, μ3, e2, g3, k3, g3w, l3, wd3⟩ := loop_change (n + 4) l w hlw a0 a3 a6 a7 a8 a9 a10 a11 (nums r.toNat) a5 s2 xs (μ1.set l (hob s2)) (by simp [hl1]) k2 (by rw [List.getElem?_set_ne hlw]; exact g1w) ok0.len (fun x hx => (ok0.all x hx).1)
    (fun j hj => by obtain ⟨k, _, rfl⟩ := mem_nums.mp hj; exact ⟨_, rfl⟩)
  have er : rngI (.d (.int r)) (μ1.set l (hob s2)) = some (.ok (nums r.toNat), μ1.set l (hob s2)) := rngI_int r0 (by omega)
  have ef : freeze μ3 [a0, some (.own l), some (.d (.lst oddL)), a3, some (.own w), v', a6, a7, a8, a9, a10, a11] 4 = some ([a0, some (.own l), some (.d (.lst oddL)), a3, some (.d (.lst ys)), v', a6, a7, a8, a9, a10, a11], μ3.set w .dead) := by
    simp [freeze, g3w]
  obtain ⟨μ4, hμ4⟩ : ∃ μ4, μ4 = μ3.set w .dead := ⟨_, rfl⟩
  rw [← hμ4] at ef
  have g4 : μ4[l]? = some (hob s3) := by rw [hμ4, List.getElem?_set_ne (Ne.symm hlw)]; exact g3
  match ys, l3 with
  | [y0, y1, y2, y3, y4], _ =>
  have e3 := run_tried0 (n + 1) y0 y1 y2 y3 y4 μ4 wd3
  have e4 := run_fault (n + 4) y0 y1 y2 y3 y4 μ4 wd3
  cases hb : firstBad parts [y0, y1, y2, y3, y4] with
  | some p =>
    rw [show ruleE [y0, y1, y2, y3, y4] = .tup [.str "rule", .str p] by simp [ruleE, hb]] at e3
    rw [hb] at e4
    refine ⟨a3, some (.d (.lst [y0, y1, y2, y3, y4])), v', some (.d (.tup [.str "rule", .str p])), some (.d (.str p)), a8, a9, a10, a11, s3, μ4, ?_, g4, k3⟩
    simp [lp_20_1, e0, e1, er, e2, frzK, ef, e3, e4, optS]
  | none =>
    have ok : okWs [y0, y1, y2, y3, y4] := firstBad_none hb rfl
    rw [show ruleE [y0, y1, y2, y3, y4] = rule [y0, y1, y2, y3, y4] by simp [ruleE, hb]] at e3
    rw [hb] at e4
    have e5 := run_told (n + 4) y0 y1 y2 y3 y4 μ4
    have e6 : callF (n + 6) 12 [.d (.lst [y0, y1, y2, y3, y4]), .d (.lst [y0, y1, y2, y3, y4])] μ4 = some (.ok (.d (.bl true)), μ4) := run_alike μ4 2 (n + 3) _ (by
      rw [alk_lst, Bool.and_eq_true, alkA_iff]; exact ⟨rfl, fun x hx => (ok.all x hx).1.2⟩) (by omega)
    have fl0 : ∀ x ∈ [y0, y1, y2, y3, y4], fl 0 x = true := fun x hx => (ok.all x hx).2
    have e7 := run_built (n + 2) y0 y1 y2 y3 y4 μ4 fun x hx => (wd3 x hx).1
    rw [hb] at e7
    have rf : eqA [y0, y1, y2, y3, y4] [y0, y1, y2, y3, y4] = true := by
      have := eqD_refl 1 (.lst [y0, y1, y2, y3, y4]) (by rw [fl_lst, flA_iff]; exact fl0)
      rwa [eqD_lst] at this
    have hc : clsOf μ4 (.d (rule [y0, y1, y2, y3, y4])) = some 0 := rfl
    have e8 : eqIK (callF (n + 6)) 9 0 (.d (rule [y0, y1, y2, y3, y4])) (.d (rule [y0, y1, y2, y3, y4])) μ4 = some (.ok (.d (.bl true)), μ4) :=
      eqIK_ok hc (by simp [rule]) (by rw [run_ruleeq (n + 5) _ _ _ _ _ _ _ _ _ _ _ fl0 fl0, rf])
    have e9 : eqIK (callF (n + 6)) 9 0 (.d (rule [y0, y1, y2, y3, y4])) (.d (.lst [y0, y1, y2, y3, y4])) μ4 = some (.ok (.d (.bl false)), μ4) :=
      eqIK_ok hc (by simp) (run_ruleeqL (n + 5) _ _ _)
    obtain ⟨r', s4, k4, r0', r1', e10⟩ := run_next (n + 5) g4 k3 7 (by omega) (by omega)
    obtain ⟨μ5, hμ5⟩ : ∃ μ5, μ5 = μ4.set l (hob s4) := ⟨_, rfl⟩
    rw [← hμ5] at e10
    have hl4 : l < μ4.length := lt_at g4
    have g5 : μ5[l]? = some (hob s4) := by rw [hμ5]; simp [hl4]
    have ec : ∀ μ, slL (.d (.lst oddL)) none (some 9) μ = some (.ok (.d (.lst (oddL.take 9))), μ) := fun _ => rfl
    by_cases h5 : r' < 5
    · obtain ⟨p, y, hp, ha, hy, hmem, hv⟩ := at_facts r' r0' h5 y0 y1 y2 y3 y4 ok
      have hm5 : r' % 5 = r' := Int.emod_eq_of_lt r0' h5
      have hTl : (tups p).length ≤ 4 := by
        simp only [parts, List.mem_cons, List.mem_nil_iff, or_false] at hp
        rcases hp with rfl | rfl | rfl | rfl | rfl <;> decide
      have hO : (oddL.take 9).length = 9 := rfl
      obtain ⟨v, s5, k5, m5, e11⟩ := run_pick (n + 4) g5 k4 (tups p ++ oddL.take 9) (by simp [oddL]) (by rw [List.length_append]; omega)
      obtain ⟨μ6, hμ6⟩ : ∃ μ6, μ6 = μ5.set l (hob s5) := ⟨_, rfl⟩
      rw [← hμ6] at e11
      have g6 : μ6[l]? = some (hob s5) := by rw [hμ6]; simp [lt_at g5]
      have wv : wd v := by
        rcases List.mem_append.mp m5 with h | h
        · exact (tups_wd hp v h).1
        · exact odd_wd v (List.mem_of_mem_take h)
      obtain ⟨hv1, hv2⟩ := hv v
      have e12 := run_tried1 (n + 1) y0 y1 y2 y3 y4 v p μ6 hp (fun x hx => ⟨(wd3 x hx).1, fl0 x hx⟩) wv.1
      have hB := isTy_bool v μ6 wv.1
      have hT : flA 8 (tups p) = true := by
        have := flT hp
        rw [flA_iff] at this ⊢
        exact fun y hy => fl_up y 8 (this y hy) (by omega)
      have hX : fl 8 v = true := fl_up v 8 (alk_fl _ _ wv.2) (by omega)
      have hi : inW μ6 (.d v) (.d (.lst (tups p))) = some ((tups p).any fun y => eqD y v) := by simp [inW, hX, hT]
      have hle : (tups p).length + 9 ≤ 16777216 := by omega
      have hnl : ¬ (4 < r') := by omega
      cases hok : okW p v with
      | false =>
        have hB' : isB v = true ∨ isB v = false ∧ ((tups p).any fun y => eqD y v) = false := by
          rw [okW_eq hp wv, Bool.and_eq_false_iff] at hok
          rcases hok with h | h
          · exact .inl (by simpa using h)
          · cases hq : isB v with
            | true => exact .inl rfl
            | false => exact .inr ⟨rfl, h⟩
        rw [show ruleE (setW p v [y0, y1, y2, y3, y4]) = .tup [.str "rule", .str p] by simp [ruleE, bad_set ok hp, hok]] at e12
        refine ⟨a3, some (.d (.lst [y0, y1, y2, y3, y4])), v', some (.d (rule [y0, y1, y2, y3, y4])), some (.d .non), some (.d (.int r')), some (.d (.str p)), some (.d v), some (.d (.tup [.str "rule", .str p])), s5, μ6, ?_, g6, k5⟩
        rcases hB' with hB' | ⟨hB', hA⟩
        · rw [hB'] at hB
          simp [lp_20_1, e0, e1, er, e2, frzK, ef, e3, e4, optS, e5, e6, e7, e8, e9, e10, h5, run_parts, ha, hm5, ec, hO, hle, e11, e12, hnl, hB]
        · rw [hB'] at hB
          rw [hA] at hi
          simp [lp_20_1, e0, e1, er, e2, frzK, ef, e3, e4, optS, e5, e6, e7, e8, e9, e10, h5, run_parts, ha, hm5, ec, hO, hle, e11, e12, hnl, hB, hi]
      | true =>
        have hB' : isB v = false ∧ ((tups p).any fun y => eqD y v) = true := by
          rw [okW_eq hp wv, Bool.and_eq_true] at hok
          exact ⟨by simpa using hok.1, hok.2⟩
        rw [hB'.1] at hB
        rw [hB'.2] at hi
        have okz : okWs (setW p v [y0, y1, y2, y3, y4]) := firstBad_none (by simp [bad_set ok hp, hok]) (by simp [setW, parts])
        rw [show ruleE (setW p v [y0, y1, y2, y3, y4]) = rule (setW p v [y0, y1, y2, y3, y4]) by simp [ruleE, bad_set ok hp, hok]] at e12
        obtain ⟨z0, z1, z2, z3, z4, hz⟩ : ∃ z0 z1 z2 z3 z4, setW p v [y0, y1, y2, y3, y4] = [z0, z1, z2, z3, z4] := ⟨_, _, _, _, _, rfl⟩
        rw [hz] at okz hv1 hv2 e12
        have flz : ∀ x ∈ [z0, z1, z2, z3, z4], fl 0 x = true := fun x hx => (okz.all x hx).2
        have e13 := run_told (n + 4) z0 z1 z2 z3 z4 μ6
        have e14 : eqIK (callF (n + 6)) 9 0 (.d (rule [z0, z1, z2, z3, z4])) (.d (rule [y0, y1, y2, y3, y4])) μ6 = some (.ok (.d (.bl (eqD v y))), μ6) :=
          eqIK_ok rfl (by simp [rule]) (by rw [run_ruleeq (n + 5) _ _ _ _ _ _ _ _ _ _ _ flz fl0, hv2])
        have fz : fl 8 (.lst [z0, z1, z2, z3, z4]) = true := fl_up _ 8 (m := 1) (by rw [fl_lst, flA_iff]; exact flz) (by omega)
        have qz : eqO (.lst [z0, z1, z2, z3, z4]) (.lst [z0, z1, z2, z3, z4]) = some true := by
          rw [eqO_fl fz fz, eqD_refl 8 _ fz]
        have qv : eqO v y = some (eqD v y) := eqO_fl hX (fl_up y 8 (fl0 y hmem) (by omega))
        have c1 : ∀ μ, slL (.d (.lst [y0, y1, y2, y3, y4])) none (some r') μ = some (.ok (.d (.lst (cut [y0, y1, y2, y3, y4] none (some r')))), μ) := fun _ => rfl
        have c2 : ∀ μ, slL (.d (.lst [y0, y1, y2, y3, y4])) (some (r' + 1)) none μ = some (.ok (.d (.lst (cut [y0, y1, y2, y3, y4] (some (r' + 1)) none))), μ) := fun _ => rfl
        have hlz := congrArg List.length hv1
        have b1 : binG .add μ6 (.d (.lst (cut [y0, y1, y2, y3, y4] none (some r')))) (.d (.lst [v])) = some (.lst (cut [y0, y1, y2, y3, y4] none (some r') ++ [v])) := by
          rw [bin_addL, if_pos]
          simp at hlz ⊢
          omega
        have b2 : binG .add μ6 (.d (.lst (cut [y0, y1, y2, y3, y4] none (some r') ++ [v]))) (.d (.lst (cut [y0, y1, y2, y3, y4] (some (r' + 1)) none))) = some (.lst [z0, z1, z2, z3, z4]) := by
          rw [bin_addL, if_pos, hv1]
          simp at hlz ⊢
          omega
        refine ⟨a3, some (.d (.lst [y0, y1, y2, y3, y4])), v', some (.d (rule [y0, y1, y2, y3, y4])), some (.d .non), some (.d (.int r')), some (.d (.str p)), some (.d v), some (.d (rule [z0, z1, z2, z3, z4])), s5, μ6, ?_, g6, k5⟩
        have qb : eqO (.bl (eqD v y)) (.bl (eqD v y)) = some true := by simp
        have b0 : binG .add μ5 (.d (.lst (tups p))) (.d (.lst (oddL.take 9))) = some (.lst (tups p ++ oddL.take 9)) := by
          rw [bin_addL, if_pos (by rw [hO]; exact hle)]
        simp [-eqO_eq, -bin_addL, lp_20_1, e0, e1, er, e2, frzK, ef, e3, e4, optS, e5, e6, e7, e8, e9, e10, h5, run_parts, ha, hm5, ec, b0, e11, e12, hnl, hB, hi, e13, c1, c2, b1, b2, qz, e14, hy, qv, qb]
    · have hnl : 4 < r' := by omega
      obtain ⟨q, s5, k5, m5, e11⟩ := run_pick (n + 4) g5 k4 [.str "Check", .non, .int 5, .str "", .lst [.str "deep"], .str "words"] (by simp) (by simp)
      obtain ⟨μ6, hμ6⟩ : ∃ μ6, μ6 = μ5.set l (hob s5) := ⟨_, rfl⟩
      rw [← hμ6] at e11
      have g6 : μ6[l]? = some (hob s5) := by rw [hμ6]; simp [lt_at g5]
      have hq : plain q = true ∧ alk 1 q = true ∧ ∀ s, q = .str s → s ∉ parts := by
        simp only [List.mem_cons, List.mem_nil_iff, or_false] at m5
        rcases m5 with rfl | rfl | rfl | rfl | rfl | rfl <;> refine ⟨rfl, rfl, fun s e => ?_⟩ <;> first | (cases e; decide) | cases e
      obtain ⟨p, y, hp, ha, hy, hmem, hv⟩ := at_facts (r' % 5) (by omega) (by omega) y0 y1 y2 y3 y4 ok
      have hTl : (tups p).length ≤ 4 := by
        simp only [parts, List.mem_cons, List.mem_nil_iff, or_false] at hp
        rcases hp with rfl | rfl | rfl | rfl | rfl <;> decide
      have hO : (oddL.take 9).length = 9 := rfl
      have b0 : binG .add μ6 (.d (.lst (tups p))) (.d (.lst (oddL.take 9))) = some (.lst (tups p ++ oddL.take 9)) := by
        rw [bin_addL, if_pos (by rw [hO, LIM_eq]; omega)]
      obtain ⟨v, s6, k6, m6, e12⟩ := run_pick (n + 4) g6 k5 (tups p ++ oddL.take 9) (by simp [oddL]) (by rw [List.length_append]; omega)
      obtain ⟨μ7, hμ7⟩ : ∃ μ7, μ7 = μ6.set l (hob s6) := ⟨_, rfl⟩
      rw [← hμ7] at e12
      have g7 : μ7[l]? = some (hob s6) := by rw [hμ7]; simp [lt_at g6]
      have e13 := run_tried2 (n + 1) [y0, y1, y2, y3, y4] v q μ7 hq.1 hq.2.2
      have e14 : callF (n + 6) 12 [.d (.tup [.str "part", q]), .d (.tup [.str "part", q])] μ7 = some (.ok (.d (.bl true)), μ7) := run_alike μ7 2 (n + 3) _ (by
        rw [alk_tup, Bool.and_eq_true, alkA_iff]; exact ⟨rfl, fun x hx => by
          simp only [List.mem_cons, List.mem_nil_iff, or_false] at hx
          rcases hx with rfl | rfl
          · rfl
          · exact hq.2.1⟩) (by omega)
      refine ⟨a3, some (.d (.lst [y0, y1, y2, y3, y4])), v', some (.d (rule [y0, y1, y2, y3, y4])), some (.d .non), some (.d (.int r')), some (.d q), some (.d v), some (.d (.tup [.str "part", q])), s6, μ7, ?_, g7, k6⟩
      simp [-bin_addL, lp_20_1, e0, e1, er, e2, frzK, ef, e3, e4, optS, e5, e6, e7, e8, e9, e10, h5, run_parts, ha, ec, b0, e11, e12, hnl, e13, e14]
theorem law_loop (n l : Nat) (a0 : Option W) : ∀ (js : List D) (s : Hs) (μ : Mem) (a3 a4 a5 a6 a7 a8 a9 a10 a11 : Option W), μ[l]? = some (hob s) → Hok s →
    ∃ ρ' μ', forL (.var 3) (lp_20_1 (callF (n + 6))) js [a0, some (.own l), some (.d (.lst oddL)), a3, a4, a5, a6, a7, a8, a9, a10, a11] μ = some (.nx, ρ', μ')
  | [], s, μ, a3, a4, a5, a6, a7, a8, a9, a10, a11, _, _ => ⟨_, μ, rfl⟩
  | j :: js, s, μ, a3, a4, a5, a6, a7, a8, a9, a10, a11, h1, h2 => by
    obtain ⟨b3, b4, b5, b6, b7, b8, b9, b10, b11, s', μ', e, g, k⟩ := turn n l s μ h1 h2 a0 (some (.d j)) a4 a5 a6 a7 a8 a9 a10 a11
    obtain ⟨ρ', μ2, ih⟩ := law_loop n l a0 js s' μ' b3 b4 b5 b6 b7 b8 b9 b10 b11 g k
    refine ⟨ρ', μ2, ?_⟩
    rw [forL_cons]
    simp [e, ih]
theorem run_law (n : Nat) (ns : List Int) (h : ns.length ≤ 63) (μ : Mem) : ∃ μ', callF (n + 7) 20 [.d (.lst (ns.map D.int))] μ = some (.ok (.d (.bl true)), μ') := by
  obtain ⟨s, k, e⟩ := run_mix (n + 5) ns h 1 μ
  obtain ⟨ρ', μ', e2⟩ := law_loop n μ.length (some (.d (.lst (ns.map D.int)))) (nums 6) s (μ ++ [hob s]) none none none none none none none none none (by simp) k
  have er : rngI (.d (.int 6)) (μ ++ [hob s]) = some (.ok (nums 6), μ ++ [hob s]) := rngI_nat (n := 6) (by omega)
  refine ⟨μ'.take μ.length, ?_⟩
  rw [cf_20]
  simp only [oddL] at e2
  simp [sem_20, e, er, e2]
end K01
set_option linter.all false
set_option Elab.async false
set_option maxRecDepth 100000
set_option maxHeartbeats 4000000
namespace K01
open PySem PySem.Spec PyProof.Rows L2 Mp
/-! ### what the top has written -/
/-- the law gives True, in the promise's words -/
def spLaw (K : PySem.W.Frag) : Sp := fun vs H Q _ => ∃ (a : Addr) (ns : List Int), vs = [.ref a] ∧ ns.length ≤ 63 ∧ SqL K H a (ns.map V.int) ∧ ∀ H', Q (.bl true) H'
theorem sq_rd {K : PySem.W.Frag} {H : Hp} {a : Addr} {vs : List V} (nl : (K.all fun p => !(p.2.cls == .type "list")) = true) (h : SqL K H a vs) : Rd H a (.lst vs) := by
  rcases h with h | ⟨o, its, n, h1, h2, _⟩
  · exact h
  · have : ∀ (l : List (Addr × Obj)), (l.all fun p => !(p.2.cls == .type "list")) = true → l.lookup a = some o → False := by
      intro l
      induction l with
      | nil => intro _ z; cases z
      | cons p l ih =>
        intro hl z
        rw [List.all_cons, Bool.and_eq_true] at hl
        rw [List.lookup_cons] at z
        split at z
        · cases z
          have := hl.1
          rw [h2] at this
          simp at this
        · exact ih hl.2 z
    exact (this K nl h1).elim
def FU : Nat := 40
def LawTrue : Prop := ∀ ns : List Int, ns.length ≤ 63 → ∃ μ, callF FU 20 [.d (.lst (ns.map D.int))] [.dead] = some (.ok (.d (.bl true)), μ)
theorem ints_rv {G : Glo} {O : List Addr} {H : Hp} : ∀ ns : List Int, RVs G O H (ns.map V.int) (ns.map D.int)
  | [] => .nil
  | n :: ns => .cons (.int n) (ints_rv ns)
theorem all_mk (hLT : LawTrue) {P : Program} {w : World} {K : PySem.W.Frag} {h : Heap} {mg : Str → Option Value} {fa : Addr} (X : K.In h) (G : h.Ns mainGlobals mg) (hfa : mg "law" = some (.ref fa))
    {f0 f1 f2 f3 f4 f5 f6 f7 f8 f9 f10 f11 f12 f13 f14 f15 f16 f17 f18 f19 f20 C_Rule X_BookError X_InvalidRule X_UnknownPart I_InvalidRule cc_InvalidRule cd_InvalidRule I_UnknownPart cc_UnknownPart cd_UnknownPart p3 p4 p5 p6 p7 g_PARTS : Addr} {oc0 kV0 dc0 pm0 cv0 ct0 : Value} {od0 an0 : Option Addr} {sl0 : Array (Option Value)} {oc1 kV1 dc1 pm1 cv1 ct1 : Value} {od1 an1 : Option Addr} {sl1 : Array (Option Value)} {oc2 kV2 dc2 pm2 cv2 ct2 : Value} {od2 an2 : Option Addr} {sl2 : Array (Option Value)} {rest3 : List Value} {oc3 kV3 dc3 pm3 cv3 ct3 : Value} {od3 an3 : Option Addr} {sl3 : Array (Option Value)} {rest4 : List Value} {oc4 kV4 dc4 pm4 cv4 ct4 : Value} {od4 an4 : Option Addr} {sl4 : Array (Option Value)} {rest5 : List Value} {oc5 kV5 dc5 pm5 cv5 ct5 : Value} {od5 an5 : Option Addr} {sl5 : Array (Option Value)} {rest6 : List Value} {oc6 kV6 dc6 pm6 cv6 ct6 : Value} {od6 an6 : Option Addr} {sl6 : Array (Option Value)} {rest7 : List Value} {oc7 kV7 dc7 pm7 cv7 ct7 : Value} {od7 an7 : Option Addr} {sl7 : Array (Option Value)} {oc8 kV8 dc8 pm8 cv8 ct8 : Value} {od8 an8 : Option Addr} {sl8 : Array (Option Value)} {oc9 kV9 dc9 pm9 cv9 ct9 : Value} {od9 an9 : Option Addr} {sl9 : Array (Option Value)} {oc10 kV10 dc10 pm10 cv10 ct10 : Value} {od10 an10 : Option Addr} {sl10 : Array (Option Value)} {oc11 kV11 dc11 pm11 cv11 ct11 : Value} {od11 an11 : Option Addr} {sl11 : Array (Option Value)} {oc12 kV12 dc12 pm12 cv12 ct12 : Value} {od12 an12 : Option Addr} {sl12 : Array (Option Value)} {oc13 kV13 dc13 pm13 cv13 ct13 : Value} {od13 an13 : Option Addr} {sl13 : Array (Option Value)} {oc14 kV14 dc14 pm14 cv14 ct14 : Value} {od14 an14 : Option Addr} {sl14 : Array (Option Value)} {oc15 kV15 dc15 pm15 cv15 ct15 : Value} {od15 an15 : Option Addr} {sl15 : Array (Option Value)} {oc16 kV16 dc16 pm16 cv16 ct16 : Value} {od16 an16 : Option Addr} {sl16 : Array (Option Value)} {oc17 kV17 dc17 pm17 cv17 ct17 : Value} {od17 an17 : Option Addr} {sl17 : Array (Option Value)} {oc18 kV18 dc18 pm18 cv18 ct18 : Value} {od18 an18 : Option Addr} {sl18 : Array (Option Value)} {oc19 kV19 dc19 pm19 cv19 ct19 : Value} {od19 an19 : Option Addr} {sl19 : Array (Option Value)} {oc20 kV20 dc20 pm20 cv20 ct20 : Value} {od20 an20 : Option Addr} {sl20 : Array (Option Value)} {oc_InvalidRule doc_InvalidRule pm_InvalidRule ct_InvalidRule : Value} {od_InvalidRule an_InvalidRule : Option Addr} {osl_InvalidRule : Array (Option Value)} {qu_InvalidRule ms_InvalidRule : Str} {kk_InvalidRule : Nat} {p1_InvalidRule a1_InvalidRule a2_InvalidRule a3_InvalidRule a4_InvalidRule a5_InvalidRule a6_InvalidRule p2_InvalidRule q1_InvalidRule q2_InvalidRule q3_InvalidRule q4_InvalidRule : Pos} {nm_InvalidRule nq_InvalidRule : Str} {N_InvalidRule : Addr} {bs_InvalidRule bm_InvalidRule sub_InvalidRule : List Value} {sn_InvalidRule : List Str} {ab_InvalidRule : Bool} {col_InvalidRule : Option Bool} {dd_InvalidRule : Option Addr} {k0_InvalidRule k1_InvalidRule k2_InvalidRule k3_InvalidRule k5_InvalidRule : Option Value} {cl_InvalidRule : Value} {cld_InvalidRule : Option Addr} {csl_InvalidRule : Array (Option Value)} {ccl_InvalidRule : Value} {cdd_InvalidRule : Option Addr} {ccs_InvalidRule : Array (Option Value)} {cvs_InvalidRule : Array Value} {fl_InvalidRule : Str} {tf_InvalidRule : Tok} {oc_UnknownPart doc_UnknownPart pm_UnknownPart ct_UnknownPart : Value} {od_UnknownPart an_UnknownPart : Option Addr} {osl_UnknownPart : Array (Option Value)} {qu_UnknownPart ms_UnknownPart : Str} {kk_UnknownPart : Nat} {p1_UnknownPart a1_UnknownPart a2_UnknownPart a3_UnknownPart a4_UnknownPart a5_UnknownPart a6_UnknownPart p2_UnknownPart q1_UnknownPart q2_UnknownPart q3_UnknownPart q4_UnknownPart : Pos} {nm_UnknownPart nq_UnknownPart : Str} {N_UnknownPart : Addr} {bs_UnknownPart bm_UnknownPart sub_UnknownPart : List Value} {sn_UnknownPart : List Str} {ab_UnknownPart : Bool} {col_UnknownPart : Option Bool} {dd_UnknownPart : Option Addr} {k0_UnknownPart k1_UnknownPart k2_UnknownPart k3_UnknownPart k5_UnknownPart : Option Value} {cl_UnknownPart : Value} {cld_UnknownPart : Option Addr} {csl_UnknownPart : Array (Option Value)} {ccl_UnknownPart : Value} {cdd_UnknownPart : Option Addr} {ccs_UnknownPart : Array (Option Value)} {cvs_UnknownPart : Array Value} {fl_UnknownPart : Str} {tf_UnknownPart : Tok} {es_PARTS : Array DictEntry} {en_PARTS : Nat} {u_PARTS_0 u_PARTS_1 u_PARTS_2 u_PARTS_3 u_PARTS_4 : Addr} {td_PARTS_0 : Option Addr} {ti_PARTS_0 : Array Value} {tn_PARTS_0 : Nat} {ts_PARTS_0 : Array (Option Value)} {td_PARTS_1 : Option Addr} {ti_PARTS_1 : Array Value} {tn_PARTS_1 : Nat} {ts_PARTS_1 : Array (Option Value)} {td_PARTS_2 : Option Addr} {ti_PARTS_2 : Array Value} {tn_PARTS_2 : Nat} {ts_PARTS_2 : Array (Option Value)} {td_PARTS_3 : Option Addr} {ti_PARTS_3 : Array Value} {tn_PARTS_3 : Nat} {ts_PARTS_3 : Array (Option Value)} {td_PARTS_4 : Option Addr} {ti_PARTS_4 : Array Value} {tn_PARTS_4 : Nat} {ts_PARTS_4 : Array (Option Value)}
    (a0 : PySem.W.nsIn K mainGlobals "is_integer" = some (some (.ref f0)))
    (a1 : PySem.W.nsIn K mainGlobals "is_word" = some (some (.ref f1)))
    (a10 : PySem.W.nsIn K mainGlobals "_law_mix" = some (some (.ref f10)))
    (a11 : PySem.W.nsIn K mainGlobals "_law_next" = some (some (.ref f11)))
    (a12 : PySem.W.nsIn K mainGlobals "_law_alike" = some (some (.ref f12)))
    (a13 : PySem.W.nsIn K mainGlobals "_law_pick" = some (some (.ref f13)))
    (a14 : PySem.W.nsIn K mainGlobals "_law_parts" = some (some (.ref f14)))
    (a15 : PySem.W.nsIn K mainGlobals "_law_words" = some (some (.ref f15)))
    (a16 : PySem.W.nsIn K mainGlobals "_law_built" = some (some (.ref f16)))
    (a17 : PySem.W.nsIn K mainGlobals "_law_fault" = some (some (.ref f17)))
    (a18 : PySem.W.nsIn K mainGlobals "_law_tried" = some (some (.ref f18)))
    (a19 : PySem.W.nsIn K mainGlobals "_law_told" = some (some (.ref f19)))
    (a20 : PySem.W.nsIn K mainGlobals "law" = some (some (.ref f20)))
    (aC_Rule : PySem.W.nsIn K mainGlobals "Rule" = some (some (.ref C_Rule)))
    (aX_BookError : PySem.W.nsIn K mainGlobals "BookError" = some (some (.ref X_BookError)))
    (aX_InvalidRule : PySem.W.nsIn K mainGlobals "InvalidRule" = some (some (.ref X_InvalidRule)))
    (aX_UnknownPart : PySem.W.nsIn K mainGlobals "UnknownPart" = some (some (.ref X_UnknownPart)))
    (aG_PARTS : PySem.W.nsIn K mainGlobals "PARTS" = some (some (.ref g_PARTS)))
    (nb_bool : PySem.W.nsIn K mainGlobals "bool" = some none)
    (nb_dict : PySem.W.nsIn K mainGlobals "dict" = some none)
    (nb_int : PySem.W.nsIn K mainGlobals "int" = some none)
    (nb_isinstance : PySem.W.nsIn K mainGlobals "isinstance" = some none)
    (nb_len : PySem.W.nsIn K mainGlobals "len" = some none)
    (nb_list : PySem.W.nsIn K mainGlobals "list" = some none)
    (nb_max : PySem.W.nsIn K mainGlobals "max" = some none)
    (nb_range : PySem.W.nsIn K mainGlobals "range" = some none)
    (nb_str : PySem.W.nsIn K mainGlobals "str" = some none)
    (nb_super : PySem.W.nsIn K mainGlobals "super" = some none)
    (nb_tuple : PySem.W.nsIn K mainGlobals "tuple" = some none)
    (nb_zip : PySem.W.nsIn K mainGlobals "zip" = some none)
    (l0 : K.lookup f0 = some ⟨oc0, od0, .func (PySem.W.fnOf "is_integer" "is_integer" (defArgs st_0) (defBody st_0) (defScope st_0) .none kV0 dc0 pm0 an0 cv0 ct0), sl0⟩)
    (c0 : PySem.W.codeIn K cv0 "is_integer" = true)
    (k0 : PySem.W.keepIn K (.ref f0) = true)
    (l1 : K.lookup f1 = some ⟨oc1, od1, .func (PySem.W.fnOf "is_word" "is_word" (defArgs st_1) (defBody st_1) (defScope st_1) .none kV1 dc1 pm1 an1 cv1 ct1), sl1⟩)
    (c1 : PySem.W.codeIn K cv1 "is_word" = true)
    (k1 : PySem.W.keepIn K (.ref f1) = true)
    (at2 : PySem.W.findIn K (.ref C_Rule) "__init__" = some (some (.ref f2)))
    (if2 : PySem.W.isFn K (.ref f2) = true)
    (l2 : K.lookup f2 = some ⟨oc2, od2, .func (PySem.W.fnOf "__init__" "Rule.__init__" (defArgs st_2) (defBody st_2) (defScope st_2) .none kV2 dc2 pm2 an2 cv2 ct2), sl2⟩)
    (c2 : PySem.W.codeIn K cv2 "Rule.__init__" = true)
    (k2 : PySem.W.keepIn K (.ref f2) = true)
    (at3 : PySem.W.findIn K (.ref C_Rule) "check" = some (some (.ref p3)))
    (rc3 : PySem.W.recIn K p3 "property" = some (.ref f3 :: rest3))
    (sg3 : PySem.W.specialIn K (.ref p3) "__get__" = some (some (.builtin "property.__get__")))
    (tk3 : PySem.W.takesIn K (.ref p3) = some true)
    (l3 : K.lookup f3 = some ⟨oc3, od3, .func (PySem.W.fnOf "check" "Rule.check" (defArgs st_3) (defBody st_3) (defScope st_3) .none kV3 dc3 pm3 an3 cv3 ct3), sl3⟩)
    (c3 : PySem.W.codeIn K cv3 "Rule.check" = true)
    (k3 : PySem.W.keepIn K (.ref f3) = true)
    (at4 : PySem.W.findIn K (.ref C_Rule) "deep" = some (some (.ref p4)))
    (rc4 : PySem.W.recIn K p4 "property" = some (.ref f4 :: rest4))
    (sg4 : PySem.W.specialIn K (.ref p4) "__get__" = some (some (.builtin "property.__get__")))
    (tk4 : PySem.W.takesIn K (.ref p4) = some true)
    (l4 : K.lookup f4 = some ⟨oc4, od4, .func (PySem.W.fnOf "deep" "Rule.deep" (defArgs st_4) (defBody st_4) (defScope st_4) .none kV4 dc4 pm4 an4 cv4 ct4), sl4⟩)
    (c4 : PySem.W.codeIn K cv4 "Rule.deep" = true)
    (k4 : PySem.W.keepIn K (.ref f4) = true)
    (at5 : PySem.W.findIn K (.ref C_Rule) "parts" = some (some (.ref p5)))
    (rc5 : PySem.W.recIn K p5 "property" = some (.ref f5 :: rest5))
    (sg5 : PySem.W.specialIn K (.ref p5) "__get__" = some (some (.builtin "property.__get__")))
    (tk5 : PySem.W.takesIn K (.ref p5) = some true)
    (l5 : K.lookup f5 = some ⟨oc5, od5, .func (PySem.W.fnOf "parts" "Rule.parts" (defArgs st_5) (defBody st_5) (defScope st_5) .none kV5 dc5 pm5 an5 cv5 ct5), sl5⟩)
    (c5 : PySem.W.codeIn K cv5 "Rule.parts" = true)
    (k5 : PySem.W.keepIn K (.ref f5) = true)
    (at6 : PySem.W.findIn K (.ref C_Rule) "period" = some (some (.ref p6)))
    (rc6 : PySem.W.recIn K p6 "property" = some (.ref f6 :: rest6))
    (sg6 : PySem.W.specialIn K (.ref p6) "__get__" = some (some (.builtin "property.__get__")))
    (tk6 : PySem.W.takesIn K (.ref p6) = some true)
    (l6 : K.lookup f6 = some ⟨oc6, od6, .func (PySem.W.fnOf "period" "Rule.period" (defArgs st_6) (defBody st_6) (defScope st_6) .none kV6 dc6 pm6 an6 cv6 ct6), sl6⟩)
    (c6 : PySem.W.codeIn K cv6 "Rule.period" = true)
    (k6 : PySem.W.keepIn K (.ref f6) = true)
    (at7 : PySem.W.findIn K (.ref C_Rule) "rate" = some (some (.ref p7)))
    (rc7 : PySem.W.recIn K p7 "property" = some (.ref f7 :: rest7))
    (sg7 : PySem.W.specialIn K (.ref p7) "__get__" = some (some (.builtin "property.__get__")))
    (tk7 : PySem.W.takesIn K (.ref p7) = some true)
    (l7 : K.lookup f7 = some ⟨oc7, od7, .func (PySem.W.fnOf "rate" "Rule.rate" (defArgs st_7) (defBody st_7) (defScope st_7) .none kV7 dc7 pm7 an7 cv7 ct7), sl7⟩)
    (c7 : PySem.W.codeIn K cv7 "Rule.rate" = true)
    (k7 : PySem.W.keepIn K (.ref f7) = true)
    (at8 : PySem.W.findIn K (.ref C_Rule) "changed" = some (some (.ref f8)))
    (if8 : PySem.W.isFn K (.ref f8) = true)
    (l8 : K.lookup f8 = some ⟨oc8, od8, .func (PySem.W.fnOf "changed" "Rule.changed" (defArgs st_8) (defBody st_8) (defScope st_8) .none kV8 dc8 pm8 an8 cv8 ct8), sl8⟩)
    (c8 : PySem.W.codeIn K cv8 "Rule.changed" = true)
    (k8 : PySem.W.keepIn K (.ref f8) = true)
    (at9 : PySem.W.findIn K (.ref C_Rule) "__eq__" = some (some (.ref f9)))
    (if9 : PySem.W.isFn K (.ref f9) = true)
    (l9 : K.lookup f9 = some ⟨oc9, od9, .func (PySem.W.fnOf "__eq__" "Rule.__eq__" (defArgs st_9) (defBody st_9) (defScope st_9) .none kV9 dc9 pm9 an9 cv9 ct9), sl9⟩)
    (c9 : PySem.W.codeIn K cv9 "Rule.__eq__" = true)
    (k9 : PySem.W.keepIn K (.ref f9) = true)
    (l10 : K.lookup f10 = some ⟨oc10, od10, .func (PySem.W.fnOf "_law_mix" "_law_mix" (defArgs st_10) (defBody st_10) (defScope st_10) .none kV10 dc10 pm10 an10 cv10 ct10), sl10⟩)
    (c10 : PySem.W.codeIn K cv10 "_law_mix" = true)
    (k10 : PySem.W.keepIn K (.ref f10) = true)
    (l11 : K.lookup f11 = some ⟨oc11, od11, .func (PySem.W.fnOf "_law_next" "_law_next" (defArgs st_11) (defBody st_11) (defScope st_11) .none kV11 dc11 pm11 an11 cv11 ct11), sl11⟩)
    (c11 : PySem.W.codeIn K cv11 "_law_next" = true)
    (k11 : PySem.W.keepIn K (.ref f11) = true)
    (l12 : K.lookup f12 = some ⟨oc12, od12, .func (PySem.W.fnOf "_law_alike" "_law_alike" (defArgs st_12) (defBody st_12) (defScope st_12) .none kV12 dc12 pm12 an12 cv12 ct12), sl12⟩)
    (c12 : PySem.W.codeIn K cv12 "_law_alike" = true)
    (k12 : PySem.W.keepIn K (.ref f12) = true)
    (l13 : K.lookup f13 = some ⟨oc13, od13, .func (PySem.W.fnOf "_law_pick" "_law_pick" (defArgs st_13) (defBody st_13) (defScope st_13) .none kV13 dc13 pm13 an13 cv13 ct13), sl13⟩)
    (c13 : PySem.W.codeIn K cv13 "_law_pick" = true)
    (k13 : PySem.W.keepIn K (.ref f13) = true)
    (l14 : K.lookup f14 = some ⟨oc14, od14, .func (PySem.W.fnOf "_law_parts" "_law_parts" (defArgs st_14) (defBody st_14) (defScope st_14) .none kV14 dc14 pm14 an14 cv14 ct14), sl14⟩)
    (c14 : PySem.W.codeIn K cv14 "_law_parts" = true)
    (k14 : PySem.W.keepIn K (.ref f14) = true)
    (l15 : K.lookup f15 = some ⟨oc15, od15, .func (PySem.W.fnOf "_law_words" "_law_words" (defArgs st_15) (defBody st_15) (defScope st_15) .none kV15 dc15 pm15 an15 cv15 ct15), sl15⟩)
    (c15 : PySem.W.codeIn K cv15 "_law_words" = true)
    (k15 : PySem.W.keepIn K (.ref f15) = true)
    (l16 : K.lookup f16 = some ⟨oc16, od16, .func (PySem.W.fnOf "_law_built" "_law_built" (defArgs st_16) (defBody st_16) (defScope st_16) .none kV16 dc16 pm16 an16 cv16 ct16), sl16⟩)
    (c16 : PySem.W.codeIn K cv16 "_law_built" = true)
    (k16 : PySem.W.keepIn K (.ref f16) = true)
    (l17 : K.lookup f17 = some ⟨oc17, od17, .func (PySem.W.fnOf "_law_fault" "_law_fault" (defArgs st_17) (defBody st_17) (defScope st_17) .none kV17 dc17 pm17 an17 cv17 ct17), sl17⟩)
    (c17 : PySem.W.codeIn K cv17 "_law_fault" = true)
    (k17 : PySem.W.keepIn K (.ref f17) = true)
    (l18 : K.lookup f18 = some ⟨oc18, od18, .func (PySem.W.fnOf "_law_tried" "_law_tried" (defArgs st_18) (defBody st_18) (defScope st_18) .none kV18 dc18 pm18 an18 cv18 ct18), sl18⟩)
    (c18 : PySem.W.codeIn K cv18 "_law_tried" = true)
    (k18 : PySem.W.keepIn K (.ref f18) = true)
    (l19 : K.lookup f19 = some ⟨oc19, od19, .func (PySem.W.fnOf "_law_told" "_law_told" (defArgs st_19) (defBody st_19) (defScope st_19) .none kV19 dc19 pm19 an19 cv19 ct19), sl19⟩)
    (c19 : PySem.W.codeIn K cv19 "_law_told" = true)
    (k19 : PySem.W.keepIn K (.ref f19) = true)
    (l20 : K.lookup f20 = some ⟨oc20, od20, .func (PySem.W.fnOf "law" "law" (defArgs st_20) (defBody st_20) (defScope st_20) .none kV20 dc20 pm20 an20 cv20 ct20), sl20⟩)
    (c20 : PySem.W.codeIn K cv20 "law" = true)
    (k20 : PySem.W.keepIn K (.ref f20) = true)
    (oh : PySem.W.specialIn K (.builtin "object.__class__") "__get__" = some (some (.builtin "getset_descriptor.__get__")))
    (ot : PySem.W.takesIn K (.builtin "object.__class__") = some true)
    (pg_Rule : PySem.W.plainGet K C_Rule Str.empty = true)
    (hd_Rule : PySem.W.hasDictIn K C_Rule = true)
    (po_Rule : PySem.W.plainOver K C_Rule = true)
    (sa_Rule : PySem.W.findIn K (.ref C_Rule) "__setattr__" = some (some (.builtin "object.__setattr__")))
    (ca_Rule : PySem.W.findIn K (.ref C_Rule) "__class__" = some (some (.builtin "object.__class__")))
    (mo_Rule : PySem.W.mroIn K C_Rule (.type "object") = some true)
    (ic_Rule : PySem.W.isClsIn K C_Rule = true)
    (ty_Rule : PySem.W.typeIn K (.ref C_Rule) = some (.type "type"))
    (kc_Rule : PySem.W.keepIn K (.ref C_Rule) = true)
    (mk_Rule : PySem.W.makesIn K C_Rule = true)
    (na_Rule_words : PySem.W.findIn K (.ref C_Rule) "words" = some none)
    (nf_Rule_NoneType : PySem.W.notFirst K C_Rule (.type "NoneType") = true)
    (nf_Rule_bool : PySem.W.notFirst K C_Rule (.type "bool") = true)
    (nf_Rule_int : PySem.W.notFirst K C_Rule (.type "int") = true)
    (nf_Rule_str : PySem.W.notFirst K C_Rule (.type "str") = true)
    (nf_Rule_tuple : PySem.W.notFirst K C_Rule (.type "tuple") = true)
    (nf_Rule_list : PySem.W.notFirst K C_Rule (.type "list") = true)
    (nf_Rule_dict : PySem.W.notFirst K C_Rule (.type "dict") = true)
    (nfc_Rule_Rule : PySem.W.notFirst K C_Rule (.ref C_Rule) = true)
    (xa_BookError : PySem.W.findIn K (.ref X_BookError) "__getattribute__" = some (some (.builtin "BaseException.__getattribute__")))
    (xg_BookError : PySem.W.findIn K (.ref X_BookError) "__getattr__" = some none)
    (xs_BookError : PySem.W.subIn K (.ref X_BookError) (.type "BaseException") = some true)
    (xd_BookError : PySem.W.hasDictIn K X_BookError = true)
    (xc_BookError : PySem.W.findIn K (.ref X_BookError) "__class__" = some (some (.builtin "object.__class__")))
    (xo_BookError : PySem.W.mroIn K X_BookError (.type "object") = some true)
    (xk_BookError : PySem.W.kitOne K (.ref X_BookError) (.ref X_BookError) = some true)
    (xn_BookError_words : PySem.W.findIn K (.ref X_BookError) "words" = some none)
    (xn_BookError_part : PySem.W.findIn K (.ref X_BookError) "part" = some none)
    (xe_BookError_UnknownPart : PySem.W.exmOne K (.ref X_BookError) (.ref X_UnknownPart) = some false)
    (xe_BookError_InvalidRule : PySem.W.exmOne K (.ref X_BookError) (.ref X_InvalidRule) = some false)
    (xa_InvalidRule : PySem.W.findIn K (.ref X_InvalidRule) "__getattribute__" = some (some (.builtin "BaseException.__getattribute__")))
    (xg_InvalidRule : PySem.W.findIn K (.ref X_InvalidRule) "__getattr__" = some none)
    (xs_InvalidRule : PySem.W.subIn K (.ref X_InvalidRule) (.type "BaseException") = some true)
    (xd_InvalidRule : PySem.W.hasDictIn K X_InvalidRule = true)
    (xc_InvalidRule : PySem.W.findIn K (.ref X_InvalidRule) "__class__" = some (some (.builtin "object.__class__")))
    (xo_InvalidRule : PySem.W.mroIn K X_InvalidRule (.type "object") = some true)
    (xk_InvalidRule : PySem.W.kitOne K (.ref X_InvalidRule) (.ref X_BookError) = some true)
    (xn_InvalidRule_words : PySem.W.findIn K (.ref X_InvalidRule) "words" = some none)
    (xn_InvalidRule_part : PySem.W.findIn K (.ref X_InvalidRule) "part" = some none)
    (xe_InvalidRule_UnknownPart : PySem.W.exmOne K (.ref X_InvalidRule) (.ref X_UnknownPart) = some false)
    (xe_InvalidRule_InvalidRule : PySem.W.exmOne K (.ref X_InvalidRule) (.ref X_InvalidRule) = some true)
    (xa_UnknownPart : PySem.W.findIn K (.ref X_UnknownPart) "__getattribute__" = some (some (.builtin "BaseException.__getattribute__")))
    (xg_UnknownPart : PySem.W.findIn K (.ref X_UnknownPart) "__getattr__" = some none)
    (xs_UnknownPart : PySem.W.subIn K (.ref X_UnknownPart) (.type "BaseException") = some true)
    (xd_UnknownPart : PySem.W.hasDictIn K X_UnknownPart = true)
    (xc_UnknownPart : PySem.W.findIn K (.ref X_UnknownPart) "__class__" = some (some (.builtin "object.__class__")))
    (xo_UnknownPart : PySem.W.mroIn K X_UnknownPart (.type "object") = some true)
    (xk_UnknownPart : PySem.W.kitOne K (.ref X_UnknownPart) (.ref X_BookError) = some true)
    (xn_UnknownPart_words : PySem.W.findIn K (.ref X_UnknownPart) "words" = some none)
    (xn_UnknownPart_part : PySem.W.findIn K (.ref X_UnknownPart) "part" = some none)
    (xe_UnknownPart_UnknownPart : PySem.W.exmOne K (.ref X_UnknownPart) (.ref X_UnknownPart) = some true)
    (xe_UnknownPart_InvalidRule : PySem.W.exmOne K (.ref X_UnknownPart) (.ref X_InvalidRule) = some false)
    (opq : PySem.W.nsIn K PySem.cStatics "thirdparty.any" = some none)
    (iC_InvalidRule : PySem.W.findIn K (.ref X_InvalidRule) "__init__" = some (some (.ref I_InvalidRule)))
    (tI_InvalidRule : PySem.W.typeIn K (.ref I_InvalidRule) = some (.type "function"))
    (fn_InvalidRule : K.lookup I_InvalidRule = some ⟨oc_InvalidRule, od_InvalidRule, .func (PySem.W.ksFn "__init__" qu_InvalidRule (BkX.iA1 "part" p1_InvalidRule p2_InvalidRule) [BkX.sS a1_InvalidRule a2_InvalidRule a3_InvalidRule a4_InvalidRule a5_InvalidRule a6_InvalidRule ms_InvalidRule kk_InvalidRule, BkX.sF "part" q1_InvalidRule q2_InvalidRule q3_InvalidRule q4_InvalidRule] (BkX.iS1 "part") .none .none doc_InvalidRule pm_InvalidRule an_InvalidRule (.ref cd_InvalidRule) ct_InvalidRule cc_InvalidRule), osl_InvalidRule⟩)
    (cq_InvalidRule : PySem.W.codeIn K (.ref cd_InvalidRule) qu_InvalidRule = true)
    (el_InvalidRule : (a3_InvalidRule.endLine == a5_InvalidRule.line) = true)
    (xl_InvalidRule : K.lookup X_InvalidRule = some (excClassObj nm_InvalidRule nq_InvalidRule X_InvalidRule N_InvalidRule bs_InvalidRule bm_InvalidRule true sn_InvalidRule sub_InvalidRule ab_InvalidRule col_InvalidRule dd_InvalidRule k0_InvalidRule k1_InvalidRule k2_InvalidRule k3_InvalidRule k5_InvalidRule "ValueError.__new__"))
    (rb_InvalidRule : PySem.HandSPX.refsVE bm_InvalidRule = true)
    (xsa_InvalidRule : PySem.W.findIn K (.ref X_InvalidRule) "__setattr__" = some (some (.builtin "object.__setattr__")))
    (xkp_InvalidRule : PySem.W.keepIn K (.ref X_InvalidRule) = true)
    (xve_InvalidRule : PySem.W.subIn K (.ref X_InvalidRule) (.type "ValueError") = some true)
    (xty_InvalidRule : PySem.W.typeIn K (.ref X_InvalidRule) = some (.type "type"))
    (xmr_InvalidRule : PySem.W.mroIn K X_InvalidRule (.ref X_InvalidRule) = some true)
    (xsu_InvalidRule : PySem.W.ks_superIn K X_InvalidRule X_InvalidRule "__init__" = some (some (.builtin "ValueError.__init__")))
    (xce_InvalidRule : K.lookup cc_InvalidRule = some ⟨cl_InvalidRule, cld_InvalidRule, .cell (some (.ref X_InvalidRule)), csl_InvalidRule⟩)
    (xco_InvalidRule : K.lookup cd_InvalidRule = some ⟨ccl_InvalidRule, cdd_InvalidRule, .fields cvs_InvalidRule, ccs_InvalidRule⟩)
    (xfi_InvalidRule : cvs_InvalidRule[2]? = some (.str fl_InvalidRule tf_InvalidRule))
    (xfe_InvalidRule : ((P.main.file : Str) == fl_InvalidRule) = true)
    (iC_UnknownPart : PySem.W.findIn K (.ref X_UnknownPart) "__init__" = some (some (.ref I_UnknownPart)))
    (tI_UnknownPart : PySem.W.typeIn K (.ref I_UnknownPart) = some (.type "function"))
    (fn_UnknownPart : K.lookup I_UnknownPart = some ⟨oc_UnknownPart, od_UnknownPart, .func (PySem.W.ksFn "__init__" qu_UnknownPart (BkX.iA1 "part" p1_UnknownPart p2_UnknownPart) [BkX.sS a1_UnknownPart a2_UnknownPart a3_UnknownPart a4_UnknownPart a5_UnknownPart a6_UnknownPart ms_UnknownPart kk_UnknownPart, BkX.sF "part" q1_UnknownPart q2_UnknownPart q3_UnknownPart q4_UnknownPart] (BkX.iS1 "part") .none .none doc_UnknownPart pm_UnknownPart an_UnknownPart (.ref cd_UnknownPart) ct_UnknownPart cc_UnknownPart), osl_UnknownPart⟩)
    (cq_UnknownPart : PySem.W.codeIn K (.ref cd_UnknownPart) qu_UnknownPart = true)
    (el_UnknownPart : (a3_UnknownPart.endLine == a5_UnknownPart.line) = true)
    (xl_UnknownPart : K.lookup X_UnknownPart = some (excClassObj nm_UnknownPart nq_UnknownPart X_UnknownPart N_UnknownPart bs_UnknownPart bm_UnknownPart true sn_UnknownPart sub_UnknownPart ab_UnknownPart col_UnknownPart dd_UnknownPart k0_UnknownPart k1_UnknownPart k2_UnknownPart k3_UnknownPart k5_UnknownPart "ValueError.__new__"))
    (rb_UnknownPart : PySem.HandSPX.refsVE bm_UnknownPart = true)
    (xsa_UnknownPart : PySem.W.findIn K (.ref X_UnknownPart) "__setattr__" = some (some (.builtin "object.__setattr__")))
    (xkp_UnknownPart : PySem.W.keepIn K (.ref X_UnknownPart) = true)
    (xve_UnknownPart : PySem.W.subIn K (.ref X_UnknownPart) (.type "ValueError") = some true)
    (xty_UnknownPart : PySem.W.typeIn K (.ref X_UnknownPart) = some (.type "type"))
    (xmr_UnknownPart : PySem.W.mroIn K X_UnknownPart (.ref X_UnknownPart) = some true)
    (xsu_UnknownPart : PySem.W.ks_superIn K X_UnknownPart X_UnknownPart "__init__" = some (some (.builtin "ValueError.__init__")))
    (xce_UnknownPart : K.lookup cc_UnknownPart = some ⟨cl_UnknownPart, cld_UnknownPart, .cell (some (.ref X_UnknownPart)), csl_UnknownPart⟩)
    (xco_UnknownPart : K.lookup cd_UnknownPart = some ⟨ccl_UnknownPart, cdd_UnknownPart, .fields cvs_UnknownPart, ccs_UnknownPart⟩)
    (xfi_UnknownPart : cvs_UnknownPart[2]? = some (.str fl_UnknownPart tf_UnknownPart))
    (xfe_UnknownPart : ((P.main.file : Str) == fl_UnknownPart) = true)
    (tops : (P.main.scope.names.lookup ("super" : Str)).isSome = false)
    (gl_PARTS : K.lookup g_PARTS = some ⟨.type "dict", none, .dict es_PARTS en_PARTS, #[]⟩)
    (gk_PARTS : PySem.W.KeysLit w.params es_PARTS.toList)
    (gv_PARTS : es_PARTS.toList.map (·.val) = [.ref u_PARTS_0, .ref u_PARTS_1, .ref u_PARTS_2, .ref u_PARTS_3, .ref u_PARTS_4])
    (gp_PARTS : Paired (fun (e : DictEntry) (k : String) => ∃ t, e.key = .str (toS k) t) es_PARTS.toList ks_PARTS)
    (gy_PARTS : (g_PARTS == sysModules) = false)
    (gt_PARTS_0 : K.lookup u_PARTS_0 = some ⟨.type "tuple", td_PARTS_0, .seq ti_PARTS_0 tn_PARTS_0, ts_PARTS_0⟩)
    (gz_PARTS_0 : ti_PARTS_0.size ≤ sizeLine)
    (ge_PARTS_0 : Vals [.str (toS "room"), .str (toS "standing"), .str (toS "units")] ti_PARTS_0.toList)
    (gt_PARTS_1 : K.lookup u_PARTS_1 = some ⟨.type "tuple", td_PARTS_1, .seq ti_PARTS_1 tn_PARTS_1, ts_PARTS_1⟩)
    (gz_PARTS_1 : ti_PARTS_1.size ≤ sizeLine)
    (ge_PARTS_1 : Vals [.int 1, .int 2, .int 3, .int 4] ti_PARTS_1.toList)
    (gt_PARTS_2 : K.lookup u_PARTS_2 = some ⟨.type "tuple", td_PARTS_2, .seq ti_PARTS_2 tn_PARTS_2, ts_PARTS_2⟩)
    (gz_PARTS_2 : ti_PARTS_2.size ≤ sizeLine)
    (ge_PARTS_2 : Vals [.str (toS "any"), .str (toS "whole")] ti_PARTS_2.toList)
    (gt_PARTS_3 : K.lookup u_PARTS_3 = some ⟨.type "tuple", td_PARTS_3, .seq ti_PARTS_3 tn_PARTS_3, ts_PARTS_3⟩)
    (gz_PARTS_3 : ti_PARTS_3.size ≤ sizeLine)
    (ge_PARTS_3 : Vals [.str (toS "own"), .str (toS "now"), .str (toS "open")] ti_PARTS_3.toList)
    (gt_PARTS_4 : K.lookup u_PARTS_4 = some ⟨.type "tuple", td_PARTS_4, .seq ti_PARTS_4 tn_PARTS_4, ts_PARTS_4⟩)
    (gz_PARTS_4 : ti_PARTS_4.size ≤ sizeLine)
    (ge_PARTS_4 : Vals [.str (toS "own"), .str (toS "now")] ti_PARTS_4.toList)
    (nl : (K.all fun p => !(p.2.cls == .type "list")) = true)
    : ∃ fd : FuncData, (∀ (s : Shared) (u : Value), BindsTo s fd ⟨[u], []⟩ [("_law_script", u)]) ∧ ∀ base : Heap, K.In base → base.Ns mainGlobals mg → FnOk P w K mg base (L2.CX P w) (2 * FU) fa fd ["_law_script"] (spLaw K) := by
  have ehfa : f20 = fa := by have e := hfa.symm.trans (PySem.W.mg_of X G a20); cases e; rfl
  subst ehfa
  let t : Tb := { f0 := f0, f1 := f1, f2 := f2, f3 := f3, f4 := f4, f5 := f5, f6 := f6, f7 := f7, f8 := f8, f9 := f9, f10 := f10, f11 := f11, f12 := f12, f13 := f13, f14 := f14, f15 := f15, f16 := f16, f17 := f17, f18 := f18, f19 := f19, f20 := f20, C_Rule := C_Rule, X_BookError := X_BookError, X_InvalidRule := X_InvalidRule, X_UnknownPart := X_UnknownPart, I_InvalidRule := I_InvalidRule, cc_InvalidRule := cc_InvalidRule, cd_InvalidRule := cd_InvalidRule, I_UnknownPart := I_UnknownPart, cc_UnknownPart := cc_UnknownPart, cd_UnknownPart := cd_UnknownPart, p3 := p3, p4 := p4, p5 := p5, p6 := p6, p7 := p7, g_PARTS := g_PARTS, d0 := (PySem.W.fnOf "is_integer" "is_integer" (defArgs st_0) (defBody st_0) (defScope st_0) .none kV0 dc0 pm0 an0 cv0 ct0), d1 := (PySem.W.fnOf "is_word" "is_word" (defArgs st_1) (defBody st_1) (defScope st_1) .none kV1 dc1 pm1 an1 cv1 ct1), d2 := (PySem.W.fnOf "__init__" "Rule.__init__" (defArgs st_2) (defBody st_2) (defScope st_2) .none kV2 dc2 pm2 an2 cv2 ct2), d3 := (PySem.W.fnOf "check" "Rule.check" (defArgs st_3) (defBody st_3) (defScope st_3) .none kV3 dc3 pm3 an3 cv3 ct3), d4 := (PySem.W.fnOf "deep" "Rule.deep" (defArgs st_4) (defBody st_4) (defScope st_4) .none kV4 dc4 pm4 an4 cv4 ct4), d5 := (PySem.W.fnOf "parts" "Rule.parts" (defArgs st_5) (defBody st_5) (defScope st_5) .none kV5 dc5 pm5 an5 cv5 ct5), d6 := (PySem.W.fnOf "period" "Rule.period" (defArgs st_6) (defBody st_6) (defScope st_6) .none kV6 dc6 pm6 an6 cv6 ct6), d7 := (PySem.W.fnOf "rate" "Rule.rate" (defArgs st_7) (defBody st_7) (defScope st_7) .none kV7 dc7 pm7 an7 cv7 ct7), d8 := (PySem.W.fnOf "changed" "Rule.changed" (defArgs st_8) (defBody st_8) (defScope st_8) .none kV8 dc8 pm8 an8 cv8 ct8), d9 := (PySem.W.fnOf "__eq__" "Rule.__eq__" (defArgs st_9) (defBody st_9) (defScope st_9) .none kV9 dc9 pm9 an9 cv9 ct9), d10 := (PySem.W.fnOf "_law_mix" "_law_mix" (defArgs st_10) (defBody st_10) (defScope st_10) .none kV10 dc10 pm10 an10 cv10 ct10), d11 := (PySem.W.fnOf "_law_next" "_law_next" (defArgs st_11) (defBody st_11) (defScope st_11) .none kV11 dc11 pm11 an11 cv11 ct11), d12 := (PySem.W.fnOf "_law_alike" "_law_alike" (defArgs st_12) (defBody st_12) (defScope st_12) .none kV12 dc12 pm12 an12 cv12 ct12), d13 := (PySem.W.fnOf "_law_pick" "_law_pick" (defArgs st_13) (defBody st_13) (defScope st_13) .none kV13 dc13 pm13 an13 cv13 ct13), d14 := (PySem.W.fnOf "_law_parts" "_law_parts" (defArgs st_14) (defBody st_14) (defScope st_14) .none kV14 dc14 pm14 an14 cv14 ct14), d15 := (PySem.W.fnOf "_law_words" "_law_words" (defArgs st_15) (defBody st_15) (defScope st_15) .none kV15 dc15 pm15 an15 cv15 ct15), d16 := (PySem.W.fnOf "_law_built" "_law_built" (defArgs st_16) (defBody st_16) (defScope st_16) .none kV16 dc16 pm16 an16 cv16 ct16), d17 := (PySem.W.fnOf "_law_fault" "_law_fault" (defArgs st_17) (defBody st_17) (defScope st_17) .none kV17 dc17 pm17 an17 cv17 ct17), d18 := (PySem.W.fnOf "_law_tried" "_law_tried" (defArgs st_18) (defBody st_18) (defScope st_18) .none kV18 dc18 pm18 an18 cv18 ct18), d19 := (PySem.W.fnOf "_law_told" "_law_told" (defArgs st_19) (defBody st_19) (defScope st_19) .none kV19 dc19 pm19 an19 cv19 ct19), d20 := (PySem.W.fnOf "law" "law" (defArgs st_20) (defBody st_20) (defScope st_20) .none kV20 dc20 pm20 an20 cv20 ct20) }
  have F0 := fun_mk (st := st_0) l0 c0 k0
  have b0 := F0.binds (ps := ["thing", "least"]) fun _ _ _ _ _ _ us hl => match us, hl with | [_, _], _ => rfl
  have F1 := fun_mk (st := st_1) l1 c1 k1
  have b1 := F1.binds (ps := ["part", "thing"]) fun _ _ _ _ _ _ us hl => match us, hl with | [_, _], _ => rfl
  have F2 := fun_mk (st := st_2) l2 c2 k2
  have b2 := F2.binds (ps := ["self", "check", "deep", "parts", "period", "rate"]) fun _ _ _ _ _ _ us hl => match us, hl with | [_, _, _, _, _, _], _ => rfl
  have F3 := fun_mk (st := st_3) l3 c3 k3
  have b3 := F3.binds (ps := ["self"]) fun _ _ _ _ _ _ us hl => match us, hl with | [_], _ => rfl
  have F4 := fun_mk (st := st_4) l4 c4 k4
  have b4 := F4.binds (ps := ["self"]) fun _ _ _ _ _ _ us hl => match us, hl with | [_], _ => rfl
  have F5 := fun_mk (st := st_5) l5 c5 k5
  have b5 := F5.binds (ps := ["self"]) fun _ _ _ _ _ _ us hl => match us, hl with | [_], _ => rfl
  have F6 := fun_mk (st := st_6) l6 c6 k6
  have b6 := F6.binds (ps := ["self"]) fun _ _ _ _ _ _ us hl => match us, hl with | [_], _ => rfl
  have F7 := fun_mk (st := st_7) l7 c7 k7
  have b7 := F7.binds (ps := ["self"]) fun _ _ _ _ _ _ us hl => match us, hl with | [_], _ => rfl
  have F8 := fun_mk (st := st_8) l8 c8 k8
  have b8 := F8.binds (ps := ["self", "part", "word"]) fun _ _ _ _ _ _ us hl => match us, hl with | [_, _, _], _ => rfl
  have F9 := fun_mk (st := st_9) l9 c9 k9
  have b9 := F9.binds (ps := ["self", "other"]) fun _ _ _ _ _ _ us hl => match us, hl with | [_, _], _ => rfl
  have F10 := fun_mk (st := st_10) l10 c10 k10
  have b10 := F10.binds (ps := ["_law_script", "_law_seed"]) fun _ _ _ _ _ _ us hl => match us, hl with | [_, _], _ => rfl
  have F11 := fun_mk (st := st_11) l11 c11 k11
  have b11 := F11.binds (ps := ["_law_h", "_law_cap"]) fun _ _ _ _ _ _ us hl => match us, hl with | [_, _], _ => rfl
  have F12 := fun_mk (st := st_12) l12 c12 k12
  have b12 := F12.binds (ps := ["_law_found", "_law_due"]) fun _ _ _ _ _ _ us hl => match us, hl with | [_, _], _ => rfl
  have F13 := fun_mk (st := st_13) l13 c13 k13
  have b13 := F13.binds (ps := ["_law_h", "_law_things"]) fun _ _ _ _ _ _ us hl => match us, hl with | [_, _], _ => rfl
  have F14 := fun_mk (st := st_14) l14 c14 k14
  have b14 := F14.binds (ps := []) fun _ _ _ _ _ _ us hl => match us, hl with | [], _ => rfl
  have F15 := fun_mk (st := st_15) l15 c15 k15
  have b15 := F15.binds (ps := ["_law_h"]) fun _ _ _ _ _ _ us hl => match us, hl with | [_], _ => rfl
  have F16 := fun_mk (st := st_16) l16 c16 k16
  have b16 := F16.binds (ps := ["_law_words_here"]) fun _ _ _ _ _ _ us hl => match us, hl with | [_], _ => rfl
  have F17 := fun_mk (st := st_17) l17 c17 k17
  have b17 := F17.binds (ps := ["_law_words_here"]) fun _ _ _ _ _ _ us hl => match us, hl with | [_], _ => rfl
  have F18 := fun_mk (st := st_18) l18 c18 k18
  have b18 := F18.binds (ps := ["_law_rule", "_law_words_here", "_law_part", "_law_word"]) fun _ _ _ _ _ _ us hl => match us, hl with | [_, _, _, _], _ => rfl
  have F19 := fun_mk (st := st_19) l19 c19 k19
  have b19 := F19.binds (ps := ["_law_rule"]) fun _ _ _ _ _ _ us hl => match us, hl with | [_], _ => rfl
  have F20 := fun_mk (st := st_20) l20 c20 k20
  have b20 := F20.binds (ps := ["_law_script"]) fun _ _ _ _ _ _ us hl => match us, hl with | [_], _ => rfl
  have cl_Rule : Cls K C_Rule := ⟨pg_Rule, hd_Rule, po_Rule, sa_Rule⟩
  have cls : ∀ c C, (GG K w t).cls c = some C → Cls K C := (fun c C e => match c, e with | 0, e => (by cases e; exact cl_Rule) | _ + 1, e => nomatch e)
  have isi : ∀ c C, (GG K w t).cls c = some C → Isi (GG K w t) C := (fun c C e => match c, e with | 0, e => (by cases e; exact ⟨cl_Rule, ca_Rule, oh, ot, mo_Rule, kcl_of ic_Rule ty_Rule⟩) | _ + 1, e => nomatch e)
  have kd_PARTS : KD (GG K w t) g_PARTS ks_PARTS [.ref u_PARTS_0, .ref u_PARTS_1, .ref u_PARTS_2, .ref u_PARTS_3, .ref u_PARTS_4] := ⟨⟨es_PARTS, en_PARTS, gl_PARTS, gk_PARTS, gv_PARTS, gp_PARTS⟩, gy_PARTS⟩
  have xno : ∀ n ∈ fnms, ∀ c C, (GG K w t).xcl c = some C → PySem.W.findIn K (.ref C) n = some none := by
    intro n hn
    simp only [fnms, List.mem_cons, List.mem_nil_iff, or_false] at hn
    rcases hn with rfl | rfl
    · exact (fun c C e => match c, e with | 0, e => (by cases e; exact xn_BookError_words) | 1, e => (by cases e; exact xn_InvalidRule_words) | 2, e => (by cases e; exact xn_UnknownPart_words) | _ + 3, e => nomatch e)
    · exact (fun c C e => match c, e with | 0, e => (by cases e; exact xn_BookError_part) | 1, e => (by cases e; exact xn_InvalidRule_part) | 2, e => (by cases e; exact xn_UnknownPart_part) | _ + 3, e => nomatch e)
  have T : TX P w K mg t := { F0 := F0, b0 := b0, gf_0 := ⟨PySem.W.mg_of X G a0, k0⟩, F1 := F1, b1 := b1, gf_1 := ⟨PySem.W.mg_of X G a1, k1⟩, F2 := F2, b2 := b2, F3 := F3, b3 := b3, pr_3 := ⟨at3, sg3, tk3, _, rc3⟩, F4 := F4, b4 := b4, pr_4 := ⟨at4, sg4, tk4, _, rc4⟩, F5 := F5, b5 := b5, pr_5 := ⟨at5, sg5, tk5, _, rc5⟩, F6 := F6, b6 := b6, pr_6 := ⟨at6, sg6, tk6, _, rc6⟩, F7 := F7, b7 := b7, pr_7 := ⟨at7, sg7, tk7, _, rc7⟩, F8 := F8, b8 := b8, me_8 := ⟨at8, if8, k8⟩, F9 := F9, b9 := b9, F10 := F10, b10 := b10, gf_10 := ⟨PySem.W.mg_of X G a10, k10⟩, F11 := F11, b11 := b11, gf_11 := ⟨PySem.W.mg_of X G a11, k11⟩, F12 := F12, b12 := b12, gf_12 := ⟨PySem.W.mg_of X G a12, k12⟩, F13 := F13, b13 := b13, gf_13 := ⟨PySem.W.mg_of X G a13, k13⟩, F14 := F14, b14 := b14, gf_14 := ⟨PySem.W.mg_of X G a14, k14⟩, F15 := F15, b15 := b15, gf_15 := ⟨PySem.W.mg_of X G a15, k15⟩, F16 := F16, b16 := b16, gf_16 := ⟨PySem.W.mg_of X G a16, k16⟩, F17 := F17, b17 := b17, gf_17 := ⟨PySem.W.mg_of X G a17, k17⟩, F18 := F18, b18 := b18, gf_18 := ⟨PySem.W.mg_of X G a18, k18⟩, F19 := F19, b19 := b19, gf_19 := ⟨PySem.W.mg_of X G a19, k19⟩, F20 := F20, b20 := b20, cl_Rule := cl_Rule, mgc_Rule := PySem.W.mg_of X G aC_Rule, mk_Rule := ⟨mk_Rule, at2, if2, kc_Rule⟩, eq_Rule := ⟨at9, if9, nf7 nf_Rule_NoneType nf_Rule_bool nf_Rule_int nf_Rule_str nf_Rule_tuple nf_Rule_list nf_Rule_dict, (fun c C e => match c, e with | 0, e => (by cases e; exact nfc_Rule_Rule) | _ + 1, e => nomatch e)⟩, cls := cls, isi := isi, na_words := (fun c C e => match c, e with | 0, e => (by cases e; exact na_Rule_words) | _ + 1, e => nomatch e), mgx_BookError := PySem.W.mg_of X G aX_BookError, mgx_InvalidRule := PySem.W.mg_of X G aX_InvalidRule, x1_InvalidRule := ⟨⟨⟨_, _, _, _, _, _, _, _, _, _, _, _, _, _, _, xl_InvalidRule, rb_InvalidRule⟩, xsa_InvalidRule, xkp_InvalidRule, xs_InvalidRule, xve_InvalidRule, xty_InvalidRule, xmr_InvalidRule, xsu_InvalidRule, opq, ⟨_, _, _, xce_InvalidRule⟩, ⟨_, _, _, _, _, _, xco_InvalidRule, xfi_InvalidRule, xfe_InvalidRule⟩, tops, PySem.W.mg_none_of X G nb_super⟩, ⟨iC_InvalidRule, tI_InvalidRule, xn_InvalidRule_part, by decide +kernel, by decide +kernel, by decide +kernel, by decide +kernel, by decide +kernel, by decide +kernel, _, _, _, _, _, _, _, _, _, _, _, _, _, _, _, _, _, _, _, _, _, _, fn_InvalidRule, cq_InvalidRule, el_InvalidRule, fun _ _ _ => .of_eq rfl⟩⟩, exm_InvalidRule := (fun c C e => match c, e with | 0, e => (by cases e; exact xe_BookError_InvalidRule) | 1, e => (by cases e; exact xe_InvalidRule_InvalidRule) | 2, e => (by cases e; exact xe_UnknownPart_InvalidRule) | _ + 3, e => nomatch e), mgx_UnknownPart := PySem.W.mg_of X G aX_UnknownPart, x1_UnknownPart := ⟨⟨⟨_, _, _, _, _, _, _, _, _, _, _, _, _, _, _, xl_UnknownPart, rb_UnknownPart⟩, xsa_UnknownPart, xkp_UnknownPart, xs_UnknownPart, xve_UnknownPart, xty_UnknownPart, xmr_UnknownPart, xsu_UnknownPart, opq, ⟨_, _, _, xce_UnknownPart⟩, ⟨_, _, _, _, _, _, xco_UnknownPart, xfi_UnknownPart, xfe_UnknownPart⟩, tops, PySem.W.mg_none_of X G nb_super⟩, ⟨iC_UnknownPart, tI_UnknownPart, xn_UnknownPart_part, by decide +kernel, by decide +kernel, by decide +kernel, by decide +kernel, by decide +kernel, by decide +kernel, _, _, _, _, _, _, _, _, _, _, _, _, _, _, _, _, _, _, _, _, _, _, fn_UnknownPart, cq_UnknownPart, el_UnknownPart, fun _ _ _ => .of_eq rfl⟩⟩, exm_UnknownPart := (fun c C e => match c, e with | 0, e => (by cases e; exact xe_BookError_UnknownPart) | 1, e => (by cases e; exact xe_InvalidRule_UnknownPart) | 2, e => (by cases e; exact xe_UnknownPart_UnknownPart) | _ + 3, e => nomatch e), xall := ⟨(fun c C e => match c, e with | 0, e => (by cases e; exact ⟨xa_BookError, xg_BookError, xs_BookError, xd_BookError⟩) | 1, e => (by cases e; exact ⟨xa_InvalidRule, xg_InvalidRule, xs_InvalidRule, xd_InvalidRule⟩) | 2, e => (by cases e; exact ⟨xa_UnknownPart, xg_UnknownPart, xs_UnknownPart, xd_UnknownPart⟩) | _ + 3, e => nomatch e), (fun c C e => match c, e with | 0, e => (by cases e; exact ⟨xa_BookError, xg_BookError, xs_BookError, xd_BookError, xc_BookError, oh, ot, xo_BookError⟩) | 1, e => (by cases e; exact ⟨xa_InvalidRule, xg_InvalidRule, xs_InvalidRule, xd_InvalidRule, xc_InvalidRule, oh, ot, xo_InvalidRule⟩) | 2, e => (by cases e; exact ⟨xa_UnknownPart, xg_UnknownPart, xs_UnknownPart, xd_UnknownPart, xc_UnknownPart, oh, ot, xo_UnknownPart⟩) | _ + 3, e => nomatch e), xno⟩, kb_BookError := (fun c C e => match c, e with | 0, e => (by cases e; exact xk_BookError) | 1, e => (by cases e; exact xk_InvalidRule) | 2, e => (by cases e; exact xk_UnknownPart) | _ + 3, e => nomatch e), mg_PARTS := PySem.W.mg_of X G aG_PARTS, rv_PARTS := fun _ _ => .dicK kd_PARTS (vs := [.ref u_PARTS_0, .ref u_PARTS_1, .ref u_PARTS_2, .ref u_PARTS_3, .ref u_PARTS_4]) rfl (.cons (rfl) (.cons (rfl) (.cons (rfl) (.cons (rfl) (.cons (rfl) .nil))))) rfl (.cons (.tupK ⟨_, _, _, gt_PARTS_0, rfl, rfl, gz_PARTS_0, ge_PARTS_0⟩ (.cons (.str _) (.cons (.str _) (.cons (.str _) .nil)))) (.cons (.tupK ⟨_, _, _, gt_PARTS_1, rfl, rfl, gz_PARTS_1, ge_PARTS_1⟩ (.cons (.int _) (.cons (.int _) (.cons (.int _) (.cons (.int _) .nil))))) (.cons (.tupK ⟨_, _, _, gt_PARTS_2, rfl, rfl, gz_PARTS_2, ge_PARTS_2⟩ (.cons (.str _) (.cons (.str _) .nil))) (.cons (.tupK ⟨_, _, _, gt_PARTS_3, rfl, rfl, gz_PARTS_3, ge_PARTS_3⟩ (.cons (.str _) (.cons (.str _) (.cons (.str _) .nil)))) (.cons (.tupK ⟨_, _, _, gt_PARTS_4, rfl, rfl, gz_PARTS_4, ge_PARTS_4⟩ (.cons (.str _) (.cons (.str _) .nil))) .nil))))), kd0_PARTS := ⟨_, kd_PARTS⟩, nb_bool := PySem.W.mg_none_of X G nb_bool, nb_dict := PySem.W.mg_none_of X G nb_dict, nb_int := PySem.W.mg_none_of X G nb_int, nb_isinstance := PySem.W.mg_none_of X G nb_isinstance, nb_len := PySem.W.mg_none_of X G nb_len, nb_list := PySem.W.mg_none_of X G nb_list, nb_max := PySem.W.mg_none_of X G nb_max, nb_range := PySem.W.mg_none_of X G nb_range, nb_str := PySem.W.mg_none_of X G nb_str, nb_tuple := PySem.W.mg_none_of X G nb_tuple, nb_zip := PySem.W.mg_none_of X G nb_zip }
  refine ⟨(PySem.W.fnOf "law" "law" (defArgs st_20) (defBody st_20) (defScope st_20) .none kV20 dc20 pm20 an20 cv20 ct20), fun s u => .of_eq rfl, fun base _ _ => ?_⟩
  refine FnOk.imp ((all_ok (base := base) T FU).r20.ok) fun vs H Q E hs => ?_
  obtain ⟨a, ns, rfl, hl, hS, hQ⟩ := hs
  obtain ⟨μ, e⟩ := hLT ns hl
  refine ⟨rfl, [[]], [.dead], [.d (.lst (ns.map D.int))], ?_, .cons ⟨trivial, .lst (sq_rd nl hS) (by simp) (ints_rv ns)⟩ .nil, .ok (.d (.bl true)), μ, e, fun v m' H' _ _ r => ?_⟩
  · exact ms_empty
  · cases RV.bl_ r
    exact hQ H'
theorem walk {l : PySem.W.OpenLaw} {q : Program} {loose : List Str} {XP : (Str → Option Value) → Heap → Prop} {YP : World → Heap → Prop} {d : DefRec} {K : Params → PySem.W.Frag} (hn : l.most = some 63) (hdf : d.params.defaults = [])
    (hY : ∀ (w : World) (h : Heap), YP w h → (K w.params).In h)
    (F : ∀ (w : World) (mg : Str → Option Value) (fa : Addr) (h : Heap), (K w.params).In h → h.Ns mainGlobals mg → mg d.name = some (.ref fa) →
      ∃ fd : FuncData, (∀ (s : Shared) (u : Value), BindsTo s fd ⟨[u], []⟩ [("_law_script", u)]) ∧ ∀ base : Heap, (K w.params).In base → base.Ns mainGlobals mg → FnOk l.prog w (K w.params) mg base (L2.CX l.prog w) (2 * FU) fa fd ["_law_script"] (spLaw (K w.params))) :
    PySem.W.WalkO q loose XP YP l.row.toRowW d [] (fun f vs => PySem.call f vs) :=
  L2.walk_of (n := 63) (k := 2 * FU) (x := "_law_script") (CX := fun w => L2.CX l.prog w) (sp := fun w => spLaw (K w.params)) hn (by decide) hdf ⟨rfl, by decide, by decide⟩ hY F (fun _ _ a ns hl _ hS => ⟨a, ns, rfl, hl, hS, fun _ => rfl⟩) fun _ _ _ _ _ z => by
    obtain ⟨_, _, _, _, _, _, _, _, _, _, _, _, z⟩ := z
    exact z
theorem law_true : LawTrue := fun ns h => run_law (FU - 7) ns h _
end K01
open PySem PySem.W PyProof.Rows
set_option maxRecDepth 100000 in
set_option maxHeartbeats 0 in
theorem PySem.Challenge.cw_counterbook_k01_rules_refused_holds : PySem.Challenge.rw_counterbook_k01_rules_refused.Holds := by
  w_on; o_law; k_head; (case hw => w_witness2)
  k_fill
  refine K01.walk (l := PySem.Challenge.rw_counterbook_k01_rules_refused) rfl rfl (fun w h Y => PySem.W.kIn_of Y) ?F
  case F =>
    intro w mg fa h KX G hmg
    refine' K01.all_mk K01.law_true KX G hmg ?a0 ?a1 ?a10 ?a11 ?a12 ?a13 ?a14 ?a15 ?a16 ?a17 ?a18 ?a19 ?a20 ?aC_Rule ?aX_BookError ?aX_InvalidRule ?aX_UnknownPart ?aG_PARTS ?nb_bool ?nb_dict ?nb_int ?nb_isinstance ?nb_len ?nb_list ?nb_max ?nb_range ?nb_str ?nb_super ?nb_tuple ?nb_zip ?l0 ?c0 ?k0 ?l1 ?c1 ?k1 ?at2 ?if2 ?l2 ?c2 ?k2 ?at3 ?rc3 ?sg3 ?tk3 ?l3 ?c3 ?k3 ?at4 ?rc4 ?sg4 ?tk4 ?l4 ?c4 ?k4 ?at5 ?rc5 ?sg5 ?tk5 ?l5 ?c5 ?k5 ?at6 ?rc6 ?sg6 ?tk6 ?l6 ?c6 ?k6 ?at7 ?rc7 ?sg7 ?tk7 ?l7 ?c7 ?k7 ?at8 ?if8 ?l8 ?c8 ?k8 ?at9 ?if9 ?l9 ?c9 ?k9 ?l10 ?c10 ?k10 ?l11 ?c11 ?k11 ?l12 ?c12 ?k12 ?l13 ?c13 ?k13 ?l14 ?c14 ?k14 ?l15 ?c15 ?k15 ?l16 ?c16 ?k16 ?l17 ?c17 ?k17 ?l18 ?c18 ?k18 ?l19 ?c19 ?k19 ?l20 ?c20 ?k20 ?oh ?ot ?pg_Rule ?hd_Rule ?po_Rule ?sa_Rule ?ca_Rule ?mo_Rule ?ic_Rule ?ty_Rule ?kc_Rule ?mk_Rule ?na_Rule_words ?nf_Rule_NoneType ?nf_Rule_bool ?nf_Rule_int ?nf_Rule_str ?nf_Rule_tuple ?nf_Rule_list ?nf_Rule_dict ?nfc_Rule_Rule ?xa_BookError ?xg_BookError ?xs_BookError ?xd_BookError ?xc_BookError ?xo_BookError ?xk_BookError ?xn_BookError_words ?xn_BookError_part ?xe_BookError_UnknownPart ?xe_BookError_InvalidRule ?xa_InvalidRule ?xg_InvalidRule ?xs_InvalidRule ?xd_InvalidRule ?xc_InvalidRule ?xo_InvalidRule ?xk_InvalidRule ?xn_InvalidRule_words ?xn_InvalidRule_part ?xe_InvalidRule_UnknownPart ?xe_InvalidRule_InvalidRule ?xa_UnknownPart ?xg_UnknownPart ?xs_UnknownPart ?xd_UnknownPart ?xc_UnknownPart ?xo_UnknownPart ?xk_UnknownPart ?xn_UnknownPart_words ?xn_UnknownPart_part ?xe_UnknownPart_UnknownPart ?xe_UnknownPart_InvalidRule ?opq ?iC_InvalidRule ?tI_InvalidRule ?fn_InvalidRule ?cq_InvalidRule ?el_InvalidRule ?xl_InvalidRule ?rb_InvalidRule ?xsa_InvalidRule ?xkp_InvalidRule ?xve_InvalidRule ?xty_InvalidRule ?xmr_InvalidRule ?xsu_InvalidRule ?xce_InvalidRule ?xco_InvalidRule ?xfi_InvalidRule ?xfe_InvalidRule ?iC_UnknownPart ?tI_UnknownPart ?fn_UnknownPart ?cq_UnknownPart ?el_UnknownPart ?xl_UnknownPart ?rb_UnknownPart ?xsa_UnknownPart ?xkp_UnknownPart ?xve_UnknownPart ?xty_UnknownPart ?xmr_UnknownPart ?xsu_UnknownPart ?xce_UnknownPart ?xco_UnknownPart ?xfi_UnknownPart ?xfe_UnknownPart ?tops ?gl_PARTS ?gk_PARTS ?gv_PARTS ?gp_PARTS ?gy_PARTS ?gt_PARTS_0 ?gz_PARTS_0 ?ge_PARTS_0 ?gt_PARTS_1 ?gz_PARTS_1 ?ge_PARTS_1 ?gt_PARTS_2 ?gz_PARTS_2 ?ge_PARTS_2 ?gt_PARTS_3 ?gz_PARTS_3 ?ge_PARTS_3 ?gt_PARTS_4 ?gz_PARTS_4 ?ge_PARTS_4 ?nl
    (case a0 => k_is)
    (case a1 => k_is)
    (case a10 => k_is)
    (case a11 => k_is)
    (case a12 => k_is)
    (case a13 => k_is)
    (case a14 => k_is)
    (case a15 => k_is)
    (case a16 => k_is)
    (case a17 => k_is)
    (case a18 => k_is)
    (case a19 => k_is)
    (case a20 => k_is)
    (case aC_Rule => k_is)
    (case aX_BookError => k_is)
    (case aX_InvalidRule => k_is)
    (case aX_UnknownPart => k_is)
    (case aG_PARTS => k_is)
    (case nb_bool => k_is)
    (case nb_dict => k_is)
    (case nb_int => k_is)
    (case nb_isinstance => k_is)
    (case nb_len => k_is)
    (case nb_list => k_is)
    (case nb_max => k_is)
    (case nb_range => k_is)
    (case nb_str => k_is)
    (case nb_super => k_is)
    (case nb_tuple => k_is)
    (case nb_zip => k_is)
    (case l0 => k_is)
    (case c0 => k_is)
    (case k0 => k_is)
    (case l1 => k_is)
    (case c1 => k_is)
    (case k1 => k_is)
    (case at2 => k_is)
    (case if2 => k_is)
    (case l2 => k_is)
    (case c2 => k_is)
    (case k2 => k_is)
    (case at3 => k_is)
    (case rc3 => k_is)
    (case sg3 => k_is)
    (case tk3 => k_is)
    (case l3 => k_is)
    (case c3 => k_is)
    (case k3 => k_is)
    (case at4 => k_is)
    (case rc4 => k_is)
    (case sg4 => k_is)
    (case tk4 => k_is)
    (case l4 => k_is)
    (case c4 => k_is)
    (case k4 => k_is)
    (case at5 => k_is)
    (case rc5 => k_is)
    (case sg5 => k_is)
    (case tk5 => k_is)
    (case l5 => k_is)
    (case c5 => k_is)
    (case k5 => k_is)
    (case at6 => k_is)
    (case rc6 => k_is)
    (case sg6 => k_is)
    (case tk6 => k_is)
    (case l6 => k_is)
    (case c6 => k_is)
    (case k6 => k_is)
    (case at7 => k_is)
    (case rc7 => k_is)
    (case sg7 => k_is)
    (case tk7 => k_is)
    (case l7 => k_is)
    (case c7 => k_is)
    (case k7 => k_is)
    (case at8 => k_is)
    (case if8 => k_is)
    (case l8 => k_is)
    (case c8 => k_is)
    (case k8 => k_is)
    (case at9 => k_is)
    (case if9 => k_is)
    (case l9 => k_is)
    (case c9 => k_is)
    (case k9 => k_is)
    (case l10 => k_is)
    (case c10 => k_is)
    (case k10 => k_is)
    (case l11 => k_is)
    (case c11 => k_is)
    (case k11 => k_is)
    (case l12 => k_is)
    (case c12 => k_is)
    (case k12 => k_is)
    (case l13 => k_is)
    (case c13 => k_is)
    (case k13 => k_is)
    (case l14 => k_is)
    (case c14 => k_is)
    (case k14 => k_is)
    (case l15 => k_is)
    (case c15 => k_is)
    (case k15 => k_is)
    (case l16 => k_is)
    (case c16 => k_is)
    (case k16 => k_is)
    (case l17 => k_is)
    (case c17 => k_is)
    (case k17 => k_is)
    (case l18 => k_is)
    (case c18 => k_is)
    (case k18 => k_is)
    (case l19 => k_is)
    (case c19 => k_is)
    (case k19 => k_is)
    (case l20 => k_is)
    (case c20 => k_is)
    (case k20 => k_is)
    (case oh => k_is)
    (case ot => k_is)
    (case pg_Rule => k_is)
    (case hd_Rule => k_is)
    (case po_Rule => k_is)
    (case sa_Rule => k_is)
    (case ca_Rule => k_is)
    (case mo_Rule => k_is)
    (case ic_Rule => k_is)
    (case ty_Rule => k_is)
    (case kc_Rule => k_is)
    (case mk_Rule => k_is)
    (case na_Rule_words => k_is)
    (case nf_Rule_NoneType => k_is)
    (case nf_Rule_bool => k_is)
    (case nf_Rule_int => k_is)
    (case nf_Rule_str => k_is)
    (case nf_Rule_tuple => k_is)
    (case nf_Rule_list => k_is)
    (case nf_Rule_dict => k_is)
    (case nfc_Rule_Rule => k_is)
    (case xa_BookError => k_is)
    (case xg_BookError => k_is)
    (case xs_BookError => k_is)
    (case xd_BookError => k_is)
    (case xc_BookError => k_is)
    (case xo_BookError => k_is)
    (case xk_BookError => kit_is)
    (case xn_BookError_words => k_is)
    (case xn_BookError_part => k_is)
    (case xe_BookError_UnknownPart => kts_exm)
    (case xe_BookError_InvalidRule => kts_exm)
    (case xa_InvalidRule => k_is)
    (case xg_InvalidRule => k_is)
    (case xs_InvalidRule => k_is)
    (case xd_InvalidRule => k_is)
    (case xc_InvalidRule => k_is)
    (case xo_InvalidRule => k_is)
    (case xk_InvalidRule => kit_is)
    (case xn_InvalidRule_words => k_is)
    (case xn_InvalidRule_part => k_is)
    (case xe_InvalidRule_UnknownPart => kts_exm)
    (case xe_InvalidRule_InvalidRule => kts_exm)
    (case xa_UnknownPart => k_is)
    (case xg_UnknownPart => k_is)
    (case xs_UnknownPart => k_is)
    (case xd_UnknownPart => k_is)
    (case xc_UnknownPart => k_is)
    (case xo_UnknownPart => k_is)
    (case xk_UnknownPart => kit_is)
    (case xn_UnknownPart_words => k_is)
    (case xn_UnknownPart_part => k_is)
    (case xe_UnknownPart_UnknownPart => kts_exm)
    (case xe_UnknownPart_InvalidRule => kts_exm)
    (case opq => k_is)
    (case iC_InvalidRule => k_is)
    (case tI_InvalidRule => k_is)
    (case fn_InvalidRule => k_is)
    (case cq_InvalidRule => k_is)
    (case el_InvalidRule => rfl)
    (case xl_InvalidRule => k_is)
    (case rb_InvalidRule => decide +kernel)
    (case xsa_InvalidRule => k_is)
    (case xkp_InvalidRule => k_is)
    (case xve_InvalidRule => k_is)
    (case xty_InvalidRule => k_is)
    (case xmr_InvalidRule => k_is)
    (case xsu_InvalidRule => ks_is)
    (case xce_InvalidRule => k_is)
    (case xco_InvalidRule => k_is)
    (case xfi_InvalidRule => rfl)
    (case xfe_InvalidRule => first | rfl | decide +kernel)
    (case iC_UnknownPart => k_is)
    (case tI_UnknownPart => k_is)
    (case fn_UnknownPart => k_is)
    (case cq_UnknownPart => k_is)
    (case el_UnknownPart => rfl)
    (case xl_UnknownPart => k_is)
    (case rb_UnknownPart => decide +kernel)
    (case xsa_UnknownPart => k_is)
    (case xkp_UnknownPart => k_is)
    (case xve_UnknownPart => k_is)
    (case xty_UnknownPart => k_is)
    (case xmr_UnknownPart => k_is)
    (case xsu_UnknownPart => ks_is)
    (case xce_UnknownPart => k_is)
    (case xco_UnknownPart => k_is)
    (case xfi_UnknownPart => rfl)
    (case xfe_UnknownPart => first | rfl | decide +kernel)
    (case tops => first | rfl | decide +kernel)
    (case gl_PARTS => k_is)
    (case gk_PARTS => exact ⟨⟨_, _, rfl, rfl⟩, ⟨⟨_, _, rfl, rfl⟩, ⟨⟨_, _, rfl, rfl⟩, ⟨⟨_, _, rfl, rfl⟩, ⟨⟨_, _, rfl, rfl⟩, trivial⟩⟩⟩⟩⟩)
    (case gv_PARTS => rfl)
    (case gp_PARTS => exact .cons (⟨_, rfl⟩) (.cons (⟨_, rfl⟩) (.cons (⟨_, rfl⟩) (.cons (⟨_, rfl⟩) (.cons (⟨_, rfl⟩) .nil)))))
    (case gy_PARTS => first | rfl | decide +kernel)
    (case gt_PARTS_0 => k_is)
    (case gz_PARTS_0 => exact (by decide : 3 ≤ 16777216))
    (case ge_PARTS_0 => exact .cons (⟨_, rfl⟩) (.cons (⟨_, rfl⟩) (.cons (⟨_, rfl⟩) .nil)))
    (case gt_PARTS_1 => k_is)
    (case gz_PARTS_1 => exact (by decide : 4 ≤ 16777216))
    (case ge_PARTS_1 => exact .cons (⟨_, rfl⟩) (.cons (⟨_, rfl⟩) (.cons (⟨_, rfl⟩) (.cons (⟨_, rfl⟩) .nil))))
    (case gt_PARTS_2 => k_is)
    (case gz_PARTS_2 => exact (by decide : 2 ≤ 16777216))
    (case ge_PARTS_2 => exact .cons (⟨_, rfl⟩) (.cons (⟨_, rfl⟩) .nil))
    (case gt_PARTS_3 => k_is)
    (case gz_PARTS_3 => exact (by decide : 3 ≤ 16777216))
    (case ge_PARTS_3 => exact .cons (⟨_, rfl⟩) (.cons (⟨_, rfl⟩) (.cons (⟨_, rfl⟩) .nil)))
    (case gt_PARTS_4 => k_is)
    (case gz_PARTS_4 => exact (by decide : 2 ≤ 16777216))
    (case ge_PARTS_4 => exact .cons (⟨_, rfl⟩) (.cons (⟨_, rfl⟩) .nil))
    (case nl => first | rfl | kernel_rfl | decide +kernel)
