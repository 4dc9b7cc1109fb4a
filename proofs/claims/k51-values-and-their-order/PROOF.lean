import PyProof.Rows.All
import Wide.All
import OpenK.AllK
import Wide.FinOn
import KE.KStateDown
import HandS.Base
import HandS.Call
import HandS.List
import HandS.Comp
import HandS.Ends
import HandS.Dict
import HandS.Iter
import HandS.Text
import HandS.Exc
import HandS.More
import HandS.ExcOwn
import HandS.Words
import HandS.WordsList
import HandS.WordsExc
import HandS.Deep
import HandS.Flow
import HandS.TupAny
import HandS.TupMul
import HandS.TupLe
import HandS.Zip
import HandS.IsInst
import HandS.Conv
import HandS.Style
import HandS.Lambda
import PyProof.Rows.IntBool
import HandS.Strs
import HandS.TryMany
import HandS.Defaults
import PyProof.ExcBaseAll.ValueError
import HandS.HeadHook4
import HandS.Head0
import HandS.Head1
import HandS.Head2
import HandS.HeadEnd
import HandS.HeadHook1
import HandS.HeadHook2
import HandS.HeadHook3
import HandS.HeadWalk
import PySem.Challenge.RW_messagehouse_k51_values_and_their_order
set_option Elab.async false
set_option linter.all false
/-! EvCore: data D, the small syntax ME, MI, MS, and its evaluator. No heap, no model. -/
namespace Ev

inductive Kk where
  | i (n : Int) | s (x : List Nat)
  deriving DecidableEq

inductive D where
  | non | bl (b : Bool) | int (i : Int) | str (s : List Nat)
  | tup (xs : List D) | lst (xs : List D) | dic (ks : List Kk) (vs : List D)
  | ref (n : Nat) | fro (xs : List Int)

mutual
def beqD : D → D → Bool
  | .non, .non => true
  | .bl a, .bl b => a == b
  | .int a, .int b => a == b
  | .str a, .str b => a == b
  | .tup a, .tup b => beqL a b
  | .lst a, .lst b => beqL a b
  | .dic k a, .dic l b => decide (k = l) && beqL a b
  | .ref a, .ref b => a == b
  | .fro a, .fro b => a == b
  | _, _ => false
def beqL : List D → List D → Bool
  | [], [] => true
  | a :: as, b :: bs => beqD a b && beqL as bs
  | _, _ => false
end

/-- python's == of data -/
def b2n (b : Bool) : Int := if b = true then 1 else 0
mutual
def eqD : D → D → Bool
  | .non, .non => true
  | .bl a, .bl b => a == b
  | .bl a, .int b => b2n a == b
  | .int a, .bl b => a == b2n b
  | .int a, .int b => a == b
  | .str a, .str b => a == b
  | .tup a, .tup b => eqL a b
  | .lst a, .lst b => eqL a b
  | _, _ => false
def eqL : List D → List D → Bool
  | [], [] => true
  | a :: as, b :: bs => eqD a b && eqL as bs
  | _, _ => false
end
mutual
/-- plain data: None, boolsOf, intsOf, texts, lists and tuples of such -/
def isData : D → Bool
  | .non => true
  | .bl _ => true
  | .int _ => true
  | .str _ => true
  | .tup xs => areData xs
  | .lst xs => areData xs
  | _ => false
def areData : List D → Bool
  | [] => true
  | x :: xs => isData x && areData xs
end
mutual
def dep : D → Nat
  | .tup xs => depL xs + 1
  | .lst xs => depL xs + 1
  | _ => 0
def depL : List D → Nat
  | [] => 0
  | x :: xs => max (dep x) (depL xs)
end

/-- what the store holds -/
inductive O where
  | lst (xs : List D) | dic (ks : List Kk) (vs : List D)
abbrev Store := List O
abbrev Rho := List (Option D)
/-- an exception: its class by number, its one field -/
structure XV where
  c : Nat
  f : Option D

inductive Res (α : Type) where
  | ok (a : α) (S : Store) | exc (x : XV) (S : Store) | stuck
def Res.bind {α β : Type} (r : Res α) (f : α → Store → Res β) : Res β := match r with
  | .ok a S => f a S
  | .exc x S => .exc x S
  | .stuck => .stuck
/-- no exception may come out -/
def Res.nox {α : Type} (r : Res α) : Res α := match r with
  | .ok a S => .ok a S
  | _ => .stuck
theorem Res.nox_ok {α : Type} (a : α) (S : Store) : (Res.ok a S).nox = .ok a S := rfl
theorem Res.bind_ok {α β : Type} (a : α) (S : Store) (f : α → Store → Res β) : (Res.ok a S).bind f = f a S := rfl
theorem Res.bind_exc {α β : Type} (x : XV) (S : Store) (f : α → Store → Res β) : (Res.exc x S).bind f = .exc x S := rfl
theorem Res.bind_stuck {α β : Type} (f : α → Store → Res β) : (Res.stuck : Res α).bind f = .stuck := rfl
def lift (o : Option D) (S : Store) : Res D := match o with
  | some d => .ok d S
  | none => .stuck
theorem lift_some (d : D) (S : Store) : lift (some d) S = .ok d S := rfl
theorem lift_none (S : Store) : lift none S = .stuck := rfl
def liftB (o : Option Bool) (S : Store) : Res D := match o with
  | some b => .ok (.bl b) S
  | none => .stuck
theorem liftB_some (b : Bool) (S : Store) : liftB (some b) S = .ok (.bl b) S := rfl

inductive BOp where
  | add | sub | mul | fdiv | mod | pow
  deriving DecidableEq
inductive COp where
  | eq | ne | lt | le | gt | ge | is_ | isnt | in_ | nin
  deriving DecidableEq
inductive Ty where
  | int | bool | str | tuple | list | dict
  deriving DecidableEq
inductive Bi where
  | len | abs | int | list | tuple | sum | all | any | min | max
  deriving DecidableEq
inductive Mt where
  | append | get | index
  deriving DecidableEq

/-- a target: a name, or a tuple of names -/
inductive MT where
  | name (i : Nat) | names (is : List Nat)
  deriving DecidableEq
mutual
inductive ME where
  | con (d : D) | var (i : Nat) | bin (o : BOp) (a b : ME) | cmp (o : COp) (a b : ME) | chain (o p : COp) (a b c : ME)
  | and_ (a b : ME) | or_ (a b : ME) | not_ (a : ME) | neg (a : ME) | ife (c a b : ME)
  | tup (es : List ME) | lst (m : Bool) (es : List ME) | dic (ks : List Kk) (ds : List D)
  | ix (a b : ME) | sl (a : ME) (lo hi : List ME)
  | call (f : Nat) (es : List ME) | bi (b : Bi) (es : List ME) | isi (a : ME) (t : Ty) | mt (m : Mt) (o : ME) (es : List ME)
  | lc (m : Bool) (w : List Nat) (t : MT) (it : MI) (cs : List ME) (e : ME)
  | idxc (xs : List (List Nat)) (e : ME) | told (hs : List (List (Nat × Bool) × List Nat)) (d : List Nat) (e : ME) | bad
inductive MI where
  | seq (e : ME) | rng (lo hi : ME) | zip (a b : ME) | enum (e : ME)
end
inductive MS where
  | asg (t : MT) (e : ME) | par (i j : Nat) (a b : ME) | par3 (i j l : Nat) (a b c : ME) | setix (o i e : ME)
  | ex (e : ME) | ret (e : ME) | retN | pass_ | brk | ct
  | ifs (c : ME) (a b : List MS) | fors (t : MT) (it : MI) (b : List MS) | whiles (c : ME) (b : List MS)
  | rai (c : Nat) (es : List ME) | bad
  | tryx (b : List MS) (ts : List (List (Nat × Bool))) (hs : List (List MS))

/-! ### pure operations -/
abbrev line : Nat := 16777216
def evBin : BOp → D → D → Option D
  | .add, .int a, .int b => some (.int (a + b))
  | .add, .str a, .str b => if a.length + b.length ≤ line then some (.str (a ++ b)) else none
  | .add, .tup a, .tup b => if a.length + b.length ≤ line then some (.tup (a ++ b)) else none
  | .add, .lst a, .lst b => if a.length + b.length ≤ line then some (.lst (a ++ b)) else none
  | .sub, .int a, .int b => some (.int (a - b))
  | .sub, .bl a, .bl b => some (.int (b2n a - b2n b))
  | .mul, .int a, .int b => if (-(2 ^ 64) < a ∧ a < 2 ^ 64) ∨ (-(2 ^ 64) < b ∧ b < 2 ^ 64) then some (.int (a * b)) else none
  | .mul, .int a, .bl b => some (.int (a * b2n b))
  | .mul, .lst a, .int b => if -(2 ^ 63) ≤ b ∧ b < 2 ^ 63 ∧ a.length * b.toNat ≤ line then some (.lst (List.replicate b.toNat a).flatten) else none
  | .mul, .tup a, .int b => if a.isEmpty = false ∧ 2 ≤ b ∧ b ≤ 1000 ∧ a.length ≤ 1000 then some (.tup (List.replicate b.toNat a).flatten) else none
  | .fdiv, .int a, .int b => if 0 < b ∧ b < 1073741824 then some (.int (a / b)) else none
  | .mod, .int a, .int b => if 0 < b then some (.int (a % b)) else none
  | .pow, .int a, .int b => if 0 ≤ b ∧ b ≤ 1000000 ∧ a.natAbs < 2 ^ 64 then some (.int (a ^ b.toNat)) else none
  | _, _, _ => none
/-- where data are compared: no deeper than this -/
abbrev deepest : Nat := 120
def eqOk (a b : D) : Bool := isData a && isData b && decide (min (dep a) (dep b) ≤ deepest)
def eqAny : D → List D → Bool
  | _, [] => false
  | d, x :: xs => eqD x d || eqAny d xs
def hasSub (x : List Nat) : List Nat → Bool
  | [] => x.isEmpty
  | c :: cs => x.isPrefixOf (c :: cs) || hasSub x cs
def dget (k : Kk) : List Kk → List D → Option D
  | l :: ls, v :: vs => if l = k then some v else dget k ls vs
  | _, _ => none
def isS : Kk → Bool
  | .s _ => true
  | _ => false
/-- a key that may be asked of such a dict (one with text keys alone is asked by texts) -/
def keyOf (ks : List Kk) : D → Option Kk
  | .int i => if ks.all isS && !ks.isEmpty then none else some (.i i)
  | .str s => some (.s s)
  | _ => none
def inOk : D → D → Option Bool
  | .str [c], .str z => some (decide (c ∈ z))
  | d, .tup xs => if isData d && areData xs && decide (min (depL xs) (dep d) ≤ deepest) then some (eqAny d xs) else none
  | d, .lst xs => if isData d && areData xs && decide (min (depL xs) (dep d) ≤ deepest) then some (eqAny d xs) else none
  | d, .dic ks vs => match keyOf ks d with
    | some k => some (dget k ks vs).isSome
    | none => none
  | _, _ => none
def isOk : D → D → Option Bool
  | .non, .non => some true
  | .bl _, .non => some false
  | .int _, .non => some false
  | .str _, .non => some false
  | .tup _, .non => some false
  | .lst _, .non => some false
  | .dic _ _, .non => some false
  | .ref _, .non => some false
  | .bl a, .bl b => some (a == b)
  | _, _ => none
def ltL : List Nat → List Nat → Bool := fun a b => decide (a < b)
def evCmp : COp → D → D → Option Bool
  | .eq, a, b => if eqOk a b then some (eqD a b) else none
  | .ne, a, b => if eqOk a b then some (!eqD a b) else none
  | .lt, .int a, .int b => some (decide (a < b))
  | .le, .int a, .int b => some (decide (a ≤ b))
  | .gt, .int a, .int b => some (decide (b < a))
  | .ge, .int a, .int b => some (decide (b ≤ a))
  | .lt, .str a, .str b => some (decide (a < b))
  | .le, .str a, .str b => some (!decide (b < a))
  | .gt, .str a, .str b => some (decide (b < a))
  | .ge, .str a, .str b => some (!decide (a < b))
  | .is_, a, b => isOk a b
  | .isnt, a, b => (isOk a b).map (! ·)
  | .in_, a, b => inOk a b
  | .nin, a, b => (inOk a b).map (! ·)
  | _, _, _ => none
def truthy : D → Store → Option Bool
  | .non, _ => some false
  | .bl b, _ => some b
  | .int i, _ => some (i != 0)
  | .str s, _ => if s.length ≤ line then some (!s.isEmpty) else none
  | .tup xs, _ => some (!xs.isEmpty)
  | .lst xs, _ => some (!xs.isEmpty)
  | .ref n, S => match S[n]? with
    | some (.lst xs) => some (!xs.isEmpty)
    | _ => none
  | _, _ => none
def ixN (n : Nat) (i : Int) : Option Nat := if 0 ≤ i then (if i < n then some i.toNat else none) else if -(n : Int) ≤ i then some (i + n).toNat else none
def atI {α : Type} (xs : List α) (i : Int) : Option α := match ixN xs.length i with
  | some j => xs[j]?
  | none => none
def evIx : D → D → Store → Option D
  | .tup xs, .int i, _ => atI xs i
  | .lst xs, .int i, _ => atI xs i
  | .str s, .int i, _ => if s.length ≤ line then (match atI s i with | some c => some (.str [c]) | none => none) else none
  | .ref n, .int i, S => match S[n]? with
    | some (.lst xs) => atI xs i
    | _ => none
  | .dic ks vs, d, _ => match keyOf ks d with
    | some k => dget k ks vs
    | none => none
  | _, _, _ => none
def sIx (n d : Nat) : Option Int → Nat
  | none => d
  | some v => if v < 0 then (v + (n : Int)).toNat else min v.toNat n
def cut {α : Type} (xs : List α) (lo hi : Option Int) : List α := (xs.drop (sIx xs.length 0 lo)).take (sIx xs.length xs.length hi - sIx xs.length 0 lo)
def part : D → Option (Option Int)
  | .non => some none
  | .int i => some (some i)
  | _ => none
def evSl (a : D) (lo hi : D) : Option D := match part lo, part hi with
  | some l, some h => (match a with
    | .tup xs => some (.tup (cut xs l h))
    | .lst xs => some (.lst (cut xs l h))
    | .str s => if s.length ≤ line then some (.str (cut s l h)) else none
    | _ => none)
  | _, _ => none
def intsOf : List D → Option (List Int)
  | [] => some []
  | .int i :: r => (intsOf r).map (i :: ·)
  | _ :: _ => none
def boolsOf : List D → Option (List Bool)
  | [] => some []
  | .bl i :: r => (boolsOf r).map (i :: ·)
  | _ :: _ => none
def itemsOf (d : D) (S : Store) : Option (List D) := match d with
  | .tup xs => some xs
  | .lst xs => some xs
  | .fro xs => some (xs.map .int)
  | .ref n => (match S[n]? with
    | some (.lst xs) => some xs
    | _ => none)
  | _ => none
def evBi : Bi → List D → Store → Option D
  | .len, [.str s], _ => if s.length ≤ line then some (.int s.length) else none
  | .len, [.dic _ _], _ => none
  | .len, [d], S => (itemsOf d S).map fun xs => .int xs.length
  | .abs, [.int i], _ => some (.int (if i < 0 then -i else i))
  | .int, [.int i], _ => some (.int i)
  | .int, [.bl b], _ => some (.int (b2n b))
  | .list, [d], S => (itemsOf d S).map .lst
  | .tuple, [d], S => (itemsOf d S).map .tup
  | .sum, [.lst xs], _ => (intsOf xs).map fun ns => .int ns.sum
  | .all, [.lst xs], _ => (boolsOf xs).map fun bs => .bl (bs.all id)
  | .any, [.lst xs], _ => (boolsOf xs).map fun bs => .bl (bs.any id)
  | .min, [.int a, .int b], _ => some (.int (if b < a then b else a))
  | .max, [.int a, .int b], _ => some (.int (if b > a then b else a))
  | _, _, _ => none
def isiD : D → Ty → Option Bool
  | .non, _ => some false
  | .bl _, .bool => some true
  | .bl _, .int => some true
  | .bl _, _ => some false
  | .int _, .int => some true
  | .int _, _ => some false
  | .str _, .str => some true
  | .str _, _ => some false
  | .tup _, .tuple => some true
  | .tup _, _ => some false
  | .lst _, .list => some true
  | .lst _, _ => some false
  | .dic _ _, .dict => some true
  | .dic _ _, _ => some false
  | .ref _, _ => none
  | .fro _, _ => none
def findIx (d : D) : List D → Option Nat
  | [] => none
  | x :: xs => if eqD x d then some 0 else (findIx d xs).map (· + 1)
def evIdx (d : D) (xs : List D) : Option D := if isData d && areData xs && decide (min (depL xs) (dep d) ≤ deepest) then (match findIx d xs with
  | some j => some (.int j)
  | none => none) else none
def evApp : D → List D → Store → Res D
  | .ref n, [d], S => (match S[n]? with
    | some (.lst xs) => if xs.length < line then .ok .non (S.set n (.lst (xs ++ [d]))) else .stuck
    | _ => .stuck)
  | _, _, _ => .stuck
def evGet : D → List D → Store → Res D
  | .dic ks vs, [k, d], S => (match keyOf ks k with
    | some k => .ok ((dget k ks vs).getD d) S
    | none => .stuck)
  | .dic ks vs, [k], S => (match keyOf ks k with
    | some k => .ok ((dget k ks vs).getD .non) S
    | none => .stuck)
  | _, _, _ => .stuck
def evIdxL : D → List D → Store → Res D
  | .lst xs, [d], S => lift (evIdx d xs) S
  | _, _, _ => .stuck
def evMt (m : Mt) (o : D) (ds : List D) (S : Store) : Res D := match m with
  | .append => evApp o ds S
  | .get => evGet o ds S
  | .index => evIdxL o ds S
def findS (z : List Nat) : List (List Nat) → Option Nat
  | [] => none
  | x :: xs => if x = z then some 0 else (findS z xs).map (· + 1)
def evIdxS (d : D) (xs : List (List Nat)) : Option D := match d with
  | .str z => (findS z xs).map fun j => .int j
  | _ => none
/-- which receiver a method asks -/
def rcv : Mt → D → Store → Bool
  | .append, .ref n, S => (match S[n]? with
    | some (.lst _) => true
    | _ => false)
  | .get, .dic _ _, _ => true
  | .index, .lst _, _ => true
  | _, _, _ => false
def evMk (m : Bool) (xs : List D) (S : Store) : Res D := if m then .ok (.ref S.length) (S ++ [.lst xs]) else .ok (.lst xs) S
def setSlots : Rho → List Nat → List D → Option Rho
  | ρ, [], [] => some ρ
  | ρ, i :: is, d :: ds => setSlots (ρ.set i (some d)) is ds
  | _, _, _ => none
def setT (ρ : Rho) : MT → D → Option Rho
  | .name i, d => some (ρ.set i (some d))
  | .names is, .tup ds => setSlots ρ is ds
  | .names _, _ => none
def wipe : Rho → List Nat → Rho
  | ρ, [] => ρ
  | ρ, v :: vs => (wipe ρ vs).set v none

/-- a comprehension's turns: f the element, c the test -/
def lcGo (f : Rho → Store → Res D) (c : Rho → Store → Res D) (ρ : Rho) (t : MT) : List D → List D → Store → Res (List D)
  | [], acc, S => .ok acc S
  | x :: xs, acc, S => match setT ρ t x with
    | none => .stuck
    | some ρ1 => (c ρ1 S).bind fun b S1 => match truthy b S1 with
      | none => .stuck
      | some true => (f ρ1 S1).bind fun d S2 => lcGo f c ρ t xs (acc ++ [d]) S2
      | some false => lcGo f c ρ t xs acc S1
def zipD : List D → List D → List D
  | a :: as, b :: bs => .tup [a, b] :: zipD as bs
  | _, _ => []
def enumD : Nat → List D → List D
  | _, [] => []
  | i, a :: as => .tup [.int i, a] :: enumD (i + 1) as
def rngD (lo : Int) : Nat → List D
  | 0 => []
  | n + 1 => .int lo :: rngD (lo + 1) n
def seqOf : D → Option (List D)
  | .tup xs => some xs
  | .lst xs => some xs
  | .str s => if s.length ≤ line then some (s.map fun c => .str [c]) else none
  | _ => none

/-- is there room for two more calls -/
abbrev tickI : Nat := 999999
/-- from here on: calls two deeper -/
abbrev lamB : Nat := 1000000
abbrev lamI (i : Nat) : Nat := i + 1000000
/-- the text of the first that takes it -/
def pickT : List (List (Nat × Bool) × List Nat) → Nat → Store → Res D
  | [], _, _ => .stuck
  | (t, r) :: l, c, S => match t.lookup c with
    | some true => .ok (.str r) S
    | some false => pickT l c S
    | none => .stuck
section
variable (call : Nat → List D → Store → Res D)
mutual
def ev : ME → Rho → Store → Res D
  | .con d, _, S => .ok d S
  | .var i, ρ, S => match ρ[i]? with
    | some (some d) => .ok d S
    | _ => .stuck
  | .bin o a b, ρ, S => (ev a ρ S).bind fun x S1 => (ev b ρ S1).bind fun y S2 => lift (evBin o x y) S2
  | .cmp o a b, ρ, S => (ev a ρ S).bind fun x S1 => (ev b ρ S1).bind fun y S2 => liftB (evCmp o x y) S2
  | .chain o p a b c, ρ, S => (ev a ρ S).bind fun x S1 => (ev b ρ S1).bind fun y S2 => match evCmp o x y with
    | some true => (ev c ρ S2).bind fun z S3 => liftB (evCmp p y z) S3
    | some false => .ok (.bl false) S2
    | none => .stuck
  | .and_ a b, ρ, S => (ev a ρ S).bind fun x S1 => match truthy x S1 with
    | some true => ev b ρ S1
    | some false => .ok x S1
    | none => .stuck
  | .or_ a b, ρ, S => (ev a ρ S).bind fun x S1 => match truthy x S1 with
    | some true => .ok x S1
    | some false => ev b ρ S1
    | none => .stuck
  | .not_ a, ρ, S => (ev a ρ S).bind fun x S1 => liftB ((truthy x S1).map (! ·)) S1
  | .neg a, ρ, S => (ev a ρ S).bind fun x S1 => match x with
    | .int i => .ok (.int (-i)) S1
    | _ => .stuck
  | .ife c a b, ρ, S => (ev c ρ S).bind fun x S1 => match truthy x S1 with
    | some true => ev a ρ S1
    | some false => ev b ρ S1
    | none => .stuck
  | .tup es, ρ, S => (evs es ρ S).bind fun xs S1 => .ok (.tup xs) S1
  | .lst m es, ρ, S => (evs es ρ S).bind fun xs S1 => evMk m xs S1
  | .dic ks ds, _, S => .ok (.dic ks ds) S
  | .ix a b, ρ, S => (ev a ρ S).bind fun x S1 => (ev b ρ S1).bind fun y S2 => lift (evIx x y S2) S2
  | .sl a lo hi, ρ, S => (ev a ρ S).bind fun x S1 => (evP lo ρ S1).bind fun l S2 => (evP hi ρ S2).bind fun h S3 => lift (evSl x l h) S3
  | .call f es, ρ, S => (evs es ρ S).bind fun xs S1 => call f xs S1
  | .bi b es, ρ, S => (evs es ρ S).bind fun xs S1 => lift (evBi b xs S1) S1
  | .isi a t, ρ, S => (ev a ρ S).bind fun x S1 => liftB (isiD x t) S1
  | .mt m o es, ρ, S => (ev o ρ S).bind fun x S1 => if rcv m x S1 = true then (evs es ρ S1).bind fun xs S2 => evMt m x xs S2 else .stuck
  | .lc m w t it cs e, ρ, S => (evI it ρ S).bind fun xs S1 => (lcGo (fun ρ S => (ev e ρ S).nox) (fun ρ S => (evC cs ρ S).nox) (wipe ρ w) t xs [] S1).bind fun ys S2 => evMk m ys S2
  | .idxc xs e, ρ, S => (ev e ρ S).bind fun d S1 => lift (evIdxS d xs) S1
  | .told hs d e, ρ, S => (call tickI [] S).bind fun _ S0 => match ev e ρ S0 with
    | .ok _ S1 => .ok (.str d) S1
    | .exc x S1 => pickT hs x.c S1
    | .stuck => .stuck
  | .bad, _, _ => .stuck
def evs : List ME → Rho → Store → Res (List D)
  | [], _, S => .ok [] S
  | e :: es, ρ, S => (ev e ρ S).bind fun x S1 => (evs es ρ S1).bind fun xs S2 => .ok (x :: xs) S2
def evC : List ME → Rho → Store → Res D
  | [], _, S => .ok (.bl true) S
  | e :: _, ρ, S => ev e ρ S
def evP : List ME → Rho → Store → Res D
  | [], _, S => .ok .non S
  | e :: _, ρ, S => (ev e ρ S).bind fun d S1 => match d with
    | .int i => .ok (.int i) S1
    | _ => .stuck
def evI : MI → Rho → Store → Res (List D)
  | .seq e, ρ, S => (ev e ρ S).bind fun x S1 => match seqOf x with
    | some xs => .ok xs S1
    | none => .stuck
  | .rng a b, ρ, S => (ev a ρ S).bind fun x S1 => (ev b ρ S1).bind fun y S2 => match x, y with
    | .int lo, .int hi => if -(2 ^ 62) ≤ lo ∧ lo < 2 ^ 62 ∧ -(2 ^ 62) ≤ hi ∧ hi < 2 ^ 62 ∧ (hi - lo).toNat ≤ line then .ok (rngD lo (hi - lo).toNat) S2 else .stuck
    | _, _ => .stuck
  | .zip a b, ρ, S => (ev a ρ S).bind fun x S1 => (ev b ρ S1).bind fun y S2 => match x, y with
    | .tup xs, .tup ys => .ok (zipD xs ys) S2
    | .lst xs, .lst ys => .ok (zipD xs ys) S2
    | _, _ => .stuck
  | .enum e, ρ, S => (ev e ρ S).bind fun x S1 => match x with
    | .lst xs => .ok (enumD 0 xs) S1
    | _ => .stuck
end

inductive Flo where
  | nx (ρ : Rho) | ret (d : D) | brk (ρ : Rho) | ct (ρ : Rho)
def forGo (f : Rho → Store → Res Flo) (t : MT) : List D → Rho → Store → Res Flo
  | [], ρ, S => .ok (.nx ρ) S
  | x :: xs, ρ, S => match setT ρ t x with
    | none => .stuck
    | some ρ1 => (f ρ1 S).bind fun o S1 => match o with
      | .nx ρ2 => forGo f t xs ρ2 S1
      | .ct ρ2 => forGo f t xs ρ2 S1
      | .brk ρ2 => .ok (.nx ρ2) S1
      | .ret d => .ok (.ret d) S1
def whileGo (c : Rho → Store → Res D) (f : Rho → Store → Res Flo) : Nat → Rho → Store → Res Flo
  | 0, _, _ => .stuck
  | n + 1, ρ, S => (c ρ S).bind fun b S1 => match truthy b S1 with
    | none => .stuck
    | some false => .ok (.nx ρ) S1
    | some true => (f ρ S1).bind fun o S2 => match o with
      | .nx ρ2 => whileGo c f n ρ2 S2
      | .ct ρ2 => whileGo c f n ρ2 S2
      | .brk ρ2 => .ok (.nx ρ2) S2
      | .ret d => .ok (.ret d) S2
/-- the most turns of a while -/
abbrev turns : Nat := 1000000
def evSet (o i v : D) (S : Store) : Option Store := match o, i with
  | .ref n, .int k => (match S[n]? with
    | some (.lst xs) => (match ixN xs.length k with
      | some j => some (S.set n (.lst (xs.set j v)))
      | none => none)
    | _ => none)
  | _, _ => none
mutual
def ex : MS → Rho → Store → Res Flo
  | .asg t e, ρ, S => (ev call e ρ S).bind fun x S1 => match setT ρ t x with
    | some ρ1 => .ok (.nx ρ1) S1
    | none => .stuck
  | .par i j a b, ρ, S => (ev call a ρ S).bind fun x S1 => (ev call b ρ S1).bind fun y S2 => .ok (.nx ((ρ.set i (some x)).set j (some y))) S2
  | .par3 i j l a b c, ρ, S => (ev call a ρ S).bind fun x S1 => (ev call b ρ S1).bind fun y S2 => (ev call c ρ S2).bind fun z S3 => .ok (.nx (((ρ.set i (some x)).set j (some y)).set l (some z))) S3
  | .setix o i e, ρ, S => (ev call e ρ S).bind fun v S1 => (ev call o ρ S1).bind fun x S2 => (ev call i ρ S2).bind fun y S3 => match evSet x y v S3 with
    | some S4 => .ok (.nx ρ) S4
    | none => .stuck
  | .ex e, ρ, S => (ev call e ρ S).bind fun _ S1 => .ok (.nx ρ) S1
  | .ret e, ρ, S => (ev call e ρ S).bind fun x S1 => .ok (.ret x) S1
  | .retN, _, S => .ok (.ret .non) S
  | .pass_, ρ, S => .ok (.nx ρ) S
  | .brk, ρ, S => .ok (.brk ρ) S
  | .ct, ρ, S => .ok (.ct ρ) S
  | .ifs c a b, ρ, S => (ev call c ρ S).bind fun x S1 => match truthy x S1 with
    | some true => exs a ρ S1
    | some false => exs b ρ S1
    | none => .stuck
  | .fors t it b, ρ, S => (evI call it ρ S).bind fun xs S1 => forGo (fun ρ S => exs b ρ S) t xs ρ S1
  | .whiles c b, ρ, S => whileGo (fun ρ S => ev call c ρ S) (fun ρ S => exs b ρ S) turns ρ S
  | .rai c es, ρ, S => (evs call es ρ S).bind fun xs S1 => .exc ⟨c, xs.head?⟩ S1
  | .bad, _, _ => .stuck
  | .tryx b ts hs, ρ, S => match exs b ρ S with
    | .exc x S1 => exH hs ts x S1
    | r => r
/-- the handlers, at blank slots -/
def exH : List (List MS) → List (List (Nat × Bool)) → XV → Store → Res Flo
  | [], _, x, S => .exc x S
  | b :: hs, ts, x, S => match ts with
    | [] => .stuck
    | t :: ts => match t.lookup x.c with
      | some true => (exs b [] S).nox
      | some false => exH hs ts x S
      | none => .stuck
def exs : List MS → Rho → Store → Res Flo
  | [], ρ, S => .ok (.nx ρ) S
  | s :: ss, ρ, S => (ex s ρ S).bind fun o S1 => match o with
    | .nx ρ1 => exs ss ρ1 S1
    | .ret d => .ok (.ret d) S1
    | .brk ρ1 => .ok (.brk ρ1) S1
    | .ct ρ1 => .ok (.ct ρ1) S1
end
end

/-- a def: how many parameters, how many slots, its body -/
structure Fn where
  ar : Nat
  sl : Nat
  body : List MS
def runFn (call : Nat → List D → Store → Res D) (F : Fn) (ds : List D) (S : Store) : Res D :=
  if ds.length = F.ar then (exs call F.body (ds.map some ++ List.replicate (F.sl - ds.length) none) S).bind fun o S1 => match o with
    | .nx _ => .ok .non S1
    | .ret d => .ok d S1
    | _ => .stuck
  else .stuck
/-- a call at most k deep -/
def callF (G : Nat → Option Fn) : Nat → Nat → List D → Store → Res D
  | 0, _, _, _ => .stuck
  | 1, f, ds, S => match G f with
    | some F => runFn (callF G 0) F ds S
    | none => .stuck
  | k + 2, f, ds, S => match G f with
    | some F => runFn (callF G (k + 1)) F ds S
    | none => if f = tickI then .ok .non S else if lamB ≤ f then callF G k (f - lamB) ds S else .stuck
theorem callF_fn {G : Nat → Option Fn} {f : Nat} {F : Fn} (h : G f = some F) : ∀ (k : Nat) (ds : List D) (S : Store), callF G (k + 1) f ds S = runFn (callF G k) F ds S
  | 0, ds, S => by simp only [callF, h]
  | k + 1, ds, S => by simp only [callF, h]
theorem callF_tick {G : Nat → Option Fn} (h : G tickI = none) (k : Nat) (S : Store) : callF G (k + 2) tickI [] S = .ok .non S := by simp only [callF, h, if_true]
theorem callF_tick0 {G : Nat → Option Fn} (h : G tickI = none) (k : Nat) (hk : k < 2) (S : Store) : callF G k tickI [] S = .stuck := by
  match k, hk with
  | 0, _ => simp only [callF]
  | 1, _ => simp only [callF, h]
theorem callF_lam {G : Nat → Option Fn} {i : Nat} (h : G (lamI i) = none) (k : Nat) (ds : List D) (S : Store) : callF G (k + 2) (lamI i) ds S = callF G k i ds S := by
  have h1 : ¬ lamI i = tickI := by show ¬ i + 1000000 = 999999; omega
  have h2 : lamB ≤ lamI i := Nat.le_add_left _ _
  have h3 : lamI i - lamB = i := Nat.add_sub_cancel _ _
  simp only [callF, h, h1, h2, h3, if_false, if_true]
end Ev

set_option Elab.async false
set_option linter.all false
set_option maxRecDepth 100000
set_option maxHeartbeats 2000000
/-! EvRel: how data, the store and slots lie in the layer's heap. -/
namespace Ev
open PySem PySem.Spec PyProof.Rows L2

def okS (s : List Nat) : Bool := s.all (· < 0x110000)
abbrev toS (s : List Nat) : Str := ⟨s.toArray⟩
def kk : Kk → Key
  | .i n => .inl n
  | .s x => .inr (toS x)
/-- the class of an exception by its number, its field's name; the tables of code objects -/
structure XT where
  cls : Nat → Value
  fld : Nat → Str
  tb : List (Addr × Str)
/-- no table -/
def NT (o : HO) : Prop := ∀ ps, o ≠ .tbl ps
/-- free, or a table -/
def Fr (H : Hp) (b : Addr) : Prop := ∀ o, H b = some o → ∃ ps, o = .tbl ps
/-- where the store's objects lie; the places of things that are being made -/
structure Pl where
  f : Nat → Addr
  pr : List Addr
instance : CoeFun Pl (fun _ => Nat → Addr) := ⟨Pl.f⟩
def Own (ι : Pl) (n : Nat) (a : Addr) : Prop := ∃ j, j < n ∧ ι j = a
/-- neither the store's nor in the making -/
def Out (ι : Pl) (n : Nat) (a : Addr) : Prop := ¬ Own ι n a ∧ a ∉ ι.pr
def KTup (K : PySem.W.Frag) (a : Addr) (xs : List V) : Prop :=
  ∃ (o : Obj) (its : Array Value) (n : Nat), K.lookup a = some o ∧ o.cls = .type "tuple" ∧ o.data = .seq its n ∧ its.size ≤ sizeLine ∧ Vals xs its.toList ∧ o.dict = none
def KLst (K : PySem.W.Frag) (a : Addr) (xs : List V) : Prop :=
  ∃ (o : Obj) (its : Array Value) (n : Nat), K.lookup a = some o ∧ o.cls = .type "list" ∧ o.dict = none ∧ o.data = .seq its n ∧ its.size ≤ sizeLine ∧ Vals xs its.toList
/-- a constant: no heap is asked -/
def CAt : D → V → Prop
  | .non, v => v = .non
  | .bl b, v => v = .bl b
  | .int i, v => v = .int i
  | .str s, v => v = .str (toS s) ∧ okS s = true
  | _, _ => False
/-- a dict of the module: text keys, scalar values -/
def KDic (K : PySem.W.Frag) (w : World) (a : Addr) (ks : List Kk) (ds : List D) : Prop :=
  (∃ es n, KDict K w a es n) ∧ ks.all isS = true ∧ ks ≠ [] ∧ ∀ z : List Nat, ∃ r, PySem.W.nsIn K a (toS z) = some r ∧ match dget (.s z) ks ds with
    | none => r = none
    | some d => ∃ u v, r = some u ∧ RelV v u ∧ CAt d v
section
variable (K : PySem.W.Frag) (w : World) (ι : Pl) (n : Nat) (H : Hp)
mutual
def At : D → V → Prop
  | .non, v => v = .non
  | .bl b, v => v = .bl b
  | .int i, v => v = .int i
  | .str s, v => v = .str (toS s) ∧ okS s = true
  | .tup xs, v => ∃ a vs, v = .ref a ∧ ((H a = some (.tup vs) ∧ Out ι n a) ∨ KTup K a vs) ∧ AtL xs vs
  | .lst xs, v => ∃ a vs, v = .ref a ∧ H a = some (.lst vs) ∧ Out ι n a ∧ AtL xs vs
  | .dic ks ds, v => ∃ a, v = .ref a ∧ ((∃ vs, ks.length = vs.length ∧ H a = some (.dK ((ks.map kk).zip vs)) ∧ Out ι n a ∧ AtL ds vs) ∨ KDic K w a ks ds)
  | .ref j, v => j < n ∧ v = .ref (ι j)
  | .fro ns, v => ∃ a, v = .ref a ∧ ((Rd H a (.lst (ns.map V.int)) ∧ Out ι n a) ∨ KLst K a (ns.map V.int))
def AtL : List D → List V → Prop
  | [], vs => vs = []
  | d :: ds, vs => ∃ x xs, vs = x :: xs ∧ At d x ∧ AtL ds xs
end
end
def OAt (K : PySem.W.Frag) (w : World) (ι : Pl) (n : Nat) (H : Hp) : O → HO → Prop
  | .lst xs, o => ∃ vs, o = .lst vs ∧ AtL K w ι n H xs vs
  | .dic ks ds, o => ∃ vs, ks.length = vs.length ∧ o = .dK ((ks.map kk).zip vs) ∧ AtL K w ι n H ds vs
/-- the store lies in the heap -/
structure SOk (T : XT) (K : PySem.W.Frag) (w : World) (ι : Pl) (S : Store) (H : Hp) : Prop where
  tab : LamX.Tabs T.tb H
  inj : ∀ i j, i < S.length → j < S.length → ι i = ι j → i = j
  at_ : ∀ (j : Nat) (o : O), S[j]? = some o → ∃ h, H (ι j) = some h ∧ OAt K w ι S.length H o h
  prv : ∀ b ∈ ι.pr, (∃ o, H b = some (.lst o)) ∧ ¬ Own ι S.length b
/-- from one state to a later one -/
structure Step (ι : Pl) (n : Nat) (H : Hp) (ι' : Pl) (n' : Nat) (H' : Hp) : Prop where
  le : n ≤ n'
  ext : ∀ j, j < n → ι' j = ι j
  keep : ∀ b o, H b = some o → ¬ Own ι n b → (h : NT o := by intro _ z; cases z) → H' b = some o
  fresh : ∀ j, n ≤ j → j < n' → Fr H (ι' j)
  prv : ∀ b ∈ ι'.pr, b ∈ ι.pr ∨ Fr H b
  prs : ∀ b ∈ ι.pr, b ∈ ι'.pr
section
variable {T : XT} {K : PySem.W.Frag} {w : World} {ι ι' ι'' : Pl} {n n' n'' : Nat} {H H' H'' : Hp}
theorem Fr.of {a : Addr} (h : H a = none) : Fr H a := fun o e => by rw [h] at e; cases e
theorem Step.refl : Step ι n H ι n H := ⟨Nat.le_refl _, fun _ _ => rfl, fun _ _ h _ _ => h, fun j h1 h2 => absurd h2 (Nat.not_lt.mpr h1), fun _ h => .inl h, fun _ h => h⟩
theorem Step.own (s : Step ι n H ι' n' H') {a : Addr} {o : HO} (h : H a = some o) (no : ¬ Own ι n a) (nt : NT o := by intro _ z; cases z) : ¬ Own ι' n' a := by
  rintro ⟨j, hj, e⟩
  by_cases hn : j < n
  · exact no ⟨j, hn, by rw [← s.ext j hn]; exact e⟩
  · have := s.fresh j (Nat.not_lt.mp hn) hj
    rw [e] at this
    obtain ⟨ps, q⟩ := this _ h
    exact nt ps q
theorem Step.out (s : Step ι n H ι' n' H') {a : Addr} {o : HO} (h : H a = some o) (no : Out ι n a) (nt : NT o := by intro _ z; cases z) : Out ι' n' a := ⟨s.own h no.1 nt, fun z => by
  rcases s.prv a z with q | q
  · exact no.2 q
  · obtain ⟨ps, q⟩ := q _ h
    exact nt ps q⟩
/-- the places of the store are held -/
def Held (ι : Pl) (n : Nat) (H : Hp) : Prop := ∀ j, j < n → ∃ o, H (ι j) = some o ∧ NT o
theorem OAt.nt {o : O} {h : HO} (x : OAt K w ι n H o h) : NT h := by
  cases o with
  | lst xs => obtain ⟨vs, rfl, _⟩ := x; intro _ z; cases z
  | dic ks ds => obtain ⟨vs, _, rfl, _⟩ := x; intro _ z; cases z
theorem SOk.held {S : Store} (s : SOk T K w ι S H) : Held ι S.length H := fun j hj => by
  obtain ⟨h, e, x⟩ := s.at_ j S[j] (List.getElem?_eq_getElem hj)
  exact ⟨h, e, x.nt⟩
theorem Fr.back (a : Step ι n H ι' n' H') (hm : Held ι' n' H') {c : Addr} (z : Fr H' c) : Fr H c := fun o q => by
  by_cases nt : NT o
  · exfalso
    by_cases no : Own ι n c
    · obtain ⟨i, hi, e⟩ := no
      obtain ⟨o', e', nt'⟩ := hm i (Nat.lt_of_lt_of_le hi a.le)
      rw [a.ext i hi, e] at e'
      obtain ⟨ps, q'⟩ := z _ e'
      exact nt' ps q'
    · have := a.keep _ _ q no nt
      obtain ⟨ps, q'⟩ := z _ this
      exact nt ps q'
  · exact Classical.byContradiction fun h => nt fun ps e => h ⟨ps, e⟩
theorem Step.trans (a : Step ι n H ι' n' H') (hm : Held ι' n' H') (b : Step ι' n' H' ι'' n'' H'') : Step ι n H ι'' n'' H'' where
  le := Nat.le_trans a.le b.le
  ext := fun j hj => (b.ext j (Nat.lt_of_lt_of_le hj a.le)).trans (a.ext j hj)
  keep := fun c o h no nt => b.keep c o (a.keep c o h no nt) (a.own h no nt) nt
  fresh := fun j h1 h2 => by
    by_cases hn : j < n'
    · rw [b.ext j hn]; exact a.fresh j h1 hn
    · have h3 := b.fresh j (Nat.not_lt.mp hn) h2
      exact Fr.back a hm h3
  prs := fun c hc => b.prs c (a.prs c hc)
  prv := fun c hc => by
    rcases b.prv c hc with z | z
    · exact a.prv c z
    · exact .inr (Fr.back a hm z)
mutual
theorem At.step (s : Step ι n H ι' n' H') : ∀ (d : D) (v : V), At K w ι n H d v → At K w ι' n' H' d v
  | .non, v, h => h
  | .bl _, v, h => h
  | .int _, v, h => h
  | .str _, v, h => h
  | .tup xs, v, h => by
    obtain ⟨a, vs, e, h1, h2⟩ := h
    refine ⟨a, vs, e, ?_, AtL.step s xs vs h2⟩
    rcases h1 with ⟨h1, no⟩ | h1
    · exact .inl ⟨s.keep _ _ h1 no.1, s.out h1 no⟩
    · exact .inr h1
  | .lst xs, v, h => by
    obtain ⟨a, vs, e, h1, no, h2⟩ := h
    exact ⟨a, vs, e, s.keep _ _ h1 no.1, s.out h1 no, AtL.step s xs vs h2⟩
  | .dic ks ds, v, h => by
    obtain ⟨a, e, h⟩ := h
    refine ⟨a, e, ?_⟩
    rcases h with ⟨vs, hl, h1, no, h2⟩ | h
    · exact .inl ⟨vs, hl, s.keep _ _ h1 no.1, s.out h1 no, AtL.step s ds vs h2⟩
    · exact .inr h
  | .ref j, v, h => ⟨Nat.lt_of_lt_of_le h.1 s.le, by rw [s.ext j h.1]; exact h.2⟩
  | .fro ns, v, h => by
    obtain ⟨a, e, h⟩ := h
    refine ⟨a, e, ?_⟩
    rcases h with ⟨h1 | ⟨o, h1⟩, no⟩ | h
    · exact .inl ⟨.inl (s.keep _ _ h1 no.1), s.out h1 no⟩
    · exact .inl ⟨.inr ⟨o, s.keep _ _ h1 no.1⟩, s.out h1 no⟩
    · exact .inr h
theorem AtL.step (s : Step ι n H ι' n' H') : ∀ (ds : List D) (vs : List V), AtL K w ι n H ds vs → AtL K w ι' n' H' ds vs
  | [], vs, h => h
  | d :: ds, vs, h => by
    obtain ⟨x, xs, e, h1, h2⟩ := h
    exact ⟨x, xs, e, At.step s d x h1, AtL.step s ds xs h2⟩
end
/-- what data lean on is kept -/
structure Mv (ι : Pl) (n : Nat) (H : Hp) (ι' : Pl) (n' : Nat) (H' : Hp) : Prop where
  le : n ≤ n'
  ext : ∀ j, j < n → ι' j = ι j
  keep : ∀ b o, H b = some o → Out ι n b → H' b = some o ∧ Out ι' n' b
mutual
theorem At.mv (s : Mv ι n H ι' n' H') : ∀ (d : D) (v : V), At K w ι n H d v → At K w ι' n' H' d v
  | .non, v, h => h
  | .bl _, v, h => h
  | .int _, v, h => h
  | .str _, v, h => h
  | .tup xs, v, h => by
    obtain ⟨a, vs, e, h1, h2⟩ := h
    refine ⟨a, vs, e, ?_, AtL.mv s xs vs h2⟩
    rcases h1 with ⟨h1, no⟩ | h1
    · exact .inl (s.keep _ _ h1 no)
    · exact .inr h1
  | .lst xs, v, h => by
    obtain ⟨a, vs, e, h1, no, h2⟩ := h
    exact ⟨a, vs, e, (s.keep _ _ h1 no).1, (s.keep _ _ h1 no).2, AtL.mv s xs vs h2⟩
  | .dic ks ds, v, h => by
    obtain ⟨a, e, h⟩ := h
    refine ⟨a, e, ?_⟩
    rcases h with ⟨vs, hl, h1, no, h2⟩ | h
    · exact .inl ⟨vs, hl, (s.keep _ _ h1 no).1, (s.keep _ _ h1 no).2, AtL.mv s ds vs h2⟩
    · exact .inr h
  | .ref j, v, h => ⟨Nat.lt_of_lt_of_le h.1 s.le, by rw [s.ext j h.1]; exact h.2⟩
  | .fro ns, v, h => by
    obtain ⟨a, e, h⟩ := h
    refine ⟨a, e, ?_⟩
    rcases h with ⟨h1 | ⟨o, h1⟩, no⟩ | h
    · exact .inl ⟨.inl (s.keep _ _ h1 no).1, (s.keep _ _ h1 no).2⟩
    · exact .inl ⟨.inr ⟨o, (s.keep _ _ h1 no).1⟩, (s.keep _ _ h1 no).2⟩
    · exact .inr h
theorem AtL.mv (s : Mv ι n H ι' n' H') : ∀ (ds : List D) (vs : List V), AtL K w ι n H ds vs → AtL K w ι' n' H' ds vs
  | [], vs, h => h
  | d :: ds, vs, h => by
    obtain ⟨x, xs, e, h1, h2⟩ := h
    exact ⟨x, xs, e, At.mv s d x h1, AtL.mv s ds xs h2⟩
end
theorem OAt.mv (s : Mv ι n H ι' n' H') {o : O} {h : HO} (x : OAt K w ι n H o h) : OAt K w ι' n' H' o h := by
  cases o with
  | lst xs => obtain ⟨vs, e, q⟩ := x; exact ⟨vs, e, AtL.mv s _ _ q⟩
  | dic ks ds => obtain ⟨vs, hl, e, q⟩ := x; exact ⟨vs, hl, e, AtL.mv s _ _ q⟩
theorem AtL.length : ∀ {ds : List D} {vs : List V}, AtL K w ι n H ds vs → vs.length = ds.length
  | [], vs, h => by rw [show vs = [] from h]; rfl
  | d :: ds, _, h => by
    obtain ⟨x, xs, e, _, h2⟩ := h
    rw [e, List.length_cons, List.length_cons, AtL.length h2]
theorem AtL.get : ∀ {ds : List D} {vs : List V} {i : Nat} {d : D}, AtL K w ι n H ds vs → ds[i]? = some d → ∃ v, vs[i]? = some v ∧ At K w ι n H d v
  | [], _, _, _, _, e => by simp at e
  | d :: ds, _, 0, _, h, e => by
    obtain ⟨x, xs, rfl, h1, h2⟩ := h
    simp at e; subst e
    exact ⟨x, by simp, h1⟩
  | d :: ds, _, i + 1, _, h, e => by
    obtain ⟨x, xs, rfl, h1, h2⟩ := h
    simp at e
    obtain ⟨v, h3, h4⟩ := AtL.get h2 e
    exact ⟨v, by simpa using h3, h4⟩
theorem AtL.append : ∀ {ds es : List D} {vs us : List V}, AtL K w ι n H ds vs → AtL K w ι n H es us → AtL K w ι n H (ds ++ es) (vs ++ us)
  | [], _, _, _, h, g => by rw [show _ = [] from h]; exact g
  | d :: ds, _, _, _, h, g => by
    obtain ⟨x, xs, rfl, h1, h2⟩ := h
    exact ⟨x, _, rfl, h1, AtL.append h2 g⟩
theorem AtL.take : ∀ {ds : List D} {vs : List V} (k : Nat), AtL K w ι n H ds vs → AtL K w ι n H (ds.take k) (vs.take k)
  | _, _, 0, _ => by simp [AtL]
  | [], _, k + 1, h => by rw [show _ = [] from h]; simp [AtL]
  | d :: ds, _, k + 1, h => by
    obtain ⟨x, xs, rfl, h1, h2⟩ := h
    exact ⟨x, _, rfl, h1, AtL.take k h2⟩
theorem AtL.drop : ∀ {ds : List D} {vs : List V} (k : Nat), AtL K w ι n H ds vs → AtL K w ι n H (ds.drop k) (vs.drop k)
  | _, _, 0, h => h
  | [], _, k + 1, h => by rw [show _ = [] from h]; simp [AtL]
  | d :: ds, _, k + 1, h => by
    obtain ⟨x, xs, rfl, h1, h2⟩ := h
    exact AtL.drop k h2
theorem AtL.set : ∀ {ds : List D} {vs : List V} (k : Nat) {d : D} {v : V}, AtL K w ι n H ds vs → At K w ι n H d v → AtL K w ι n H (ds.set k d) (vs.set k v)
  | [], _, _, _, _, h, _ => by rw [show _ = [] from h]; simp [AtL]
  | d :: ds, _, 0, _, _, h, g => by
    obtain ⟨x, xs, rfl, h1, h2⟩ := h
    exact ⟨_, xs, rfl, g, h2⟩
  | d :: ds, _, k + 1, _, _, h, g => by
    obtain ⟨x, xs, rfl, h1, h2⟩ := h
    exact ⟨x, _, rfl, h1, AtL.set k h2 g⟩
theorem AtL.rep {ds : List D} {vs : List V} (h : AtL K w ι n H ds vs) : ∀ k : Nat, AtL K w ι n H (List.replicate k ds).flatten (List.replicate k vs).flatten
  | 0 => by simp [AtL]
  | k + 1 => by
    rw [List.replicate_succ, List.replicate_succ, List.flatten_cons, List.flatten_cons]
    exact AtL.append h (AtL.rep h k)
theorem OAt.step (s : Step ι n H ι' n' H') {o : O} {h : HO} (x : OAt K w ι n H o h) : OAt K w ι' n' H' o h := by
  cases o with
  | lst xs => obtain ⟨vs, e, q⟩ := x; exact ⟨vs, e, AtL.step s _ _ q⟩
  | dic ks ds => obtain ⟨vs, hl, e, q⟩ := x; exact ⟨vs, hl, e, AtL.step s _ _ q⟩
theorem AtL.ofInts : ∀ {ds : List D} {ns : List Int} {vs : List V}, intsOf ds = some ns → AtL K w ι n H ds vs → vs = ns.map V.int
  | [], ns, vs, e, h => by
    simp [intsOf] at e; subst e
    exact h
  | .int i :: r, ns, vs, e, h => by
    obtain ⟨x, xs, rfl, h1, h2⟩ := h
    simp only [intsOf] at e
    cases q : intsOf r with
    | none => rw [q] at e; cases e
    | some ms =>
      rw [q] at e; cases e
      rw [AtL.ofInts q h2, show x = .int i from h1]; rfl
  | .non :: _, _, _, e, _ => by simp [intsOf] at e
  | .bl _ :: _, _, _, e, _ => by simp [intsOf] at e
  | .str _ :: _, _, _, e, _ => by simp [intsOf] at e
  | .tup _ :: _, _, _, e, _ => by simp [intsOf] at e
  | .lst _ :: _, _, _, e, _ => by simp [intsOf] at e
  | .dic _ _ :: _, _, _, e, _ => by simp [intsOf] at e
  | .ref _ :: _, _, _, e, _ => by simp [intsOf] at e
  | .fro _ :: _, _, _, e, _ => by simp [intsOf] at e
theorem AtL.ofBools : ∀ {ds : List D} {ns : List Bool} {vs : List V}, boolsOf ds = some ns → AtL K w ι n H ds vs → vs = ns.map V.bl
  | [], ns, vs, e, h => by
    simp [boolsOf] at e; subst e
    exact h
  | .bl i :: r, ns, vs, e, h => by
    obtain ⟨x, xs, rfl, h1, h2⟩ := h
    simp only [boolsOf] at e
    cases q : boolsOf r with
    | none => rw [q] at e; cases e
    | some ms =>
      rw [q] at e; cases e
      rw [AtL.ofBools q h2, show x = .bl i from h1]; rfl
  | .non :: _, _, _, e, _ => by simp [boolsOf] at e
  | .int _ :: _, _, _, e, _ => by simp [boolsOf] at e
  | .str _ :: _, _, _, e, _ => by simp [boolsOf] at e
  | .tup _ :: _, _, _, e, _ => by simp [boolsOf] at e
  | .lst _ :: _, _, _, e, _ => by simp [boolsOf] at e
  | .dic _ _ :: _, _, _, e, _ => by simp [boolsOf] at e
  | .ref _ :: _, _, _, e, _ => by simp [boolsOf] at e
  | .fro _ :: _, _, _, e, _ => by simp [boolsOf] at e
end

/-! ### new things -/
section
variable {T : XT} {K : PySem.W.Frag} {w : World} {ι : Pl} {S : Store} {H : Hp} {p : Addr} {o : HO}
theorem tab_new {Tb : List (Addr × Str)} (t : LamX.Tabs Tb H) (hp : H p = none) : LamX.Tabs Tb (upd H p o) := t.ext fun b u h => by rw [upd_ne (fun e => by rw [e, hp] at h; cases h)]; exact h
theorem tab_put {Tb : List (Addr × Str)} {u : HO} (t : LamX.Tabs Tb H) (hp : H p = some u) (nt : NT u) (ne : ∀ q : Str, u ≠ LamX.CodeO p q) : LamX.Tabs Tb (upd H p o) := fun x hx => by
  obtain ⟨ps, h1, h2, h3⟩ := t x hx
  refine ⟨ps, ?_, h2, fun pos cv hc => ?_⟩
  · rw [upd_ne (fun e => by rw [e, hp] at h1; exact nt ps (Option.some.inj h1))]; exact h1
  · obtain ⟨c, e1, e2⟩ := h3 pos cv hc
    refine ⟨c, e1, ?_⟩
    rw [upd_ne (fun e => by subst e; rw [hp] at e2; exact ne _ (Option.some.inj e2))]; exact e2
theorem OAt.nc {n : Nat} {ob : O} {h : HO} {c : Addr} (x : OAt K w ι n H ob h) (q : Str) : h ≠ LamX.CodeO c q := by
  cases ob with
  | lst xs => obtain ⟨vs, rfl, _⟩ := x; intro z; unfold LamX.CodeO at z; cases z
  | dic ks ds => obtain ⟨vs, _, rfl, _⟩ := x; intro z; unfold LamX.CodeO at z; cases z
/-- a new object that the store does not own -/
theorem Step.new (hp : H p = none) : Step ι S.length H ι S.length (upd H p o) where
  prv := fun _ h => .inl h
  prs := fun _ h => h
  le := Nat.le_refl _
  ext := fun _ _ => rfl
  keep := fun b u h _ _ => by rw [upd_ne (fun e => by rw [e, hp] at h; cases h)]; exact h
  fresh := fun j h1 h2 => absurd h2 (Nat.not_lt.mpr h1)
theorem SOk.mono {ι' : Pl} {H' : Hp} (s : SOk T K w ι S H) (ht : LamX.Tabs T.tb H') (st : Step ι S.length H ι' S.length H') (h : ∀ j, j < S.length → H' (ι j) = H (ι j)) (hp : ι'.pr = ι.pr) : SOk T K w ι' S H' where
  tab := ht
  prv := fun b hb => by
    rw [hp] at hb
    obtain ⟨⟨o, e⟩, no⟩ := s.prv b hb
    exact ⟨⟨o, st.keep b _ e no⟩, st.own e no⟩
  inj := fun i j hi hj e => s.inj i j hi hj (by rw [← st.ext i hi, ← st.ext j hj]; exact e)
  at_ := fun j o e => by
    have hj : j < S.length := (List.getElem?_eq_some_iff.mp e).1
    obtain ⟨x, e1, e2⟩ := s.at_ j o e
    exact ⟨x, by rw [st.ext j hj, h j hj]; exact e1, e2.step st⟩
theorem SOk.new (s : SOk T K w ι S H) (hp : H p = none) : SOk T K w ι S (upd H p o) :=
  s.mono (tab_new s.tab hp) (Step.new hp) (fun j hj => by
    obtain ⟨x, e, _⟩ := s.held j hj
    exact upd_ne fun q => by rw [q, hp] at e; cases e) rfl
theorem SOk.notOwn (s : SOk T K w ι S H) (hp : H p = none) : ¬ Own ι S.length p := by
  rintro ⟨j, hj, e⟩
  obtain ⟨x, q, _⟩ := s.held j hj
  rw [e, hp] at q; cases q
theorem SOk.out (s : SOk T K w ι S H) (hp : H p = none) : Out ι S.length p := ⟨s.notOwn hp, fun z => by
  obtain ⟨⟨o, e⟩, _⟩ := s.prv p z
  rw [hp] at e; cases e⟩
/-- a new object that the store takes -/
def ιp (ι : Pl) (n : Nat) (p : Addr) : Pl := ⟨fun j => if j = n then p else ι j, ι.pr⟩
theorem ιp_lt {n j : Nat} (h : j ≠ n) : ιp ι n p j = ι j := by
  show (if j = n then p else ι j) = ι j
  rw [if_neg h]
theorem ιp_eq {n : Nat} : ιp ι n p n = p := by
  show (if n = n then p else ι n) = p
  rw [if_pos rfl]
theorem Step.take (hp : H p = none) : Step ι S.length H (ιp ι S.length p) (S.length + 1) (upd H p o) where
  prv := fun _ h => .inl h
  prs := fun _ h => h
  le := Nat.le_succ _
  ext := fun j hj => ιp_lt (Nat.ne_of_lt hj)
  keep := fun b u h _ _ => by rw [upd_ne (fun e => by rw [e, hp] at h; cases h)]; exact h
  fresh := fun j h1 h2 => by
    have : j = S.length := by omega
    subst this
    rw [ιp_eq]; exact Fr.of hp
theorem SOk.take {ob : O} (s : SOk T K w ι S H) (hp : H p = none) (hn : ∀ (H' : Hp) (ι' : Pl), Step ι S.length H ι' (S.length + 1) H' → OAt K w ι' (S.length + 1) H' ob o) : SOk T K w (ιp ι S.length p) (S ++ [ob]) (upd H p o) := by
  have st : Step ι S.length H (ιp ι S.length p) (S.length + 1) (upd H p o) := Step.take hp
  have len : (S ++ [ob]).length = S.length + 1 := by simp
  refine ⟨tab_new s.tab hp, fun i j hi hj e => ?_, fun j u e => ?_, fun b hb => ?_⟩
  · rw [len] at hi hj
    by_cases h1 : i = S.length
    · by_cases h2 : j = S.length
      · omega
      · rw [h1, ιp_eq, ιp_lt h2] at e
        exact absurd ⟨j, by omega, e.symm⟩ (s.notOwn hp)
    · by_cases h2 : j = S.length
      · rw [h2, ιp_eq, ιp_lt h1] at e
        exact absurd ⟨i, by omega, e⟩ (s.notOwn hp)
      · rw [ιp_lt h1, ιp_lt h2] at e
        exact s.inj i j (by omega) (by omega) e
  · rw [len]
    by_cases hj : j < S.length
    · rw [List.getElem?_append_left hj] at e
      obtain ⟨x, e1, e2⟩ := s.at_ j u e
      refine ⟨x, ?_, e2.step st⟩
      rw [ιp_lt (Nat.ne_of_lt hj)]
      rw [upd_ne (fun q => by rw [q, hp] at e1; cases e1)]; exact e1
    · have hj2 : j = S.length := by
        have := (List.getElem?_eq_some_iff.mp e).1
        rw [len] at this; omega
      subst hj2
      rw [List.getElem?_append_right (Nat.le_refl _)] at e
      simp at e; subst e
      refine ⟨o, ?_, hn _ _ st⟩
      rw [ιp_eq]; exact upd_same
  · obtain ⟨⟨o', e⟩, no⟩ := s.prv b hb
    rw [len]
    exact ⟨⟨o', st.keep b _ e no⟩, st.own e no⟩
/-- an object of the store changed -/
theorem Step.put {j : Nat} (hj : j < S.length) : Step ι S.length H ι S.length (upd H (ι j) o) where
  prv := fun _ h => .inl h
  prs := fun _ h => h
  le := Nat.le_refl _
  ext := fun _ _ => rfl
  keep := fun b u h no _ => by rw [upd_ne (fun e => no ⟨j, hj, e.symm⟩)]; exact h
  fresh := fun j h1 h2 => absurd h2 (Nat.not_lt.mpr h1)
theorem SOk.put {j : Nat} {ob : O} (s : SOk T K w ι S H) (hj : j < S.length) (hn : OAt K w ι S.length (upd H (ι j) o) ob o) : SOk T K w ι (S.set j ob) (upd H (ι j) o) := by
  have st : Step ι S.length H ι S.length (upd H (ι j) o) := Step.put hj
  obtain ⟨x0, e0, y0⟩ := s.at_ j S[j] (List.getElem?_eq_getElem hj)
  refine ⟨tab_put s.tab e0 y0.nt fun q => y0.nc q, fun a b ha hb e => s.inj a b (by simpa using ha) (by simpa using hb) e, fun i u e => ?_, fun b hb => ?_⟩
  · rw [List.length_set]
    by_cases hi : i = j
    · subst hi
      rw [List.getElem?_set_self hj] at e
      cases e
      exact ⟨o, upd_same, hn⟩
    · rw [List.getElem?_set_ne (Ne.symm hi)] at e
      obtain ⟨x, e1, e2⟩ := s.at_ i u e
      have hi' : i < S.length := (List.getElem?_eq_some_iff.mp e).1
      exact ⟨x, by rw [upd_ne (fun q => hi (s.inj i j hi' hj q))]; exact e1, e2.step st⟩
  · obtain ⟨⟨o', e⟩, no⟩ := s.prv b hb
    rw [List.length_set]
    exact ⟨⟨o', st.keep b _ e no⟩, st.own e no⟩
end

/-! ### slots -/
structure Rl (T : XT) (K : PySem.W.Frag) (w : World) (ι : Pl) (ρ : Rho) (S : Store) (σ : L2.St) (H : Hp) : Prop where
  st : SOk T K w ι S H
  len : ρ.length ≤ σ.length
  at_ : ∀ (i : Nat) (d : D), ρ[i]? = some (some d) → ∃ v, σ[i]? = some (some v) ∧ At K w ι S.length H d v
section
variable {T : XT} {K : PySem.W.Frag} {w : World} {ι ι' : Pl} {ρ : Rho} {S S' : Store} {σ : L2.St} {H H' : Hp}
theorem Rl.step (r : Rl T K w ι ρ S σ H) (st : Step ι S.length H ι' S'.length H') (s : SOk T K w ι' S' H') : Rl T K w ι' ρ S' σ H' where
  st := s
  len := r.len
  at_ := fun i d e => let ⟨v, h1, h2⟩ := r.at_ i d e; ⟨v, h1, At.step st d v h2⟩
theorem Rl.set {i : Nat} {d : D} {v : V} (r : Rl T K w ι ρ S σ H) (h : At K w ι S.length H d v) : Rl T K w ι (ρ.set i (some d)) S (σ.set i (some v)) H where
  st := r.st
  len := by rw [List.length_set, List.length_set]; exact r.len
  at_ := fun j e q => by
    by_cases hj : i = j
    · subst hj
      have hl : i < ρ.length := by
        have := (List.getElem?_eq_some_iff.mp q).1
        simpa using this
      rw [List.getElem?_set_self hl] at q
      cases q
      exact ⟨v, List.getElem?_set_self (Nat.lt_of_lt_of_le hl r.len), h⟩
    · rw [List.getElem?_set_ne hj] at q
      rw [List.getElem?_set_ne hj]
      exact r.at_ j e q
theorem Rl.wipe (r : Rl T K w ι ρ S σ H) : ∀ vs : List Nat, Rl T K w ι (wipe ρ vs) S (L2.wipe σ vs) H
  | [] => r
  | v :: vs => by
    have q := r.wipe vs
    refine ⟨q.st, ?_, fun j e z => ?_⟩
    · unfold Ev.wipe L2.wipe; rw [List.length_set, List.length_set]; exact q.len
    · unfold Ev.wipe at z
      unfold L2.wipe
      by_cases hj : v = j
      · subst hj
        by_cases hl : v < (Ev.wipe ρ vs).length
        · rw [List.getElem?_set_self hl] at z; cases z
        · rw [List.getElem?_eq_none (by simpa using hl)] at z; cases z
      · rw [List.getElem?_set_ne hj] at z
        rw [List.getElem?_set_ne hj]
        exact q.at_ j e z
end

/-! ### what a reading ends in -/
def XAt (T : XT) (K : PySem.W.Frag) (w : World) (ι : Pl) (n : Nat) (H : Hp) (x : XV) (c : Value) (dd : Option Addr) : Prop :=
  c = T.cls x.c ∧ match x.f with
    | none => dd = none
    | some d => ∃ a v, dd = some a ∧ H a = some (.xd [(T.fld x.c, v)]) ∧ Out ι n a ∧ At K w ι n H d v
section
variable (T : XT) (K : PySem.W.Frag) (w : World) (E : XK)
def Fin {α β : Type} (A : Pl → Nat → Hp → α → β → Prop) (ι : Pl) (n : Nat) (H : Hp) (r : Res α) (Q : β → Hp → Prop) : Prop := match r with
  | .ok d S => ∀ v ι' H', Step ι n H ι' S.length H' → SOk T K w ι' S H' → A ι' S.length H' d v → Q v H'
  | .exc x S => ∀ c dd ι' H', Step ι n H ι' S.length H' → SOk T K w ι' S H' → XAt T K w ι' S.length H' x c dd → E c dd H'
  | .stuck => False
end
section
variable {T : XT} {K : PySem.W.Frag} {w : World} {E : XK} {α β γ δ : Type} {A : Pl → Nat → Hp → α → β → Prop} {B : Pl → Nat → Hp → γ → δ → Prop} {ι : Pl} {n : Nat} {H : Hp}
theorem Fin.mono {r : Res α} {Q Q' : β → Hp → Prop} (h : Fin T K w E A ι n H r Q) (f : ∀ v H, Q v H → Q' v H) : Fin T K w E A ι n H r Q' := by
  cases r with
  | ok d S => exact fun v ι' H' st so a => f v H' (h v ι' H' st so a)
  | exc x S => exact h
  | stuck => exact h
theorem Fin.later {ι' : Pl} {n' : Nat} {H' : Hp} {r : Res α} {Q : β → Hp → Prop} (h : Fin T K w E A ι n H r Q) (st : Step ι n H ι' n' H') (hm : Held ι' n' H') : Fin T K w E A ι' n' H' r Q := by
  cases r with
  | ok d S => exact fun v ι2 H2 st2 so a => h v ι2 H2 (st.trans hm st2) so a
  | exc x S => exact fun c dd ι2 H2 st2 so a => h c dd ι2 H2 (st.trans hm st2) so a
  | stuck => exact h
/-- what comes behind -/
def Then (T : XT) (K : PySem.W.Frag) (w : World) (E : XK) (A : Pl → Nat → Hp → α → β → Prop) (B : Pl → Nat → Hp → γ → δ → Prop) (ι : Pl) (n : Nat) (H : Hp) (f : α → Store → Res γ) (Q : δ → Hp → Prop) (v : β) (H1 : Hp) : Prop :=
  ∃ ι1 S1 d, Step ι n H ι1 S1.length H1 ∧ SOk T K w ι1 S1 H1 ∧ A ι1 S1.length H1 d v ∧ Fin T K w E B ι1 S1.length H1 (f d S1) Q
theorem Fin.bind {r : Res α} {f : α → Store → Res γ} {Q : δ → Hp → Prop} (h : Fin T K w E B ι n H (r.bind f) Q) : Fin T K w E A ι n H r (Then T K w E A B ι n H f Q) := by
  cases r with
  | ok d S => exact fun v ι' H' st so a => ⟨ι', S, d, st, so, a, h.later st so.held⟩
  | exc x S => exact h
  | stuck => exact h
end
end Ev

set_option Elab.async false
set_option linter.all false
set_option maxRecDepth 100000
set_option maxHeartbeats 2000000
/-! EvSnd1: the operations, by values. -/
namespace Ev
open PySem PySem.Spec PyProof.Rows L2

/-! ### data of the layer -/
mutual
def py : D → PyData
  | .bl b => .bool b
  | .int i => .int i
  | .str s => .str (toS s)
  | .tup xs => .tuple (pyL xs)
  | .lst xs => .list (pyL xs)
  | _ => .none
def pyL : List D → List PyData
  | [] => []
  | x :: xs => py x :: pyL xs
end
theorem toS_beq (a b : List Nat) : (toS a == toS b) = (a == b) := by
  rw [Bool.eq_iff_iff]
  simp [toS]
theorem b2n_eq (b : Bool) : (if b then 1 else 0 : Int) = b2n b := by cases b <;> rfl
mutual
theorem eqv_py : ∀ (d e : D), isData d = true → isData e = true → PyData.eqv (py d) (py e) = eqD d e
  | .non, e, _, he => by cases e <;> simp [py, PyData.eqv, eqD, isData] at he ⊢
  | .bl a, e, _, he => by cases e <;> simp [py, PyData.eqv, eqD, isData, b2n] at he ⊢
  | .int a, e, _, he => by cases e <;> simp [py, PyData.eqv, eqD, isData, b2n] at he ⊢
  | .str a, e, _, he => by
    cases e <;> simp [py, PyData.eqv, eqD, isData] at he ⊢
    exact toS_beq _ _
  | .tup a, e, hd, he => by
    cases e <;> simp [py, PyData.eqv, eqD, isData] at hd he ⊢
    exact eqvAll_py _ _ hd he
  | .lst a, e, hd, he => by
    cases e <;> simp [py, PyData.eqv, eqD, isData] at hd he ⊢
    exact eqvAll_py _ _ hd he
  | .dic _ _, _, hd, _ => by simp [isData] at hd
  | .ref _, _, hd, _ => by simp [isData] at hd
  | .fro _, _, hd, _ => by simp [isData] at hd
theorem eqvAll_py : ∀ (ds es : List D), areData ds = true → areData es = true → PyData.eqvAll (pyL ds) (pyL es) = eqL ds es
  | [], [], _, _ => rfl
  | [], _ :: _, _, _ => rfl
  | _ :: _, [], _, _ => rfl
  | d :: ds, e :: es, hd, he => by
    simp only [areData, Bool.and_eq_true] at hd he
    simp only [pyL, PyData.eqvAll, eqL]
    rw [eqv_py d e hd.1 he.1, eqvAll_py ds es hd.2 he.2]
end
mutual
theorem dep_py : ∀ (d : D), (py d).depth ≤ dep d
  | .non => by simp [py, PyData.depth]
  | .bl _ => by simp [py, PyData.depth]
  | .int _ => by simp [py, PyData.depth]
  | .str _ => by simp [py, PyData.depth]
  | .tup xs => by
    have := depL_py xs
    simp only [py, PyData.depth, dep]; omega
  | .lst xs => by
    have := depL_py xs
    simp only [py, PyData.depth, dep]; omega
  | .dic _ _ => by simp [py, PyData.depth]
  | .ref _ => by simp [py, PyData.depth]
  | .fro _ => by simp [py, PyData.depth]
theorem depL_py : ∀ (ds : List D), PyData.depthAll (pyL ds) ≤ depL ds
  | [] => by simp [pyL, PyData.depthAll]
  | d :: ds => by
    have h1 := dep_py d
    have h2 := depL_py ds
    simp only [pyL, PyData.depthAll, depL]; omega
end
section
variable {K : PySem.W.Frag} {w : World} {ι : Pl} {n : Nat} {H : Hp}
theorem sqT_of {a : Addr} {vs : List V} (h : (H a = some (.tup vs) ∧ Out ι n a) ∨ KTup K a vs) : SqT K H a vs := by
  rcases h with ⟨h, _⟩ | h
  · exact .inl (.inl h)
  · obtain ⟨o, its, m, h1, h2, h3, h4, h5, _⟩ := h
    exact .inr ⟨o, its, m, h1, h2, h3, h4, h5⟩
mutual
theorem At.dp : ∀ (d : D) (v : V), At K w ι n H d v → isData d = true → Dp K H v (py d) ∧ (py d).canLay0 = true
  | .non, v, h, _ => by rw [show v = .non from h]; exact ⟨.non, by simp [py, PyData.canLay0]⟩
  | .bl b, v, h, _ => by rw [show v = .bl b from h]; exact ⟨.bl b, by simp [py, PyData.canLay0]⟩
  | .int i, v, h, _ => by rw [show v = .int i from h]; exact ⟨.int i, by simp [py, PyData.canLay0]⟩
  | .str s, v, h, _ => by
    obtain ⟨e, o⟩ := h
    rw [e]
    refine ⟨.str _, ?_⟩
    simp only [py, PyData.canLay0]
    show PyData.strOk (toS s) = true
    unfold PyData.strOk toS
    simpa [okS] using o
  | .tup xs, v, h, hd => by
    obtain ⟨a, vs, e, h1, h2⟩ := h
    rw [e]
    obtain ⟨q1, q2⟩ := AtL.dp xs vs h2 hd
    exact ⟨.tup (sqT_of h1) q1, by simp only [py, PyData.canLay0]; exact q2⟩
  | .lst xs, v, h, hd => by
    obtain ⟨a, vs, e, h1, _, h2⟩ := h
    rw [e]
    obtain ⟨q1, q2⟩ := AtL.dp xs vs h2 hd
    exact ⟨.lst (SqL.of h1) q1, by simp only [py, PyData.canLay0]; exact q2⟩
  | .dic _ _, _, _, hd => by simp [isData] at hd
  | .ref _, _, _, hd => by simp [isData] at hd
  | .fro _, _, _, hd => by simp [isData] at hd
theorem AtL.dp : ∀ (ds : List D) (vs : List V), AtL K w ι n H ds vs → areData ds = true → DpAll K H vs (pyL ds) ∧ PyData.canLayAll0 (pyL ds) = true
  | [], vs, h, _ => by rw [show vs = [] from h]; exact ⟨.nil, by simp [pyL, PyData.canLayAll0]⟩
  | d :: ds, vs, h, hd => by
    obtain ⟨x, xs, rfl, h1, h2⟩ := h
    simp only [areData, Bool.and_eq_true] at hd
    obtain ⟨a1, a2⟩ := At.dp d x h1 hd.1
    obtain ⟨b1, b2⟩ := AtL.dp ds xs h2 hd.2
    exact ⟨.cons a1 b1, by simp only [pyL, PyData.canLayAll0, a2, b2, Bool.and_self]⟩
end
end

/-! ### a rule of two values -/
/-- the state that a value rule finds -/
def Two (X : Cx) (g : D → D → Store → Res D) : R2 := fun x y H Q => ∃ T : XT, ∃ ι S a b, SOk T X.K X.w ι S H ∧ At X.K X.w ι S.length H a x ∧ At X.K X.w ι S.length H b y ∧
  ∃ (E : XK), Fin T X.K X.w E (fun ι n H d v => At X.K X.w ι n H d v) ι S.length H (g a b S) Q
section
variable {T : XT} {X : Cx} {pins : List (Addr × Obj)} {σ : L2.St} {H : Hp} {s : Shared}
theorem atTup {K : PySem.W.Frag} {w : World} {ι : Pl} {S : Store} {p : Addr} {xs : List D} {vs : List V} (so : SOk T K w ι S H) (hp : H p = none) (h : AtL K w ι S.length H xs vs) :
    At K w ι S.length (upd H p (.tup vs)) (.tup xs) (.ref p) := by
  have st : Step ι S.length H ι S.length (upd H p (.tup vs)) := Step.new hp
  exact ⟨p, vs, rfl, .inl ⟨upd_same, so.out hp⟩, AtL.step st _ _ h⟩
theorem atLst {K : PySem.W.Frag} {w : World} {ι : Pl} {S : Store} {p : Addr} {xs : List D} {vs : List V} (so : SOk T K w ι S H) (hp : H p = none) (h : AtL K w ι S.length H xs vs) :
    At K w ι S.length (upd H p (.lst vs)) (.lst xs) (.ref p) := by
  have st : Step ι S.length H ι S.length (upd H p (.lst vs)) := Step.new hp
  exact ⟨p, vs, rfl, upd_same, so.out hp, AtL.step st _ _ h⟩
def bop : BOp → Operator
  | .add => .Add
  | .sub => .Sub
  | .mul => .Mult
  | .fdiv => .FloorDiv
  | .mod => .Mod
  | .pow => .Pow
theorem lineLe {n : Nat} (h : n ≤ line) : n ≤ sizeLine := h
theorem op_bin (o : BOp) : OpR X (binaryOp (bop o)) (Two X fun a b S => lift (evBin o a b) S) := by
  intro pins s σ H x y v u Q I rx ry h
  obtain ⟨T, ι, S, a, b, so, ha, hb, E, f⟩ := h
  cases hr : evBin o a b with
  | none => simp only [hr] at f; exact f.elim
  | some d =>
  have fin : ∀ v ι' H', Step ι S.length H ι' S.length H' → SOk T X.K X.w ι' S H' → At X.K X.w ι' S.length H' d v → Q v H' := by
    simp only [hr] at f
    exact f
  have scal : ∀ z, At X.K X.w ι S.length H d z → Q z H := fun z hz => fin z ι H Step.refl so hz
  have tupq : ∀ (ds : List D) (zs : List V), d = .tup ds → AtL X.K X.w ι S.length H ds zs → ∀ p, H p = none → Q (.ref p) (upd H p (.tup zs)) := fun ds zs e hz p hp =>
    fin (.ref p) ι _ (Step.new hp) (so.new hp) (e ▸ atTup so hp hz)
  have lstq : ∀ (ds : List D) (zs : List V), d = .lst ds → AtL X.K X.w ι S.length H ds zs → ∀ p, H p = none → Q (.ref p) (upd H p (.lst zs)) := fun ds zs e hz p hp =>
    fin (.ref p) ι _ (Step.new hp) (so.new hp) (e ▸ atLst so hp hz)
  clear f fin
  unfold evBin at hr
  split at hr
  · cases hr
    exact op_add pins s σ H x y v u Q I rx ry ⟨_, _, ha, hb, scal _ rfl⟩
  · rename_i p q
    split at hr
    · rename_i hz
      cases hr
      obtain ⟨e1, o1⟩ := ha
      obtain ⟨e2, o2⟩ := hb
      refine op_add_str pins s σ H x y v u Q I rx ry ⟨_, _, e1, e2, ?_, scal _ ⟨?_, ?_⟩⟩
      · show p.toArray.size + q.toArray.size ≤ line
        simpa using hz
      · show V.str (toS p ++ toS q) = V.str (toS (p ++ q))
        congr 1
        show (⟨p.toArray ++ q.toArray⟩ : Str) = ⟨(p ++ q).toArray⟩
        simp
      · simp only [okS, List.all_append] at o1 o2 ⊢
        rw [o1, o2]; rfl
    · cases hr
  · rename_i p q
    split at hr
    · rename_i hz
      cases hr
      obtain ⟨t1, vs, e1, h1, l1⟩ := ha
      obtain ⟨t2, us, e2, h2, l2⟩ := hb
      have n1 := l1.length
      have n2 := l2.length
      refine op_catA pins s σ H x y v u Q I rx ry ⟨t1, t2, vs, us, e1, e2, sqT_of h1, sqT_of h2, ?_, fun z => scal _ ?_, fun _ z => scal _ ?_, fun _ _ p hp => tupq _ _ rfl (l1.append l2) p hp⟩
      · rw [n1, n2]; exact hz
      · have : p = [] := by
          rw [z] at n1; exact List.length_eq_zero_iff.mp n1.symm
        subst this
        exact ⟨t2, us, rfl, h2, l2⟩
      · have : q = [] := by
          rw [z] at n2; exact List.length_eq_zero_iff.mp n2.symm
        subst this
        rw [List.append_nil]
        exact ⟨t1, vs, rfl, h1, l1⟩
    · cases hr
  · rename_i p q
    split at hr
    · rename_i hz
      cases hr
      obtain ⟨t1, vs, e1, h1, _, l1⟩ := ha
      obtain ⟨t2, us, e2, h2, _, l2⟩ := hb
      refine op_cat pins s σ H x y v u Q I rx ry ⟨t1, t2, vs, us, e1, e2, h1, h2, ?_, fun p hp => lstq _ _ rfl (l1.append l2) p hp⟩
      rw [l1.length, l2.length]; exact hz
    · cases hr
  · cases hr
    exact op_sub pins s σ H x y v u Q I rx ry ⟨_, _, ha, hb, scal _ rfl⟩
  · rename_i p q
    cases hr
    cases (show x = V.bl p from ha)
    cases (show y = V.bl q from hb)
    cases rx
    cases ry
    refine sub_bool ⟨.int (b2n p - b2n q), H, I.tok _, ?_, scal _ rfl⟩
    cases p <;> cases q <;> exact ⟨_, rfl⟩
  · split at hr
    · rename_i hz
      cases hr
      exact op_mul pins s σ H x y v u Q I rx ry ⟨_, _, ha, hb, hz, scal _ rfl⟩
    · cases hr
  · rename_i p q
    cases hr
    cases (show x = V.int p from ha)
    cases (show y = V.bl q from hb)
    obtain ⟨t, rfl⟩ := rx
    cases ry
    refine PySem.IntBool.mul_int_bool ⟨.int (p * b2n q), H, I.tok _, ?_, scal _ rfl⟩
    cases q <;> exact ⟨_, rfl⟩
  · split at hr
    · rename_i hz
      cases hr
      obtain ⟨t1, vs, e1, h1, _, l1⟩ := ha
      refine op_rep pins s σ H x y v u Q I rx ry ⟨t1, _, vs, e1, hb, h1, hz.1, hz.2.1, ?_, fun p hp => lstq _ _ rfl (l1.rep _) p hp⟩
      rw [l1.length]; exact hz.2.2
    · cases hr
  · split at hr
    · rename_i hz
      cases hr
      obtain ⟨t1, vs, e1, h1, l1⟩ := ha
      refine op_repT pins s σ H x y v u Q I rx ry ⟨t1, _, vs, e1, hb, sqT_of h1, ?_, hz.2.1, hz.2.2.1, ?_, fun p hp => tupq _ _ rfl (l1.rep _) p hp⟩
      · intro z
        have n1 := l1.length
        rw [z] at n1
        have := List.length_eq_zero_iff.mp n1.symm
        rw [this] at hz
        exact absurd hz.1 (by simp)
      · rw [l1.length]; exact hz.2.2.2
    · cases hr
  · split at hr
    · rename_i hz
      cases hr
      exact op_fdiv pins s σ H x y v u Q I rx ry ⟨_, _, ha, hb, hz, scal _ rfl⟩
    · cases hr
  · split at hr
    · rename_i hz
      cases hr
      exact op_mod pins s σ H x y v u Q I rx ry ⟨_, _, ha, hb, hz, scal _ rfl⟩
    · cases hr
  · split at hr
    · rename_i hz
      cases hr
      exact op_pow pins s σ H x y v u Q I rx ry ⟨_, _, ha, hb, hz, scal _ rfl⟩
    · cases hr
  · cases hr
/-! ### comparisons -/
def cop : COp → CmpOp
  | .eq => .Eq
  | .ne => .NotEq
  | .lt => .Lt
  | .le => .LtE
  | .gt => .Gt
  | .ge => .GtE
  | .is_ => .Is
  | .isnt => .IsNot
  | .in_ => .In
  | .nin => .NotIn
theorem eqAny_py (d : D) (hd : isData d = true) : ∀ xs : List D, areData xs = true → ((pyL xs).any fun y => PyData.eqv y (py d)) = eqAny d xs
  | [], _ => rfl
  | x :: xs, hx => by
    simp only [areData, Bool.and_eq_true] at hx
    simp only [pyL, List.any_cons, eqAny]
    rw [eqv_py x d hx.1 hd, eqAny_py d hd xs hx.2]
theorem kk_inj : ∀ {a b : Kk}, kk a = kk b → a = b
  | .i a, .i b, h => by simp only [kk, Sum.inl.injEq] at h; rw [h]
  | .s a, .s b, h => by simp only [kk, Sum.inr.injEq, toS, Str.mk.injEq] at h; simpa using h
  | .i a, .s b, h => by simp [kk] at h
  | .s a, .i b, h => by simp [kk] at h
theorem eqOk_of {a b : D} (h : eqOk a b = true) : isData a = true ∧ isData b = true ∧ min (dep a) (dep b) ≤ deepest := by
  simp only [eqOk, Bool.and_eq_true, decide_eq_true_eq] at h
  exact ⟨h.1.1, h.1.2, h.2⟩
theorem dic_get {K : PySem.W.Frag} {w : World} {ι : Pl} {n : Nat} {H : Hp} (k : Kk) : ∀ {ks : List Kk} {ds : List D} {vs : List V}, ks.length = vs.length → AtL K w ι n H ds vs →
    match dget k ks ds with
    | none => valV ((ks.map kk).zip vs) (kk k) = none
    | some d => ∃ v, valV ((ks.map kk).zip vs) (kk k) = some v ∧ At K w ι n H d v
  | [], _, _, hl, _ => by
    unfold dget
    simp [valV]
  | l :: ls, [], vs, hl, h => by
    rw [show vs = [] from h] at hl
    cases hl
  | l :: ls, d :: ds, vs, hl, h => by
    obtain ⟨x, xs, rfl, h1, h2⟩ := h
    simp only [List.length_cons, Nat.add_right_cancel_iff] at hl
    unfold dget
    by_cases e : l = k
    · rw [if_pos e]
      subst e
      exact ⟨x, valV_pos rfl, h1⟩
    · rw [if_neg e]
      have q := dic_get (K := K) (w := w) (ι := ι) (n := n) (H := H) k hl h2
      have e2 : valV (((l :: ls).map kk).zip (x :: xs)) (kk k) = valV ((ls.map kk).zip xs) (kk k) := valV_neg (p := (kk l, x)) (fun z => e (kk_inj z))
      rw [e2]
      exact q
theorem keyOf_kV {K : PySem.W.Frag} {w : World} {ι : Pl} {n : Nat} {H : Hp} {ks : List Kk} {d : D} {k : Kk} {v : V} (h : keyOf ks d = some k) (a : At K w ι n H d v) : v = kV (kk k) := by
  unfold keyOf at h
  split at h
  · split at h
    · cases h
    · cases h; exact a
  · cases h; exact a.1
  · cases h
theorem keyOf_s {ks : List Kk} {d : D} {k : Kk} (h : keyOf ks d = some k) (h1 : ks.all isS = true) (h2 : ks ≠ []) : ∃ z, k = .s z ∧ d = .str z := by
  unfold keyOf at h
  split at h
  · rw [if_pos (by simp [h1, h2])] at h
    cases h
  · cases h; exact ⟨_, rfl, rfl⟩
  · cases h
theorem CAt.at {K : PySem.W.Frag} {w : World} {ι : Pl} {n : Nat} {H : Hp} : ∀ {d : D} {v : V}, CAt d v → At K w ι n H d v
  | .non, _, h => h
  | .bl _, _, h => h
  | .int _, _, h => h
  | .str _, _, h => h
  | .tup _, _, h => h.elim
  | .lst _, _, h => h.elim
  | .dic _ _, _, h => h.elim
  | .ref _, _, h => h.elim
  | .fro _, _, h => h.elim
theorem in_dic (hu : X.A.units + 200 < cLine) {neg : Bool} {ι : Pl} {n : Nat} {ks : List Kk} {vs : List D} {d : D} {x y : V} {v u : Value} {Q : VK} (I : L2.Inv X pins σ H s) (rx : RelV x v) (ry : RelV y u)
    {k : Kk} (ek : keyOf ks d = some k) (ha : At X.K X.w ι n H d x) (hb : At X.K X.w ι n H (.dic ks vs) y) (q : Q (.bl (if neg then !(dget k ks vs).isSome else (dget k ks vs).isSome)) H) :
    wpAny (model X.prog X.w) X.A (compareOp (if neg then .NotIn else .In) v u) (EP X pins σ Q) X.xe s := by
  obtain ⟨a, rfl, hb⟩ := hb
  have e := keyOf_kV ek ha
  rcases hb with ⟨ws, hl, h1, _, h2⟩ | ⟨⟨es, m, KD⟩, hall, hne, hz⟩
  · have g := dic_get k hl h2
    cases ry
    subst e
    cases hd : dget k ks vs with
    | none =>
      rw [hd] at g q
      cases neg
      · exact d_in (by omega) I (DGet.k h1) rx fun s' I' => ⟨.bl false, H, I', by rw [g]; rfl, q⟩
      · exact d_notIn (by omega) I (DGet.k h1) rx fun s' I' => ⟨.bl true, H, I', by rw [g]; rfl, q⟩
    | some dd =>
      rw [hd] at g q
      obtain ⟨z, g, _⟩ := g
      cases neg
      · exact d_in (by omega) I (DGet.k h1) rx fun s' I' => ⟨.bl true, H, I', by rw [g]; rfl, q⟩
      · exact d_notIn (by omega) I (DGet.k h1) rx fun s' I' => ⟨.bl false, H, I', by rw [g]; rfl, q⟩
  · obtain ⟨z, rfl, rfl⟩ := keyOf_s ek hall hne
    obtain ⟨r, e1, e2⟩ := hz z
    obtain ⟨ex, _⟩ := ha
    have er : r.isSome = (dget (.s z) ks vs).isSome := by
      cases hd : dget (.s z) ks vs with
      | none => rw [hd] at e2; rw [e2]; rfl
      | some dd => rw [hd] at e2; obtain ⟨u', v', e2, _⟩ := e2; rw [e2]; rfl
    cases neg
    · exact op_in_kd KD pins s σ H x _ v u Q I rx ry ⟨_, r, ex, rfl, e1, by rw [er]; exact q⟩
    · exact op_notIn_kd KD pins s σ H x _ v u Q I rx ry ⟨_, r, ex, rfl, e1, by rw [er]; exact q⟩
theorem in_seq (hu : X.A.units + 200 < cLine) {neg : Bool} {ι : Pl} {n : Nat} {xs : List D} {d e : D} {x y : V} {v u : Value} {Q : VK} (I : L2.Inv X pins σ H s) (rx : RelV x v) (ry : RelV y u) (he : e = .tup xs ∨ e = .lst xs)
    (ok : (isData d && areData xs && decide (min (depL xs) (dep d) ≤ deepest)) = true) (ha : At X.K X.w ι n H d x) (hb : At X.K X.w ι n H e y) (q : Q (.bl (if neg then !eqAny d xs else eqAny d xs)) H) :
    wpAny (model X.prog X.w) X.A (compareOp (if neg then .NotIn else .In) v u) (EP X pins σ Q) X.xe s := by
  simp only [Bool.and_eq_true, decide_eq_true_eq] at ok
  obtain ⟨⟨o1, o2⟩, o3⟩ := ok
  obtain ⟨p1, c1⟩ := At.dp d x ha o1
  obtain ⟨as, r1⟩ := Dp.reads I _ x v p1 rx
  have r := dep_py d
  have r' := depL_py xs
  have room : X.A.units + 1 + min (PyData.depthAll (pyL xs)) (py d).depth < cLine := by
    have : min (PyData.depthAll (pyL xs)) (py d).depth ≤ min (depL xs) (dep d) := by omega
    have := o3
    unfold deepest at this
    omega
  rcases he with rfl | rfl
  · obtain ⟨p2, c2⟩ := At.dp _ y hb (by simpa [isData] using o2)
    obtain ⟨bs, r2⟩ := Dp.reads I _ y u p2 ry
    simp only [py, PyData.canLay0] at r2 c2
    cases neg
    · exact SeqAt.in_tuple_reads r2 r1 c2 c1 room ⟨.bl _, H, I, rfl, by rw [eqAny_py d o1 xs o2]; exact q⟩
    · exact SeqAt.notIn_tuple_reads r2 r1 c2 c1 room ⟨.bl _, H, I, rfl, by rw [eqAny_py d o1 xs o2]; exact q⟩
  · obtain ⟨p2, c2⟩ := At.dp _ y hb (by simpa [isData] using o2)
    obtain ⟨bs, r2⟩ := Dp.reads I _ y u p2 ry
    simp only [py, PyData.canLay0] at r2 c2
    cases neg
    · exact SeqAt.in_list_reads r2 r1 c2 c1 room ⟨.bl _, H, I, rfl, by rw [eqAny_py d o1 xs o2]; exact q⟩
    · exact SeqAt.notIn_list_reads r2 r1 c2 c1 room ⟨.bl _, H, I, rfl, by rw [eqAny_py d o1 xs o2]; exact q⟩
theorem in_any (hu : X.A.units + 200 < cLine) (neg : Bool) {ι : Pl} {n : Nat} {a b : D} {r : Bool} {x y : V} {v u : Value} {Q : VK} (I : L2.Inv X pins σ H s) (rx : RelV x v) (ry : RelV y u)
    (e : inOk a b = some r) (ha : At X.K X.w ι n H a x) (hb : At X.K X.w ι n H b y) (q : Q (.bl (if neg then !r else r)) H) :
    wpAny (model X.prog X.w) X.A (compareOp (if neg then .NotIn else .In) v u) (EP X pins σ Q) X.xe s := by
  unfold inOk at e
  split at e
  · rename_i c z
    cases e
    obtain ⟨e1, _⟩ := ha
    obtain ⟨e2, _⟩ := hb
    have lz : (toS z).cps.toList = z := by simp [toS]
    cases neg
    · exact op_in_sign pins s σ H x y v u Q I rx ry ⟨c, toS z, e1, e2, by rw [lz]; exact q⟩
    · exact op_notIn_sign pins s σ H x y v u Q I rx ry ⟨c, toS z, e1, e2, by rw [lz]; exact q⟩
  · split at e
    · rename_i ok
      cases e
      exact in_seq hu I rx ry (.inl rfl) ok ha hb q
    · cases e
  · split at e
    · rename_i ok
      cases e
      exact in_seq hu I rx ry (.inr rfl) ok ha hb q
    · cases e
  · split at e
    · rename_i k ek
      cases e
      exact in_dic hu I rx ry ek ha hb q
    · cases e
  · cases e
theorem eq_any (hu : X.A.units + 200 < cLine) (neg : Bool) {ι : Pl} {n : Nat} {a b : D} {x y : V} {v u : Value} {Q : VK} (I : L2.Inv X pins σ H s) (rx : RelV x v) (ry : RelV y u)
    (e : eqOk a b = true) (ha : At X.K X.w ι n H a x) (hb : At X.K X.w ι n H b y) (q : Q (.bl (if neg then !eqD a b else eqD a b)) H) :
    wpAny (model X.prog X.w) X.A (compareOp (if neg then .NotEq else .Eq) v u) (EP X pins σ Q) X.xe s := by
  obtain ⟨o1, o2, o3⟩ := eqOk_of e
  obtain ⟨p1, c1⟩ := At.dp a x ha o1
  obtain ⟨p2, c2⟩ := At.dp b y hb o2
  obtain ⟨as, r1⟩ := Dp.reads I _ x v p1 rx
  obtain ⟨bs, r2⟩ := Dp.reads I _ y u p2 ry
  have d1 := dep_py a
  have d2 := dep_py b
  have room : X.A.units + min (py a).depth (py b).depth < cLine := by
    unfold deepest at o3
    omega
  have qe := eqv_py a b o1 o2
  cases neg
  · exact SeqAt.compareEq_reads r1 r2 c1 c2 room ⟨.bl _, H, I, rfl, by rw [qe]; exact q⟩
  · exact SeqAt.compareNe_reads r1 r2 c1 c2 room ⟨.bl _, H, I, rfl, by rw [qe]; exact q⟩
theorem is_any (neg : Bool) {ι : Pl} {n : Nat} {a b : D} {r : Bool} {x y : V} {v u : Value} {Q : VK} (I : L2.Inv X pins σ H s) (rx : RelV x v) (ry : RelV y u)
    (e : isOk a b = some r) (ha : At X.K X.w ι n H a x) (hb : At X.K X.w ι n H b y) (q : Q (.bl (if neg then !r else r)) H) :
    wpAny (model X.prog X.w) X.A (compareOp (if neg then .IsNot else .Is) v u) (EP X pins σ Q) X.xe s := by
  have nn : ∀ (k : Bool), decide (x = V.non) = k → y = .non → r = k → wpAny (model X.prog X.w) X.A (compareOp (if neg then .IsNot else .Is) v u) (EP X pins σ Q) X.xe s := fun k e1 e2 e3 => by
    subst e3
    cases neg
    · exact op_isN pins s σ H x y v u Q I rx ry ⟨e2, by rw [e1]; exact q⟩
    · exact op_notN pins s σ H x y v u Q I rx ry ⟨e2, by rw [e1]; exact q⟩
  unfold isOk at e
  split at e
  · cases e; exact nn true (by rw [show x = .non from ha]; rfl) hb rfl
  · cases e; exact nn false (by rw [show x = .bl _ from ha]; rfl) hb rfl
  · cases e; exact nn false (by rw [show x = .int _ from ha]; rfl) hb rfl
  · cases e; exact nn false (by rw [ha.1]; rfl) hb rfl
  · cases e; exact nn false (by obtain ⟨_, _, e, _⟩ := ha; rw [e]; rfl) hb rfl
  · cases e; exact nn false (by obtain ⟨_, _, e, _⟩ := ha; rw [e]; rfl) hb rfl
  · cases e; exact nn false (by obtain ⟨_, e, _⟩ := ha; rw [e]; rfl) hb rfl
  · cases e; exact nn false (by rw [ha.2]; rfl) hb rfl
  · rename_i p1 p2
    cases e
    have ed : decide (p1 = p2) = (p1 == p2) := by cases p1 <;> cases p2 <;> rfl
    cases neg
    · exact op_is_bl pins s σ H x y v u Q I rx ry ⟨_, _, ha, hb, by rw [ed]; exact q⟩
    · exact op_isnot_bl pins s σ H x y v u Q I rx ry ⟨_, _, ha, hb, by rw [ed]; exact q⟩
  · cases e
theorem op_cmp (hu : X.A.units + 200 < cLine) (c : COp) : OpR X (compareOp (cop c)) (Two X fun a b S => liftB (evCmp c a b) S) := by
  intro pins s σ H x y v u Q I rx ry h
  obtain ⟨T, ι, S, a, b, so, ha, hb, E, f⟩ := h
  cases hr : evCmp c a b with
  | none => simp only [hr] at f; exact f.elim
  | some r =>
  have q : Q (.bl r) H := by
    simp only [hr] at f
    exact f _ ι H Step.refl so rfl
  clear f
  have lst : ∀ z : List Nat, (toS z).cps.toList = z := fun z => by simp [toS]
  unfold evCmp at hr
  split at hr
  · split at hr
    · cases hr; exact eq_any hu false I rx ry (by assumption) ha hb q
    · cases hr
  · split at hr
    · cases hr; exact eq_any hu true I rx ry (by assumption) ha hb q
    · cases hr
  · cases hr; exact op_lt pins s σ H x y v u Q I rx ry ⟨_, _, ha, hb, q⟩
  · cases hr; exact op_le pins s σ H x y v u Q I rx ry ⟨_, _, ha, hb, q⟩
  · cases hr; exact op_gt pins s σ H x y v u Q I rx ry ⟨_, _, ha, hb, q⟩
  · cases hr; exact op_ge pins s σ H x y v u Q I rx ry ⟨_, _, ha, hb, q⟩
  · cases hr; exact op_lt_str pins s σ H x y v u Q I rx ry ⟨_, _, ha.1, hb.1, by rw [lst, lst]; exact q⟩
  · cases hr; exact op_le_str pins s σ H x y v u Q I rx ry ⟨_, _, ha.1, hb.1, by rw [lst, lst]; exact q⟩
  · cases hr; exact op_gt_str pins s σ H x y v u Q I rx ry ⟨_, _, ha.1, hb.1, by rw [lst, lst]; exact q⟩
  · cases hr; exact op_ge_str pins s σ H x y v u Q I rx ry ⟨_, _, ha.1, hb.1, by rw [lst, lst]; exact q⟩
  · exact is_any false I rx ry hr ha hb q
  · cases e : isOk a b with
    | none => rw [e] at hr; cases hr
    | some k => rw [e] at hr; cases hr; exact is_any true I rx ry e ha hb q
  · exact in_any hu false I rx ry hr ha hb q
  · cases e : inOk a b with
    | none => rw [e] at hr; cases hr
    | some k => rw [e] at hr; cases hr; exact in_any hu true I rx ry e ha hb q
  · cases hr
end
end Ev

set_option Elab.async false
set_option linter.all false
set_option maxRecDepth 100000
set_option maxHeartbeats 2000000
/-! EvSnd2: expressions. -/
namespace Ev
open PySem PySem.Spec PyProof.Rows L2

abbrev AtD (K : PySem.W.Frag) (w : World) : Pl → Nat → Hp → D → V → Prop := fun ι n H d v => At K w ι n H d v
abbrev AtDs (K : PySem.W.Frag) (w : World) : Pl → Nat → Hp → List D → List V → Prop := fun ι n H d v => AtL K w ι n H d v
abbrev AtB : Pl → Nat → Hp → Bool → Bool → Prop := fun _ _ _ b c => b = c
section
variable (T : XT) (K : PySem.W.Frag) (w : World) (E : XK)
/-- the reading of an expression that the evaluator reads as r -/
def TEv (r : Rho → Store → Res D) : TE := fun σ H Q => ∃ ι ρ S, Rl T K w ι ρ S σ H ∧ Fin T K w E (AtD K w) ι S.length H (r ρ S) Q
def TAv (r : Rho → Store → Res (List D)) : TA := fun σ H Q => ∃ ι ρ S, Rl T K w ι ρ S σ H ∧ Fin T K w E (AtDs K w) ι S.length H (r ρ S) Q
def TTv (r : Rho → Store → Res Bool) : TT := fun σ H Q => ∃ ι ρ S, Rl T K w ι ρ S σ H ∧ Fin T K w E AtB ι S.length H (r ρ S) Q
end
/-- a value's truth -/
def tst (r : Res D) : Res Bool := r.bind fun d S => match truthy d S with
  | some b => .ok b S
  | none => .stuck
section
variable {X : Cx} {e a b c : Expr} {t t' : TE} {u u' : TT}
theorem _root_.L2.PE.imp (h : PE X e t) (f : ∀ σ H Q, t' σ H Q → t σ H Q) : PE X e t' := ⟨fun pins s σ H Q I q => h.run pins s σ H Q I (f σ H Q q)⟩
theorem _root_.L2.PT.imp (h : PT X e u) (f : ∀ σ H Q, u' σ H Q → u σ H Q) : PT X e u' := ⟨fun pins s σ H Q I q => h.run pins s σ H Q I (f σ H Q q)⟩
theorem _root_.L2.PW.imp (h : PW X e u) (f : ∀ σ H Q, u' σ H Q → u σ H Q) : PW X e u' := ⟨fun wh pins s σ H Q I q => h.run wh pins s σ H Q I (f σ H Q q)⟩
theorem _root_.L2.PA.imp {es : List Expr} {v v' : TA} (h : PA X es v) (f : ∀ σ H Q, v' σ H Q → v σ H Q) : PA X es v' := ⟨fun pos pins s σ H Q I q => h.run pos pins s σ H Q I (f σ H Q q)⟩
theorem _root_.L2.PS.imp {st : Stmt} {v v' : TS} (h : PS X st v) (f : ∀ D σ H, v' D σ H → v D σ H) : PS X st v' := ⟨fun pins s σ H D I q => h.run pins s σ H D I (f D σ H q)⟩
theorem _root_.L2.PSs.imp {st : List Stmt} {v v' : TS} (h : PSs X st v) (f : ∀ D σ H, v' D σ H → v D σ H) : PSs X st v' := ⟨fun pins s σ H D I q => h.run pins s σ H D I (f D σ H q)⟩
end
section
variable {X : Cx} {T : XT} {E : XK} {e a b c : Expr} {ra rb rc : Rho → Store → Res D} {pos : Pos}

/-- the first of two -/
theorem fin_seq {α β : Type} {A : Pl → Nat → Hp → α → β → Prop} {γ δ : Type} {B : Pl → Nat → Hp → γ → δ → Prop} {K : PySem.W.Frag} {w : World} {ι : Pl} {ρ : Rho} {S : Store} {σ : L2.St} {H : Hp} {r : Res α} {f : α → Store → Res γ} {Q : δ → Hp → Prop} {P : β → Hp → Prop}
    (R : Rl T K w ι ρ S σ H) (h : Fin T K w E B ι S.length H (r.bind f) Q) (g : ∀ ι1 S1 d v H1, r = .ok d S1 → Step ι S.length H ι1 S1.length H1 → Rl T K w ι1 ρ S1 σ H1 → A ι1 S1.length H1 d v → Fin T K w E B ι1 S1.length H1 (f d S1) Q → P v H1) :
    Fin T K w E A ι S.length H r P := by
  cases r with
  | ok d S1 => exact fun v ι' H' st so a => g ι' S1 d v H' rfl st (R.step st so) a (h.later st so.held)
  | exc x S1 => exact h
  | stuck => exact h
theorem pe_v {i : Nat} {x : Str} (hN : X.N[i]? = some x) (hv : Vis X.env.scope x) (hd : (x == ("__debug__" : Str)) = false) (hcd : (x == ("__classdict__" : Str)) = false) (call : Nat → List D → Store → Res D) :
    PE X (.Name x pos) (TEv T X.K X.w E (ev call (.var i))) := (pe_var hN hv hd hcd).imp fun σ H Q ⟨ι, ρ, S, R, f⟩ => by
  simp only [ev] at f
  split at f
  · rename_i d hd
    obtain ⟨v, h1, h2⟩ := R.at_ _ _ hd
    exact ⟨v, h1, f v ι H Step.refl R.st h2⟩
  · exact f.elim
/-- a constant -/
theorem pe_k {t : TE} {v : V} (h : PE X e (tC v)) {d : D} (hd : ∀ ι n H, At X.K X.w ι n H d v) (call : Nat → List D → Store → Res D) : PE X e (TEv T X.K X.w E (ev call (.con d))) :=
  h.imp fun σ H Q ⟨ι, ρ, S, R, f⟩ => f v ι H Step.refl R.st (hd _ _ _)
theorem two_of {g : D → D → Store → Res D} {ι : Pl} {S : Store} {H : Hp} {d1 d2 : D} {x y : V} {Q : VK} (so : SOk T X.K X.w ι S H) (h1 : At X.K X.w ι S.length H d1 x) (h2 : At X.K X.w ι S.length H d2 y)
    (f : Fin T X.K X.w E (AtD X.K X.w) ι S.length H (g d1 d2 S) Q) : Two X g x y H Q := ⟨T, ι, S, d1, d2, so, h1, h2, E, f⟩
theorem op2 {g : D → D → Store → Res D} {σ : L2.St} {H : Hp} {Q : VK} (h : TEv T X.K X.w E (fun ρ S => (ra ρ S).bind fun x S1 => (rb ρ S1).bind fun y S2 => g x y S2) σ H Q) :
    tOp (Two X g) (TEv T X.K X.w E ra) (TEv T X.K X.w E rb) σ H Q := by
  obtain ⟨ι, ρ, S, R, f⟩ := h
  refine ⟨ι, ρ, S, R, fin_seq R f fun ι1 S1 d1 x H1 _ st1 R1 a1 f1 => ⟨ι1, ρ, S1, R1, fin_seq R1 f1 fun ι2 S2 d2 y H2 _ st2 R2 a2 f2 => two_of R2.st (At.step st2 _ _ a1) a2 f2⟩⟩
theorem pe_b (o : BOp) (ha : PE X a (TEv T X.K X.w E ra)) (hb : PE X b (TEv T X.K X.w E rb)) :
    PE X (.BinOp a (bop o) b pos) (TEv T X.K X.w E fun ρ S => (ra ρ S).bind fun x S1 => (rb ρ S1).bind fun y S2 => lift (evBin o x y) S2) :=
  (pe_op (op_bin o) ha hb).imp fun _ _ _ h => op2 h
theorem pe_c (hu : X.A.units + 200 < cLine) (o : COp) (ha : PE X a (TEv T X.K X.w E ra)) (hb : PE X b (TEv T X.K X.w E rb)) (hm : behindInMarks (cop o) b = false) :
    PE X (.Compare a [cop o] [b] pos) (TEv T X.K X.w E fun ρ S => (ra ρ S).bind fun x S1 => (rb ρ S1).bind fun y S2 => liftB (evCmp o x y) S2) :=
  (pe_cmpR (op_cmp hu o) ha hb hm).imp fun _ _ _ h => op2 (g := fun x y S => liftB (evCmp o x y) S) h
theorem tst_liftB (o : Option Bool) (S : Store) : tst (liftB o S) = match o with
    | some b => .ok b S
    | none => .stuck := by cases o <;> rfl
theorem tst_bind {α : Type} (r : Res α) (f : α → Store → Res D) : tst (r.bind f) = r.bind fun a S => tst (f a S) := by cases r <;> rfl
/-- a test whose value is a bool -/
theorem fin_tst {K : PySem.W.Frag} {w : World} {ι : Pl} {n : Nat} {H : Hp} {o : Option Bool} {S : Store} {Q : Bool → Hp → Prop} (h : Fin T K w E AtB ι n H (tst (liftB o S)) Q) :
    Fin T K w E (AtD K w) ι n H (liftB o S) (fun v H' => ∃ k, v = .bl k ∧ Q k H') := by
  cases o with
  | none => exact h
  | some b => exact fun v ι' H' st so a => ⟨b, a, h b ι' H' st so rfl⟩
theorem pt_c (hu : X.A.units + 200 < cLine) (o : COp) (ha : PE X a (TEv T X.K X.w E ra)) (hb : PE X b (TEv T X.K X.w E rb)) (hm : behindInMarks (cop o) b = false) :
    PT X (.Compare a [cop o] [b] pos) (TTv T X.K X.w E fun ρ S => tst ((ra ρ S).bind fun x S1 => (rb ρ S1).bind fun y S2 => liftB (evCmp o x y) S2)) :=
  (pt_cmpR (op_cmp hu o) ha hb hm).imp fun σ H Q ⟨ι, ρ, S, R, f⟩ => by
    have f' : Fin T X.K X.w E AtB ι S.length H ((ra ρ S).bind fun x S1 => (rb ρ S1).bind fun y S2 => tst (liftB (evCmp o x y) S2)) Q := by
      have e : tst ((ra ρ S).bind fun x S1 => (rb ρ S1).bind fun y S2 => liftB (evCmp o x y) S2) = (ra ρ S).bind fun x S1 => (rb ρ S1).bind fun y S2 => tst (liftB (evCmp o x y) S2) := by
        rw [tst_bind]; congr 1; funext x S1; rw [tst_bind]
      rw [← e]; exact f
    exact ⟨ι, ρ, S, R, fin_seq R f' fun ι1 S1 d1 x H1 _ st1 R1 a1 f1 => ⟨ι1, ρ, S1, R1, fin_seq R1 f1 fun ι2 S2 d2 y H2 _ st2 R2 a2 f2 => two_of (g := fun x y S => liftB (evCmp o x y) S) R2.st (At.step st2 _ _ a1) a2 (fin_tst f2)⟩⟩
/-! ### truth -/
theorem tru_of {K : PySem.W.Frag} {w : World} {ι : Pl} {S : Store} {H : Hp} {d : D} {v : V} {b : Bool} (so : SOk T K w ι S H) (h : At K w ι S.length H d v) (e : truthy d S = some b) : TruV K v H b := by
  unfold truthy at e
  split at e
  · cases e; rw [show v = .non from h]; rfl
  · cases e; rw [show v = .bl _ from h]; rfl
  · cases e; rw [show v = .int _ from h]; rfl
  · rename_i s
    split at e
    · rename_i hz
      cases e
      rw [h.1]
      refine ⟨?_, ?_⟩
      · show s.toArray.size ≤ line
        simpa using hz
      · show (!s.isEmpty) = (((s.toArray.size : Nat) : Int) != 0)
        cases s <;> simp
        omega
    · cases e
  · rename_i xs
    cases e
    obtain ⟨a, vs, e, h1, l⟩ := h
    rw [e]
    refine .inr (.inl ⟨vs, sqT_of h1, ?_⟩)
    have := l.length
    cases vs <;> cases xs <;> simp at this <;> rfl
  · rename_i xs
    cases e
    obtain ⟨a, vs, e, h1, _, l⟩ := h
    rw [e]
    refine .inl ⟨vs, SqL.of h1, ?_⟩
    have := l.length
    cases vs <;> cases xs <;> simp at this <;> rfl
  · rename_i j
    split at e
    · rename_i xs hs
      cases e
      obtain ⟨hj, e⟩ := h
      rw [e]
      obtain ⟨o, h1, vs, e2, l⟩ := so.at_ _ _ hs
      refine .inl ⟨vs, SqL.of (by rw [h1, e2]), ?_⟩
      have := l.length
      cases vs <;> cases xs <;> simp at this <;> rfl
    · cases e
  · cases e
/-- a reading's value, then its truth -/
theorem tru_seq {γ δ : Type} {B : Pl → Nat → Hp → γ → δ → Prop} {K : PySem.W.Frag} {w : World} {ι : Pl} {ρ : Rho} {S : Store} {σ : L2.St} {H : Hp} {r : Res D} {f : Bool → D → Store → Res γ} {Q : δ → Hp → Prop} {P : V → Hp → Prop}
    (R : Rl T K w ι ρ S σ H) (h : Fin T K w E B ι S.length H (r.bind fun d S1 => match truthy d S1 with | some k => f k d S1 | none => .stuck) Q)
    (g : ∀ ι1 S1 d v H1 k, Step ι S.length H ι1 S1.length H1 → Rl T K w ι1 ρ S1 σ H1 → At K w ι1 S1.length H1 d v → TruV K v H1 k → Fin T K w E B ι1 S1.length H1 (f k d S1) Q → P v H1) :
    Fin T K w E (AtD K w) ι S.length H r P :=
  fin_seq R h fun ι1 S1 d v H1 _ st1 R1 a1 f1 => by
    cases e : truthy d S1 with
    | none => rw [e] at f1; exact f1.elim
    | some k => rw [e] at f1; exact g ι1 S1 d v H1 k st1 R1 a1 (tru_of R1.st a1 e) f1
theorem pt_of (ha : PE X a (TEv T X.K X.w E ra)) (he : ∀ whole, isTrue a X.env whole = (do let v ← whole; standAt a.pos; holding [v] (PySem.truthy v))) : PT X a (TTv T X.K X.w E fun ρ S => tst (ra ρ S)) :=
  (pt_truth ha he).imp fun σ H Q ⟨ι, ρ, S, R, f⟩ => ⟨ι, ρ, S, R, by
    have f' : Fin T X.K X.w E AtB ι S.length H ((ra ρ S).bind fun d S1 => match truthy d S1 with | some k => Res.ok k S1 | none => .stuck) Q := f
    exact tru_seq (f := fun k _ S1 => Res.ok k S1) R f' fun ι1 S1 d v H1 k st1 R1 a1 t1 f1 => ⟨k, t1, f1 k ι1 H1 Step.refl R1.st rfl⟩⟩
theorem pt_n {r : Rho → Store → Res Bool} (ha : PT X a (TTv T X.K X.w E r)) : PT X (.UnaryOp .Not a pos) (TTv T X.K X.w E fun ρ S => (r ρ S).bind fun k S1 => .ok (!k) S1) :=
  (pt_not ha).imp fun σ H Q ⟨ι, ρ, S, R, f⟩ => ⟨ι, ρ, S, R, fin_seq R f fun ι1 S1 d v H1 _ st1 R1 a1 f1 => f1 (!v) ι1 H1 Step.refl R1.st (by rw [show d = v from a1])⟩
theorem pe_n (ha : PE X a (TEv T X.K X.w E ra)) : PE X (.UnaryOp .Not a pos) (TEv T X.K X.w E fun ρ S => (ra ρ S).bind fun x S1 => liftB ((truthy x S1).map (! ·)) S1) :=
  (pe_notT ha).imp fun σ H Q ⟨ι, ρ, S, R, f⟩ => ⟨ι, ρ, S, R, by
    have e : ((ra ρ S).bind fun x S1 => liftB ((truthy x S1).map (! ·)) S1) = (ra ρ S).bind fun x S1 => match truthy x S1 with | some k => Res.ok (D.bl (!k)) S1 | none => .stuck := by
      congr 1; funext x S1; cases truthy x S1 <;> rfl
    dsimp only at f
    rw [e] at f
    exact tru_seq (f := fun k _ S1 => Res.ok (D.bl (!k)) S1) R f fun ι1 S1 d v H1 k st1 R1 a1 t1 f1 => ⟨k, t1, f1 _ ι1 H1 Step.refl R1.st rfl⟩⟩
theorem pe_ng (ha : PE X a (TEv T X.K X.w E ra)) : PE X (.UnaryOp .USub a pos) (TEv T X.K X.w E fun ρ S => (ra ρ S).bind fun x S1 => match x with | .int i => .ok (.int (-i)) S1 | _ => .stuck) :=
  (pe_un un_neg ha).imp fun σ H Q ⟨ι, ρ, S, R, f⟩ => ⟨ι, ρ, S, R, fin_seq R f fun ι1 S1 d v H1 _ st1 R1 a1 f1 => by
    split at f1
    · exact ⟨_, a1, f1 _ ι1 H1 Step.refl R1.st rfl⟩
    · exact f1.elim⟩
theorem pe_if {r : Rho → Store → Res Bool} (hc : PT X c (TTv T X.K X.w E r)) (ha : PE X a (TEv T X.K X.w E ra)) (hb : PE X b (TEv T X.K X.w E rb)) :
    PE X (.IfExp c a b pos) (TEv T X.K X.w E fun ρ S => (r ρ S).bind fun k S1 => if k = true then ra ρ S1 else rb ρ S1) :=
  (pe_ifExp hc ha hb).imp fun σ H Q ⟨ι, ρ, S, R, f⟩ => ⟨ι, ρ, S, R, fin_seq R f fun ι1 S1 d v H1 _ st1 R1 a1 f1 => by
    cases (show d = v from a1)
    cases d with
    | true => exact iteT ⟨ι1, ρ, S1, R1, f1⟩
    | false => exact iteF ⟨ι1, ρ, S1, R1, f1⟩⟩
theorem pt_ifExp {tc ta tb : TT} (hc : PT X c tc) (ha : PT X a ta) (hb : PT X b tb) : PT X (.IfExp c a b pos) (fun σ H Q => tc σ H fun k H1 => if k = true then ta σ H1 Q else tb σ H1 Q) := by
  refine ⟨fun pins s σ H Q I h => ?_⟩
  refine isTrue_IfExp (thn (hc.run pins s σ H _ I h) fun d s1 ⟨H1, I1, q1⟩ => ?_)
  cases d with
  | true => exact ha.run pins s1 σ H1 Q I1 q1
  | false => exact hb.run pins s1 σ H1 Q I1 q1
theorem pt_if {r r1 r2 : Rho → Store → Res Bool} (hc : PT X c (TTv T X.K X.w E r)) (ha : PT X a (TTv T X.K X.w E r1)) (hb : PT X b (TTv T X.K X.w E r2)) :
    PT X (.IfExp c a b pos) (TTv T X.K X.w E fun ρ S => (r ρ S).bind fun k S1 => if k = true then r1 ρ S1 else r2 ρ S1) :=
  (pt_ifExp hc ha hb).imp fun σ H Q ⟨ι, ρ, S, R, f⟩ => ⟨ι, ρ, S, R, fin_seq R f fun ι1 S1 d v H1 _ st1 R1 a1 f1 => by
    cases (show d = v from a1)
    cases d with
    | true => exact iteT ⟨ι1, ρ, S1, R1, f1⟩
    | false => exact iteF ⟨ι1, ρ, S1, R1, f1⟩⟩
/-! ### and, or -/
theorem pe_a {rest : List Expr} (ha : PE X a (TEv T X.K X.w E ra)) (hb : PE X (.BoolOp .And (b :: rest) pos) (TEv T X.K X.w E rb)) :
    PE X (.BoolOp .And (a :: b :: rest) pos) (TEv T X.K X.w E fun ρ S => (ra ρ S).bind fun x S1 => match truthy x S1 with | some k => (if k = true then rb ρ S1 else .ok x S1) | none => .stuck) :=
  (pe_andT ha hb).imp fun σ H Q ⟨ι, ρ, S, R, f⟩ => ⟨ι, ρ, S, R, tru_seq (f := fun k x S1 => if k = true then rb ρ S1 else .ok x S1) R f fun ι1 S1 d v H1 k st1 R1 a1 t1 f1 => ⟨k, t1, by
    cases k with
    | true => exact iteT ⟨ι1, ρ, S1, R1, f1⟩
    | false => exact iteF (f1 v ι1 H1 Step.refl R1.st a1)⟩⟩
theorem pe_o {rest : List Expr} (ha : PE X a (TEv T X.K X.w E ra)) (hb : PE X (.BoolOp .Or (b :: rest) pos) (TEv T X.K X.w E rb)) :
    PE X (.BoolOp .Or (a :: b :: rest) pos) (TEv T X.K X.w E fun ρ S => (ra ρ S).bind fun x S1 => match truthy x S1 with | some k => (if k = true then .ok x S1 else rb ρ S1) | none => .stuck) :=
  (pe_orT ha hb).imp fun σ H Q ⟨ι, ρ, S, R, f⟩ => ⟨ι, ρ, S, R, tru_seq (f := fun k x S1 => if k = true then .ok x S1 else rb ρ S1) R f fun ι1 S1 d v H1 k st1 R1 a1 t1 f1 => ⟨k, t1, by
    cases k with
    | true => exact iteT (f1 v ι1 H1 Step.refl R1.st a1)
    | false => exact iteF ⟨ι1, ρ, S1, R1, f1⟩⟩⟩
theorem pw_a {rest : List Expr} {r1 r2 : Rho → Store → Res Bool} (ha : PT X a (TTv T X.K X.w E r1)) (hb : PW X (.BoolOp .And (b :: rest) pos) (TTv T X.K X.w E r2)) :
    PW X (.BoolOp .And (a :: b :: rest) pos) (TTv T X.K X.w E fun ρ S => (r1 ρ S).bind fun k S1 => if k = true then r2 ρ S1 else .ok false S1) :=
  (pw_and ha hb).imp fun σ H Q ⟨ι, ρ, S, R, f⟩ => ⟨ι, ρ, S, R, fin_seq R f fun ι1 S1 d v H1 _ st1 R1 a1 f1 => by
    cases (show d = v from a1)
    cases d with
    | true => exact iteT ⟨ι1, ρ, S1, R1, f1⟩
    | false => exact iteF (f1 false ι1 H1 Step.refl R1.st rfl)⟩
theorem pw_o {rest : List Expr} {r1 r2 : Rho → Store → Res Bool} (ha : PT X a (TTv T X.K X.w E r1)) (hb : PW X (.BoolOp .Or (b :: rest) pos) (TTv T X.K X.w E r2)) :
    PW X (.BoolOp .Or (a :: b :: rest) pos) (TTv T X.K X.w E fun ρ S => (r1 ρ S).bind fun k S1 => if k = true then .ok true S1 else r2 ρ S1) :=
  (pw_or ha hb).imp fun σ H Q ⟨ι, ρ, S, R, f⟩ => ⟨ι, ρ, S, R, fin_seq R f fun ι1 S1 d v H1 _ st1 R1 a1 f1 => by
    cases (show d = v from a1)
    cases d with
    | true => exact iteT (f1 true ι1 H1 Step.refl R1.st rfl)
    | false => exact iteF ⟨ι1, ρ, S1, R1, f1⟩⟩
/-! ### chains -/
theorem pe_ch (hu : X.A.units + 200 < cLine) (o p : COp) (ha : PE X a (TEv T X.K X.w E ra)) (hb : PE X b (TEv T X.K X.w E rb)) (hc : PE X c (TEv T X.K X.w E rc)) (hm : lastMarks [cop o, cop p] [b, c] = false) :
    PE X (.Compare a [cop o, cop p] [b, c] pos) (TEv T X.K X.w E fun ρ S => (ra ρ S).bind fun x S1 => (rb ρ S1).bind fun y S2 => match evCmp o x y with | some true => (rc ρ S2).bind fun z S3 => liftB (evCmp p y z) S3 | some false => .ok (.bl false) S2 | none => .stuck) :=
  (pe_chain (op_cmp hu o) (op_cmp hu p) ha hb hc hm).imp fun σ H Q ⟨ι, ρ, S, R, f⟩ => ⟨ι, ρ, S, R, fin_seq R f fun ι1 S1 d1 x H1 _ st1 R1 a1 f1 => ⟨ι1, ρ, S1, R1, fin_seq R1 f1 fun ι2 S2 d2 y H2 _ st2 R2 a2 f2 => by
    cases e : evCmp o d1 d2 with
    | none => rw [e] at f2; exact f2.elim
    | some k =>
      rw [e] at f2
      refine two_of (T := T) (E := E) (g := fun x y S => liftB (evCmp o x y) S) R2.st (At.step st2 _ _ a1) a2 ?_
      simp only [e, liftB]
      intro v ι3 H3 st3 so3 hv
      refine ⟨k, hv, ?_⟩
      cases k with
      | true => exact iteT ⟨ι3, ρ, S2, R2.step st3 so3, fin_seq (R2.step st3 so3) (f2.later st3 so3.held) fun ι4 S4 d4 z H4 _ st4 R4 a4 f4 => two_of (g := fun x y S => liftB (evCmp p x y) S) R4.st (At.step st4 _ _ (At.step st3 _ _ a2)) a4 f4⟩
      | false => exact iteF (f2 _ ι3 H3 st3 so3 rfl)⟩⟩
theorem pt_ch (hu : X.A.units + 200 < cLine) (o p : COp) (ha : PE X a (TEv T X.K X.w E ra)) (hb : PE X b (TEv T X.K X.w E rb)) (hc : PE X c (TEv T X.K X.w E rc)) (hm : lastMarks [cop o, cop p] [b, c] = false) :
    PT X (.Compare a [cop o, cop p] [b, c] pos) (TTv T X.K X.w E fun ρ S => tst ((ra ρ S).bind fun x S1 => (rb ρ S1).bind fun y S2 => match evCmp o x y with | some true => (rc ρ S2).bind fun z S3 => liftB (evCmp p y z) S3 | some false => .ok (.bl false) S2 | none => .stuck)) :=
  (pt_chain (op_cmp hu o) (op_cmp hu p) ha hb hc hm).imp fun σ H Q ⟨ι, ρ, S, R, f⟩ => ⟨ι, ρ, S, R, by
    dsimp only at f
    rw [tst_bind] at f
    refine fin_seq R f fun ι1 S1 d1 x H1 _ st1 R1 a1 f1 => ⟨ι1, ρ, S1, R1, ?_⟩
    rw [tst_bind] at f1
    refine fin_seq R1 f1 fun ι2 S2 d2 y H2 _ st2 R2 a2 f2 => ?_
    cases e : evCmp o d1 d2 with
    | none => rw [e] at f2; exact f2.elim
    | some k =>
      rw [e] at f2
      refine two_of (T := T) (E := E) (g := fun x y S => liftB (evCmp o x y) S) R2.st (At.step st2 _ _ a1) a2 ?_
      simp only [e, liftB]
      intro v ι3 H3 st3 so3 hv
      refine ⟨k, hv, ?_⟩
      cases k with
      | true =>
        have f2' : Fin T X.K X.w E AtB ι2 (List.length S2) H2 ((rc ρ S2).bind fun z S3 => tst (liftB (evCmp p d2 z) S3)) Q := by
          rw [← tst_bind]; exact f2
        exact iteT ⟨ι3, ρ, S2, R2.step st3 so3, fin_seq (R2.step st3 so3) (f2'.later st3 so3.held) fun ι4 S4 d4 z H4 _ st4 R4 a4 f4 => two_of (g := fun x y S => liftB (evCmp p x y) S) R4.st (At.step st4 _ _ (At.step st3 _ _ a2)) a4 (fin_tst f4)⟩
      | false => exact iteF ⟨false, rfl, f2 _ ι3 H3 st3 so3 rfl⟩⟩
/-! ### displays -/
theorem pa_n (call : Nat → List D → Store → Res D) : PA X [] (TAv T X.K X.w E (evs call [])) := pa_nil.imp fun σ H Q ⟨ι, ρ, S, R, f⟩ => f [] ι H Step.refl R.st rfl
theorem pa_c {es : List Expr} {rs : Rho → Store → Res (List D)} (ha : PE X a (TEv T X.K X.w E ra)) (hr : PA X es (TAv T X.K X.w E rs)) (hs : starEach (a :: es) X.env = (false, eval a X.env) :: starEach es X.env) :
    PA X (a :: es) (TAv T X.K X.w E fun ρ S => (ra ρ S).bind fun x S1 => (rs ρ S1).bind fun xs S2 => .ok (x :: xs) S2) :=
  (pa_cons ha hr hs).imp fun σ H Q ⟨ι, ρ, S, R, f⟩ => ⟨ι, ρ, S, R, fin_seq R f fun ι1 S1 d1 x H1 _ st1 R1 a1 f1 => ⟨ι1, ρ, S1, R1, fin_seq R1 f1 fun ι2 S2 d2 xs H2 _ st2 R2 a2 f2 => f2 _ ι2 H2 Step.refl R2.st ⟨x, xs, rfl, At.step st2 _ _ a1, a2⟩⟩⟩
section
variable {es : List Expr} {rs : Rho → Store → Res (List D)}
theorem pe_t {k : Nat} (hz : ∀ ρ S xs S1, rs ρ S = .ok xs S1 → xs.length ≤ line) (h : PA X es (TAv T X.K X.w E rs)) : PE X (.Tuple es k pos) (TEv T X.K X.w E fun ρ S => (rs ρ S).bind fun xs S1 => .ok (.tup xs) S1) :=
  (pe_tup h).imp fun σ H Q ⟨ι, ρ, S, R, f⟩ => ⟨ι, ρ, S, R, fin_seq R f fun ι1 S1 ds vs H1 e1 st1 R1 a1 f1 => ⟨by rw [AtL.length a1]; exact hz _ _ _ _ e1, fun p hp =>
    f1 _ ι1 _ (Step.new hp) (R1.st.new hp) (atTup R1.st hp a1)⟩⟩
theorem mk_fin {K : PySem.W.Frag} {w : World} {m : Bool} {ι : Pl} {S : Store} {H : Hp} {ds : List D} {vs : List V} {Q : VK} {p : Addr} (so : SOk T K w ι S H) (l : AtL K w ι S.length H ds vs) (hp : H p = none)
    (f : Fin T K w E (AtD K w) ι S.length H (evMk m ds S) Q) : Q (.ref p) (upd H p (.lst vs)) := by
  cases m with
  | false => exact f _ ι _ (Step.new hp) (so.new hp) (atLst so hp l)
  | true =>
    have e : evMk true ds S = .ok (.ref S.length) (S ++ [.lst ds]) := rfl
    rw [e] at f
    have len : (S ++ [O.lst ds]).length = S.length + 1 := by simp
    refine f (.ref p) (ιp ι S.length p) (upd H p (.lst vs)) ?_ ?_ ?_
    · rw [len]; exact Step.take hp
    · exact so.take hp fun H' ι' st => ⟨vs, rfl, AtL.step st _ _ l⟩
    · rw [len]
      exact ⟨Nat.lt_succ_self _, by rw [ιp_eq]⟩
theorem pe_l (m : Bool) (hz : ∀ ρ S xs S1, rs ρ S = .ok xs S1 → xs.length ≤ line) (h : PA X es (TAv T X.K X.w E rs)) : PE X (.List es pos) (TEv T X.K X.w E fun ρ S => (rs ρ S).bind fun xs S1 => evMk m xs S1) :=
  (pe_lst h).imp fun σ H Q ⟨ι, ρ, S, R, f⟩ => ⟨ι, ρ, S, R, fin_seq R f fun ι1 S1 ds vs H1 e1 st1 R1 a1 f1 => ⟨by rw [AtL.length a1]; exact hz _ _ _ _ e1, fun p hp => mk_fin R1.st a1 hp f1⟩⟩
end
end
end Ev

set_option Elab.async false
set_option linter.all false
set_option maxRecDepth 100000
set_option maxHeartbeats 2000000
/-! EvSnd3: subscripts, slices, built-ins, methods, calls. -/
namespace Ev
open PySem PySem.Spec PyProof.Rows L2
section
variable {X : Cx} {T : XT} {E : XK} {e a b c : Expr} {ra rb rc : Rho → Store → Res D} {pos : Pos} {es : List Expr} {rs : Rho → Store → Res (List D)}

theorem ixN_eq (n : Nat) (i : Int) : Ev.ixN n i = L2.ixN n i := rfl
theorem atI_at {K : PySem.W.Frag} {w : World} {ι : Pl} {n : Nat} {H : Hp} {xs : List D} {vs : List V} {i : Int} {d : D} (l : AtL K w ι n H xs vs) (h : Ev.atI xs i = some d) : ∃ v, L2.atI vs i = some v ∧ At K w ι n H d v := by
  unfold Ev.atI at h
  unfold L2.atI
  rw [l.length, ← ixN_eq]
  cases q : Ev.ixN xs.length i with
  | none => rw [q] at h; cases h
  | some j =>
    rw [q] at h
    obtain ⟨v, h1, h2⟩ := l.get h
    exact ⟨v, h1, h2⟩
/-- x[y] by values -/
theorem ix_any (hu : X.A.units + 200 < cLine) : IxR X (Two X fun x y S => lift (evIx x y S) S) := by
  intro value slice pins s σ H x y v u Q I rx ry h hs
  obtain ⟨T, ι, S, a, b, so, ha, hb, E, f⟩ := h
  cases hr : evIx a b S with
  | none => simp only [hr] at f; exact f.elim
  | some d =>
  have fin : ∀ z, At X.K X.w ι S.length H d z → Q z H := fun z hz => by
    simp only [hr] at f
    exact f z ι H Step.refl so hz
  clear f
  unfold evIx at hr
  split at hr
  · obtain ⟨p, vs, e, h1, l⟩ := ha
    obtain ⟨z, q1, q2⟩ := atI_at l hr
    exact ix_tup value slice pins s σ H x y v u Q I rx ry ⟨p, vs, _, z, e, hb, sqT_of h1, q1, fin z q2⟩ hs
  · obtain ⟨p, vs, e, h1, _, l⟩ := ha
    obtain ⟨z, q1, q2⟩ := atI_at l hr
    exact ix_list value slice pins s σ H x y v u Q I rx ry ⟨p, vs, _, z, e, hb, SqL.of h1, q1, fin z q2⟩ hs
  · rename_i z i
    split at hr
    · rename_i hz
      split at hr
      · rename_i c hc
        cases hr
        refine ix_str value slice pins s σ H x y v u Q I rx ry ⟨toS z, i, c, ha.1, hb, ?_, ?_, fin _ ⟨rfl, ?_⟩⟩ hs
        · show z.toArray.size ≤ line
          simpa using hz
        · have e1 : (toS z).cps.toList = z := by simp [toS]
          rw [e1]
          unfold Ev.atI at hc
          unfold L2.atI
          rw [← ixN_eq]
          cases q : Ev.ixN z.length i with
          | none => rw [q] at hc; cases hc
          | some j => rw [q] at hc; exact hc
        · have o := ha.2
          unfold okS at o ⊢
          rw [List.all_eq_true] at o
          unfold Ev.atI at hc
          split at hc
          · have := o c (List.mem_of_getElem? hc)
            simpa using this
          · cases hc
      · cases hr
    · cases hr
  · rename_i n i
    split at hr
    · rename_i xs hx
      obtain ⟨hn, e⟩ := ha
      obtain ⟨o, h1, vs, e2, l⟩ := so.at_ _ _ hx
      obtain ⟨z, q1, q2⟩ := atI_at l hr
      exact ix_list value slice pins s σ H x y v u Q I rx ry ⟨_, vs, _, z, e, hb, SqL.of (by rw [h1, e2]), q1, fin z q2⟩ hs
    · cases hr
  · rename_i ks vs d' _
    split at hr
    · rename_i k ek
      obtain ⟨p, rfl, ha⟩ := ha
      have ey := keyOf_kV ek hb
      rcases ha with ⟨ws, hl, h1, _, h2⟩ | ⟨⟨es, m, KD⟩, hall, hne, hz⟩
      · have g := dic_get k hl h2
        rw [hr] at g
        obtain ⟨z, g, az⟩ := g
        cases rx
        subst ey
        have dg : DGet H p (kV (kk k)) (some z) := by rw [← g]; exact DGet.k h1
        exact tail_any (dict_typeIs I dg) slot_dict_getitem.lookup (d_getItem (by omega) I dg ry fun w' s3 I3 rw' => ⟨z, H, I3, rw', fin z az⟩) hs
      · obtain ⟨z, rfl, rfl⟩ := keyOf_s ek hall hne
        obtain ⟨r, e1, e2⟩ := hz z
        rw [hr] at e2
        obtain ⟨u', v', e2, rv, cv⟩ := e2
        exact ix_kdict value slice pins s σ H _ y v u Q I rx ry ⟨p, toS z, v', rfl, hb.1, ⟨es, m, u', KD.at_, KD.lit, by rw [e1, e2], rv⟩, fin v' cv.at⟩ hs
    · cases hr
  · cases hr
theorem pe_x (hu : X.A.units + 200 < cLine) (ha : PE X a (TEv T X.K X.w E ra)) (hb : PE X b (TEv T X.K X.w E rb)) (hs : PlainIx b) :
    PE X (.Subscript a b pos) (TEv T X.K X.w E fun ρ S => (ra ρ S).bind fun x S1 => (rb ρ S1).bind fun y S2 => lift (evIx x y S2) S2) :=
  (pe_ix (ix_any hu) ha hb hs).imp fun _ _ _ h => op2 (g := fun x y S => lift (evIx x y S) S) h
/-! ### slices -/
theorem sIx_eq (n d : Nat) (o : Option Int) : Ev.sIx n d o = HT.sIx n d o := by cases o <;> rfl
theorem cut_at {K : PySem.W.Frag} {w : World} {ι : Pl} {n : Nat} {H : Hp} {xs : List D} {vs : List V} {lo hi : Option Int} (l : AtL K w ι n H xs vs) : AtL K w ι n H (Ev.cut xs lo hi) (cutV vs lo hi) := by
  unfold Ev.cut cutV
  rw [l.length, sIx_eq, sIx_eq]
  exact (l.drop _).take _
/-- x[lo:hi] by values -/
def Sl3 (X : Cx) : V → Option Int → Option Int → Hp → VK → Prop := fun x lo hi H Q => ∃ T : XT, ∃ ι S a, SOk T X.K X.w ι S H ∧ At X.K X.w ι S.length H a x ∧
  ∃ (E : XK) (dl dh : D), part dl = some lo ∧ part dh = some hi ∧ Fin T X.K X.w E (AtD X.K X.w) ι S.length H (lift (evSl a dl dh) S) Q
theorem sl_any : SlR X (Sl3 X) := by
  intro pins s σ H x v vl vu lo hi sl Q I rx hsl pl pu h
  obtain ⟨T, ι, S, a, so, ha, E, dl, dh, e1, e2, f⟩ := h
  cases hr : evSl a dl dh with
  | none => simp only [hr] at f; exact f.elim
  | some d =>
  have fin : ∀ v ι' H', Step ι S.length H ι' S.length H' → SOk T X.K X.w ι' S H' → At X.K X.w ι' S.length H' d v → Q v H' := by
    simp only [hr] at f
    exact f
  clear f
  unfold evSl at hr
  rw [e1, e2] at hr
  simp only at hr
  split at hr
  · rename_i xs
    cases hr
    obtain ⟨p, vs, rfl, h1, l⟩ := ha
    refine sl_tupA pins s σ H _ v vl vu lo hi sl Q I rx hsl pl pu ⟨p, vs, rfl, sqT_of h1, fun hw => fin _ ι H Step.refl so ⟨p, vs, rfl, h1, ?_⟩, fun _ q hq => fin _ ι _ (Step.new hq) (so.new hq) (atTup so hq (cut_at l))⟩
    have : Ev.cut xs lo hi = xs := by
      unfold Ev.cut
      rw [sIx_eq, sIx_eq, ← l.length, hw.1, hw.2]
      simp [l.length]
    rw [this]
    exact l
  · rename_i xs
    cases hr
    obtain ⟨p, vs, rfl, h1, _, l⟩ := ha
    exact sl_list pins s σ H _ v vl vu lo hi sl Q I rx hsl pl pu ⟨p, vs, rfl, SqL.of h1, fun q hq => fin _ ι _ (Step.new hq) (so.new hq) (atLst so hq (cut_at l))⟩
  · rename_i z
    split at hr
    · rename_i hz
      cases hr
      refine sl_str pins s σ H x v vl vu lo hi sl Q I rx hsl pl pu ⟨toS z, ha.1, ?_, fin _ ι H Step.refl so ⟨?_, ?_⟩⟩
      · show z.toArray.size ≤ line
        simpa using hz
      · show V.str (cutS (toS z) lo hi) = V.str (toS (Ev.cut z lo hi))
        congr 1
      · have o := ha.2
        unfold okS at o ⊢
        rw [List.all_eq_true] at o ⊢
        intro c hc
        exact o c (List.mem_of_mem_drop (List.mem_of_mem_take hc))
    · cases hr
  · cases hr
def TPv (T : XT) (K : PySem.W.Frag) (w : World) (E : XK) (r : Rho → Store → Res D) : TO := fun σ H Q => ∃ ι ρ S, Rl T K w ι ρ S σ H ∧ Fin T K w E (fun ι n H d o => part d = some o) ι S.length H (r ρ S) Q
theorem po_n : PO X none (TPv T X.K X.w E fun _ S => .ok .non S) := ⟨fun pins s σ H Q I ⟨ι, ρ, S, R, f⟩ => po_none.run pins s σ H Q I (f none ι H Step.refl R.st rfl)⟩
theorem po_s (ha : PE X a (TEv T X.K X.w E ra)) : PO X (some a) (TPv T X.K X.w E fun ρ S => (ra ρ S).bind fun d S1 => match d with | .int i => .ok (.int i) S1 | _ => .stuck) :=
  ⟨fun pins s σ H Q I ⟨ι, ρ, S, R, f⟩ => (po_some ha).run pins s σ H Q I ⟨ι, ρ, S, R, fin_seq R f fun ι1 S1 d v H1 e1 st1 R1 a1 f1 => by
    split at f1
    · exact ⟨_, a1, f1 _ ι1 H1 Step.refl R1.st rfl⟩
    · exact f1.elim⟩⟩
theorem pe_sl {lo hi : Option Expr} {p2 : Pos} {rl rh : Rho → Store → Res D} (ha : PE X a (TEv T X.K X.w E ra)) (hl : PO X lo (TPv T X.K X.w E rl)) (hh : PO X hi (TPv T X.K X.w E rh)) :
    PE X (.Subscript a (.Slice lo hi none p2) pos) (TEv T X.K X.w E fun ρ S => (ra ρ S).bind fun x S1 => (rl ρ S1).bind fun l S2 => (rh ρ S2).bind fun h S3 => lift (evSl x l h) S3) :=
  (pe_slice sl_any ha hl hh).imp fun σ H Q ⟨ι, ρ, S, R, f⟩ => ⟨ι, ρ, S, R, fin_seq R f fun ι1 S1 d v H1 _ st1 R1 a1 f1 => ⟨ι1, ρ, S1, R1, fin_seq R1 f1 fun ι2 S2 dl l H2 _ st2 R2 a2 f2 => ⟨ι2, ρ, S2, R2, fin_seq R2 f2 fun ι3 S3 dh h H3 _ st3 R3 a3 f3 =>
    ⟨T, ι3, S3, d, R3.st, At.step st3 _ _ (At.step st2 _ _ a1), E, dl, dh, a2, a3, f3⟩⟩⟩⟩
/-! ### built-ins -/
def Many (X : Cx) (g : List D → Store → Res D) : List V → Hp → VK → Prop := fun vs H Q => ∃ T : XT, ∃ ι S ds, SOk T X.K X.w ι S H ∧ AtL X.K X.w ι S.length H ds vs ∧ ∃ (E : XK), Fin T X.K X.w E (AtD X.K X.w) ι S.length H (g ds S) Q
def biV : Bi → Value
  | .len => .builtin "len"
  | .abs => .builtin "abs"
  | .int => .type "int"
  | .list => .type "list"
  | .tuple => .type "tuple"
  | .sum => .builtin "sum"
  | .all => .builtin "all"
  | .any => .builtin "any"
  | .min => .builtin "min"
  | .max => .builtin "max"
theorem atInts {K : PySem.W.Frag} {w : World} {ι : Pl} {n : Nat} {H : Hp} : ∀ ns : List Int, AtL K w ι n H (ns.map D.int) (ns.map V.int)
  | [] => rfl
  | i :: r => ⟨.int i, _, rfl, rfl, atInts r⟩
theorem items_at {K : PySem.W.Frag} {w : World} {ι : Pl} {S : Store} {H : Hp} {d : D} {v : V} {xs : List D} (so : SOk T K w ι S H) (h : At K w ι S.length H d v) (e : itemsOf d S = some xs) :
    ∃ a vs, v = .ref a ∧ AtL K w ι S.length H xs vs ∧ ((SqL K H a vs ∧ ∀ ys, d ≠ .tup ys) ∨ ∃ _ : SqT K H a vs, d = .tup xs) := by
  unfold itemsOf at e
  split at e
  · cases e
    obtain ⟨a, vs, e, h1, l⟩ := h
    exact ⟨a, vs, e, l, .inr ⟨sqT_of h1, rfl⟩⟩
  · cases e
    obtain ⟨a, vs, e, h1, _, l⟩ := h
    exact ⟨a, vs, e, l, .inl ⟨SqL.of h1, fun _ q => nomatch q⟩⟩
  · cases e
    rename_i ns
    obtain ⟨a, e, h⟩ := h
    refine ⟨a, ns.map V.int, e, atInts ns, .inl ⟨?_, fun _ q => nomatch q⟩⟩
    rcases h with ⟨h, _⟩ | h
    · exact .inl h
    · exact .inr h
  · split at e
    · rename_i j ys hy
      cases e
      obtain ⟨hj, e⟩ := h
      obtain ⟨o, h1, vs, e2, l⟩ := so.at_ _ _ hy
      exact ⟨_, vs, e, l, .inl ⟨SqL.of (by rw [h1, e2]), fun _ q => nomatch q⟩⟩
    · cases e
  · cases e
theorem one_of {K : PySem.W.Frag} {w : World} {ι : Pl} {n : Nat} {H : Hp} {d : D} {vs : List V} (h : AtL K w ι n H [d] vs) : ∃ v, vs = [v] ∧ At K w ι n H d v := by
  obtain ⟨x, xs, rfl, h1, h2⟩ := h
  rw [show xs = [] from h2]
  exact ⟨x, rfl, h1⟩
theorem two_vs {K : PySem.W.Frag} {w : World} {ι : Pl} {n : Nat} {H : Hp} {d e : D} {vs : List V} (h : AtL K w ι n H [d, e] vs) : ∃ v u, vs = [v, u] ∧ At K w ι n H d v ∧ At K w ι n H e u := by
  obtain ⟨x, xs, rfl, h1, h2⟩ := h
  obtain ⟨y, rfl, h3⟩ := one_of h2
  exact ⟨x, y, rfl, h1, h3⟩
theorem call_bi (hc : X.calm = true) (b : Bi) : CallR X (biV b) (Many X fun ds S => lift (evBi b ds S) S) := by
  intro pins s σ H vs us Q I r h
  obtain ⟨T, ι, S, ds, so, l, E, f⟩ := h
  cases hr : evBi b ds S with
  | none => simp only [hr] at f; exact f.elim
  | some d =>
  have fin : ∀ v ι' H', Step ι S.length H ι' S.length H' → SOk T X.K X.w ι' S H' → At X.K X.w ι' S.length H' d v → Q v H' := by
    simp only [hr] at f
    exact f
  have scal : ∀ v, At X.K X.w ι S.length H d v → Q v H := fun v hv => fin v ι H Step.refl so hv
  clear f
  unfold evBi at hr
  split at hr
  · rename_i z
    split at hr
    · rename_i hz
      cases hr
      obtain ⟨v, rfl, hv⟩ := one_of l
      refine call_len pins s σ H _ us Q I r ⟨v, z.length, rfl, ?_, scal _ rfl⟩
      rw [hv.1]
      refine ⟨?_, ?_⟩
      · show z.toArray.size ≤ line
        simpa using hz
      · show z.length = z.toArray.size
        simp
    · cases hr
  · cases hr
  · obtain ⟨v, rfl, hv⟩ := one_of l
    cases hi : itemsOf _ S with
    | none => rw [hi] at hr; cases hr
    | some xs =>
      rw [hi] at hr; cases hr
      obtain ⟨a, ws, rfl, l2, h2⟩ := items_at so hv hi
      refine call_len pins s σ H _ us Q I r ⟨_, xs.length, rfl, ?_, scal _ rfl⟩
      rcases h2 with ⟨h2, _⟩ | ⟨h2, _⟩
      · exact .inl ⟨ws, h2, l2.length.symm⟩
      · exact .inr ⟨ws, h2, l2.length.symm⟩
  · cases hr
    obtain ⟨v, rfl, hv⟩ := one_of l
    exact call_abs pins s σ H _ us Q I r ⟨_, by rw [show v = .int _ from hv], scal _ rfl⟩
  · cases hr
    obtain ⟨v, rfl, hv⟩ := one_of l
    exact call_int1 pins s σ H _ us Q I r (.inl ⟨_, by rw [show v = .int _ from hv], scal _ rfl⟩)
  · cases hr
    obtain ⟨v, rfl, hv⟩ := one_of l
    rename_i k
    exact call_int1 pins s σ H _ us Q I r (.inr ⟨k, by rw [show v = .bl _ from hv], scal _ (by cases k <;> rfl)⟩)
  · obtain ⟨v, rfl, hv⟩ := one_of l
    cases hi : itemsOf _ S with
    | none => rw [hi] at hr; cases hr
    | some xs =>
      rw [hi] at hr; cases hr
      obtain ⟨a, ws, rfl, l2, h2⟩ := items_at so hv hi
      refine call_list_of pins s σ H _ us Q I r ⟨a, ws, rfl, ?_, fun p hp => fin _ ι _ (Step.new hp) (so.new hp) (atLst so hp l2)⟩
      rcases h2 with ⟨h2, _⟩ | ⟨h2, _⟩
      · exact .inl h2
      · exact .inr h2
  · obtain ⟨v, rfl, hv⟩ := one_of l
    cases hi : itemsOf _ S with
    | none => rw [hi] at hr; cases hr
    | some xs =>
      rw [hi] at hr; cases hr
      obtain ⟨a, ws, rfl, l2, h2⟩ := items_at so hv hi
      refine call_tuple_of pins s σ H _ us Q I r ⟨a, ws, rfl, ?_⟩
      rcases h2 with ⟨h2, _⟩ | ⟨h2, e2⟩
      · exact .inl ⟨h2, fun p hp => fin _ ι _ (Step.new hp) (so.new hp) (atTup so hp l2)⟩
      · refine .inr ⟨h2, scal _ ?_⟩
        rw [← e2]
        exact hv
  · obtain ⟨v, rfl, hv⟩ := one_of l
    cases hi : intsOf _ with
    | none => rw [hi] at hr; cases hr
    | some ns =>
      rw [hi] at hr; cases hr
      obtain ⟨a, ws, rfl, h1, _, l2⟩ := hv
      have := AtL.ofInts hi l2
      subst this
      exact cr_sum hc pins s σ H _ us Q I r ⟨a, ns, rfl, SqL.of h1, scal _ rfl⟩
  · obtain ⟨v, rfl, hv⟩ := one_of l
    cases hi : boolsOf _ with
    | none => rw [hi] at hr; cases hr
    | some ns =>
      rw [hi] at hr; cases hr
      obtain ⟨a, ws, rfl, h1, _, l2⟩ := hv
      have := AtL.ofBools hi l2
      subst this
      exact cr_all hc pins s σ H _ us Q I r ⟨a, ns, rfl, SqL.of h1, scal _ rfl⟩
  · obtain ⟨v, rfl, hv⟩ := one_of l
    cases hi : boolsOf _ with
    | none => rw [hi] at hr; cases hr
    | some ns =>
      rw [hi] at hr; cases hr
      obtain ⟨a, ws, rfl, h1, _, l2⟩ := hv
      have := AtL.ofBools hi l2
      subst this
      exact cr_any hc pins s σ H _ us Q I r ⟨a, ns, rfl, SqL.of h1, scal _ rfl⟩
  · cases hr
    obtain ⟨v, u, rfl, hv, hu⟩ := two_vs l
    exact call_min2 hc pins s σ H _ us Q I r ⟨_, _, by rw [show v = .int _ from hv, show u = .int _ from hu], scal _ rfl⟩
  · cases hr
    obtain ⟨v, u, rfl, hv, hu⟩ := two_vs l
    exact call_max2 hc pins s σ H _ us Q I r ⟨_, _, by rw [show v = .int _ from hv, show u = .int _ from hu], scal _ rfl⟩
  · cases hr
theorem opM {g : List D → Store → Res D} {σ : L2.St} {H : Hp} {Q : VK} (h : TEv T X.K X.w E (fun ρ S => (rs ρ S).bind fun xs S1 => g xs S1) σ H Q) : tCB (Many X g) (TAv T X.K X.w E rs) σ H Q := by
  obtain ⟨ι, ρ, S, R, f⟩ := h
  exact ⟨ι, ρ, S, R, fin_seq R f fun ι1 S1 ds vs H1 _ st1 R1 a1 f1 => ⟨T, ι1, S1, ds, R1.st, a1, E, f1⟩⟩
/-- a built-in, called by its name -/
theorem pe_bi {x : Str} {p : Pos} (hc : X.calm = true) (b : Bi) (hg : Gl X x) (hm : X.mg x = none) (hv : bootBuiltins x = some (biV b)) (ha : PA X (e :: es) (TAv T X.K X.w E rs)) (hn : x ≠ "__name__") (hdb : (x == ("__debug__" : Str)) = false)
    (he : starEach (e :: es) X.env = (false, eval e X.env) :: starEach es X.env) (hpl : (backTo pos (starEach es X.env)).any (·.1) = false) :
    PE X (.Call (.Name x p) (e :: es) [] pos) (TEv T X.K X.w E fun ρ S => (rs ρ S).bind fun xs S1 => lift (evBi b xs S1) S1) := by
  have h := call_bi hc b (X := X)
  cases b
  all_goals first
    | exact (pe_callB h hg hm hv ha hn hdb he hpl).imp fun _ _ _ q => opM (g := fun xs S => lift (evBi _ xs S) S) q
    | exact (pe_callTy h hg hm hv ha hn hdb he hpl).imp fun _ _ _ q => opM (g := fun xs S => lift (evBi _ xs S) S) q
/-! ### isinstance -/
def tyN : Ty → String
  | .int => "int"
  | .bool => "bool"
  | .str => "str"
  | .tuple => "tuple"
  | .list => "list"
  | .dict => "dict"
theorem isi_at {K : PySem.W.Frag} {w : World} {ι : Pl} {n : Nat} {H : Hp} {d : D} {v : V} {t : Ty} {r : Bool} (h : At K w ι n H d v) (e : isiD d t = some r) : ∃ a : String, TyX K H v (.type a) ∧ kitB a (tyN t) = some r := by
  unfold isiD at e
  split at e <;> first
    | (cases e; exact ⟨"NoneType", by rw [show v = .non from h]; exact .base .non, by cases t <;> decide +kernel⟩)
    | (cases e; exact ⟨"bool", by rw [show v = .bl _ from h]; exact .base (.bl _), by first | decide +kernel | (cases t <;> first | decide +kernel | contradiction)⟩)
    | (cases e; exact ⟨"int", by rw [show v = .int _ from h]; exact .base (.int _), by first | decide +kernel | (cases t <;> first | decide +kernel | contradiction)⟩)
    | (cases e; exact ⟨"str", by rw [h.1]; exact .base (.str _), by first | decide +kernel | (cases t <;> first | decide +kernel | contradiction)⟩)
    | (cases e; exact ⟨"tuple", by
        obtain ⟨a, vs, rfl, h1, _⟩ := h
        rcases h1 with ⟨h1, _⟩ | ⟨o, its, m, k, hc, _⟩
        · exact .base (.tup h1)
        · exact .kTuple k hc, by first | decide +kernel | (cases t <;> first | decide +kernel | contradiction)⟩)
    | (cases e; exact ⟨"list", by
        obtain ⟨a, vs, rfl, h1, _⟩ := h
        exact .base (.lst h1), by first | decide +kernel | (cases t <;> first | decide +kernel | contradiction)⟩)
    | (cases e; exact ⟨"dict", by
        obtain ⟨a, rfl, h⟩ := h
        rcases h with ⟨vs, _, h1, _, _⟩ | ⟨⟨es, m, KD⟩, _⟩
        · exact .base (.dK h1)
        · exact .kDict KD.at_ rfl, by first | decide +kernel | (cases t <;> first | decide +kernel | contradiction)⟩)
    | cases e
end
end Ev

set_option Elab.async false
set_option linter.all false
set_option maxRecDepth 100000
set_option maxHeartbeats 2000000
/-! EvSnd4: isinstance, methods, calls of the text's defs, dict displays. -/
namespace Ev
open PySem PySem.Spec PyProof.Rows L2
section
variable {X : Cx} {T : XT} {E : XK} {e a b c o : Expr} {ra rb rc ro : Rho → Store → Res D} {pos : Pos} {es : List Expr} {rs : Rho → Store → Res (List D)}
/-- isinstance(a, T), T a built-in type -/
theorem pe_isi {t : Ty} {x : Str} {p p2 : Pos} (hg : Gl X "isinstance") (hm : X.mg "isinstance" = none) (hg2 : Gl X x) (hm2 : X.mg x = none) (hv2 : bootBuiltins x = some (.type (tyN t))) (hn2 : x ≠ "__name__") (hd2 : (x == ("__debug__" : Str)) = false)
    (ha : PE X a (TEv T X.K X.w E ra)) (he : starEach [a, .Name x p2] X.env = (false, eval a X.env) :: starEach [.Name x p2] X.env) :
    PE X (.Call (.Name "isinstance" p) [a, .Name x p2] [] pos) (TEv T X.K X.w E fun ρ S => (ra ρ S).bind fun v S1 => liftB (isiD v t) S1) :=
  (pe_callB (call_isi (X := X)) hg hm PyProof.Rows.boot_isinstance (pa_cons ha (pa_cons (pe_bltn (v := .ty (tyN t)) hg2 hm2 hv2 rfl hn2 hd2) pa_nil rfl) he) (by decide) (by decide) he rfl).imp fun σ H Q ⟨ι, ρ, S, R, f⟩ =>
    ⟨ι, ρ, S, R, fin_seq R f fun ι1 S1 d v H1 _ st1 R1 a1 f1 => by
      cases e : isiD d t with
      | none => rw [e] at f1; exact f1.elim
      | some r =>
        rw [e] at f1
        obtain ⟨n, h1, h2⟩ := isi_at a1 e
        exact ⟨v, .ty (tyN t), .type n, .type (tyN t), r, rfl, .ty _, h1, kit_ty h2, f1 _ ι1 H1 Step.refl R1.st rfl⟩⟩
/-! ### methods -/
/-- o.m(e, ..), the receiver's type seen at the run -/
theorem pe_bmD {name : Str} {apos cpos : Pos} {to : TE} {t : TA} (ho : PE X o to) (ha : PA X (e :: es) t)
    (hbase : attributeBase o name X.env (eval o X.env) = eval o X.env)
    (hfew : ((backTo cpos (starEach (e :: es) X.env)).all (fun x => !x.1) && (backToKw cpos (keywordEach [] X.env)).all (fun x => x.1.isSome)
      && decide ((e :: es).length + ([] : List Keyword).length + (if ([] : List Keyword).isEmpty then 0 else 1) < 30)) = true)
    (hline : (apos.endLine == cpos.line) = true) (hs : starEach (e :: es) X.env = (false, eval e X.env) :: starEach es X.env) (hplain : (backTo cpos (starEach es X.env)).any (·.1) = false) :
    PE X (.Call (.Attribute o name apos) (e :: es) [] cpos) (fun σ H Q => to σ H fun x H1 => ∃ (ty id : String) (r : V → List V → Hp → VK → Prop), PlainAttrs ty ∧ Slot ty name id ∧ typeOf (.builtin id) = pure (.type "method_descriptor") ∧
      (∀ (pins : List (Addr × Obj)) (s : Shared) (σ : L2.St) (v : Value), L2.Inv X pins σ H1 s → RelV x v → s.TypeIs v ty ∧ ∀ a, v = .ref a → ∃ ob, s.heap.get? a = some ob ∧ ob.dict = none) ∧ MtR X id r ∧ t σ H1 fun xs H2 => r x xs H2 Q) := by
  refine ⟨fun pins s σ H Q I h => ?_⟩
  refine wpAny_Call_method_late hbase hfew hline rfl (thn (ho.run pins s σ H _ I h) fun v s1 ⟨x, H1, I1, r1, ty, id, r, pa, slot, hty, hT, hm, q1⟩ => ?_)
  obtain ⟨h1, h2⟩ := hT pins s1 σ v I1 r1
  refine ⟨ty, id, pa, slot, hty, h1, h2, ?_⟩
  have hA := ha.run cpos pins s1 σ H1 _ I1 q1
  rw [hs] at hA ⊢
  refine Calls.callWith_builtin (by show (false || (backTo cpos (starEach es X.env)).any (·.1)) = false; rw [hplain] <;> rfl) (Calls.evalArgs_plain ?_)
  exact thn hA fun us s2 ⟨vs, H2, I2, r2, q2⟩ => hm pins s2 σ H2 x vs v us Q I2 r1 r2 q2
/-- what a method of such a receiver does -/
def MtQ (X : Cx) (m : Mt) : V → List V → Hp → VK → Prop := fun x xs H Q => ∃ T : XT, ∃ ι S d ds, SOk T X.K X.w ι S H ∧ At X.K X.w ι S.length H d x ∧ AtL X.K X.w ι S.length H ds xs ∧ ∃ (E : XK), Fin T X.K X.w E (AtD X.K X.w) ι S.length H (evMt m d ds S) Q
theorem mt_app : MtR X "list.append" (MtQ X .append) := by
  intro pins s σ H x xs v us Q I rx rs h
  obtain ⟨T, ι, S, d, ds, so, hd, l, E, f⟩ := h
  replace f : Fin T X.K X.w E (AtD X.K X.w) ι S.length H (evApp d ds S) Q := f
  unfold evApp at f
  split at f
  · rename_i n y
    split at f
    · rename_i zs hz
      split at f
      · rename_i hlen
        obtain ⟨hn, rfl⟩ := hd
        obtain ⟨u, rfl, hu⟩ := one_of l
        obtain ⟨ob, h1, vs, e2, l2⟩ := so.at_ _ _ hz
        rw [e2] at h1
        refine mt_append pins s σ H _ _ v us Q I rx rs ⟨ι n, vs, u, rfl, rfl, h1, by rw [l2.length]; exact hlen, ?_⟩
        have st : Step ι S.length H ι S.length (upd H (ι n) (.lst (vs ++ [u]))) := Step.put hn
        have so' : SOk T X.K X.w ι (S.set n (.lst (zs ++ [y]))) (upd H (ι n) (.lst (vs ++ [u]))) := so.put hn ⟨vs ++ [u], rfl, AtL.step st _ _ (l2.append ⟨u, [], rfl, hu, rfl⟩)⟩
        exact f .non ι _ (by rw [List.length_set]; exact st) so' rfl
      · exact False.elim f
    · exact False.elim f
  · exact False.elim f
theorem findIx_ok {d : D} (hd : isData d = true) : ∀ {xs : List D} {j : Nat}, areData xs = true → findIx d xs = some j →
    ∃ z, (pyL xs)[j]? = some z ∧ PyData.eqv z (py d) = true ∧ ∀ (m : Nat) (z' : PyData), m < j → (pyL xs)[m]? = some z' → PyData.eqv z' (py d) = false
  | [], _, _, e => by simp [findIx] at e
  | x :: xs, j, hx, e => by
    simp only [areData, Bool.and_eq_true] at hx
    unfold findIx at e
    by_cases q : eqD x d = true
    · rw [if_pos q] at e
      cases e
      exact ⟨py x, by simp [pyL], by rw [eqv_py x d hx.1 hd]; exact q, fun m z' h => absurd h (Nat.not_lt_zero _)⟩
    · rw [if_neg q] at e
      cases r : findIx d xs with
      | none => rw [r] at e; cases e
      | some i =>
        rw [r] at e
        cases e
        obtain ⟨z, h1, h2, h3⟩ := findIx_ok hd hx.2 r
        refine ⟨z, by simpa [pyL] using h1, h2, fun m z' hm hz => ?_⟩
        cases m with
        | zero =>
          simp [pyL] at hz
          subst hz
          rw [eqv_py x d hx.1 hd]
          simpa using q
        | succ m => exact h3 m z' (Nat.lt_of_succ_lt_succ hm) (by simpa [pyL] using hz)
theorem mt_idx (hu : X.A.units + 200 < cLine) : MtR X "list.index" (MtQ X .index) := by
  intro pins s σ H x xs v us Q I rx rs h
  obtain ⟨T, ι, S, d, ds, so, hd, l, E, f⟩ := h
  replace f : Fin T X.K X.w E (AtD X.K X.w) ι S.length H (evIdxL d ds S) Q := f
  unfold evIdxL at f
  split at f
  · rename_i ys y
    unfold evIdx at f
    split at f
    · rename_i ok
      simp only [Bool.and_eq_true, decide_eq_true_eq] at ok
      obtain ⟨⟨o1, o2⟩, o3⟩ := ok
      cases e : findIx y ys with
      | none => rw [e] at f; exact False.elim f
      | some j =>
        rw [e] at f
        obtain ⟨z, h1, h2, h3⟩ := findIx_ok o1 o2 e
        obtain ⟨u, rfl, hu'⟩ := one_of l
        obtain ⟨p1, c1⟩ := At.dp _ u hu' o1
        obtain ⟨p2, c2⟩ := At.dp (.lst ys) x hd (by simpa [isData] using o2)
        obtain ⟨a, vs, rfl, _⟩ := hd
        have room : X.A.units + 1 + min (PyData.depthAll (pyL ys)) (py y).depth < cLine := by
          have r1 := dep_py y
          have r2 := depL_py ys
          unfold deepest at o3
          omega
        obtain ⟨uy, rfl, ry⟩ := vals1 rs
        obtain ⟨bs, r1⟩ := Dp.reads I _ u _ p1 ry
        simp only [py, PyData.canLay0] at p2 c2
        cases rx
        cases p2 with
        | lst hs ha =>
          obtain ⟨its, rv, ⟨⟨cls, dd, data, sls⟩, n, ho, hc, hdn, hdt⟩, hlen⟩ := I.list hs
          simp only at hc hdt
          subst hc hdt
          obtain ⟨as, h4⟩ := Dp.readsAll I _ _ its ha rv
          have hn : its.length = (pyL ys).length := SeqAt.ReadsAll.length _ its as h4
          have hmap : its.map (SeqAt.readOf s.heap) = pyL ys := SeqAt.readsAll_map _ its as c2 h4
          have hvl := rv.length
          have hsl := sizeLine_eq
          obtain ⟨hjd, _⟩ := List.getElem?_eq_some_iff.mp h1
          have hjl : j < its.length := by omega
          have hj : j < its.toArray.size := by simpa using hjl
          have at_ : ∀ (m : Nat) (hm : m < its.toArray.size) (z' : PyData), (pyL ys)[m]? = some z' → SeqAt.readOf s.heap its.toArray[m] = z' := by
            intro m hm z' hz'
            have hml : m < its.length := by simpa using hm
            rw [← hmap, List.getElem?_map, List.getElem?_eq_getElem hml] at hz'
            have e1 : SeqAt.readOf s.heap its[m] = z' := Option.some.inj (show some (SeqAt.readOf s.heap its[m]) = some z' from hz')
            simpa using e1
          refine call_meets PySem.F.slot_list_index ⟨_, ho, rfl⟩ PySem.F.entry_list_index (PySem.F.args_list_index_2 _ _)
            (SeqAt.list_indexAt a its.toArray n dd sls _ (fun u => PyData.eqv (SeqAt.readOf s.heap u) (py y)) j hj (by omega) ?_ ?_) ⟨ho, SeqAt.items_eqAt (vs := its.toArray) (show ReadsAll s.heap its.toArray.toList (pyL ys) as from h4) r1 c2 c1 room, ?_⟩
          · show PyData.eqv (SeqAt.readOf s.heap its.toArray[j]) (py y) = true
            rw [at_ j hj z h1]
            exact h2
          · intro m hm hmj
            have hmd : m < (pyL ys).length := by omega
            have hz' : (pyL ys)[m]? = some (pyL ys)[m] := List.getElem?_eq_getElem hmd
            show PyData.eqv (SeqAt.readOf s.heap its.toArray[m]) (py y) = false
            rw [at_ m hm _ hz']
            exact h3 m _ hmj hz'
          · exact ⟨.int (j : Nat), H, I.tok _, ⟨_, rfl⟩, f _ ι H Step.refl so rfl⟩
    · exact False.elim f
  · exact False.elim f
theorem vals3 {x y : V} {us : List Value} (r : Vals [x, y] us) : ∃ u w', us = [u, w'] ∧ RelV x u ∧ RelV y w' := vals2 r
theorem mt_get (hu : X.A.units + 200 < cLine) : MtR X "dict.get" (MtQ X .get) := by
  intro pins s σ H x xs v us Q I rx rs h
  obtain ⟨T, ι, S, d, ds, so, hd, l, E, f⟩ := h
  replace f : Fin T X.K X.w E (AtD X.K X.w) ι S.length H (evGet d ds S) Q := f
  unfold evGet at f
  split at f
  · rename_i ks dvs k dd
    cases ek : keyOf ks k with
    | none => rw [ek] at f; exact False.elim f
    | some key =>
      rw [ek] at f
      dsimp only at f
      obtain ⟨y, z, rfl, hy, hz⟩ := two_vs l
      obtain ⟨uy, uz, rfl, ry, rz⟩ := vals2 rs
      have ey := keyOf_kV ek hy
      obtain ⟨p, rfl, hd⟩ := hd
      cases rx
      rcases hd with ⟨ws, hl, h1, _, h2⟩ | ⟨⟨es, m, KD⟩, hall, hne, hq⟩
      · have g := dic_get key hl h2
        subst ey
        refine d_get2 (by omega) I (DGet.k h1) ry rz fun w' s' I' rw' => ⟨_, H, I', rw', f _ ι H Step.refl so ?_⟩
        cases e : dget key ks dvs with
        | none => rw [e] at g; rw [g]; exact hz
        | some dv => rw [e] at g; obtain ⟨v, g, hv⟩ := g; rw [g]; exact hv
      · obtain ⟨zs, rfl, rfl⟩ := keyOf_s ek hall hne
        obtain ⟨r, e1, e2⟩ := hq zs
        have hm := PySem.W.mapOf_K (prog := X.prog) (w := X.w) I.kIn KD.at_ KD.lit
        obtain ⟨t, rfl⟩ : ∃ t, uy = Value.str (toS zs) t := by rw [hy.1] at ry; exact ry
        have hf := PySem.W.find_K KD.at_ e1
        refine call_meetsIn PySem.F.slot_dict_get hm.typeIs PySem.F.entry_dict_get (PySem.F.args_dict_get_3 _ _ _) (meets_dict_get_default (strKind X.prog X.w) p (strKind_is X.prog X.w (toS zs) t) KD.low uz) ⟨_, hm, ?_⟩
        rw [hf]
        cases e : dget (.s zs) ks dvs with
        | none =>
          rw [e] at e2 f
          rw [e2]
          exact ⟨_, H, I.tok _, rz, f _ ι H Step.refl so hz⟩
        | some dv =>
          rw [e] at e2 f
          obtain ⟨u', v', e2, rv, cv⟩ := e2
          rw [e2]
          exact ⟨v', H, I.tok _, rv, f _ ι H Step.refl so cv.at⟩
  · rename_i ks dvs k
    cases ek : keyOf ks k with
    | none => rw [ek] at f; exact False.elim f
    | some key =>
      rw [ek] at f
      dsimp only at f
      obtain ⟨y, rfl, hy⟩ := one_of l
      obtain ⟨uy, rfl, ry⟩ := vals1 rs
      have ey := keyOf_kV ek hy
      obtain ⟨p, rfl, hd⟩ := hd
      cases rx
      rcases hd with ⟨ws, hl, h1, _, h2⟩ | ⟨⟨es, m, KD⟩, hall, hne, hq⟩
      · have g := dic_get key hl h2
        subst ey
        refine d_get1 (by omega) I (DGet.k h1) ry fun w' s' I' rw' => ⟨_, H, I', rw', f _ ι H Step.refl so ?_⟩
        cases e : dget key ks dvs with
        | none => rw [e] at g; rw [g]; exact rfl
        | some dv => rw [e] at g; obtain ⟨v, g, hv⟩ := g; rw [g]; exact hv
      · obtain ⟨zs, rfl, rfl⟩ := keyOf_s ek hall hne
        obtain ⟨r, e1, e2⟩ := hq zs
        have hm := PySem.W.mapOf_K (prog := X.prog) (w := X.w) I.kIn KD.at_ KD.lit
        obtain ⟨t, rfl⟩ : ∃ t, uy = Value.str (toS zs) t := by rw [hy.1] at ry; exact ry
        have hf := PySem.W.find_K KD.at_ e1
        refine call_meetsIn PySem.F.slot_dict_get hm.typeIs PySem.F.entry_dict_get (PySem.F.args_dict_get_2 _ _) (meets_dict_get (strKind X.prog X.w) p (strKind_is X.prog X.w (toS zs) t) KD.low) ⟨_, hm, ?_⟩
        rw [hf]
        cases e : dget (.s zs) ks dvs with
        | none =>
          rw [e] at e2 f
          rw [e2]
          exact ⟨.non, H, I.tok _, rfl, f _ ι H Step.refl so rfl⟩
        | some dv =>
          rw [e] at e2 f
          obtain ⟨u', v', e2, rv, cv⟩ := e2
          rw [e2]
          exact ⟨v', H, I.tok _, rv, f _ ι H Step.refl so cv.at⟩
  · exact False.elim f
def mtN : Mt → Str
  | .append => "append"
  | .get => "get"
  | .index => "index"
/-- a list's object has no dict -/
theorem lst_is {H : Hp} {p : Addr} {vs : List V} (h : SqL X.K H p vs) : ∀ (pins : List (Addr × Obj)) (s : Shared) (σ : L2.St) (v : Value), L2.Inv X pins σ H s → RelV (.ref p) v → s.TypeIs v "list" ∧ ∀ a, v = .ref a → ∃ ob, s.heap.get? a = some ob ∧ ob.dict = none :=
  fun pins s σ v I r => tyV_is I r (.inl ⟨rfl, vs, h⟩)
theorem pe_m (hu : X.A.units + 200 < cLine) (m : Mt) {apos cpos : Pos} (ho : PE X o (TEv T X.K X.w E ro)) (ha : PA X (e :: es) (TAv T X.K X.w E rs))
    (hbase : attributeBase o (mtN m) X.env (eval o X.env) = eval o X.env)
    (hfew : ((backTo cpos (starEach (e :: es) X.env)).all (fun x => !x.1) && (backToKw cpos (keywordEach [] X.env)).all (fun x => x.1.isSome)
      && decide ((e :: es).length + ([] : List Keyword).length + (if ([] : List Keyword).isEmpty then 0 else 1) < 30)) = true)
    (hline : (apos.endLine == cpos.line) = true) (hs : starEach (e :: es) X.env = (false, eval e X.env) :: starEach es X.env) (hplain : (backTo cpos (starEach es X.env)).any (·.1) = false) :
    PE X (.Call (.Attribute o (mtN m) apos) (e :: es) [] cpos) (TEv T X.K X.w E fun ρ S => (ro ρ S).bind fun x S1 => if rcv m x S1 = true then (rs ρ S1).bind fun xs S2 => evMt m x xs S2 else .stuck) :=
  (pe_bmD ho ha hbase hfew hline hs hplain).imp fun σ H Q ⟨ι, ρ, S, R, f⟩ => ⟨ι, ρ, S, R, fin_seq R f fun ι1 S1 d x H1 _ st1 R1 a1 f1 => by
    by_cases hr : rcv m d S1 = true
    · rw [if_pos hr] at f1
      have rest : TAv T X.K X.w E rs σ H1 fun xs H2 => MtQ X m x xs H2 Q := ⟨ι1, ρ, S1, R1, fin_seq R1 f1 fun ι2 S2 ds xs H2 _ st2 R2 a2 f2 => ⟨T, ι2, S2, d, ds, R2.st, At.step st2 _ _ a1, a2, E, f2⟩⟩
      unfold rcv at hr
      split at hr
      · rename_i n _
        split at hr
        · rename_i zs hz
          obtain ⟨hn, rfl⟩ := a1
          obtain ⟨ob, h1, vs, e2, _⟩ := R1.st.at_ _ _ hz
          exact ⟨"list", "list.append", _, PySem.F.plainAttrs_list, PySem.F.slot_list_append, PySem.F.type_list_append, lst_is (SqL.of (by rw [h1, e2])), mt_app, rest⟩
        · cases hr
      · obtain ⟨p, rfl, hd⟩ := a1
        refine ⟨"dict", "dict.get", _, PySem.F.plainAttrs_dict, PySem.F.slot_dict_get, PySem.F.type_dict_get, fun pins s σ v I r => ?_, mt_get hu, rest⟩
        rcases hd with ⟨ws, hl, h1, _, h2⟩ | ⟨⟨es, m, KD⟩, _⟩
        · exact tyV_is I r (.inr (.inr (.inl ⟨rfl, .inl ⟨_, h1⟩⟩)))
        · cases r
          exact ⟨⟨_, I.kIn _ _ KD.at_, rfl⟩, fun a e => by cases e; exact ⟨_, I.kIn _ _ KD.at_, rfl⟩⟩
      · obtain ⟨p, vs, rfl, h1, _⟩ := a1
        exact ⟨"list", "list.index", _, PySem.F.plainAttrs_list, PySem.F.slot_list_index, PySem.F.type_list_index, lst_is (SqL.of h1), mt_idx hu, rest⟩
      · cases hr
    · rw [if_neg hr] at f1
      exact False.elim f1⟩
/-! ### a call of a def of the text -/
/-- what a def promises: what the evaluator reads -/
def spF (T : XT) (K : PySem.W.Frag) (w : World) (ar : Nat) (r : List D → Store → Res D) : Sp := fun vs H Q E => vs.length = ar ∧ ∃ ι S ds, SOk T K w ι S H ∧ AtL K w ι S.length H ds vs ∧ Fin T K w E (AtD K w) ι S.length H (r ds S) Q
theorem fin_ar {K : PySem.W.Frag} {w : World} {ι : Pl} {n : Nat} {H : Hp} {Q : VK} {ar : Nat} {r : List D → Store → Res D} {ds : List D} {S : Store} (har : ∀ ds S, ds.length ≠ ar → r ds S = .stuck) (f : Fin T K w E (AtD K w) ι n H (r ds S) Q) : ds.length = ar := by
  by_cases h : ds.length = ar
  · exact h
  · rw [har _ _ h] at f
    exact False.elim f
section
variable {CX : CXT} {k ar : Nat} {f : Addr} {fd : FuncData} {ps : List Str} {x : Str} {p : Pos} {r : List D → Store → Res D}
theorem pe_f (F : FnOk X.prog X.w X.K X.mg X.base CX k f fd ps (spF T X.K X.w ar r)) (har : ∀ ds S, ds.length ≠ ar → r ds S = .stuck) (hr : Room k X.A) (hg : Gl X x) (hm : X.mg x = some (.ref f)) (hk : PySem.W.keepIn X.K (.ref f) = true) (hb : Binds X.K fd ps [])
    (hx : Passes CX X E) (ha : PA X (e :: es) (TAv T X.K X.w E rs)) (hdb : (x == ("__debug__" : Str)) = false) (he : starEach (e :: es) X.env = (false, eval e X.env) :: starEach es X.env) (hpl : (backTo pos (starEach es X.env)).any (·.1) = false) :
    PE X (.Call (.Name x p) (e :: es) [] pos) (TEv T X.K X.w E fun ρ S => (rs ρ S).bind fun xs S1 => r xs S1) :=
  (pe_call F hr hg hm hk hb .nil hx ha hdb he hpl).imp fun σ H Q ⟨ι, ρ, S, R, f⟩ => ⟨ι, ρ, S, R, fin_seq R f fun ι1 S1 ds vs H1 _ st1 R1 a1 f1 => by
    refine ⟨?_, ι1, S1, ds, R1.st, ?_, f1⟩
    · rw [List.append_nil, a1.length]
      exact fin_ar har f1
    · rw [List.append_nil]
      exact a1⟩
theorem pe_f0 (F : FnOk X.prog X.w X.K X.mg X.base CX k f fd ps (spF T X.K X.w ar r)) (har : ∀ ds S, ds.length ≠ ar → r ds S = .stuck) (hr : Room k X.A) (hg : Gl X x) (hm : X.mg x = some (.ref f)) (hk : PySem.W.keepIn X.K (.ref f) = true) (hb : Binds X.K fd ps [])
    (hx : Passes CX X E) (hdb : (x == ("__debug__" : Str)) = false) :
    PE X (.Call (.Name x p) [] [] pos) (TEv T X.K X.w E fun ρ S => r [] S) :=
  (pe_call0 F hr hg hm hk hb .nil hx hdb).imp fun σ H Q ⟨ι, ρ, S, R, f⟩ => by
    refine ⟨?_, ι, S, [], R.st, rfl, f⟩
    have := fin_ar har f
    exact this
end
/-! ### a written tuple of texts: its index -/
theorem findS_ok {z : List Nat} : ∀ {xs : List (List Nat)} {j : Nat}, findS z xs = some j → (xs.map toS)[j]? = some (toS z) ∧ ∀ m, m < j → (xs.map toS)[m]? ≠ some (toS z)
  | [], _, e => by simp [findS] at e
  | x :: xs, j, e => by
    unfold findS at e
    by_cases q : x = z
    · rw [if_pos q] at e
      cases e
      subst q
      exact ⟨by simp, fun m h => absurd h (Nat.not_lt_zero _)⟩
    · rw [if_neg q] at e
      cases r : findS z xs with
      | none => rw [r] at e; cases e
      | some i =>
        rw [r] at e
        cases e
        obtain ⟨h1, h2⟩ := findS_ok r
        refine ⟨by simpa using h1, fun m hm => ?_⟩
        cases m with
        | zero =>
          simp only [List.map_cons, List.getElem?_cons_zero]
          intro h
          apply q
          simpa [toS] using h
        | succ m => simpa using h2 m (Nat.lt_of_succ_lt_succ hm)
def strsOf : List D → Option (List (List Nat))
  | [] => some []
  | .str s :: r => (strsOf r).map (s :: ·)
  | _ => none
theorem AtL.ofStrs {K : PySem.W.Frag} {w : World} {ι : Pl} {n : Nat} {H : Hp} : ∀ {ds : List D} {zs : List (List Nat)} {vs : List V}, strsOf ds = some zs → AtL K w ι n H ds vs → vs = zs.map fun z => V.str (toS z)
  | [], zs, vs, e, h => by
    simp [strsOf] at e; subst e
    exact h
  | d :: r, zs, vs, e, h => by
    obtain ⟨x, xs, rfl, h1, h2⟩ := h
    cases d <;> simp only [strsOf] at e <;> first | (cases e; done) | skip
    rename_i s
    cases q : strsOf r with
    | none => rw [q] at e; cases e
    | some ms =>
      rw [q] at e; cases e
      rw [AtL.ofStrs q h2, h1.1]; rfl
theorem pe_idxc {xs : List (List Nat)} {to : V} {apos cpos : Pos} (ho : PE X o (tC to)) (hK : ∃ (p : Addr) (ob : Obj) (its : Array Value) (n : Nat), to = .ref p ∧ X.K.lookup p = some ob ∧ ob.cls = .type "tuple" ∧ ob.dict = none ∧ ob.data = .seq its n ∧ its.size ≤ sizeLine ∧ Vals (xs.map fun z => V.str (toS z)) its.toList)
    (ha : PA X [a] (TAv T X.K X.w E fun ρ S => (ra ρ S).bind fun d S1 => .ok [d] S1))
    (hbase : attributeBase o "index" X.env (eval o X.env) = eval o X.env)
    (hfew : ((backTo cpos (starEach [a] X.env)).all (fun x => !x.1) && (backToKw cpos (keywordEach [] X.env)).all (fun x => x.1.isSome)
      && decide (([a] : List Expr).length + ([] : List Keyword).length + (if ([] : List Keyword).isEmpty then 0 else 1) < 30)) = true)
    (hline : (apos.endLine == cpos.line) = true) (hs : starEach [a] X.env = (false, eval a X.env) :: starEach [] X.env) :
    PE X (.Call (.Attribute o "index" apos) [a] [] cpos) (TEv T X.K X.w E fun ρ S => (ra ρ S).bind fun d S1 => lift (evIdxS d xs) S1) :=
  (pe_bmD ho ha hbase hfew hline hs rfl).imp fun σ H Q ⟨ι, ρ, S, R, f⟩ => by
    obtain ⟨p, ob, its, n, rfl, h1, h2, h3, h4, h5, h6⟩ := hK
    refine ⟨"tuple", "tuple.index", _, PySem.F.plainAttrs_tuple, PySem.F.slot_tuple_index, PySem.F.type_tuple_index, fun pins s σ v I r => tyV_is I r (.inr (.inl ⟨rfl, ob, h1, h2, h3⟩)), mt_tup_index, ι, ρ, S, R, ?_⟩
    have f' : Fin T X.K X.w E (AtD X.K X.w) ι S.length H (((ra ρ S).bind fun d S1 => Res.ok [d] S1).bind fun ds S1 => match ds with | [d] => lift (evIdxS d xs) S1 | _ => .stuck) Q := by
      have e : (((ra ρ S).bind fun d S1 => Res.ok [d] S1).bind fun ds S1 => match ds with | [d] => lift (evIdxS d xs) S1 | _ => .stuck) = (ra ρ S).bind fun d S1 => lift (evIdxS d xs) S1 := by
        cases ra ρ S <;> rfl
      rw [e]; exact f
    refine fin_seq R f' fun ι1 S1 ds vs H1 _ st1 R1 a1 f1 => ?_
    split at f1
    · rename_i d
      obtain ⟨v, rfl, hv⟩ := one_of a1
      unfold evIdxS at f1
      split at f1
      · rename_i z
        cases e : findS z xs with
        | none => rw [e] at f1; exact False.elim f1
        | some j =>
          rw [e] at f1
          obtain ⟨q1, q2⟩ := findS_ok e
          refine ⟨p, xs.map toS, toS z, j, rfl, by rw [hv.1], .inr ⟨ob, its, n, h1, h2, h4, h5, ?_⟩, q1, q2, f1 _ ι1 H1 Step.refl R1.st rfl⟩
          rw [List.map_map]
          exact h6
      · exact False.elim f1
    · exact False.elim f1
end
end Ev

set_option Elab.async false
set_option linter.all false
set_option maxRecDepth 100000
set_option maxHeartbeats 2000000
/-! EvSnd5: what is walked, comprehensions, dict displays. -/
namespace Ev
open PySem PySem.Spec PyProof.Rows L2

/-- J walks these -/
structure Wk (J : It) (K : PySem.W.Frag) (w : World) (ι : Pl) (n : Nat) (H : Hp) (xs : List D) : Prop where
  len : xs.length ≤ line
  go : ∀ i ι' S' H', i < xs.length → Step ι n H ι' S'.length H' → SOk T K w ι' S' H' → J.go i H'
  yld : ∀ i ι' S' H' x H'', i < xs.length → Step ι n H ι' S'.length H' → SOk T K w ι' S' H' → J.yld i H' x H'' → ∃ d, xs[i]? = some d ∧ Step ι' S'.length H' ι' S'.length H'' ∧ SOk T K w ι' S' H'' ∧ At K w ι' S'.length H'' d x
  stop : ∀ i ι' S' H', xs.length ≤ i → Step ι n H ι' S'.length H' → SOk T K w ι' S' H' → J.stop i H'
abbrev WkA (K : PySem.W.Frag) (w : World) : Pl → Nat → Hp → List D → It → Prop := fun ι n H xs J => Wk J K w ι n H xs
def TIv (T : XT) (K : PySem.W.Frag) (w : World) (E : XK) (r : Rho → Store → Res (List D)) : TI := fun σ H R => ∃ ι ρ S, Rl T K w ι ρ S σ H ∧ Fin T K w E (WkA K w) ι S.length H (r ρ S) R
section
variable {T : XT} {K : PySem.W.Frag} {w : World} {ι : Pl} {n : Nat} {H : Hp} {xs : List D} {vs : List V}
theorem sqL_inj {X : Cx} {pins : List (Addr × Obj)} {s : Shared} {σ : L2.St} {a : Addr} {ys zs : List V} (I : L2.Inv X pins σ H s) (h : SqL X.K H a ys) (h' : SqL X.K H a zs) : ys = zs := I.list_inj h h'
/-- a tracked list that is data -/
theorem wk_lst {a : Addr} (hl : H a = some (.lst vs)) (no : Out ι n a) (l : AtL K w ι n H xs vs) (hz : vs.length ≤ line) : Wk (Itl K a) K w ι n H xs where
  len := by rw [← l.length]; exact hz
  go := fun i ι' S' H' hi st so => by
    have e := st.keep _ _ hl no.1
    have hi' : i < vs.length := by rw [l.length]; exact hi
    exact ⟨vs, vs[i], SqL.of e, List.getElem?_eq_getElem hi'⟩
  yld := fun i ι' S' H' x H'' hi st so y => by
    obtain ⟨rfl, hy⟩ := y
    have e := st.keep _ _ hl no.1
    have hx := hy vs (SqL.of e)
    obtain ⟨v, h1, h2⟩ := (AtL.step st _ _ l).get (List.getElem?_eq_getElem hi)
    rw [hx] at h1
    cases h1
    exact ⟨xs[i], List.getElem?_eq_getElem hi, Step.refl, so, h2⟩
  stop := fun i ι' S' H' hi st so => ⟨vs, SqL.of (st.keep _ _ hl no.1), by rw [l.length]; exact hi⟩
theorem wk_tup {a : Addr} (hl : (H a = some (.tup vs) ∧ Out ι n a) ∨ KTup K a vs) (l : AtL K w ι n H xs vs) (hz : vs.length ≤ line) : Wk (Itt K a) K w ι n H xs := by
  have q : ∀ ι' n' H', Step ι n H ι' n' H' → SqT K H' a vs := fun ι' n' H' st => by
    rcases hl with ⟨h, no⟩ | h
    · exact .inl (.inl (st.keep _ _ h no.1))
    · exact sqT_of (ι := ι) (n := n) (.inr h)
  exact {
    len := by rw [← l.length]; exact hz
    go := fun i ι' S' H' hi st so => by
      have hi' : i < vs.length := by rw [l.length]; exact hi
      exact ⟨vs, vs[i], q _ _ _ st, List.getElem?_eq_getElem hi'⟩
    yld := fun i ι' S' H' x H'' hi st so y => by
      obtain ⟨rfl, hy⟩ := y
      have hx := hy vs (q _ _ _ st)
      obtain ⟨v, h1, h2⟩ := (AtL.step st _ _ l).get (List.getElem?_eq_getElem hi)
      rw [hx] at h1
      cases h1
      exact ⟨xs[i], List.getElem?_eq_getElem hi, Step.refl, so, h2⟩
    stop := fun i ι' S' H' hi st so => ⟨vs, q _ _ _ st, by rw [l.length]; exact hi⟩ }
theorem wk_str {z : List Nat} (ho : okS z = true) (hz : z.length ≤ line) : Wk (Its (toS z)) K w ι n H (z.map fun c => .str [c]) where
  len := by simpa using hz
  go := fun i ι' S' H' hi st so => by
    show i < z.toArray.size
    simpa using hi
  yld := fun i ι' S' H' x H'' hi st so y => by
    obtain ⟨rfl, c, hc, rfl⟩ := y
    have hc' : z[i]? = some c := by simpa [toS] using hc
    refine ⟨.str [c], by simp [hc'], Step.refl, so, rfl, ?_⟩
    unfold okS at ho ⊢
    rw [List.all_eq_true] at ho
    have := ho c (List.mem_of_getElem? hc')
    simpa using this
  stop := fun i ι' S' H' hi st so => by
    show z.toArray.size ≤ i
    simpa using hi
theorem rngD_get (lo : Int) : ∀ (m i : Nat), i < m → (rngD lo m)[i]? = some (.int (lo + i)) := by
  intro m
  induction m generalizing lo with
  | zero => intro i h; exact absurd h (Nat.not_lt_zero _)
  | succ m ih =>
    intro i h
    cases i with
    | zero => simp [rngD]
    | succ i =>
      have := ih (lo + 1) i (Nat.lt_of_succ_lt_succ h)
      simp only [rngD, List.getElem?_cons_succ]
      rw [this, Int.add_assoc]
      have : (1 : Int) + (i : Int) = ((i + 1 : Nat) : Int) := by omega
      rw [this]
theorem rngD_length (lo : Int) : ∀ m : Nat, (rngD lo m).length = m := by
  intro m
  induction m generalizing lo with
  | zero => rfl
  | succ m ih => simp [rngD, ih]
theorem wk_rng {lo : Int} {m : Nat} (hm : m ≤ line) : Wk (Itr lo m) K w ι n H (rngD lo m) where
  len := by rw [rngD_length]; exact hm
  go := fun i ι' S' H' hi st so => by rw [rngD_length] at hi; exact hi
  yld := fun i ι' S' H' x H'' hi st so y => by
    obtain ⟨rfl, rfl⟩ := y
    rw [rngD_length] at hi
    exact ⟨_, rngD_get lo m i hi, Step.refl, so, rfl⟩
  stop := fun i ι' S' H' hi st so => by rw [rngD_length] at hi; exact hi
theorem zipD_length : ∀ (as bs : List D), (zipD as bs).length = min as.length bs.length
  | [], bs => by cases bs <;> simp [zipD]
  | _ :: _, [] => by simp [zipD]
  | a :: as, b :: bs => by simp [zipD, zipD_length as bs]
theorem zipD_get : ∀ {as bs : List D} {i : Nat} {a b : D}, as[i]? = some a → bs[i]? = some b → (zipD as bs)[i]? = some (.tup [a, b])
  | [], _, _, _, _, h, _ => by simp at h
  | _ :: _, [], _, _, _, _, h => by simp at h
  | a :: as, b :: bs, 0, _, _, h, g => by simp at h g; subst h g; simp [zipD]
  | a :: as, b :: bs, i + 1, _, _, h, g => by simp at h g; simpa [zipD] using zipD_get h g
theorem pair_new {S : Store} {p : Addr} {x y : V} {d e : D} (so : SOk T K w ι S H) (hp : H p = none) (hx : At K w ι S.length H d x) (hy : At K w ι S.length H e y) :
    Step ι S.length H ι S.length (upd H p (.tup [x, y])) ∧ SOk T K w ι S (upd H p (.tup [x, y])) ∧ At K w ι S.length (upd H p (.tup [x, y])) (.tup [d, e]) (.ref p) :=
  ⟨Step.new hp, so.new hp, atTup so hp ⟨x, [y], rfl, hx, y, [], rfl, hy, rfl⟩⟩
theorem wk_zipL {a b : Addr} {ys : List D} {us : List V} (ha : H a = some (.lst vs)) (na : Out ι n a) (la : AtL K w ι n H xs vs) (hb : H b = some (.lst us)) (nb : Out ι n b) (lb : AtL K w ι n H ys us) (hz : vs.length ≤ line) : Wk (Itz K a b) K w ι n H (zipD xs ys) where
  len := by rw [zipD_length, ← la.length]; omega
  go := fun i ι' S' H' hi st so => by
    rw [zipD_length, ← la.length, ← lb.length] at hi
    exact ⟨vs, us, vs[i], us[i], SqL.of (st.keep _ _ ha na.1), SqL.of (st.keep _ _ hb nb.1), List.getElem?_eq_getElem (by omega), List.getElem?_eq_getElem (by omega)⟩
  yld := fun i ι' S' H' x H'' hi st so y => by
    obtain ⟨p, x, y, rfl, hp, rfl, h1, h2⟩ := y
    rw [zipD_length] at hi
    have e1 := h1 vs (SqL.of (st.keep _ _ ha na.1))
    have e2 := h2 us (SqL.of (st.keep _ _ hb nb.1))
    have ex : xs[i]? = some xs[i] := List.getElem?_eq_getElem (by omega)
    have ey : ys[i]? = some ys[i] := List.getElem?_eq_getElem (by omega)
    obtain ⟨v, q1, q2⟩ := (AtL.step st _ _ la).get ex
    obtain ⟨u, q3, q4⟩ := (AtL.step st _ _ lb).get ey
    rw [e1] at q1
    rw [e2] at q3
    cases q1
    cases q3
    obtain ⟨r1, r2, r3⟩ := pair_new so hp q2 q4
    exact ⟨_, zipD_get ex ey, r1, r2, r3⟩
  stop := fun i ι' S' H' hi st so => by
    rw [zipD_length, ← la.length, ← lb.length] at hi
    exact ⟨vs, us, SqL.of (st.keep _ _ ha na.1), SqL.of (st.keep _ _ hb nb.1), by omega⟩
theorem wk_zipT {a b : Addr} {ys : List D} {us : List V} (ha : (H a = some (.tup vs) ∧ Out ι n a) ∨ KTup K a vs) (la : AtL K w ι n H xs vs) (hb : (H b = some (.tup us) ∧ Out ι n b) ∨ KTup K b us) (lb : AtL K w ι n H ys us) (hz : vs.length ≤ line) : Wk (RZ.ItzT K a b) K w ι n H (zipD xs ys) := by
  have qa : ∀ ι' n' H', Step ι n H ι' n' H' → SqT K H' a vs := fun ι' n' H' st => by
    rcases ha with ⟨h, no⟩ | h
    · exact .inl (.inl (st.keep _ _ h no.1))
    · exact sqT_of (ι := ι) (n := n) (.inr h)
  have qb : ∀ ι' n' H', Step ι n H ι' n' H' → SqT K H' b us := fun ι' n' H' st => by
    rcases hb with ⟨h, no⟩ | h
    · exact .inl (.inl (st.keep _ _ h no.1))
    · exact sqT_of (ι := ι) (n := n) (.inr h)
  exact {
    len := by rw [zipD_length, ← la.length]; omega
    go := fun i ι' S' H' hi st so => by
      rw [zipD_length, ← la.length, ← lb.length] at hi
      exact ⟨vs, us, vs[i], us[i], qa _ _ _ st, qb _ _ _ st, List.getElem?_eq_getElem (by omega), List.getElem?_eq_getElem (by omega)⟩
    yld := fun i ι' S' H' x H'' hi st so y => by
      obtain ⟨p, x, y, rfl, hp, rfl, h1, h2⟩ := y
      rw [zipD_length] at hi
      have e1 := h1 vs (qa _ _ _ st)
      have e2 := h2 us (qb _ _ _ st)
      have ex : xs[i]? = some xs[i] := List.getElem?_eq_getElem (by omega)
      have ey : ys[i]? = some ys[i] := List.getElem?_eq_getElem (by omega)
      obtain ⟨v, q1, q2⟩ := (AtL.step st _ _ la).get ex
      obtain ⟨u, q3, q4⟩ := (AtL.step st _ _ lb).get ey
      rw [e1] at q1
      rw [e2] at q3
      cases q1
      cases q3
      obtain ⟨r1, r2, r3⟩ := pair_new so hp q2 q4
      exact ⟨_, zipD_get ex ey, r1, r2, r3⟩
    stop := fun i ι' S' H' hi st so => by
      rw [zipD_length, ← la.length, ← lb.length] at hi
      exact ⟨vs, us, qa _ _ _ st, qb _ _ _ st, by omega⟩ }
theorem enumD_length : ∀ (k : Nat) (as : List D), (enumD k as).length = as.length
  | _, [] => rfl
  | k, _ :: as => by simp [enumD, enumD_length (k + 1) as]
theorem enumD_get : ∀ {as : List D} {k i : Nat} {a : D}, as[i]? = some a → (enumD k as)[i]? = some (.tup [.int ((k + i : Nat) : Int), a])
  | [], _, _, _, h => by simp at h
  | a :: as, k, 0, _, h => by simp at h; subst h; simp [enumD]
  | a :: as, k, i + 1, _, h => by
    simp at h
    have := enumD_get (k := k + 1) h
    simp only [enumD, List.getElem?_cons_succ]
    rw [this]
    have : k + 1 + i = k + (i + 1) := by omega
    rw [this]
theorem wk_enum {a : Addr} (hl : H a = some (.lst vs)) (no : Out ι n a) (l : AtL K w ι n H xs vs) (hz : vs.length ≤ line) : Wk (Ite K a) K w ι n H (enumD 0 xs) where
  len := by rw [enumD_length, ← l.length]; exact hz
  go := fun i ι' S' H' hi st so => by
    rw [enumD_length, ← l.length] at hi
    exact ⟨vs, vs[i], SqL.of (st.keep _ _ hl no.1), List.getElem?_eq_getElem hi⟩
  yld := fun i ι' S' H' x H'' hi st so y => by
    obtain ⟨p, x, rfl, hp, rfl, h1⟩ := y
    rw [enumD_length] at hi
    have e1 := h1 vs (SqL.of (st.keep _ _ hl no.1))
    have ex : xs[i]? = some xs[i] := List.getElem?_eq_getElem hi
    obtain ⟨v, q1, q2⟩ := (AtL.step st _ _ l).get ex
    rw [e1] at q1
    cases q1
    obtain ⟨r1, r2, r3⟩ := pair_new (d := .int i) so hp rfl q2
    refine ⟨_, enumD_get ex, r1, r2, ?_⟩
    rw [Nat.zero_add]
    exact r3
  stop := fun i ι' S' H' hi st so => ⟨vs, SqL.of (st.keep _ _ hl no.1), by rw [l.length]; rw [enumD_length] at hi; exact hi⟩
end
section
variable {X : Cx} {T : XT} {E : XK} {e a b c tg iter : Expr} {ra rb rc : Rho → Store → Res D} {pos : Pos} {es : List Expr} {rs ri : Rho → Store → Res (List D)}
theorem _root_.L2.PI.imp {v v' : TI} (h : PI X tg iter v) (f : ∀ σ H R, v' σ H R → v σ H R) : PI X tg iter v' := ⟨fun pins s σ H R I q => h.run pins s σ H R I (f σ H R q)⟩
/-- a list, a tuple, a text, with their lengths -/
theorem pi_any {te : TE} (he : PE X e te) : PI X tg e (fun σ H R => te σ H fun x H1 =>
    (∃ a, x = .ref a ∧ ∃ xs, SqL X.K H1 a xs ∧ (xs.length ≤ line → R (Itl X.K a) H1)) ∨ (∃ a, x = .ref a ∧ ∃ xs, SqT X.K H1 a xs ∧ (xs.length ≤ line → R (Itt X.K a) H1)) ∨ ∃ z, x = .str z ∧ R (Its z) H1) := by
  refine ⟨fun pins s σ H R I h => ?_⟩
  refine thn (he.run pins s σ H _ I h) fun v s1 ⟨x, H1, I1, r1, q1⟩ => ?_
  rcases q1 with ⟨a, rfl, xs, hq, q⟩ | ⟨a, rfl, xs, hq, q⟩ | ⟨z, rfl, q⟩
  · cases r1
    obtain ⟨its, rv, p, hz⟩ := I1.list hq
    refine wpAny_pyIter_list p.isList ?_
    refine ⟨s1.heap.objs.size, [s1.heap.objs.size], _, _, H1, rfl, I1.kept (t' := s1.toks) fun b o e => Heap.get?_push_of_some _ e, turn_list a _, ⟨_, Heap.get?_push_size _ rfl, rfl, rfl⟩, fun b hb => ?_, q hz⟩
    have e : b = s1.heap.objs.size := by simpa using hb
    subst e
    exact I1.fpOk (Nat.le_refl _) (I1.hok.fresh (Nat.le_refl _))
  · cases r1
    obtain ⟨its, rv, p, hz⟩ := I1.tuple hq
    refine wpAny_pyIter_tuple (show s1.heap.IsTuple a its.toArray from p) ?_
    refine ⟨s1.heap.objs.size, [s1.heap.objs.size], _, _, H1, rfl, I1.kept (t' := s1.toks) fun b o e => Heap.get?_push_of_some _ e, turn_tuple a _, ⟨_, Heap.get?_push_size _ rfl, rfl, rfl⟩, fun b hb => ?_, q hz⟩
    have e : b = s1.heap.objs.size := by simpa using hb
    subst e
    exact I1.fpOk (Nat.le_refl _) (I1.hok.fresh (Nat.le_refl _))
  · obtain ⟨t, rfl⟩ := r1
    cases ha : z.cps.all (· < 128)
    · exact wpAny_pyIter_wide ha (pi_one (tk := s1.toks) I1 _ (turn_str _ z t "str_iterator" (.inr rfl)) ⟨_, Heap.get?_push_size _ rfl, rfl, rfl⟩ q)
    · exact wpAny_pyIter_ascii ha (pi_one (tk := s1.toks) I1 _ (turn_str _ z t "str_ascii_iterator" (.inl rfl)) ⟨_, Heap.get?_push_size _ rfl, rfl, rfl⟩ q)
/-- the state stands at hand -/
theorem pa_inv {es : List Expr} {ta : TA} (h : PA X es ta) : PA X es (fun σ H Q => ∃ Q0 : List V → Hp → Prop, ta σ H Q0 ∧ ∀ vs H1, Q0 vs H1 → (∃ pins s σ, L2.Inv X pins σ H1 s) → Q vs H1) :=
  ⟨fun pos pins s σ H Q I ⟨Q0, h0, h1⟩ => thn (h.run pos pins s σ H Q0 I h0) fun us s1 ⟨vs, H1, I1, r1, q1⟩ => ⟨vs, H1, I1, r1, h1 vs H1 q1 ⟨pins, s1, σ, I1⟩⟩⟩
/-- with the length of the first -/
theorem pi_zipL {e e2 : Expr} {ta : TA} {p pos tpos : Pos} {elts : List Expr} {kk : Nat} (hg : Gl X "zip") (hm : X.mg "zip" = none) (ha : PA X [e, e2] ta)
    (hs : starEach [e, e2] X.env = (false, eval e X.env) :: starEach [e2] X.env) (hpl : (backTo pos (starEach [e2] X.env)).any (·.1) = false) :
    PI X (.Tuple elts kk tpos) (.Call (.Name "zip" p) [e, e2] [] pos) (fun σ H R => ta σ H fun vs H1 => ∃ a b xs ys, vs = [.ref a, .ref b] ∧ ((SqL X.K H1 a xs ∧ SqL X.K H1 b ys ∧ (xs.length ≤ line → R (Itz X.K a b) H1)) ∨ (SqT X.K H1 a xs ∧ SqT X.K H1 b ys ∧ (xs.length ≤ line → R (RZ.ItzT X.K a b) H1)))) :=
  (RZ.pi_zipA hg hm (pa_inv ha) hs hpl).imp fun σ H R h => ⟨_, h, fun vs H1 ⟨a, b, xs, ys, e, q⟩ ⟨pins, s, σ', I⟩ => ⟨a, b, xs, ys, e, by
    rcases q with ⟨q1, q2, q3⟩ | ⟨q1, q2, q3⟩
    · obtain ⟨_, _, _, hz⟩ := I.list q1
      exact .inl ⟨q1, q2, q3 hz⟩
    · obtain ⟨_, _, _, hz⟩ := I.tuple q1
      exact .inr ⟨q1, q2, q3 hz⟩⟩⟩
theorem pi_enumL {e : Expr} {ta : TA} {p pos tpos : Pos} {elts : List Expr} {kk : Nat} (hg : Gl X "enumerate") (hm : X.mg "enumerate" = none) (ha : PA X [e] ta) (hs : starEach [e] X.env = [(false, eval e X.env)]) :
    PI X (.Tuple elts kk tpos) (.Call (.Name "enumerate" p) [e] [] pos) (fun σ H R => ta σ H fun vs H1 => ∃ a xs, vs = [.ref a] ∧ SqL X.K H1 a xs ∧ (xs.length ≤ line → R (Ite X.K a) H1)) :=
  (pi_enum hg hm (pa_inv ha) hs).imp fun σ H R h => ⟨_, h, fun vs H1 ⟨a, xs, e, q1, q2⟩ ⟨pins, s, σ', I⟩ => ⟨a, xs, e, q1, by
    obtain ⟨_, _, _, hz⟩ := I.list q1
    exact q2 hz⟩⟩
theorem pi_s (ha : PE X e (TEv T X.K X.w E ra)) : PI X tg e (TIv T X.K X.w E fun ρ S => (ra ρ S).bind fun x S1 => match seqOf x with | some xs => .ok xs S1 | none => .stuck) :=
  (pi_any ha).imp fun σ H R ⟨ι, ρ, S, Rr, f⟩ => ⟨ι, ρ, S, Rr, fin_seq Rr f fun ι1 S1 d v H1 e0 st1 R1 a1 f1 => by
    clear e0
    unfold seqOf at f1
    split at f1
    · rename_i xs hx
      split at hx
      · cases hx
        obtain ⟨a, vs, rfl, h1, l⟩ := a1
        exact .inr (.inl ⟨a, rfl, vs, sqT_of h1, fun hz => f1 _ ι1 H1 Step.refl R1.st (wk_tup h1 l hz)⟩)
      · cases hx
        obtain ⟨a, vs, rfl, h1, no, l⟩ := a1
        exact .inl ⟨a, rfl, vs, SqL.of h1, fun hz => f1 _ ι1 H1 Step.refl R1.st (wk_lst h1 no l hz)⟩
      · rename_i z
        split at hx
        · rename_i hz
          cases hx
          exact .inr (.inr ⟨toS z, a1.1, f1 _ ι1 H1 Step.refl R1.st (wk_str a1.2 hz)⟩)
        · cases hx
      · cases hx
    · exact False.elim f1⟩
theorem pi_r {p : Pos} (hg : Gl X "range") (hm : X.mg "range" = none) (ha : PE X a (TEv T X.K X.w E ra)) (hs : starEach [a] X.env = [(false, eval a X.env)]) (hs' : starEach [a] X.env = (false, eval a X.env) :: starEach [] X.env) :
    PI X tg (.Call (.Name "range" p) [a] [] pos) (TIv T X.K X.w E fun ρ S => (Res.ok (D.int 0) S).bind fun x S1 => (ra ρ S1).bind fun y S2 => match x, y with
    | .int lo, .int hi => if -(2 ^ 62) ≤ lo ∧ lo < 2 ^ 62 ∧ -(2 ^ 62) ≤ hi ∧ hi < 2 ^ 62 ∧ (hi - lo).toNat ≤ line then .ok (rngD lo (hi - lo).toNat) S2 else .stuck
    | _, _ => .stuck) :=
  (pi_range1 hg hm (pa_cons ha pa_nil hs') hs).imp fun σ H R ⟨ι, ρ, S, Rr, f⟩ => ⟨ι, ρ, S, Rr, by
    dsimp only at f
    rw [Res.bind_ok] at f
    refine fin_seq Rr f fun ι1 S1 d v H1 e0 st1 R1 a1 f1 => ?_
    clear e0
    split at f1
    · rename_i lo hi e1
      split at f1
      · rename_i hz
        cases e1
        refine ⟨_, by rw [show v = .int _ from a1], hz.2.2.1, hz.2.2.2.1, ?_⟩
        have f2 := f1 (Itr 0 (hi - 0).toNat) ι1 H1 Step.refl R1.st (wk_rng hz.2.2.2.2)
        rw [Int.sub_zero] at f2
        exact f2
      · exact False.elim f1
    · exact False.elim f1⟩
theorem pi_r2 {p : Pos} (hg : Gl X "range") (hm : X.mg "range" = none) (ha : PE X a (TEv T X.K X.w E ra)) (hb : PE X b (TEv T X.K X.w E rb)) (hs : starEach [a, b] X.env = [(false, eval a X.env), (false, eval b X.env)]) (hs2 : starEach [b] X.env = [(false, eval b X.env)]) :
    PI X tg (.Call (.Name "range" p) [a, b] [] pos) (TIv T X.K X.w E fun ρ S => (ra ρ S).bind fun x S1 => (rb ρ S1).bind fun y S2 => match x, y with
    | .int lo, .int hi => if -(2 ^ 62) ≤ lo ∧ lo < 2 ^ 62 ∧ -(2 ^ 62) ≤ hi ∧ hi < 2 ^ 62 ∧ (hi - lo).toNat ≤ line then .ok (rngD lo (hi - lo).toNat) S2 else .stuck
    | _, _ => .stuck) :=
  (pi_range2 hg hm (pa_cons ha (pa_cons hb pa_nil (by rw [hs2]; rfl)) (by rw [hs, hs2])) hs hs2).imp fun σ H R ⟨ι, ρ, S, Rr, f⟩ => ⟨ι, ρ, S, Rr, fin_seq Rr f fun ι1 S1 d v H1 e00 st1 R1 a1 f1 => ⟨ι1, ρ, S1, R1, fin_seq R1 f1 fun ι2 S2 d2 v2 H2 e0 st2 R2 a2 f2 => by
    clear e0 e00
    split at f2
    · rename_i lo hi
      split at f2
      · rename_i hz
        exact ⟨lo, hi, by rw [show v = .int _ from a1, show v2 = .int _ from a2], ⟨hz.1, hz.2.1, hz.2.2.1, hz.2.2.2.1⟩, f2 _ ι2 H2 Step.refl R2.st (wk_rng hz.2.2.2.2)⟩
      · exact False.elim f2
    · exact False.elim f2⟩⟩
/-- zip of two lists, of two tuples -/
theorem pi_z {elts : List Expr} {kk : Nat} {tpos p : Pos} (hg : Gl X "zip") (hm : X.mg "zip" = none) (ha : PE X a (TEv T X.K X.w E ra)) (hb : PE X b (TEv T X.K X.w E rb)) (hs : starEach [a, b] X.env = (false, eval a X.env) :: starEach [b] X.env) (hs2 : starEach [b] X.env = (false, eval b X.env) :: starEach [] X.env) :
    PI X (.Tuple elts kk tpos) (.Call (.Name "zip" p) [a, b] [] pos) (TIv T X.K X.w E fun ρ S => (ra ρ S).bind fun x S1 => (rb ρ S1).bind fun y S2 => match x, y with
    | .tup xs, .tup ys => .ok (zipD xs ys) S2
    | .lst xs, .lst ys => .ok (zipD xs ys) S2
    | _, _ => .stuck) := by
  have base := pi_zipL (elts := elts) (kk := kk) (tpos := tpos) (p := p) (pos := pos) hg hm (pa_cons ha (pa_cons hb pa_nil hs2) hs) hs (by rw [hs2]; rfl)
  refine base.imp fun σ H R ⟨ι, ρ, S, Rr, f⟩ => ⟨ι, ρ, S, Rr, fin_seq Rr f fun ι1 S1 d v H1 e00 st1 R1 a1 f1 => ⟨ι1, ρ, S1, R1, fin_seq R1 f1 fun ι2 S2 d2 v2 H2 e0 st2 R2 a2 f2 => ?_⟩⟩
  clear e0 e00
  replace a1 := At.step st2 _ _ a1
  split at f2
  · obtain ⟨p1, vs, rfl, h1, l1⟩ := a1
    obtain ⟨p2, us, rfl, h2, l2⟩ := a2
    exact ⟨p1, p2, vs, us, rfl, .inr ⟨sqT_of h1, sqT_of h2, fun hz => f2 _ ι2 H2 Step.refl R2.st (wk_zipT h1 l1 h2 l2 hz)⟩⟩
  · obtain ⟨p1, vs, rfl, h1, n1, l1⟩ := a1
    obtain ⟨p2, us, rfl, h2, n2, l2⟩ := a2
    exact ⟨p1, p2, vs, us, rfl, .inl ⟨SqL.of h1, SqL.of h2, fun hz => f2 _ ι2 H2 Step.refl R2.st (wk_zipL h1 n1 l1 h2 n2 l2 hz)⟩⟩
  · exact False.elim f2
theorem pi_e {elts : List Expr} {kk : Nat} {tpos p : Pos} (hg : Gl X "enumerate") (hm : X.mg "enumerate" = none) (ha : PE X a (TEv T X.K X.w E ra)) (hs : starEach [a] X.env = [(false, eval a X.env)]) (hs2 : starEach [a] X.env = (false, eval a X.env) :: starEach [] X.env) :
    PI X (.Tuple elts kk tpos) (.Call (.Name "enumerate" p) [a] [] pos) (TIv T X.K X.w E fun ρ S => (ra ρ S).bind fun x S1 => match x with
    | .lst xs => .ok (enumD 0 xs) S1
    | _ => .stuck) :=
  (pi_enumL (elts := elts) (kk := kk) (tpos := tpos) (p := p) (pos := pos) hg hm (pa_cons ha pa_nil hs2) hs).imp fun σ H R ⟨ι, ρ, S, Rr, f⟩ => ⟨ι, ρ, S, Rr, fin_seq Rr f fun ι1 S1 d v H1 e00 st1 R1 a1 f1 => by
    clear e00
    split at f1
    · obtain ⟨p1, vs, rfl, h1, n1, l1⟩ := a1
      exact ⟨p1, vs, rfl, SqL.of h1, fun hz => f1 _ ι1 H1 Step.refl R1.st (wk_enum h1 n1 l1 hz)⟩
    · exact False.elim f1⟩
end
end Ev

set_option Elab.async false
set_option linter.all false
set_option maxRecDepth 100000
set_option maxHeartbeats 2000000
/-! EvSnd6: targets, comprehensions. -/
namespace Ev
open PySem PySem.Spec PyProof.Rows L2

/-! ### targets -/
def gNs : List Nat → TGs
  | [] => gNil
  | i :: is => gCons (gName i) (gNs is)
def gT (K : PySem.W.Frag) : MT → TG
  | .name i => gName i
  | .names is => gTup K is.length (gNs is)
def MT.slots : MT → List Nat
  | .name i => [i]
  | .names is => is
theorem wipe_set (i : Nat) (x : V) : ∀ (vs : List Nat) (σ : L2.St), i ∈ vs → L2.wipe (σ.set i (some x)) vs = L2.wipe σ vs
  | [], _, h => by simp at h
  | v :: vs, σ, h => by
    by_cases hm : i ∈ vs
    · unfold L2.wipe
      rw [wipe_set i x vs σ hm]
    · have e : i = v := by
        rcases List.mem_cons.mp h with h | h
        · exact h
        · exact absurd h hm
      subst e
      have g : ∀ (us : List Nat) (τ : L2.St), i ∉ us → L2.wipe (τ.set i (some x)) us = (L2.wipe τ us).set i (some x) := by
        intro us
        induction us with
        | nil => intro τ _; rfl
        | cons u us ih =>
          intro τ hu
          simp only [List.mem_cons, not_or] at hu
          unfold L2.wipe
          rw [ih τ hu.2, List.set_comm _ _ hu.1]
      unfold L2.wipe
      rw [g vs σ hm, List.set_set]
section
variable {T : XT} {K : PySem.W.Frag} {w : World} {ι : Pl} {S : Store} {H : Hp}
theorem slots_ok : ∀ {is : List Nat} {ρ ρ1 : Rho} {σ : L2.St} {ds : List D} {vs : List V} {Q : L2.St → Hp → Prop}, Rl T K w ι ρ S σ H → AtL K w ι S.length H ds vs → setSlots ρ is ds = some ρ1 →
    (∀ σ1, Rl T K w ι ρ1 S σ1 H → (∀ us : List Nat, (∀ i ∈ is, i ∈ us) → L2.wipe σ1 us = L2.wipe σ us) → Q σ1 H) → vs.length = is.length ∧ gNs is vs σ H Q
  | [], ρ, ρ1, σ, ds, vs, Q, R, l, e, q => by
    cases ds with
    | nil =>
      rw [show vs = [] from l]
      simp [setSlots] at e
      subst e
      exact ⟨rfl, rfl, q σ R fun _ _ => rfl⟩
    | cons _ _ => simp [setSlots] at e
  | i :: is, ρ, ρ1, σ, ds, vs, Q, R, l, e, q => by
    cases ds with
    | nil => simp [setSlots] at e
    | cons d ds =>
      obtain ⟨x, xs, rfl, h1, h2⟩ := l
      simp only [setSlots] at e
      obtain ⟨g1, g2⟩ := slots_ok (Q := Q) (R.set (i := i) h1) h2 e fun σ1 R1 w1 => q σ1 R1 fun us hu => by
        rw [w1 us fun j hj => hu j (List.mem_cons_of_mem _ hj)]
        exact wipe_set i x us σ (hu i List.mem_cons_self)
      exact ⟨by rw [List.length_cons, List.length_cons, g1], x, xs, rfl, g2⟩
theorem gT_ok {t : MT} {ρ ρ1 : Rho} {σ : L2.St} {d : D} {v : V} {Q : L2.St → Hp → Prop} (R : Rl T K w ι ρ S σ H) (a : At K w ι S.length H d v) (e : setT ρ t d = some ρ1)
    (q : ∀ σ1, Rl T K w ι ρ1 S σ1 H → (∀ us : List Nat, (∀ i ∈ t.slots, i ∈ us) → L2.wipe σ1 us = L2.wipe σ us) → Q σ1 H) : gT K t v σ H Q := by
  cases t with
  | name i =>
    simp only [setT, Option.some.injEq] at e
    subst e
    exact q _ (R.set a) fun us hu => wipe_set i v us σ (hu i (by simp [MT.slots]))
  | names is =>
    unfold setT at e
    cases d <;> simp only [reduceCtorEq] at e
    obtain ⟨p, vs, rfl, h1, l⟩ := a
    obtain ⟨g1, g2⟩ := slots_ok R l e q
    exact ⟨p, vs, rfl, sqT_of h1, g1, g2⟩
end
theorem wipe_get (j : Nat) : ∀ (vs : List Nat) (σ : L2.St), (L2.wipe σ vs)[j]? = if j ∈ vs then (σ[j]?).map (fun _ => none) else σ[j]?
  | [], σ => by simp [L2.wipe]
  | v :: vs, σ => by
    have ih := wipe_get j vs σ
    unfold L2.wipe
    by_cases e : v = j
    · subst e
      by_cases hl : v < (L2.wipe σ vs).length
      · rw [List.getElem?_set_self hl, if_pos List.mem_cons_self]
        rw [L2.wipe_length] at hl
        rw [List.getElem?_eq_getElem hl]; rfl
      · rw [List.getElem?_eq_none (by simpa using hl), if_pos List.mem_cons_self]
        rw [L2.wipe_length] at hl
        rw [List.getElem?_eq_none (by omega)]; rfl
    · rw [List.getElem?_set_ne e, ih]
      have : (j ∈ v :: vs) ↔ j ∈ vs := by
        simp only [List.mem_cons]
        exact ⟨fun h => h.elim (fun q => absurd q.symm e) id, .inr⟩
      by_cases h : j ∈ vs
      · rw [if_pos h, if_pos (this.mpr h)]
      · rw [if_neg h, if_neg (fun q => h (this.mp q))]
theorem wipe_wipe (vs : List Nat) (σ : L2.St) : L2.wipe (L2.wipe σ vs) vs = L2.wipe σ vs := by
  apply List.ext_getElem?
  intro j
  rw [wipe_get, wipe_get]
  by_cases h : j ∈ vs
  · rw [if_pos h, if_pos h]
    cases σ[j]? <;> rfl
  · rw [if_neg h, if_neg h]
/-! ### comprehensions -/
theorem Res.bind_assoc {α β γ : Type} (r : Res α) (f : α → Store → Res β) (g : β → Store → Res γ) : (r.bind f).bind g = r.bind fun a S => (f a S).bind g := by cases r <;> rfl
theorem fin_nox {α β γ δ : Type} {T : XT} {K : PySem.W.Frag} {w : World} {E E' : XK} {A : Pl → Nat → Hp → α → β → Prop} {B : Pl → Nat → Hp → γ → δ → Prop} {ι : Pl} {S : Store} {H : Hp} {r : Res α} {f : α → Store → Res γ} {Q : δ → Hp → Prop} {P : β → Hp → Prop} {ρ : Rho} {σ : L2.St}
    (R : Rl T K w ι ρ S σ H) (h : Fin T K w E B ι S.length H (r.nox.bind f) Q) (g : ∀ ι1 S1 d v H1, Step ι S.length H ι1 S1.length H1 → Rl T K w ι1 ρ S1 σ H1 → A ι1 S1.length H1 d v → Fin T K w E B ι1 S1.length H1 (f d S1) Q → P v H1) :
    Fin T K w E' A ι S.length H r P := by
  cases r with
  | ok d S1 => exact fun v ι' H' st so a => g ι' S1 d v H' st (R.step st so) a (h.later st so.held)
  | exc x S1 => exact False.elim h
  | stuck => exact False.elim h
section
variable {T : XT} {K : PySem.W.Frag} {w : World} {ι ι1 : Pl} {S S1 : Store} {H H1 : Hp} {p : Addr}
/-- a thing in the making is let out -/
theorem Mv.unpr {n : Nat} {pr : List Addr} (h : ∀ b ∈ pr, b ∈ ι.pr) : Mv ι n H ⟨ι.f, pr⟩ n H where
  le := Nat.le_refl _
  ext := fun _ _ => rfl
  keep := fun b o e no => ⟨e, no.1, fun z => no.2 (h b z)⟩
theorem SOk.unpr {pr : List Addr} (s : SOk T K w ι S H) (h : ∀ b ∈ pr, b ∈ ι.pr) : SOk T K w ⟨ι.f, pr⟩ S H where
  tab := s.tab
  inj := s.inj
  at_ := fun j o e => let ⟨x, e1, e2⟩ := s.at_ j o e; ⟨x, e1, OAt.mv (Mv.unpr h) e2⟩
  prv := fun b hb => s.prv b (h b hb)
/-- a thing in the making is written -/
theorem Mv.prw {n : Nat} {o : HO} (hp : p ∈ ι.pr) : Mv ι n H ι n (upd H p o) where
  le := Nat.le_refl _
  ext := fun _ _ => rfl
  keep := fun b u e no => ⟨by rw [upd_ne (fun z => no.2 (by rw [z]; exact hp))]; exact e, no⟩
theorem SOk.prw {o : List V} (s : SOk T K w ι S H) (hp : p ∈ ι.pr) : SOk T K w ι S (upd H p (.lst o)) where
  tab := by
    obtain ⟨⟨u, e⟩, _⟩ := s.prv p hp
    exact tab_put s.tab e (by intro _ z; cases z) fun q z => by unfold LamX.CodeO at z; cases z
  inj := s.inj
  at_ := fun j ob e => by
    obtain ⟨x, e1, e2⟩ := s.at_ j ob e
    have hj : j < S.length := (List.getElem?_eq_some_iff.mp e).1
    exact ⟨x, by rw [upd_ne (fun z => (s.prv p hp).2 ⟨j, hj, z⟩)]; exact e1, OAt.mv (Mv.prw hp) e2⟩
  prv := fun b hb => by
    obtain ⟨⟨u, e⟩, no⟩ := s.prv b hb
    by_cases q : b = p
    · subst q; exact ⟨⟨o, upd_same⟩, no⟩
    · exact ⟨⟨u, by rw [upd_ne q]; exact e⟩, no⟩
/-- a new thing, in the making -/
def ιn (ι : Pl) (p : Addr) : Pl := ⟨ι.f, p :: ι.pr⟩
theorem Step.make {o : HO} (hp : H p = none) : Step ι S.length H (ιn ι p) S.length (upd H p o) where
  le := Nat.le_refl _
  ext := fun _ _ => rfl
  keep := fun b u h _ _ => by rw [upd_ne (fun e => by rw [e, hp] at h; cases h)]; exact h
  fresh := fun j h1 h2 => absurd h2 (Nat.not_lt.mpr h1)
  prv := fun b hb => by
    rcases List.mem_cons.mp hb with rfl | hb
    · exact .inr (Fr.of hp)
    · exact .inl hb
  prs := fun b hb => List.mem_cons_of_mem _ hb
theorem SOk.make {o : List V} (s : SOk T K w ι S H) (hp : H p = none) : SOk T K w (ιn ι p) S (upd H p (.lst o)) where
  tab := tab_new s.tab hp
  inj := s.inj
  at_ := fun j ob e => by
    obtain ⟨x, e1, e2⟩ := s.at_ j ob e
    exact ⟨x, by rw [show (ιn ι p) j = ι j from rfl, upd_ne (fun q => by rw [q, hp] at e1; cases e1)]; exact e1, e2.step (Step.make hp)⟩
  prv := fun b hb => by
    rcases List.mem_cons.mp hb with rfl | hb
    · exact ⟨⟨o, upd_same⟩, s.notOwn hp⟩
    · obtain ⟨⟨u, e⟩, no⟩ := s.prv b hb
      exact ⟨⟨u, by rw [upd_ne (fun q => by rw [q, hp] at e; cases e)]; exact e⟩, no⟩
/-- what was made is at hand: as data, or as a thing of the store -/
theorem made_fin {E : XK} {m : Bool} {ys : List D} {vs : List V} {Q : VK} (so1 : SOk T K w ι1 S1 H1) (hp1 : H1 p = none) (st : Step ι1 S1.length H1 ι S.length H) (so : SOk T K w ι S H) (hp : p ∈ ι.pr) (hH : H p = some (.lst vs))
    (l : AtL K w ι S.length H ys vs) (f : Fin T K w E (AtD K w) ι1 S1.length H1 (evMk m ys S) Q) : Q (.ref p) H := by
  have no : ¬ Own ι S.length p := (so.prv p hp).2
  have np : p ∉ ι1.pr := fun z => by
    obtain ⟨⟨o, e⟩, _⟩ := so1.prv p z
    rw [hp1] at e; cases e
  have u : Mv ι S.length H ⟨ι.f, ι1.pr⟩ S.length H := Mv.unpr fun b hb => st.prs b hb
  have so3 : SOk T K w ⟨ι.f, ι1.pr⟩ S H := so.unpr fun b hb => st.prs b hb
  have st3 : Step ι1 S1.length H1 ⟨ι.f, ι1.pr⟩ S.length H := ⟨st.le, st.ext, fun b o x y z => st.keep b o x y z, st.fresh, fun _ h => .inl h, fun _ h => h⟩
  cases m with
  | false => exact f (.ref p) ⟨ι.f, ι1.pr⟩ H st3 so3 ⟨p, vs, rfl, hH, ⟨no, np⟩, AtL.mv u _ _ l⟩
  | true =>
    have e : evMk true ys S = .ok (.ref S.length) (S ++ [.lst ys]) := rfl
    rw [e] at f
    have len : (S ++ [O.lst ys]).length = S.length + 1 := by simp
    have pe : (ιp ⟨ι.f, ι1.pr⟩ S.length p).f S.length = p := ιp_eq (ι := ⟨ι.f, ι1.pr⟩)
    have pl : ∀ j, j ≠ S.length → (ιp ⟨ι.f, ι1.pr⟩ S.length p).f j = ι.f j := fun j h => ιp_lt (ι := ⟨ι.f, ι1.pr⟩) h
    have mv : Mv ι S.length H (ιp ⟨ι.f, ι1.pr⟩ S.length p) (S.length + 1) H := {
      le := Nat.le_succ _
      ext := fun j hj => pl j (Nat.ne_of_lt hj)
      keep := fun b o hb nb => ⟨hb, fun ⟨j, hj, z⟩ => by
        by_cases hn : j = S.length
        · subst hn
          have z : (ιp ⟨ι.f, ι1.pr⟩ S.length p).f S.length = b := z
          rw [pe] at z
          exact nb.2 (z ▸ hp)
        · have z : (ιp ⟨ι.f, ι1.pr⟩ S.length p).f j = b := z
          rw [pl j hn] at z
          exact nb.1 ⟨j, by omega, z⟩, fun z => nb.2 (st.prs b z)⟩ }
    refine f (.ref p) (ιp ⟨ι.f, ι1.pr⟩ S.length p) H ?_ ?_ ?_
    · rw [len]
      refine ⟨Nat.le_trans st.le (Nat.le_succ _), fun j hj => ?_, fun b o x y z => st.keep b o x y z, fun j h1 h2 => ?_, fun _ h => .inl h, fun _ h => h⟩
      · have := st.le
        exact (pl j (by omega)).trans (st.ext j hj)
      · by_cases hn : j = S.length
        · subst hn
          show Fr H1 ((ιp ⟨ι.f, ι1.pr⟩ S.length p).f S.length)
          rw [pe]; exact Fr.of hp1
        · show Fr H1 ((ιp ⟨ι.f, ι1.pr⟩ S.length p).f j)
          rw [pl j hn]
          exact st.fresh j h1 (by omega)
    · refine ⟨so.tab, fun i j hi hj e => ?_, fun j u e => ?_, fun b hb => ?_⟩
      · rw [len] at hi hj
        have e : (ιp ⟨ι.f, ι1.pr⟩ S.length p).f i = (ιp ⟨ι.f, ι1.pr⟩ S.length p).f j := e
        by_cases h1 : i = S.length
        · by_cases h2 : j = S.length
          · omega
          · rw [h1, pe, pl j h2] at e
            exact absurd ⟨j, by omega, e.symm⟩ no
        · by_cases h2 : j = S.length
          · rw [h2, pe, pl i h1] at e
            exact absurd ⟨i, by omega, e⟩ no
          · rw [pl i h1, pl j h2] at e
            exact so.inj i j (by omega) (by omega) e
      · rw [len]
        by_cases hj : j < S.length
        · rw [List.getElem?_append_left hj] at e
          obtain ⟨x, e1, e2⟩ := so.at_ j u e
          refine ⟨x, ?_, OAt.mv mv e2⟩
          show H ((ιp ⟨ι.f, ι1.pr⟩ S.length p).f j) = some x
          rw [pl j (Nat.ne_of_lt hj)]; exact e1
        · have hj2 : j = S.length := by
            have := (List.getElem?_eq_some_iff.mp e).1
            rw [len] at this; omega
          subst hj2
          rw [List.getElem?_append_right (Nat.le_refl _)] at e
          simp at e; subst e
          refine ⟨.lst vs, ?_, vs, rfl, AtL.mv mv _ _ l⟩
          show H ((ιp ⟨ι.f, ι1.pr⟩ S.length p).f S.length) = some (.lst vs)
          rw [pe]; exact hH
      · obtain ⟨⟨o', e⟩, nb⟩ := so3.prv b hb
        rw [len]
        refine ⟨⟨o', e⟩, fun ⟨j, hj, z⟩ => ?_⟩
        by_cases hn : j = S.length
        · subst hn
          have z : (ιp ⟨ι.f, ι1.pr⟩ S.length p).f S.length = b := z
          rw [pe] at z
          exact np (z ▸ hb)
        · have z : (ιp ⟨ι.f, ι1.pr⟩ S.length p).f j = b := z
          rw [pl j hn] at z
          exact nb ⟨j, by omega, z⟩
    · rw [len]
      refine ⟨Nat.lt_succ_self _, ?_⟩
      show V.ref p = V.ref ((ιp ⟨ι.f, ι1.pr⟩ S.length p).f S.length)
      rw [pe]
end
section
variable {X : Cx} {T : XT} {E : XK} {tg iter elt : Expr} {ifs : List Expr} {scope : Scope} {own : List (Str × Nat)} {pos : Pos} {ri : Rho → Store → Res (List D)} {re rc : Rho → Store → Res D} {t : MT}
/-- the reading of [elt for t in it if c] -/
theorem lc_read (m : Bool) {us : List Nat} (ht : ∀ i ∈ t.slots, i ∈ us) {σ : L2.St} {H : Hp} {Q : VK}
    (h : TEv T X.K X.w E (fun ρ S => (ri ρ S).bind fun xs S1 => (lcGo (fun ρ S => (re ρ S).nox) (fun ρ S => (rc ρ S).nox) (wipe ρ us) t xs [] S1).bind fun ys S2 => evMk m ys S2) σ H Q) :
    tLc (TIv T X.K X.w E ri) (gT X.K t) (TTv T X.K X.w E0 fun ρ S => tst (rc ρ S)) (TEv T X.K X.w E0 re) us σ H Q := by
  obtain ⟨ι, ρ, S, R, f⟩ := h
  refine ⟨ι, ρ, S, R, fin_seq R f fun ι1 S1 xs J H1 _ st1 R1 wk f1 => ?_⟩
  intro p hp
  refine ⟨fun i k Hn => k = xs.length - i ∧ i ≤ xs.length ∧ ∃ ι2 S2 acc avs, Step ι1 S1.length H1 ι2 S2.length Hn ∧ SOk T X.K X.w ι2 S2 Hn ∧ p ∈ ι2.pr ∧ Hn p = some (.lst avs) ∧ AtL X.K X.w ι2 S2.length Hn acc avs ∧ acc.length ≤ i ∧
    Fin T X.K X.w E (AtD X.K X.w) ι1 S1.length H1 ((lcGo (fun ρ S => (re ρ S).nox) (fun ρ S => (rc ρ S).nox) (wipe ρ us) t (xs.drop i) acc S2).bind fun ys S2 => evMk m ys S2) Q,
    ⟨xs.length, by simp, Nat.zero_le _, ιn ι1 p, S1, [], [], Step.make hp, R1.st.make hp, List.mem_cons_self, upd_same, rfl, Nat.le_refl _, f1⟩, ?_⟩
  rintro i k Hn ⟨rfl, hi, ι2, S2, acc, avs, st2, so2, hpr, hHp, l2, hacc, f2⟩
  by_cases hlt : i < xs.length
  · refine .inr ⟨wk.go i ι2 S2 Hn hlt st2 so2, _, fun H' q => ⟨xs.length - (i + 1), by omega, q⟩, fun x H' y => ?_⟩
    obtain ⟨d, hd, st3, so3, a3⟩ := wk.yld i ι2 S2 Hn x H' hlt st2 so2 y
    have nop : ∀ {ι' : Pl} {n' : Nat}, Step ι2 S2.length Hn ι' n' H' → True := fun _ => trivial
    have hHp3 : H' p = some (.lst avs) := st3.keep _ _ hHp (so2.prv p hpr).2
    have st13 : Step ι1 S1.length H1 ι2 S2.length H' := st2.trans so2.held st3
    have Rw : Rl T X.K X.w ι2 (wipe ρ us) S2 (L2.wipe σ us) H' := (R1.step st13 so3).wipe _
    have ed : xs.drop i = d :: xs.drop (i + 1) := by
      have e1 := List.drop_eq_getElem_cons hlt
      rw [List.getElem?_eq_getElem hlt] at hd
      cases hd
      exact e1
    rw [ed] at f2
    unfold lcGo at f2
    cases es : setT (wipe ρ us) t d with
    | none => rw [es] at f2; exact False.elim f2
    | some ρ1 =>
      rw [es] at f2
      dsimp only at f2
      refine gT_ok Rw a3 es fun σ2 R2 hw => ⟨?_, ?_⟩
      · have e1 := hw us ht
        rw [e1, wipe_wipe]
      · refine ⟨ι2, ρ1, S2, R2, ?_⟩
        rw [Res.bind_assoc] at f2
        cases er : rc ρ1 S2 with
        | stuck => rw [er] at f2; exact False.elim f2
        | exc x S3 => rw [er] at f2; exact False.elim f2
        | ok b S3 =>
          rw [er] at f2
          have f3 : Fin T X.K X.w E (AtD X.K X.w) ι1 S1.length H1 ((match truthy b S3 with
            | none => Res.stuck
            | some true => ((re ρ1 S3).nox.bind fun d S4 => lcGo (fun ρ S => (re ρ S).nox) (fun ρ S => (rc ρ S).nox) (wipe ρ us) t (xs.drop (i + 1)) (acc ++ [d]) S4)
            | some false => lcGo (fun ρ S => (re ρ S).nox) (fun ρ S => (rc ρ S).nox) (wipe ρ us) t (xs.drop (i + 1)) acc S3).bind fun ys S2 => evMk m ys S2) Q := f2
          clear f2
          show Fin T X.K X.w E0 AtB ι2 S2.length H' (tst (rc ρ1 S2)) _
          rw [er]
          show Fin T X.K X.w E0 AtB ι2 S2.length H' (match truthy b S3 with | some b => Res.ok b S3 | none => Res.stuck) _
          cases ek : truthy b S3 with
          | none => rw [ek] at f3; exact False.elim f3
          | some kk =>
            rw [ek] at f3
            intro c ι4 H4 st4 so4 hc
            cases (show kk = c from hc)
            have hHp4 : H4 p = some (.lst avs) := st4.keep _ _ hHp3 (so3.prv p hpr).2
            have st14 := st13.trans so3.held st4
            have hpr4 := st4.prs p hpr
            have l4 := AtL.step st4 _ _ (AtL.step st3 _ _ l2)
            cases kk with
            | false =>
              refine iteF ⟨rfl, by omega, ι4, S3, acc, avs, st14, so4, hpr4, hHp4, l4, by omega, f3⟩
            | true =>
              refine iteT ⟨ι4, ρ1, S3, R2.step st4 so4, ?_⟩
              have f4 : Fin T X.K X.w E (AtD X.K X.w) ι1 S1.length H1 (((re ρ1 S3).nox.bind fun d S4 => lcGo (fun ρ S => (re ρ S).nox) (fun ρ S => (rc ρ S).nox) (wipe ρ us) t (xs.drop (i + 1)) (acc ++ [d]) S4).bind fun ys S2 => evMk m ys S2) Q := f3
              rw [Res.bind_assoc] at f4
              cases ee : re ρ1 S3 with
              | stuck => rw [ee] at f4; exact False.elim f4
              | exc x S5 => rw [ee] at f4; exact False.elim f4
              | ok d5 S5 =>
                rw [ee] at f4
                intro v5 ι5 H5 st5 so5 a5
                have hHp5 : H5 p = some (.lst avs) := st5.keep _ _ hHp4 (so4.prv p hpr4).2
                have hpr5 := st5.prs p hpr4
                have st15 := st14.trans so4.held st5
                have l5 := AtL.step st5 _ _ l4
                have hlen : avs.length ≤ i := by rw [l2.length]; exact hacc
                have hz := wk.len
                refine ⟨avs, hHp5, Nat.lt_of_le_of_lt hlen (Nat.lt_of_lt_of_le hlt hz), rfl, by omega, ι5, S5, acc ++ [d5], avs ++ [v5], ?_, so5.prw hpr5, hpr5, upd_same, ?_, by rw [List.length_append]; simp; omega, f4⟩
                · exact ⟨st15.le, st15.ext, fun b o hb nb nt => by
                    rw [upd_ne (fun z => by rw [z, hp] at hb; cases hb)]
                    exact st15.keep b o hb nb nt, st15.fresh, st15.prv, st15.prs⟩
                · exact AtL.mv (Mv.prw hpr5) _ _ (l5.append ⟨v5, [], rfl, a5, rfl⟩)
  · have e : i = xs.length := by omega
    subst e
    refine .inl ⟨wk.stop _ ι2 S2 Hn (Nat.le_refl _) st2 so2, ?_⟩
    rw [List.drop_length] at f2
    exact made_fin R1.st hp st2 so2 hpr hHp l2 f2
end
end Ev

set_option Elab.async false
set_option linter.all false
set_option maxRecDepth 100000
set_option maxHeartbeats 2000000
/-! EvSnd7: statements. -/
namespace Ev
open PySem PySem.Spec PyProof.Rows L2
section
variable (T : XT) (K : PySem.W.Frag) (w : World) (E : XK)
def FinS (ι : Pl) (n : Nat) (H : Hp) (r : Res Flo) (Dn : Ends) : Prop := match r with
  | .ok (.nx ρ') S' => ∀ σ' ι' H', Step ι n H ι' S'.length H' → Rl T K w ι' ρ' S' σ' H' → Dn.nx σ' H'
  | .ok (.ret d) S' => ∀ v ι' H', Step ι n H ι' S'.length H' → SOk T K w ι' S' H' → At K w ι' S'.length H' d v → Dn.rt v H'
  | .ok (.brk ρ') S' => ∀ σ' ι' H', Step ι n H ι' S'.length H' → Rl T K w ι' ρ' S' σ' H' → Dn.bk σ' H'
  | .ok (.ct ρ') S' => ∀ σ' ι' H', Step ι n H ι' S'.length H' → Rl T K w ι' ρ' S' σ' H' → Dn.ct σ' H'
  | .exc x S' => ∀ c dd ι' H', Step ι n H ι' S'.length H' → SOk T K w ι' S' H' → XAt T K w ι' S'.length H' x c dd → E c dd H'
  | .stuck => False
def TSv (r : Rho → Store → Res Flo) : TS := fun Dn σ H => ∃ ι ρ S, Rl T K w ι ρ S σ H ∧ FinS T K w E ι S.length H (r ρ S) Dn
end
section
variable {T : XT} {K : PySem.W.Frag} {w : World} {E : XK} {α β : Type} {A : Pl → Nat → Hp → α → β → Prop} {ι : Pl} {n : Nat} {H : Hp}
theorem FinS.later {ι' : Pl} {n' : Nat} {H' : Hp} {r : Res Flo} {Dn : Ends} (h : FinS T K w E ι n H r Dn) (st : Step ι n H ι' n' H') (hm : Held ι' n' H') : FinS T K w E ι' n' H' r Dn := by
  cases r with
  | ok o S =>
    cases o with
    | nx ρ => exact fun σ ι2 H2 st2 R => h σ ι2 H2 (st.trans hm st2) R
    | ret d => exact fun v ι2 H2 st2 so a => h v ι2 H2 (st.trans hm st2) so a
    | brk ρ => exact fun σ ι2 H2 st2 R => h σ ι2 H2 (st.trans hm st2) R
    | ct ρ => exact fun σ ι2 H2 st2 R => h σ ι2 H2 (st.trans hm st2) R
  | exc x S => exact fun c dd ι2 H2 st2 so a => h c dd ι2 H2 (st.trans hm st2) so a
  | stuck => exact h
theorem fin_seqS {ρ : Rho} {S : Store} {σ : L2.St} {r : Res α} {f : α → Store → Res Flo} {Dn : Ends} {P : β → Hp → Prop}
    (R : Rl T K w ι ρ S σ H) (h : FinS T K w E ι S.length H (r.bind f) Dn) (g : ∀ ι1 S1 d v H1, Step ι S.length H ι1 S1.length H1 → Rl T K w ι1 ρ S1 σ H1 → A ι1 S1.length H1 d v → FinS T K w E ι1 S1.length H1 (f d S1) Dn → P v H1) :
    Fin T K w E A ι S.length H r P := by
  cases r with
  | ok d S1 => exact fun v ι' H' st so a => g ι' S1 d v H' st (R.step st so) a (h.later st so.held)
  | exc x S1 => exact h
  | stuck => exact h
/-- a statement, then more -/
theorem finS_seq {ρ : Rho} {S : Store} {r : Res Flo} {f : Rho → Store → Res Flo} {Dn : Ends} {N : L2.St → Hp → Prop}
    (h : FinS T K w E ι n H (r.bind fun o S1 => match o with | .nx ρ1 => f ρ1 S1 | .ret d => .ok (.ret d) S1 | .brk ρ1 => .ok (.brk ρ1) S1 | .ct ρ1 => .ok (.ct ρ1) S1) Dn)
    (g : ∀ σ1 ι1 ρ1 S1 H1, Step ι n H ι1 S1.length H1 → Rl T K w ι1 ρ1 S1 σ1 H1 → FinS T K w E ι1 S1.length H1 (f ρ1 S1) Dn → N σ1 H1) : FinS T K w E ι n H r { Dn with nx := N } := by
  cases r with
  | ok o S1 =>
    cases o with
    | nx ρ1 => exact fun σ1 ι1 H1 st R => g σ1 ι1 ρ1 S1 H1 st R (FinS.later (r := f ρ1 S1) h st R.st.held)
    | ret d => exact h
    | brk ρ1 => exact h
    | ct ρ1 => exact h
  | exc x S1 => exact h
  | stuck => exact h
end
section
variable {X : Cx} {T : XT} {E : XK} {e a b c o i tg iter : Expr} {ra rb rc ro ri re : Rho → Store → Res D} {pos pos' : Pos} {rs rt : Rho → Store → Res Flo} {st : Stmt} {sts body orelse : List Stmt}
theorem pg_n {i : Nat} {x : Str} (hN : X.N.Nodup) (hi : X.N[i]? = some x) (hx : Loc X.env.scope x) (hf : X.fn x = true ∨ X.env.scope.names.lookup x = some .local) : PG X (.Name x pos) (gT X.K (.name i)) := pg_name hN hi hx hf
theorem ps_a {t : MT} (he : PE X e (TEv T X.K X.w E re)) (hg : PG X tg (gT X.K t)) (hs : swapsWithSole [tg] e pos.line X.env = pure false) (hw : swappedStores [tg] e X.env = pure none) (h1 : (assignEach [tg] X.env).map (·.2) = [assign tg X.env]) :
    PS X (.Assign [tg] e pos) (TSv T X.K X.w E fun ρ S => (re ρ S).bind fun x S1 => match setT ρ t x with | some ρ1 => .ok (.nx ρ1) S1 | none => .stuck) :=
  (ps_asg he hg hs hw h1).imp fun Dn σ H ⟨ι, ρ, S, R, f⟩ => ⟨ι, ρ, S, R, fin_seqS R f fun ι1 S1 d v H1 st1 R1 a1 f1 => by
    cases es : setT ρ t d with
    | none => rw [es] at f1; exact False.elim f1
    | some ρ1 =>
      rw [es] at f1
      exact gT_ok R1 a1 es fun σ1 R2 _ => f1 σ1 ι1 H1 Step.refl R2⟩
/-- name = [..] on one line -/
theorem ps_lc {elt : Expr} {ifs : List Expr} {scope : Scope} {own : List (Str × Nat)} {y : Str} {py spos : Pos} {k : Nat} {rl : Rho → Store → Res (List D)} {rr rq : Rho → Store → Res D} {t : MT} (m : Bool) (hc : X.calm = true) (hN : X.N.Nodup) (hy : X.N[k]? = some y) (hyl : X.env.scope.names.lookup y = some .local)
    (hsw : swapsWith (.ListComp elt [⟨tg, iter, ifs, 0⟩] scope pos) (some (.Name y py)) spos.line X.env = pure true) (hi : PI X tg iter (TIv T X.K X.w E rl)) (ok : BlkOk X.N X.env.scope scope own)
    (hg : ∀ (s : Shared) (H : Hp) (C : Addr) (cl : List (Str × Addr)) (fp : List Addr), PG (X.blk s H scope (compEnvC scope cl C X.env) fp) tg (gT X.K t)) (ht : ∀ (s : Shared) (H : Hp) (C : Addr) (cl : List (Str × Addr)) (fp : List Addr), PTs (X.blk s H scope (compEnvC scope cl C X.env) fp) ifs (TTv T X.K X.w E0 fun ρ S => tst (rq ρ S)))
    (he : ∀ (s : Shared) (H : Hp) (C : Addr) (cl : List (Str × Addr)) (fp : List Addr), PE (X.blk s H scope (compEnvC scope cl C X.env) fp) elt (TEv T X.K X.w E0 rr)) (hs : ∀ x, foldedSetIterable iter X.env x = pure x) (hsl : ∀ i ∈ t.slots, i ∈ own.map (·.2)) :
    PS X (.Assign [.Name y py] (.ListComp elt [⟨tg, iter, ifs, 0⟩] scope pos) spos) (TSv T X.K X.w E fun ρ S => ((rl ρ S).bind fun xs S1 => (lcGo (fun ρ S => (rr ρ S).nox) (fun ρ S => (rq ρ S).nox) (wipe ρ (own.map (·.2))) t xs [] S1).bind fun ys S2 => evMk m ys S2).bind fun x S1 => match setT ρ (.name k) x with | some ρ1 => .ok (.nx ρ1) S1 | none => .stuck) :=
  (ps_setLc hc hN hy hyl hsw hi ok hg ht he hs).imp fun Dn σ H ⟨ι, ρ, S, R, f⟩ => by
    refine lc_read (T := T) (E := E) m hsl ⟨ι, ρ, S, R, fin_seqS (A := AtD X.K X.w) R f fun ι1 S1 d v H1 st1 R1 a1 f1 => ?_⟩
    exact f1 _ ι1 H1 Step.refl (R1.set a1)
theorem pe_lcv {elt : Expr} {ifs : List Expr} {scope : Scope} {own : List (Str × Nat)} {rl : Rho → Store → Res (List D)} {rr rq : Rho → Store → Res D} {t : MT} (m : Bool) (hc : X.calm = true) (hN : X.N.Nodup) (hi : PI X tg iter (TIv T X.K X.w E rl)) (ok : BlkOk X.N X.env.scope scope own)
    (hg : ∀ (s : Shared) (H : Hp) (C : Addr) (cl : List (Str × Addr)) (fp : List Addr), PG (X.blk s H scope (compEnvC scope cl C X.env) fp) tg (gT X.K t)) (ht : ∀ (s : Shared) (H : Hp) (C : Addr) (cl : List (Str × Addr)) (fp : List Addr), PTs (X.blk s H scope (compEnvC scope cl C X.env) fp) ifs (TTv T X.K X.w E0 fun ρ S => tst (rq ρ S)))
    (he : ∀ (s : Shared) (H : Hp) (C : Addr) (cl : List (Str × Addr)) (fp : List Addr), PE (X.blk s H scope (compEnvC scope cl C X.env) fp) elt (TEv T X.K X.w E0 rr)) (hs : ∀ x, foldedSetIterable iter X.env x = pure x) (hsl : ∀ i ∈ t.slots, i ∈ own.map (·.2)) :
    PE X (.ListComp elt [⟨tg, iter, ifs, 0⟩] scope pos) (TEv T X.K X.w E fun ρ S => (rl ρ S).bind fun xs S1 => (lcGo (fun ρ S => (rr ρ S).nox) (fun ρ S => (rq ρ S).nox) (wipe ρ (own.map (·.2))) t xs [] S1).bind fun ys S2 => evMk m ys S2) :=
  (pe_lc hc hN hi ok hg ht he hs).imp fun σ H Q h => lc_read m hsl h
theorem pts_n : PTs X [] (TTv T X.K X.w E fun ρ S => tst (Res.ok (D.bl true) S)) := ⟨fun pins s σ H Q I ⟨ι, ρ, S, R, f⟩ => pts_nil.run pins s σ H Q I (f true ι H Step.refl R.st rfl)⟩
/-- a, b = x, y with plain local names -/
theorem ps_p {i j : Nat} {x y : Str} {px py pt : Pos} {kt k2 pt2} (hc : X.calm = true) (hN : X.N.Nodup) (hi : X.N[i]? = some x) (hj : X.N[j]? = some y) (hij : i ≠ j)
    (hx : X.env.scope.names.lookup x = some .local) (hy : X.env.scope.names.lookup y = some .local) (ha : PE X a (TEv T X.K X.w E ra)) (hb : PE X b (TEv T X.K X.w E rb)) (h1 : starEach [a, b] X.env = (false, eval a X.env) :: starEach [b] X.env) (h2 : starEach [b] X.env = (false, eval b X.env) :: starEach [] X.env)
    (hw : swappedStores [.Tuple [.Name x px, .Name y py] kt pt] (.Tuple [a, b] k2 pt2) X.env = pure (some [x, y])) :
    PS X (.Assign [.Tuple [.Name x px, .Name y py] kt pt] (.Tuple [a, b] k2 pt2) pos) (TSv T X.K X.w E fun ρ S => (ra ρ S).bind fun x S1 => (rb ρ S1).bind fun y S2 => .ok (.nx ((ρ.set i (some x)).set j (some y))) S2) :=
  (ps_par hc hN hi hj hij hx hy (pa_cons ha (pa_cons hb pa_nil h2) h1) hw rfl).imp fun Dn σ H ⟨ι, ρ, S, R, f⟩ => ⟨ι, ρ, S, R, fin_seqS R f fun ι1 S1 d v H1 st1 R1 a1 f1 => ⟨ι1, ρ, S1, R1, fin_seqS R1 f1 fun ι2 S2 d2 v2 H2 st2 R2 a2 f2 =>
    ⟨v, v2, rfl, f2 _ ι2 H2 Step.refl ((R2.set (At.step st2 _ _ a1)).set a2)⟩⟩⟩
/-- three at once -/
theorem ps_p3 {i j l : Nat} {x y z : Str} {px py pz pt : Pos} {kt k2 pt2} (hc : X.calm = true) (hN : X.N.Nodup) (hi : X.N[i]? = some x) (hj : X.N[j]? = some y) (hl : X.N[l]? = some z) (hij : i ≠ j) (hil : i ≠ l) (hjl : j ≠ l)
    (hx : X.env.scope.names.lookup x = some .local) (hy : X.env.scope.names.lookup y = some .local) (hz : X.env.scope.names.lookup z = some .local) (ha : PE X a (TEv T X.K X.w E ra)) (hb : PE X b (TEv T X.K X.w E rb)) (hcc : PE X c (TEv T X.K X.w E rc))
    (h1 : starEach [a, b, c] X.env = (false, eval a X.env) :: starEach [b, c] X.env) (h2 : starEach [b, c] X.env = (false, eval b X.env) :: starEach [c] X.env) (h3 : starEach [c] X.env = (false, eval c X.env) :: starEach [] X.env)
    (hw : swappedStores [.Tuple [.Name x px, .Name y py, .Name z pz] kt pt] (.Tuple [a, b, c] k2 pt2) X.env = pure (some [x, y, z])) :
    PS X (.Assign [.Tuple [.Name x px, .Name y py, .Name z pz] kt pt] (.Tuple [a, b, c] k2 pt2) pos) (TSv T X.K X.w E fun ρ S => (ra ρ S).bind fun x S1 => (rb ρ S1).bind fun y S2 => (rc ρ S2).bind fun z S3 => .ok (.nx (((ρ.set i (some x)).set j (some y)).set l (some z))) S3) :=
  (ps_par3 hc hN hi hj hl hij hil hjl hx hy hz (pa_cons ha (pa_cons hb (pa_cons hcc pa_nil h3) h2) h1) hw rfl).imp fun Dn σ H ⟨ι, ρ, S, R, f⟩ => ⟨ι, ρ, S, R, fin_seqS R f fun ι1 S1 d v H1 st1 R1 a1 f1 => ⟨ι1, ρ, S1, R1, fin_seqS R1 f1 fun ι2 S2 d2 v2 H2 st2 R2 a2 f2 => ⟨ι2, ρ, S2, R2, fin_seqS R2 f2 fun ι3 S3 d3 v3 H3 st3 R3 a3 f3 =>
    ⟨v, v2, v3, rfl, f3 _ ι3 H3 Step.refl (((R3.set (At.step st3 _ _ (At.step st2 _ _ a1))).set (At.step st3 _ _ a2)).set a3)⟩⟩⟩⟩
theorem ps_sx (he : PE X e (TEv T X.K X.w E re)) (ho : PE X o (TEv T X.K X.w E ro)) (hi : PE X i (TEv T X.K X.w E ri))
    (ha : ∀ v, assign (.Subscript o i pos) X.env v = (do
      let ov ← holding [v] (eval o X.env)
      let iv ← holding [v, ov] (eval i X.env)
      standAt pos
      holding [v, ov, iv] (setItem ov iv v)
      release [v, ov, iv] [])) (hs : swapsWithSole [.Subscript o i pos] e pos'.line X.env = pure false) :
    PS X (.Assign [.Subscript o i pos] e pos') (TSv T X.K X.w E fun ρ S => (re ρ S).bind fun v S1 => (ro ρ S1).bind fun x S2 => (ri ρ S2).bind fun y S3 => match evSet x y v S3 with | some S4 => .ok (.nx ρ) S4 | none => .stuck) :=
  (ps_asg he (pg_sub ho hi set_list ha) hs rfl rfl).imp fun Dn σ H ⟨ι, ρ, S, R, f⟩ => ⟨ι, ρ, S, R, fin_seqS R f fun ι1 S1 d v H1 st1 R1 a1 f1 => ⟨ι1, ρ, S1, R1, fin_seqS R1 f1 fun ι2 S2 dx x H2 st2 R2 a2 f2 => ⟨ι2, ρ, S2, R2, fin_seqS R2 f2 fun ι3 S3 dy y H3 st3 R3 a3 f3 => by
    replace a1 := At.step st3 _ _ (At.step st2 _ _ a1)
    replace a2 := At.step st3 _ _ a2
    cases es : evSet dx dy d S3 with
    | none => rw [es] at f3; exact False.elim f3
    | some S4 =>
      rw [es] at f3
      dsimp only at f3
      unfold evSet at es
      split at es
      · rename_i n k
        split at es
        · rename_i xs hx
          cases ej : Ev.ixN xs.length k with
          | none => rw [ej] at es; cases es
          | some j =>
            rw [ej] at es
            cases es
            obtain ⟨hn, rfl⟩ := a2
            obtain ⟨ob, h1, vs, e2, l2⟩ := R3.st.at_ _ _ hx
            rw [e2] at h1
            refine ⟨ι3 n, vs, k, j, rfl, a3, h1, by rw [l2.length]; exact ej, ?_⟩
            have st4 : Step ι3 S3.length H3 ι3 S3.length (upd H3 (ι3 n) (.lst (vs.set j v))) := Step.put hn
            have so4 : SOk T X.K X.w ι3 (S3.set n (.lst (xs.set j d))) (upd H3 (ι3 n) (.lst (vs.set j v))) := R3.st.put hn ⟨vs.set j v, rfl, AtL.step st4 _ _ (l2.set j a1)⟩
            have st5 : Step ι3 S3.length H3 ι3 (S3.set n (.lst (xs.set j d))).length (upd H3 (ι3 n) (.lst (vs.set j v))) := by rw [List.length_set]; exact st4
            exact f3 σ ι3 _ st5 (R3.step st5 so4)
        · cases es
      · cases es⟩⟩⟩
theorem ps_e (he : PE X e (TEv T X.K X.w E re)) (hs : swapsWith e none pos.line X.env = pure false) : PS X (.Expr e pos) (TSv T X.K X.w E fun ρ S => (re ρ S).bind fun _ S1 => .ok (.nx ρ) S1) :=
  (ps_expr he hs).imp fun Dn σ H ⟨ι, ρ, S, R, f⟩ => ⟨ι, ρ, S, R, fin_seqS R f fun ι1 S1 d v H1 st1 R1 a1 f1 => f1 σ ι1 H1 Step.refl R1⟩
theorem ps_r (he : PE X e (TEv T X.K X.w E re)) : PS X (.Return (some e) pos) (TSv T X.K X.w E fun ρ S => (re ρ S).bind fun x S1 => .ok (.ret x) S1) :=
  (ps_ret he).imp fun Dn σ H ⟨ι, ρ, S, R, f⟩ => ⟨ι, ρ, S, R, fin_seqS R f fun ι1 S1 d v H1 st1 R1 a1 f1 => f1 v ι1 H1 Step.refl R1.st a1⟩
theorem ps_rn : PS X (.Return none pos) (TSv T X.K X.w E fun _ S => .ok (.ret .non) S) := ps_retN.imp fun Dn σ H ⟨ι, ρ, S, R, f⟩ => f .non ι H Step.refl R.st rfl
theorem ps_ps : PS X (.Pass pos) (TSv T X.K X.w E fun ρ S => .ok (.nx ρ) S) := ps_pass.imp fun Dn σ H ⟨ι, ρ, S, R, f⟩ => f σ ι H Step.refl R
theorem ps_bk : PS X (.Break pos) (TSv T X.K X.w E fun ρ S => .ok (.brk ρ) S) := ps_break.imp fun Dn σ H ⟨ι, ρ, S, R, f⟩ => f σ ι H Step.refl R
theorem ps_ct : PS X (.Continue pos) (TSv T X.K X.w E fun ρ S => .ok (.ct ρ) S) := ps_continue.imp fun Dn σ H ⟨ι, ρ, S, R, f⟩ => f σ ι H Step.refl R
theorem pss_n : PSs X [] (TSv T X.K X.w E fun ρ S => .ok (.nx ρ) S) := pss_nil.imp fun Dn σ H ⟨ι, ρ, S, R, f⟩ => f σ ι H Step.refl R
theorem pss_c (h1 : PS X st (TSv T X.K X.w E rs)) (h2 : PSs X sts (TSv T X.K X.w E rt)) :
    PSs X (st :: sts) (TSv T X.K X.w E fun ρ S => (rs ρ S).bind fun o S1 => match o with | .nx ρ1 => rt ρ1 S1 | .ret d => .ok (.ret d) S1 | .brk ρ1 => .ok (.brk ρ1) S1 | .ct ρ1 => .ok (.ct ρ1) S1) :=
  (pss_cons h1 h2).imp fun Dn σ H ⟨ι, ρ, S, R, f⟩ => ⟨ι, ρ, S, R, finS_seq (ρ := ρ) (S := S) f fun σ1 ι1 ρ1 S1 H1 st1 R1 f1 => ⟨ι1, ρ1, S1, R1, f1⟩⟩
theorem ps_i {r : Rho → Store → Res Bool} (hc : PT X c (TTv T X.K X.w E r)) (ha : PSs X body (TSv T X.K X.w E rs)) (hb : PSs X orelse (TSv T X.K X.w E rt)) :
    PS X (.If c body orelse pos) (TSv T X.K X.w E fun ρ S => (r ρ S).bind fun k S1 => if k = true then rs ρ S1 else rt ρ S1) :=
  (ps_if hc ha hb).imp fun Dn σ H ⟨ι, ρ, S, R, f⟩ => ⟨ι, ρ, S, R, fin_seqS R f fun ι1 S1 d v H1 st1 R1 a1 f1 => by
    cases (show d = v from a1)
    cases d with
    | true => exact iteT ⟨ι1, ρ, S1, R1, f1⟩
    | false => exact iteF ⟨ι1, ρ, S1, R1, f1⟩⟩
/-- for -/
theorem ps_f {t : MT} {rl : Rho → Store → Res (List D)} (hp : PassesOwn (model X.prog X.w) X.A X.env X.xe) (hc : X.calm = true) (hi : PI X tg iter (TIv T X.K X.w E rl)) (hg : PG X tg (gT X.K t)) (hb : PSs X body (TSv T X.K X.w E rs))
    (hs : ∀ x, foldedSetIterable iter X.env x = pure x) : PS X (.For tg iter body [] pos) (TSv T X.K X.w E fun ρ S => (rl ρ S).bind fun xs S1 => forGo rs t xs ρ S1) :=
  (ps_for hp hc hi hg hb hs).imp fun Dn σ H ⟨ι, ρ, S, R, f⟩ => ⟨ι, ρ, S, R, fin_seqS R f fun ι1 S1 xs J H1 st1 R1 wk f1 => by
    refine ⟨fun i k σ' Hn => k = xs.length - i ∧ i ≤ xs.length ∧ ∃ ι2 ρ2 S2, Step ι1 S1.length H1 ι2 S2.length Hn ∧ Rl T X.K X.w ι2 ρ2 S2 σ' Hn ∧ FinS T X.K X.w E ι1 S1.length H1 (forGo rs t (xs.drop i) ρ2 S2) Dn,
      ⟨xs.length, by simp, Nat.zero_le _, ι1, ρ, S1, Step.refl, R1, f1⟩, ?_⟩
    rintro i k σ2 Hn ⟨rfl, hi, ι2, ρ2, S2, st2, R2, f2⟩
    by_cases hlt : i < xs.length
    · refine .inr ⟨wk.go i ι2 S2 Hn hlt st2 R2.st, fun σ' H' => xs.length - (i + 1) = xs.length - (i + 1) ∧ i + 1 ≤ xs.length ∧ ∃ ι2 ρ2 S2, Step ι1 S1.length H1 ι2 S2.length H' ∧ Rl T X.K X.w ι2 ρ2 S2 σ' H' ∧ FinS T X.K X.w E ι1 S1.length H1 (forGo rs t (xs.drop (i + 1)) ρ2 S2) Dn,
        fun σ' H' q => ⟨xs.length - (i + 1), by omega, q⟩, fun x H' y => ?_⟩
      obtain ⟨d, hd, st3, so3, a3⟩ := wk.yld i ι2 S2 Hn x H' hlt st2 R2.st y
      have st13 := st2.trans R2.st.held st3
      have ed : xs.drop i = d :: xs.drop (i + 1) := by
        have e1 := List.drop_eq_getElem_cons hlt
        rw [List.getElem?_eq_getElem hlt] at hd
        cases hd
        exact e1
      rw [ed] at f2
      unfold forGo at f2
      cases es : setT ρ2 t d with
      | none => rw [es] at f2; exact False.elim f2
      | some ρ3 =>
        rw [es] at f2
        dsimp only at f2
        refine gT_ok (R2.step st3 so3) a3 es fun σ3 R3 _ => ⟨ι2, ρ3, S2, R3, ?_⟩
        cases er : rs ρ3 S2 with
        | stuck => rw [er] at f2; exact False.elim f2
        | exc x S4 =>
          rw [er] at f2
          exact fun c dd ι4 H4 st4 so4 a4 => f2 c dd ι4 H4 (st13.trans so3.held st4) so4 a4
        | ok o S4 =>
          rw [er] at f2
          cases o with
          | nx ρ4 => exact fun σ4 ι4 H4 st4 R4 => ⟨rfl, hlt, ι4, ρ4, S4, st13.trans so3.held st4, R4, f2⟩
          | ct ρ4 => exact fun σ4 ι4 H4 st4 R4 => ⟨rfl, hlt, ι4, ρ4, S4, st13.trans so3.held st4, R4, f2⟩
          | brk ρ4 => exact fun σ4 ι4 H4 st4 R4 => f2 σ4 ι4 H4 (st13.trans so3.held st4) R4
          | ret d4 => exact fun v4 ι4 H4 st4 so4 a4 => f2 v4 ι4 H4 (st13.trans so3.held st4) so4 a4
    · have e : i = xs.length := by omega
      subst e
      rw [List.drop_length] at f2
      exact .inl ⟨wk.stop _ ι2 S2 Hn (Nat.le_refl _) st2 R2.st, f2 σ2 ι2 Hn st2 R2⟩⟩
/-- while -/
theorem ps_w {rd : Rho → Store → Res D} (hp : PassesOwn (model X.prog X.w) X.A X.env X.xe) (hc : PT X c (TTv T X.K X.w E fun ρ S => tst (rd ρ S))) (hb : PSs X body (TSv T X.K X.w E rs)) (nmax : Nat) :
    PS X (.While c body [] pos) (TSv T X.K X.w E fun ρ S => whileGo rd rs nmax ρ S) :=
  (ps_while hp hc hb).imp fun Dn σ H ⟨ι, ρ, S, R, f⟩ => by
    refine ⟨fun k σ' Hn => ∃ ι2 ρ2 S2, Step ι S.length H ι2 S2.length Hn ∧ Rl T X.K X.w ι2 ρ2 S2 σ' Hn ∧ FinS T X.K X.w E ι S.length H (whileGo rd rs k ρ2 S2) Dn, ⟨nmax, ι, ρ, S, Step.refl, R, f⟩, ?_⟩
    rintro k σ2 Hn ⟨ι2, ρ2, S2, st2, R2, f2⟩
    cases k with
    | zero => exact False.elim f2
    | succ k =>
      unfold whileGo at f2
      refine ⟨ι2, ρ2, S2, R2, ?_⟩
      show Fin T X.K X.w E AtB ι2 S2.length Hn (tst (rd ρ2 S2)) _
      cases er : rd ρ2 S2 with
      | stuck => rw [er] at f2; exact False.elim f2
      | exc x S3 => rw [er] at f2; exact fun c dd ι3 H3 st3 so3 a3 => f2 c dd ι3 H3 (st2.trans R2.st.held st3) so3 a3
      | ok d S3 =>
        rw [er] at f2
        rw [Res.bind_ok] at f2
        show Fin T X.K X.w E AtB ι2 S2.length Hn (match truthy d S3 with | some b => Res.ok b S3 | none => Res.stuck) _
        cases ek : truthy d S3 with
        | none => rw [ek] at f2; exact False.elim f2
        | some kk =>
          rw [ek] at f2
          intro c ι3 H3 st3 so3 hc
          cases (show kk = c from hc)
          have st13 := st2.trans R2.st.held st3
          cases kk with
          | false => exact iteF (f2 σ2 ι3 H3 st13 (R2.step st3 so3))
          | true =>
            refine iteT ⟨fun σ' H' => ∃ ι2 ρ2 S2, Step ι S.length H ι2 S2.length H' ∧ Rl T X.K X.w ι2 ρ2 S2 σ' H' ∧ FinS T X.K X.w E ι S.length H (whileGo rd rs k ρ2 S2) Dn, fun σ' H' q => ⟨k, Nat.lt_succ_self _, q⟩, ι3, ρ2, S3, R2.step st3 so3, ?_⟩
            dsimp only at f2
            cases ee : rs ρ2 S3 with
            | stuck => rw [ee] at f2; exact False.elim f2
            | exc x S4 => rw [ee] at f2; exact fun c dd ι4 H4 st4 so4 a4 => f2 c dd ι4 H4 (st13.trans so3.held st4) so4 a4
            | ok o S4 =>
              rw [ee] at f2
              cases o with
              | nx ρ4 => exact fun σ4 ι4 H4 st4 R4 => ⟨ι4, ρ4, S4, st13.trans so3.held st4, R4, f2⟩
              | ct ρ4 => exact fun σ4 ι4 H4 st4 R4 => ⟨ι4, ρ4, S4, st13.trans so3.held st4, R4, f2⟩
              | brk ρ4 => exact fun σ4 ι4 H4 st4 R4 => f2 σ4 ι4 H4 (st13.trans so3.held st4) R4
              | ret d4 => exact fun v4 ι4 H4 st4 so4 a4 => f2 v4 ι4 H4 (st13.trans so3.held st4) so4 a4
end
end Ev

set_option Elab.async false
set_option linter.all false
set_option maxRecDepth 100000
set_option maxHeartbeats 2000000
/-! EvDic: dicts of constants, displayed. -/
namespace Ev
open PySem PySem.Spec PyProof.Rows L2
def kon : Const → Option D
  | .none => some .non
  | .bool b => some (.bl b)
  | .int i => some (.int i)
  | .str s => if okS s.cps.toList then some (.str s.cps.toList) else none
  | _ => none
def konE : Expr → Option D
  | .Constant k _ _ => kon k
  | _ => none
def konK : Option Expr → Option Kk
  | some (.Constant (.int i) _ _) => some (.i i)
  | some (.Constant (.str s) _ _) => some (.s s.cps.toList)
  | _ => none
def konV : D → V
  | .bl b => .bl b
  | .int i => .int i
  | .str s => .str (toS s)
  | _ => .non
def mapO {α β : Type} (f : α → Option β) : List α → Option (List β)
  | [] => some []
  | a :: as => match f a, mapO f as with
    | some b, some bs => some (b :: bs)
    | _, _ => none
theorem mapO_cons {α β : Type} {g : α → Option β} {a : α} {as : List α} {ms : List β} (h : mapO g (a :: as) = some ms) : ∃ b bs, ms = b :: bs ∧ g a = some b ∧ mapO g as = some bs := by
  simp only [mapO] at h
  split at h
  · rename_i b bs h1 h2
    cases h
    exact ⟨b, bs, rfl, h1, h2⟩
  · cases h
theorem mapO_length {α β : Type} {g : α → Option β} : ∀ {as : List α} {ms : List β}, mapO g as = some ms → ms.length = as.length
  | [], _, h => by cases h; rfl
  | a :: as, _, h => by
    obtain ⟨b, bs, rfl, _, h2⟩ := mapO_cons h
    simp [mapO_length h2]
section
variable {X : Cx} {T : XT} {E : XK} {pos : Pos}
theorem toS_cps (s : Str) : toS s.cps.toList = s := by cases s; rfl
theorem konE_ok {e : Expr} {d : D} (h : konE e = some d) : PE X e (tC (konV d)) ∧ ∀ ι n H, At X.K X.w ι n H d (konV d) := by
  unfold konE at h
  split at h
  · rename_i kc j p
    cases kc with
    | none => cases h; exact ⟨pe_non, fun _ _ _ => by exact rfl⟩
    | bool b => cases h; exact ⟨pe_bl, fun _ _ _ => by exact rfl⟩
    | int i => cases h; exact ⟨pe_int, fun _ _ _ => by exact rfl⟩
    | str s =>
      simp only [kon] at h
      split at h
      · rename_i hs
        cases h
        refine ⟨?_, fun _ _ _ => by exact ⟨rfl, hs⟩⟩
        show PE X _ (tC (.str (toS s.cps.toList)))
        rw [toS_cps]
        exact pe_str
      · cases h
    | float b => cases h
    | complex a b => cases h
    | bytes b => cases h
    | ellipsis => cases h
  · cases h
theorem konK_ok {o : Option Expr} {k : Kk} (h : konK o = some k) : ∃ e, o = some e ∧ PE X e (tC (kV (kk k))) := by
  unfold konK at h
  split at h
  · cases h; exact ⟨_, rfl, pe_int⟩
  · cases h
    refine ⟨_, rfl, ?_⟩
    show PE X _ (tC (.str (toS _)))
    rw [toS_cps]
    exact pe_str
  · cases h
def trsK : List Kk → List D → List (TE × TE)
  | k :: ks, d :: ds => (tC (kV (kk k)), tC (konV d)) :: trsK ks ds
  | _, _ => []
theorem pps_k : ∀ {keys : List (Option Expr)} {vals : List Expr} {ks : List Kk} {ds : List D}, mapO konK keys = some ks → mapO konE vals = some ds → keys.length = vals.length → PPs X pos keys vals (trsK ks ds)
  | [], [], _, _, h1, h2, _ => by cases h1; cases h2; exact pps_nil
  | o :: keys, v :: vals, _, _, h1, h2, hl => by
    obtain ⟨k, ks, rfl, a1, a2⟩ := mapO_cons h1
    obtain ⟨d, ds, rfl, b1, b2⟩ := mapO_cons h2
    obtain ⟨e, rfl, pk⟩ := konK_ok a1
    exact pps_cons pk (konE_ok b1).1 (pps_k a2 b2 (by simpa using hl))
  | [], _ :: _, _, _, _, _, hl => by simp at hl
  | _ :: _, [], _, _, _, _, hl => by simp at hl
theorem tPairs_k {σ : L2.St} {H : Hp} : ∀ {ks : List Kk} {ds : List D} {Q : List (V × V) → Hp → Prop}, ks.length = ds.length → Q (((ks.map kk).zip (ds.map konV)).map fun kv => (kV kv.1, kv.2)) H → tPairs (trsK ks ds) σ H Q
  | [], [], _, _, q => q
  | k :: ks, d :: ds, Q, hl, q => by
    show tPairs (trsK ks ds) σ H fun ps H3 => Q ((_, _) :: ps) H3
    exact tPairs_k (by simpa using hl) q
  | [], _ :: _, _, hl, _ => by simp at hl
  | _ :: _, [], _, hl, _ => by simp at hl
theorem putK_new {kvs : List (Key × V)} {k : Key} {v : V} (h : ∀ p ∈ kvs, p.1 ≠ k) : putK kvs k v = kvs ++ [(k, v)] := by
  unfold putK
  rw [if_neg]
  simp only [List.any_eq_true, decide_eq_true_eq, not_exists, not_and]
  exact h
theorem mergeK_new : ∀ {more kvs : List (Key × V)}, (more.map (·.1)).Nodup → (∀ p ∈ kvs, ∀ q ∈ more, p.1 ≠ q.1) → mergeK kvs more = kvs ++ more
  | [], kvs, _, _ => by simp [mergeK]
  | q :: more, kvs, nd, h => by
    show mergeK (putK kvs q.1 q.2) more = _
    rw [putK_new fun p hp => h p hp q (List.mem_cons_self ..)]
    rw [mergeK_new (List.nodup_cons.mp nd).2]
    · simp
    · intro p hp r hr
      rcases List.mem_append.mp hp with hp | hp
      · exact h p hp r (List.mem_cons_of_mem _ hr)
      · rw [List.mem_singleton.mp hp]
        intro e
        exact (List.nodup_cons.mp nd).1 (List.mem_map.mpr ⟨r, hr, e.symm⟩)
theorem konAtL {K : PySem.W.Frag} {w : World} : ∀ {ds : List D}, (∀ d ∈ ds, ∀ ι n H, At K w ι n H d (konV d)) → ∀ ι n H, AtL K w ι n H ds (ds.map konV)
  | [], _, _, _, _ => rfl
  | d :: ds, h, ι, n, H => ⟨_, _, rfl, h d (List.mem_cons_self ..) ι n H, konAtL (fun e he => h e (List.mem_cons_of_mem _ he)) ι n H⟩
theorem mapO_all {α β : Type} {g : α → Option β} {p : β → Prop} (hp : ∀ a b, g a = some b → p b) : ∀ {as : List α} {ms : List β}, mapO g as = some ms → ∀ b ∈ ms, p b
  | [], _, h, b, hb => by cases h; cases hb
  | a :: as, _, h, b, hb => by
    obtain ⟨c, bs, rfl, h1, h2⟩ := mapO_cons h
    rcases List.mem_cons.mp hb with e | hb
    · rw [e]; exact hp a c h1
    · exact mapO_all hp h2 b hb
theorem upd_upd {H : Hp} {p : Addr} {a b : HO} : upd (upd H p a) p b = upd H p b := by
  funext q
  by_cases h : q = p
  · rw [h, upd_same, upd_same]
  · rw [upd_ne h, upd_ne h, upd_ne h]
theorem pe_d {keys : List (Option Expr)} {vals : List Expr} {ks : List Kk} {ds : List D} (h1 : mapO konK keys = some ks) (h2 : mapO konE vals = some ds) (hl : keys.length = vals.length) (h15 : keys.length ≤ 15) (h0 : keys ≠ []) (nd : ks.Nodup)
    (call : Nat → List D → Store → Res D) : PE X (.Dict keys vals pos) (TEv T X.K X.w E (ev call (.dic ks ds))) := by
  have hall : keys.all (·.isSome) = true := by
    have : ∀ {keys : List (Option Expr)} {ks : List Kk}, mapO konK keys = some ks → keys.all (·.isSome) = true := by
      intro keys
      induction keys with
      | nil => intro _ _; rfl
      | cons o r ih =>
        intro ks h
        obtain ⟨k, ks, rfl, a1, a2⟩ := mapO_cons h
        obtain ⟨e, rfl, _⟩ := konK_ok (X := X) a1
        simpa using ih a2
    exact this h1
  have l1 := mapO_length h1
  have l2 := mapO_length h2
  refine (pe_disp (pps_k h1 h2 hl) hall hl h0 h15).imp fun σ H Q ⟨ι, ρ, S, R, f⟩ p hp => ?_
  simp only [ev] at f
  refine tPairs_k (by omega) ⟨upd_same, (ks.map kk).zip (ds.map konV), rfl, by simp; omega, ?_⟩
  have em : mergeK [] ((ks.map kk).zip (ds.map konV)) = (ks.map kk).zip (ds.map konV) := by
    rw [mergeK_new]
    · rfl
    · rw [List.map_fst_zip (by simp; omega)]
      exact List.Pairwise.map (R := (· ≠ ·)) (S := (· ≠ ·)) kk (fun a b h e => h (kk_inj e)) nd
    · intro p hp; cases hp
  rw [em, upd_upd]
  have al : ∀ ι n H, AtL X.K X.w ι n H ds (ds.map konV) := konAtL (mapO_all (fun e d h => (konE_ok h).2) h2)
  refine f _ ι _ (Step.new hp) (R.st.new hp) ⟨p, rfl, .inl ⟨ds.map konV, by simp; omega, upd_same, ?_, al _ _ _⟩⟩
  exact R.st.out hp
end
end Ev

set_option Elab.async false
set_option linter.all false
set_option maxRecDepth 100000
set_option maxHeartbeats 2000000
/-! EvExc: raise of an own class without a field. -/
namespace Ev
open PySem PySem.Spec PyProof.Rows L2
section
variable {X : Cx} {T : XT} {E : XK}
abbrev WK (E : XK) : WX := fun cls d _ H => E cls d H
theorem ps_rai {x m : Str} {n j : Nat} {p p2 pos pos2 : Pos} {C : Addr} {bmB : List Value} {B newId initId : String} (hc : X.calm = true) (tk : Takes X (WK E)) (F : ExcBaseFacts B newId initId bmB) (q : PySem.W.excIn X.K C bmB newId = true)
    (gC : X.mg x = some (.ref C)) (kC : PySem.W.keepIn X.K (.ref C) = true) (r : Raises X (.ref C)) (hg : Gl X x) (hdb : (x == ("__debug__" : Str)) = false) (hT : T.cls n = .ref C) :
    PS X (.Raise (some (.Call (.Name x p) [.Constant (.str m) j p2] [] pos2)) none pos) (TSv T X.K X.w E fun _ S => .exc ⟨n, none⟩ S) :=
  (ps_raise hc tk (pmk_own F q gC kC r hg hdb)).imp fun Dn σ H ⟨ι, ρ, S, R, f⟩ => f (.ref C) none ι H Step.refl R.st ⟨hT.symm, rfl⟩
/-- handlers' readings -/
def hRd (T : XT) (K : PySem.W.Frag) (w : World) (r : Rho → Store → Res Flo) : Addr → Value → Option Addr → TS := fun _ _ _ => TSv T K w E0 r
/-- which handler takes it, by tables -/
def pick (x : XV) : List (List (Nat × Bool) × (Store → Res Flo)) → Store → Res Flo
  | [], S => .exc x S
  | (t, r) :: hs, S => match t.lookup x.c with
    | some true => (r S).nox
    | some false => pick x hs S
    | none => .stuck
theorem ps_t {body : List Stmt} {h₀ : ExceptHandler} {hds : List ExceptHandler} {pos : Pos} {rb : Rho → Store → Res Flo} {l : List (Value × List (Nat × Bool) × (Rho → Store → Res Flo))} (hs : X.stack = X.env :: X.outer) (hf : X.env.frame = some X.env.locals) (tk : Takes X (WK E))
    (hb : ∀ (E' : XK) (pn : List (Addr × Obj)) (xe : Value → Shared → Prop), Takes (X.tr pn xe) (WK E') → PassesOwn (model X.prog X.w) X.A X.env xe → PSs (X.tr pn xe) body (TSv T X.K X.w E' rb))
    (hh : L2.HdsOk X (h₀ :: hds) (l.map fun p => (p.1, hRd T X.K X.w fun ρ S => (p.2.2 ρ S).nox))) (ht : ∀ p ∈ l, ∀ n b, p.2.1.lookup n = some b → PySem.W.exmOne X.K (T.cls n) p.1 = some b) :
    PS X (.Try body (h₀ :: hds) [] [] pos) (TSv T X.K X.w E fun ρ S => match rb ρ S with
      | .exc x S1 => pick x (l.map fun p => (p.2.1, p.2.2 [])) S1
      | r => r) := by
  refine (ps_try_many (tb := fun W => TSv T X.K X.w (fun cls d H => ∀ σ, W cls d σ H) rb) hs hf tk (fun W pn xe tkW hp => hb _ pn xe (tkW.imp fun c d σ H h => h σ) hp) hh).imp fun Dn σ H ⟨ι, ρ, S, R, f⟩ => ⟨ι, ρ, S, R, ?_⟩
  dsimp only at f
  cases e : rb ρ S with
  | stuck => rw [e] at f; exact f
  | ok o S1 => rw [e] at f; cases o <;> exact f
  | exc x S1 =>
    rw [e] at f
    dsimp only at f
    intro c dd ι' H' st so xa σ'
    have hc : c = T.cls x.c := xa.1
    suffices key : ∀ l : List (Value × List (Nat × Bool) × (Rho → Store → Res Flo)), (∀ p ∈ l, ∀ n b, p.2.1.lookup n = some b → PySem.W.exmOne X.K (T.cls n) p.1 = some b) → FinS T X.K X.w E ι S.length H (pick x (l.map fun p => (p.2.1, p.2.2 [])) S1) Dn →
        wMany X.K (WK E) Dn (l.map fun p => (p.1, hRd T X.K X.w fun ρ S => (p.2.2 ρ S).nox)) c dd σ' H' from key l ht f
    clear ht f hh e
    intro l ht f
    induction l with
    | nil => exact f c dd ι' H' st so xa
    | cons p r ih =>
      show ∃ b, PySem.W.exmOne X.K c p.1 = some b ∧ _
      simp only [List.map_cons, pick] at f
      cases q : p.2.1.lookup x.c with
      | none => rw [q] at f; exact f.elim
      | some b =>
        rw [q] at f
        refine ⟨b, by rw [hc]; exact ht p (List.mem_cons_self ..) _ _ q, fun hb1 a ha => ?_, fun hb0 => ?_⟩
        · subst hb1
          have f' : FinS T X.K X.w E ι S.length H (p.2.2 [] S1).nox Dn := f
          refine ⟨ι', [], S1, ⟨so, Nat.zero_le _, fun i d h => by simp at h⟩, ?_⟩
          have f2 := f'.later st so.held
          show FinS T X.K X.w E0 ι' S1.length H' (p.2.2 [] S1).nox Dn
          cases q2 : p.2.2 [] S1 with
          | ok o S2 => rw [q2] at f2; cases o <;> exact f2
          | exc y S2 => rw [q2] at f2; exact f2
          | stuck => rw [q2] at f2; exact f2
        · subst hb0
          exact ih (fun p' hp' => ht p' (List.mem_cons_of_mem _ hp')) f
end
end Ev

set_option Elab.async false
set_option linter.all false
set_option maxRecDepth 100000
set_option maxHeartbeats 2000000
/-! EvMix: try with several clauses, some of them named and never taken. -/
namespace Ev
open PySem PySem.Spec PyProof.Rows L2
abbrev SuR : Type := Addr → Value → Option Addr → TS
inductive HdM (Y : Cx) : List ExceptHandler → List (Value × Option SuR) → Prop
  | nil : HdM Y [] []
  | take {y : Str} {c : Value} {rd : SuR} {t : Stmt} {ts : List Stmt} {p q : Pos} {hl : List ExceptHandler} {l : List (Value × Option SuR)} (nm : Names Y y c)
      (su : ∀ (b : Addr) (ob : Obj) (k : Value) (dd : Option Addr) (pq : List (Addr × Obj)), Zc k dd ob → (∃ us, ob.data = .fields us) → PSs (Y.suite b ((b, ob) :: pq)) (t :: ts) (rd b k dd)) (tl : HdM Y hl l) :
      HdM Y (.ExceptHandler (some (.Name y p)) none (t :: ts) q :: hl) ((c, some rd) :: l)
  | skip {y n : Str} {c : Value} {su : List Stmt} {p q : Pos} {hl : List ExceptHandler} {l : List (Value × Option SuR)} (nm : Names Y y c) (tl : HdM Y hl l) : HdM Y (.ExceptHandler (some (.Name y p)) (some n) su q :: hl) ((c, none) :: l)
/-- what the clauses wish -/
def wMx (K : PySem.W.Frag) (out : WX) (dn : Ends) : List (Value × Option SuR) → WX
  | [] => out
  | (c, some rd) :: r => fun k dd τ H => ∃ b, PySem.W.exmOne K k c = some b ∧ (b = true → ∀ a, H a = none → rd a k dd dn τ H) ∧ (b = false → wMx K out dn r k dd τ H)
  | (c, none) :: r => fun k dd τ H => PySem.W.exmOne K k c = some false ∧ wMx K out dn r k dd τ H
section
variable {Y : Cx} {bd : List Stmt} {g₀ : ExceptHandler} {gl : List ExceptHandler} {l : List (Value × Option SuR)} {q : Pos} {tb : WX → TS} {out : WX}
theorem ps_mix (es : Y.stack = Y.env :: Y.outer) (ef : Y.env.frame = some Y.env.locals) (tko : Takes Y out)
    (kb : ∀ (W : WX) (pq : List (Addr × Obj)) (ye : Value → Shared → Prop), Takes (Y.tr pq ye) W → PassesOwn (model Y.prog Y.w) Y.A Y.env ye → PSs (Y.tr pq ye) bd (tb W))
    (hm : HdM Y (g₀ :: gl) l) : PS Y (.Try bd (g₀ :: gl) [] [] q) (fun dn τ H => tb (wMx Y.K out dn l) dn τ H) := by
  constructor
  intro pq s0 τ H dn iv hy
  have yok := iv.ok
  have fre : Y.A.frames = some (Y.env :: Y.outer) := by rw [yok.frames]; exact congrArg some es
  apply wpAny_Try_except
  have run0 := (kb (wMx Y.K out dn l) (Y.pn ++ pq) (fun u s1 => wpAny (model Y.prog Y.w) Y.A (noteFrame u Y.env) (fun _ s2 => wpAny (model Y.prog Y.w) Y.A (setFlight u none)
    (fun _ s3 => wpAny (model Y.prog Y.w) Y.A (handleBy u Y.env (g₀ :: gl)) (SP Y pq dn) Y.xe s3) Y.xe s2) Y.xe s1) (fun u s1 caught => ?_) PassesOwn.looking).run [] s0 τ H dn (iv.toTry _) hy
  · refine wpAny_mono run0 (fun o s1 sp => ?_) fun _ _ z => z
    cases o with
    | ret u =>
      obtain ⟨v, τ1, H1, j, rv, hq⟩ := sp
      exact ⟨v, τ1, H1, j.ofTry yok, rv, hq⟩
    | next =>
      obtain ⟨τ1, H1, j, hq⟩ := sp
      exact wpAny_execs_nil ⟨τ1, H1, j.ofTry yok, hq⟩
    | brk =>
      obtain ⟨τ1, H1, j, hq⟩ := sp
      exact ⟨τ1, H1, j.ofTry yok, hq⟩
    | cont =>
      obtain ⟨τ1, H1, j, hq⟩ := sp
      exact ⟨τ1, H1, j.ofTry yok, hq⟩
  · obtain ⟨a, gr, sI, pq', τ', H', k, dd, rfl, j', nb, up, sky, na, eo, ag, wish⟩ := caught
    have j : L2.Inv Y pq τ' H' sI := j'.ofTry yok
    rw [show (Y.tr (Y.pn ++ pq) _).stack = Y.env :: Y.outer from es] at sky
    refine Sky.land Zc.steady fre ef sky fun h3 fl3 up3 => ?_
    have j3 : L2.Inv Y pq τ' H' { s1 with heap := h3 } := j.landed nb fl3.1 (up.trans up3) eo ag
    obtain ⟨ob, us, atA, zA, fA⟩ := fl3.there
    have far : a ∉ frs (Y.env :: Y.outer) := fun m => by
      obtain ⟨_, ob', e', nf⟩ := fl3.2.2.1.mem m
      rw [atA] at e'
      cases e'
      exact nf _ fA
    have farL : a ≠ Y.env.locals := fun z => far (List.mem_filterMap.mpr ⟨_, List.mem_cons_self, ef.trans (congrArg some z.symm)⟩)
    have farF : a ∉ Y.fs := fun m => by
      obtain ⟨e, me, ze⟩ := List.mem_filterMap.mp m
      exact far (List.mem_filterMap.mpr ⟨e, List.mem_cons_of_mem _ me, ze⟩)
    have k3 := j3.suite atA fA na farL farF
    have lk : PySem.W.Looks (model Y.prog Y.w) h3 (typeOf (.ref a)) k := fun A Q E s kp hq => wpAny_typeOf_ref (kp _ _ atA) (zA.1 ▸ hq)
    have named : ∀ {y : Str} {c : Value} {p : Pos} {Q E : Value → Shared → Prop}, Names Y y c → Q c { s1 with heap := h3 } → wpAny (model Y.prog Y.w) (Y.A.mark (some (.ref a))) (eval (.Name y p) Y.env) Q E { s1 with heap := h3 } := by
      rintro y c p Q E ⟨hg, db, m | ⟨m, bv, nn⟩⟩ hq
      · exact ld_glob (X := Y.suite a ((a, ob) :: (Y.pn ++ pq))) k3 hg m hq db
      · exact ld_blt (X := Y.suite a ((a, ob) :: (Y.pn ++ pq))) k3 hg m bv hq nn db
    suffices loop : ∀ {hl : List ExceptHandler} {ll : List (Value × Option SuR)}, HdM Y hl ll → wMx Y.K out dn ll k dd τ' H' → wpAny (model Y.prog Y.w) Y.A (handleBy (.ref a) Y.env hl) (SP Y pq dn) Y.xe { s1 with heap := h3 } from loop hm wish
    intro hl ll hh
    induction hh with
    | nil =>
      intro wo
      apply wpAny_handleBy_nil
      obtain ⟨_, _, _, oe, vs, tb0, _, _, he, _, hd, h1, _⟩ := id fl3
      unfold PySem.passOn
      refine wpAny_bind (wpAny_field he hd h1 ?_)
      rw [if_neg (by simp : ¬ ((Value.ref tb0 == Value.none) = true))]
      have again : wpAny (model Y.prog Y.w) Y.A (setFlight (.ref a) Y.env.frame) (fun _ s4 => wpAny (model Y.prog Y.w) Y.A (throw (.ref a) : Sem Flow) (SP Y pq dn) Y.xe s4) Y.xe { s1 with heap := h3 } := by
        rw [ef]
        exact HandSPX.setFlight_upZ fl3 fun h4 held4 up4 => wpAny_throw (tko _ _ ⟨a, gr, sI, pq, τ', H', k, dd, rfl, j, nb, (up.trans up3).trans up4, .inr (.inr (es ▸ held4)), na, eo, ag, wo⟩)
      first
        | exact wpAny_bind again
        | exact wpAny_bind (wpAny_pure (wpAny_bind again))
    | @skip y n c su p q' hl ll nm tl ih =>
      rintro ⟨no, wr⟩
      refine wpAny_handleBy_cons (codeAny_handlers_test (named nm ?_)) fun z => by cases z
      exact (PySem.W.exm_one (M := model Y.prog Y.w) j3.kIn lk no).here (ih wr)
    | @take y c rd t ts p q' hl ll nm su tl ih =>
      rintro ⟨b, eb, yes, no⟩
      refine wpAny_handleBy_cons (codeAny_handlers_test (named nm ?_)) fun z => by cases z
      refine (PySem.W.exm_one (M := model Y.prog Y.w) j3.kIn lk eb).here ?_
      cases b with
      | false => exact ih (no rfl)
      | true =>
        refine codeAny_handlers_suite (HandSPX.lands_againZ fl3 fun h4 fl4 up4 => ?_)
        have j4 : L2.Inv Y pq τ' H' { s1 with heap := h4 } := j.landed nb fl4.1 ((up.trans up3).trans up4) eo ag
        obtain ⟨ob4, us4, at4, z4, f4⟩ := fl4.there
        refine wpAny_mono ((su a ob4 k dd (Y.pn ++ pq) z4 ⟨_, f4⟩).run [] _ _ H' _ (j4.suite at4 f4 na farL farF) (yes rfl a na)) (fun o s6 sp => ?_) fun _ _ z => z.elim
        cases o with
        | ret u =>
          obtain ⟨v, τ6, H6, j6, rv, hq⟩ := sp
          exact ⟨v, τ6, H6, j6.unsuite yok, rv, hq⟩
        | next =>
          obtain ⟨τ6, H6, j6, hq⟩ := sp
          exact ⟨τ6, H6, j6.unsuite yok, hq⟩
        | brk =>
          obtain ⟨τ6, H6, j6, hq⟩ := sp
          exact ⟨τ6, H6, j6.unsuite yok, hq⟩
        | cont =>
          obtain ⟨τ6, H6, j6, hq⟩ := sp
          exact ⟨τ6, H6, j6.unsuite yok, hq⟩
end
end Ev

set_option Elab.async false
set_option linter.all false
set_option maxRecDepth 100000
set_option maxHeartbeats 2000000
/-! EvTold: x(lambda: e), where x calls what it got, within try, and returns a text by the exception's class. -/
namespace Ev
open PySem PySem.Spec PyProof.Rows L2
section
variable {K : PySem.W.Frag} {mg : Str → Option Value} {T : XT} {sg : Scope}
/-- the handlers: except x: return text; by tables which classes each takes -/
inductive HdT (K : PySem.W.Frag) (mg : Str → Option Value) (T : XT) (sg : Scope) : List ExceptHandler → List (List (Nat × Bool) × List Nat) → List (Value × Option (List Nat)) → Prop
  | nil : HdT K mg T sg [] [] []
  | cons {x : Str} {C : Value} {t : List (Nat × Bool)} {r : List Nat} {np p q pos : Pos} {j : Nat} {hds : List ExceptHandler} {hs : List (List (Nat × Bool) × List Nat)} {l : List (Value × Option (List Nat))} (hg : sg.names.lookup x = some .globalImplicit) (hd : (x == ("__debug__" : Str)) = false)
      (hm : mg x = some C) (hr : okS r = true) (ht : ∀ n b, t.lookup n = some b → PySem.W.exmOne K (T.cls n) C = some b) (h : HdT K mg T sg hds hs l) :
      HdT K mg T sg (.ExceptHandler (some (.Name x np)) none [.Return (some (.Constant (.str (toS r)) j p)) q] pos :: hds) ((t, r) :: hs) ((C, some r) :: l)
  | skip {x n : Str} {C : Value} {t : List (Nat × Bool)} {np pos : Pos} {su : List Stmt} {hds : List ExceptHandler} {hs : List (List (Nat × Bool) × List Nat)} {l : List (Value × Option (List Nat))} (hg : sg.names.lookup x = some .globalImplicit) (hd : (x == ("__debug__" : Str)) = false)
      (hm : mg x = some C) (ht : ∀ n b, t.lookup n = some b → b = false ∧ PySem.W.exmOne K (T.cls n) C = some false) (h : HdT K mg T sg hds hs l) :
      HdT K mg T sg (.ExceptHandler (some (.Name x np)) (some n) su pos :: hds) ((t, []) :: hs) ((C, none) :: l)
/-- what is asked of an exception -/
def wm (K : PySem.W.Frag) (Q : VK) : List (Value × Option (List Nat)) → XK
  | [] => fun _ _ _ => False
  | (c, none) :: l => fun cls d H => PySem.W.exmOne K cls c = some false ∧ wm K Q l cls d H
  | (c, some r) :: l => fun cls d H => ∃ b, PySem.W.exmOne K cls c = some b ∧ (b = true → Q (.str (toS r)) H) ∧ (b = false → wm K Q l cls d H)
def rdS (r : List Nat) : Addr → Value → Option Addr → TS := fun _ _ _ D _ H => D.rt (.str (toS r)) H
theorem hds_ok {X : Cx} (hK : X.env.scope = sg) (hmg : X.mg = mg) {hds : List ExceptHandler} {hs : List (List (Nat × Bool) × List Nat)} {l : List (Value × Option (List Nat))} (h : HdT K mg T sg hds hs l) : HdM X hds (l.map fun p => (p.1, p.2.map rdS)) := by
  induction h with
  | nil => exact .nil
  | @cons x C t r np p q pos j hds hs l hg hd hm hr ht h ih =>
    refine .take ⟨?_, hd, .inl (by rw [hmg]; exact hm)⟩ (fun a oe cls d pn _ _ => pss_one (ps_ret pe_str)) ih
    show X.env.scope.names.lookup x = _
    rw [hK]; exact hg
  | @skip x n C t np pos su hds hs l hg hd hm ht h ih =>
    refine .skip ⟨?_, hd, .inl (by rw [hmg]; exact hm)⟩ ih
    show X.env.scope.names.lookup x = _
    rw [hK]; exact hg
theorem wm_many {X : Cx} {D : Ends} {l : List (Value × Option (List Nat))} {cls : Value} {d : Option Addr} {H : Hp} (h : wm X.K D.rt l cls d H) (σ : L2.St) : wMx X.K (fun _ _ _ _ => False) D (l.map fun p => (p.1, p.2.map rdS)) cls d σ H := by
  induction l with
  | nil => exact h
  | cons p l ih =>
    obtain ⟨c, r⟩ := p
    cases r with
    | none => exact ⟨h.1, ih h.2⟩
    | some r =>
      obtain ⟨b, e1, e2, e3⟩ := h
      exact ⟨b, e1, fun hb a _ => e2 hb, fun hb => ih (e3 hb)⟩
/-- what such a def makes of the lambda's reading -/
def TTm (K : PySem.W.Frag) (l : List (Value × Option (List Nat))) (d : List Nat) : (XK → Hp → VK → Prop) → Hp → VK → Prop := fun tl H Q => tl (wm K Q l) H fun _ H' => Q (.str (toS d)) H'
theorem many_gives {X : Cx} {Ng : List Str} {x a q : Str} {g : Addr} {cdg : Value} {j : Nat} {p1 p2 p3 p8 p9 p10 : Pos} {h₀ : ExceptHandler} {hds : List ExceptHandler} {hs : List (List (Nat × Bool) × List Nat)} {l : List (Value × Option (List Nat))} {d : List Nat}
    (hh : HdT X.K X.mg T sg (h₀ :: hds) hs l) (h0 : ∀ f : Addr, (L2.start Ng [V.ref f])[0]? = some (some (V.ref f))) :
    LamX.GivesTo X Ng x sg g cdg [.Try [.Expr (.Call (.Name a p1) [] [] p2) p3] (h₀ :: hds) [] [] p8, .Return (some (.Constant (.str (toS d)) j p9)) p10] a q (TTm X.K l d) := by
  intro f c' s H Q tl act hc h
  refine ⟨_, pss_cons (ps_mix (Y := (cxOf C8.CX0 X.prog X.w X.K X.mg X.base Ng x sg g cdg X.A X.stack s H C8.E0).nox)
      (tb := fun W D σ H => ∃ Ech : XK, (∀ cls d σ' H', Ech cls d H' → W cls d σ' H') ∧ σ[0]? = some (some (.ref f)) ∧ H c' = some (LamX.CodeO c' q) ∧ tl Ech H fun _ H' => D.nx σ H')
      (out := fun _ _ _ _ => False) rfl rfl LamX.takes0 (fun W pn xe tk _ => ?_) (hds_ok (X := (cxOf C8.CX0 X.prog X.w X.K X.mg X.base Ng x sg g cdg X.A X.stack s H C8.E0).nox) rfl rfl hh)) (pss_one (ps_ret pe_str)), ?_⟩
  · refine ⟨fun pins s' σ H' D I h' => ?_⟩
    obtain ⟨Ech, hW, h1, h2, h3⟩ := h'
    have hp := act W pn xe Ech p1 p2 tk hW
    have hq := pss_one (ps_expr (pos := p3) hp)
    exact hq.run pins s' σ H' D I ⟨h1, h2, h3⟩
  · refine ⟨wm X.K Q l, fun cls d σ' H' z => ?_, h0 f, hc, h⟩
    exact wm_many (X := (cxOf C8.CX0 X.prog X.w X.K X.mg X.base Ng x sg g cdg X.A X.stack s H C8.E0).nox) (D := { nx := fun _ H' => _, rt := Q }) z σ'
end
section
variable {K : PySem.W.Frag} {w : World} {T : XT} {ι : Pl} {S : Store} {H H1 : Hp}
theorem Step.tabs {n : Nat} (e : LamX.ExtN H H1) : Step ι n H ι n H1 where
  le := Nat.le_refl _
  ext := fun _ _ => rfl
  keep := fun b o h _ nt => e b o h nt
  fresh := fun j h1 h2 => absurd h2 (Nat.not_lt.mpr h1)
  prv := fun _ h => .inl h
  prs := fun _ h => h
theorem SOk.tabs (s : SOk T K w ι S H) (e : LamX.ExtN H H1) (t : LamX.Tabs T.tb H1) : SOk T K w ι S H1 where
  tab := t
  inj := s.inj
  at_ := fun j o h => by
    obtain ⟨x, e1, e2⟩ := s.at_ j o h
    exact ⟨x, e _ _ e1 e2.nt, e2.step (Step.tabs e)⟩
  prv := fun b hb => by
    obtain ⟨⟨o, h⟩, no⟩ := s.prv b hb
    exact ⟨⟨o, e _ _ h (by intro _ z; cases z)⟩, no⟩
/-- what the head tells of such a def -/
def TolF (T : XT) (K : PySem.W.Frag) (mg : Str → Option Value) (x : Str) (hs : List (List (Nat × Bool) × List Nat)) (d : List Nat) : Prop :=
  ∃ (g : Addr) (N : List Str) (a : Str) (sg : Scope) (pg : Arguments) (bg : List Stmt) (fd : FuncData), FunD K x x pg bg sg [] [] g fd ∧ mg x = some (.ref g) ∧ L2.Binds K fd [a] [] ∧ FnScope N [a] sg ∧ N[0]? = some a ∧ Vis sg a ∧ (a == ("__debug__" : Str)) = false ∧ (a == ("__classdict__" : Str)) = false ∧ okS d = true ∧
    ∃ (p1 p2 p3 p8 p9 p10 : Pos) (j : Nat) (h₀ : ExceptHandler) (hds : List ExceptHandler) (l : List (Value × Option (List Nat))), bg = [.Try [.Expr (.Call (.Name a p1) [] [] p2) p3] (h₀ :: hds) [] [] p8, .Return (some (.Constant (.str (toS d)) j p9)) p10] ∧ HdT K mg T sg (h₀ :: hds) hs l
theorem wm_pick {K : PySem.W.Frag} {mg : Str → Option Value} {w : World} {sg : Scope} {E : XK} {hds : List ExceptHandler} {hs : List (List (Nat × Bool) × List Nat)} {l : List (Value × Option (List Nat))} (h : HdT K mg T sg hds hs l) {Q : VK} {ι : Pl} {n : Nat} {H0 : Hp} {c : Nat} {S1 : Store} (f : Fin T K w E (AtD K w) ι n H0 (pickT hs c S1) Q) {ι' : Pl} {H' : Hp} (st : Step ι n H0 ι' S1.length H') (so : SOk T K w ι' S1 H') (dd : Option Addr) :
    wm K Q l (T.cls c) dd H' := by
  induction h with
  | nil => exact False.elim f
  | @cons x C t r np p q pos j hds hs l hg hd hm hr ht h ih =>
    simp only [pickT] at f
    cases e : t.lookup c with
    | none => rw [e] at f; exact False.elim f
    | some b =>
      rw [e] at f
      refine ⟨b, ht _ _ e, fun hb => ?_, fun hb => ?_⟩
      · subst hb
        exact f (.str (toS r)) ι' H' st so ⟨rfl, hr⟩
      · subst hb
        exact ih f
  | @skip x n C t np pos su hds hs l hg hd hm ht h ih =>
    simp only [pickT] at f
    cases e : t.lookup c with
    | none => rw [e] at f; exact False.elim f
    | some b =>
      obtain ⟨rfl, e2⟩ := ht _ _ e
      rw [e] at f
      exact ⟨e2, ih f⟩
end
section
variable {X : Cx} {T : XT} {E : XK} {call : Nat → List D → Store → Res D}
theorem pe_told {x : Str} {c P : Addr} {k : Nat} {scope : Scope} {body : Expr} {m : ME} {hs : List (List (Nat × Bool) × List Nat)} {d : List Nat} {p lpos pos : Pos} (F : TolF T X.K X.mg x hs d) (hg : Gl X x) (hdb : (x == ("__debug__" : Str)) = false)
    (TB : LamX.TabB X.base X.mg c P) (hcode : X.env.code = .ref c) (hmT : (P, X.env.qual ++ "<lambda>") ∈ T.tb) (hu : ∀ p ∈ T.tb, p.1 = P → p.2 = X.env.qual ++ "<lambda>") (hr : Room (k + 2) X.A) (L : LamX.LamS X.env.scope scope)
    (htk : ∀ S, call tickI [] S = .ok .non S)
    (hbody : ∀ (A : Around) (outer : List Env) (s : Shared) (H : Hp) (E' : XK) (f c' : Addr), Room k (A.deeper (LamX.lamEnv X scope s.heap.objs.size f c')) → PE (LamX.lamCx X A outer s H E' scope f c') body (TEv T X.K X.w E' (ev call m))) :
    PE X (.Call (.Name x p) [.Lambda ⟨[], [], none, [], [], none, []⟩ body scope lpos] [] pos) (TEv T X.K X.w E (ev call (.told hs d m))) := by
  obtain ⟨g, N, a, sg, pg, bg, fd, F, hm, hb, Sg, hNg, hva, hd1, hd2, hok, p1, p2, p3, p8, p9, p10, j, h₀, hds, l, rfl, hh⟩ := F
  obtain ⟨oc, od, dV, kV, doc, pm, an, cdv, ct, osl, rfl, lk, hcg, _, _⟩ := F.ex
  refine (LamX.pe_lamcall (T := T.tb) (t := fun E' => TEv T X.K X.w E' (ev call m)) hg hm F.kp lk hcg hb Sg hNg hva (many_gives (a := a) (d := d) hh ?_) TB hcode hmT hu hr L rfl (fun q cl pm cv ctv => rfl) hbody hdb hd1 hd2).imp ?_
  · intro f
    cases N with
    | nil => cases hNg
    | cons y N => rfl
  · rintro σ H Q ⟨ι, ρ, S, R, f⟩
    refine ⟨R.st.tab, fun H1 eN t1 => ?_⟩
    have so1 := R.st.tabs eN t1
    have st1 : Step ι S.length H ι S.length H1 := Step.tabs eN
    refine ⟨ι, ρ, S, R.step st1 so1, ?_⟩
    have f1 := f.later st1 so1.held
    simp only [ev, htk, Res.bind_ok] at f1
    cases e : ev call m ρ S with
    | stuck => rw [e] at f1; exact False.elim f1
    | ok v S1 =>
      rw [e] at f1
      exact fun v ι' H' st so _ => f1 (.str (toS d)) ι' H' st so ⟨rfl, hok⟩
    | exc x S1 =>
      rw [e] at f1
      intro cc dd ι' H' st so xa
      have hc : cc = T.cls x.c := xa.1
      subst hc
      exact wm_pick hh f1 st so dd
end
end Ev

set_option Elab.async false
set_option linter.all false
set_option maxRecDepth 100000
set_option maxHeartbeats 2000000
/-! EvTr1: the translator of expressions. -/
namespace Ev
open PySem PySem.Spec PyProof.Rows L2

inductive MN where
  | fn (i ar : Nat) | con (d : D) | bi | cls (n : Nat) | tol (i : Nat) (hs : List (List (Nat × Bool) × List Nat)) (d : List Nat)
/-- the same, called from within a lambda -/
def MN.deep : MN → MN
  | .fn i ar => .fn (lamI i) ar
  | m => m
/-- what the translator knows of a block -/
structure SC where
  N : List Str
  sc : Scope
  fn : Str → Bool
  md : List (Str × MN)
  mu : List (Nat × Nat)
  lam : Bool
def slotOf : List Str → Str → Option Nat
  | [], _ => none
  | y :: ys, x => if y = x then some 0 else (slotOf ys x).map (· + 1)
theorem slotOf_ok : ∀ {N : List Str} {x : Str} {i : Nat}, slotOf N x = some i → N[i]? = some x
  | [], _, _, h => by simp [slotOf] at h
  | y :: ys, x, i, h => by
    unfold slotOf at h
    split at h
    · rename_i e; cases h; simp [e]
    · cases q : slotOf ys x with
      | none => rw [q] at h; cases h
      | some j =>
        rw [q] at h; cases h
        simpa using slotOf_ok q
def opOf : Operator → Option BOp
  | .Add => some .add
  | .Sub => some .sub
  | .Mult => some .mul
  | .FloorDiv => some .fdiv
  | .Mod => some .mod
  | .Pow => some .pow
  | _ => none
theorem opOf_ok {o : Operator} {b : BOp} (h : opOf o = some b) : bop b = o := by cases o <;> first | (cases h; done) | (cases h; rfl)
def copOf : CmpOp → COp
  | .Eq => .eq
  | .NotEq => .ne
  | .Lt => .lt
  | .LtE => .le
  | .Gt => .gt
  | .GtE => .ge
  | .Is => .is_
  | .IsNot => .isnt
  | .In => .in_
  | .NotIn => .nin
theorem copOf_ok (o : CmpOp) : cop (copOf o) = o := by cases o <;> rfl
def tyOf (x : Str) : Option Ty :=
  if x = "int" then some .int else if x = "bool" then some .bool else if x = "str" then some .str else if x = "tuple" then some .tuple else if x = "list" then some .list else if x = "dict" then some .dict else none
theorem tyOf_ok {x : Str} {t : Ty} (h : tyOf x = some t) : bootBuiltins x = some (.type (tyN t)) ∧ x ≠ "__name__" ∧ (x == ("__debug__" : Str)) = false := by
  unfold tyOf at h
  repeat' split at h
  all_goals first
    | (cases h; done)
    | (rename_i e; cases h; subst e; exact ⟨by decide +kernel, by decide +kernel, by decide +kernel⟩)
def biOf (x : Str) : Option Bi :=
  if x = "len" then some .len else if x = "tuple" then some .tuple else if x = "list" then some .list else if x = "int" then some .int else if x = "abs" then some .abs else if x = "sum" then some .sum
  else if x = "all" then some .all else if x = "any" then some .any else if x = "min" then some .min else if x = "max" then some .max else none
theorem biOf_ok {x : Str} {t : Bi} (h : biOf x = some t) : bootBuiltins x = some (biV t) ∧ x ≠ "__name__" ∧ (x == ("__debug__" : Str)) = false := by
  unfold biOf at h
  repeat' split at h
  all_goals first
    | (cases h; done)
    | (rename_i e; cases h; subst e; exact ⟨by decide +kernel, by decide +kernel, by decide +kernel⟩)
def mtOf (x : Str) : Option Mt := if x = "append" then some .append else if x = "get" then some .get else if x = "index" then some .index else none
theorem mtOf_ok {x : Str} {t : Mt} (h : mtOf x = some t) : x = mtN t := by
  unfold mtOf at h
  repeat' split at h
  all_goals first
    | (cases h; done)
    | (rename_i e; cases h; exact e)
def nst : Expr → Bool
  | .Starred _ _ => false
  | _ => true
theorem star1 {e : Expr} (h : nst e = true) (es : List Expr) (env : Env) : starEach (e :: es) env = (false, eval e env) :: starEach es env := by
  cases e <;> first | rfl | (cases h; done)
theorem starAny : ∀ {es : List Expr} (h : es.all nst = true) (env : Env) (pos : Pos), (backTo pos (starEach es env)).any (·.1) = false
  | [], _, _, _ => rfl
  | e :: es, h, env, pos => by
    simp only [List.all_cons, Bool.and_eq_true] at h
    rw [star1 h.1]
    show (false || (backTo pos (starEach es env)).any (·.1)) = false
    rw [starAny h.2]; rfl
theorem starAll : ∀ {es : List Expr} (h : es.all nst = true) (env : Env) (pos : Pos), (backTo pos (starEach es env)).all (fun x => !x.1) = true
  | [], _, _, _ => rfl
  | e :: es, h, env, pos => by
    simp only [List.all_cons, Bool.and_eq_true] at h
    rw [star1 h.1]
    show (true && (backTo pos (starEach es env)).all (fun x => !x.1)) = true
    rw [starAll h.2]; rfl
def nCall : Expr → Bool
  | .Call _ _ _ _ => false
  | _ => true
theorem base1 {o : Expr} (h : nCall o = true) (a : Str) (env : Env) : attributeBase o a env (eval o env) = eval o env := by
  cases o <;> first | rfl | (cases h; done)
def nSl : Expr → Bool
  | .Slice _ _ _ _ => false
  | _ => true
theorem plain1 {b : Expr} (h : nSl b = true) : PlainIx b := by
  intro o i
  cases b <;> first | rfl | (cases h; done)
def nSet : Expr → Bool
  | .Set _ _ _ => false
  | _ => true
theorem fold1 {e : Expr} (h : nSet e = true) (env : Env) (x : Value) : foldedSetIterable e env x = pure x := by
  cases e <;> first | rfl | (cases h; done)
def nComp : Expr → Bool
  | .ListComp _ _ _ _ => false
  | .SetComp _ _ _ _ => false
  | .DictComp _ _ _ _ _ => false
  | _ => true
theorem swap1 {e : Expr} (h : nComp e = true) (t : Option Expr) (l : Nat) (env : Env) : swapsWith e t l env = pure false := by
  cases e <;> first | rfl | (cases h; done)
/-- is the name a slot that can be read -/
def visB (c : SC) (x : Str) : Bool := match c.sc.names.lookup x with
  | some .local => true
  | some .cell => true
  | some .free => true
  | _ => false
def locB (c : SC) (x : Str) : Bool := match c.sc.names.lookup x with
  | some .local => true
  | some .cell => c.fn x
  | _ => false
def gloB (c : SC) (x : Str) : Bool := match c.sc.names.lookup x with
  | some .globalImplicit => true
  | _ => false
def sane (x : Str) : Bool := !(x == ("__debug__" : Str)) && !(x == ("__classdict__" : Str))
def ownOf (N : List Str) (sc : Scope) : List (Str × Nat) := sc.names.filterMap fun y => match y.2 with
  | .local => (slotOf N y.1).map fun i => (y.1, i)
  | .cell => (slotOf N y.1).map fun i => (y.1, i)
  | _ => none
def SC.blk (c : SC) (scope : Scope) : SC := { c with sc := relS scope c.sc, fn := fun x => scope.names.lookup x == some .cell }
def SC.inLam (c : SC) (scope : Scope) : SC := { c with sc := scope, fn := fun _ => false, md := c.md.map (fun p => (p.1, p.2.deep)), lam := false }
def noPar : Arguments → Bool
  | ⟨[], [], none, [], [], none, []⟩ => true
  | _ => false
theorem noPar_ok {a : Arguments} (h : noPar a = true) : a = ⟨[], [], none, [], [], none, []⟩ := by
  unfold noPar at h
  split at h
  · rfl
  · cases h
def atMu (c : SC) (p : Pos) : Bool := c.mu.any fun q => q.1 == p.line && q.2 == p.col
abbrev Tr := SC → Expr → Option ME
def trB (f : Tr) (c : SC) (op : BoolOp) : Expr → List Expr → Option ME
  | a, [] => f c a
  | a, b :: r => match f c a, trB f c op b r with
    | some x, some y => some (match op with
      | .And => .and_ x y
      | .Or => .or_ x y)
    | _, _ => none
def trO (f : Tr) (c : SC) : Option Expr → Option (List ME)
  | none => some []
  | some e => (f c e).map fun m => [m]
def tgName (c : SC) : Expr → Option Nat
  | .Name x _ => if locB c x then slotOf c.N x else none
  | _ => none
def trT (c : SC) : Expr → Option MT
  | .Name x p => (tgName c (.Name x p)).map .name
  | .Tuple es _ _ => if es.all nst then (mapO (tgName c) es).map .names else none
  | _ => none
/-- an iteration: over what -/
def trI (f : Tr) (c : SC) (tg : Expr) (e : Expr) : Option MI := match e with
  | .Call (.Name x p) as [] pos =>
    if gloB c x then (match c.md.lookup x with
      | some .bi =>
        if as.all nst then
          if x = "range" then (match as with
            | [a] => (f c a).map fun m => .rng (.con (.int 0)) m
            | [a, b] => (match f c a, f c b with
              | some m, some l => some (.rng m l)
              | _, _ => none)
            | _ => none)
          else (match tg with
            | .Tuple _ _ _ => if x = "zip" then (match as with
                | [a, b] => (match f c a, f c b with
                  | some m, some l => some (.zip m l)
                  | _, _ => none)
                | _ => none)
              else if x = "enumerate" then (match as with
                | [a] => (f c a).map .enum
                | _ => none)
              else (f c e).map .seq
            | _ => (f c e).map .seq)
        else none
      | _ => (f c e).map .seq)
    else none
  | e => if nSet e then (f c e).map .seq else none
def trIfs (f : Tr) (c : SC) : List Expr → Option (List ME)
  | [] => some []
  | [a] => (f c a).map fun m => [m]
  | _ => none
def trCall (f : Tr) (c : SC) (x : Str) (args : List Expr) : Option ME :=
  if gloB c x && !(x == ("__debug__" : Str)) && args.all nst then (match c.md.lookup x with
    | some (.fn i _) => (mapO (f c) args).map fun ms => .call i ms
    | some .bi => if x = "isinstance" then (match args with
        | [a, .Name y _] => (match tyOf y, c.md.lookup y with
          | some t, some .bi => if gloB c y then (f c a).map fun m => .isi m t else none
          | _, _ => none)
        | _ => none)
      else (match biOf x, args with
        | some b, _ :: _ => (mapO (f c) args).map fun ms => .bi b ms
        | _, _ => none)
    | _ => none) else none
def trLam (f : Tr) (c : SC) (x : Str) (params : Arguments) (body : Expr) (scope : Scope) : Option ME :=
  if gloB c x && !(x == ("__debug__" : Str)) && c.lam && noPar params && LamX.lamSB c.sc scope then (match c.md.lookup x with
    | some (.tol _ hs d) => (f (c.inLam scope) body).map (.told hs d)
    | _ => none) else none
/-- t.index(e), t a tuple of texts of the module -/
def trIdx (f : Tr) (c : SC) (m : Str) : Expr → List Expr → Option ME
  | .Name x _, [e] => if m = "index" then (if gloB c x && !(x == ("__debug__" : Str)) then (match c.md.lookup x with
    | some (.con (.tup xs)) => (match strsOf xs with
      | some zs => (f c e).map (.idxc zs)
      | none => none)
    | _ => none) else none) else none
  | _, _ => none
def stepE (f : Tr) : Tr := fun c e => match e with
  | .Name x _ => if visB c x then (if sane x then (slotOf c.N x).map .var else none) else if gloB c x && !(x == ("__debug__" : Str)) then (match c.md.lookup x with
    | some (.con d) => some (.con d)
    | _ => none) else none
  | .Constant k _ _ => (kon k).map .con
  | .BinOp a o b _ => (match f c a, opOf o, f c b with
    | some x, some o, some y => some (.bin o x y)
    | _, _, _ => none)
  | .Compare a [o] [b] _ => if behindInMarks o b then none else (match f c a, f c b with
    | some x, some y => some (.cmp (copOf o) x y)
    | _, _ => none)
  | .Compare a [o, p] [b, d] _ => if lastMarks [o, p] [b, d] then none else (match f c a, f c b, f c d with
    | some x, some y, some z => some (.chain (copOf o) (copOf p) x y z)
    | _, _, _ => none)
  | .BoolOp op (a :: r) _ => trB f c op a r
  | .UnaryOp .Not a _ => (f c a).map .not_
  | .UnaryOp .USub a _ => (f c a).map .neg
  | .IfExp t a b _ => (match f c t, f c a, f c b with
    | some x, some y, some z => some (.ife x y z)
    | _, _, _ => none)
  | .Tuple es _ _ => if es.all nst && decide (es.length ≤ line) then (mapO (f c) es).map .tup else none
  | .List es p => if es.all nst && decide (es.length ≤ line) then (mapO (f c) es).map (.lst (atMu c p)) else none
  | .Dict keys vals _ => if decide (keys.length = vals.length) && decide (keys.length ≤ 15) && !keys.isEmpty then (match mapO konK keys, mapO konE vals with
    | some ks, some ds => if decide ks.Nodup then some (.dic ks ds) else none
    | _, _ => none) else none
  | .Subscript a (.Slice lo hi none _) _ => (match f c a, trO f c lo, trO f c hi with
    | some x, some l, some h => some (.sl x l h)
    | _, _, _ => none)
  | .Subscript a b _ => if nSl b then (match f c a, f c b with
    | some x, some y => some (.ix x y)
    | _, _ => none) else none
  | .Call (.Name x _) [.Lambda params body scope _] [] _ => trLam f c x params body scope
  | .Call (.Name x _) args [] _ => trCall f c x args
  | .Call (.Attribute o m apos) (e :: es) [] cpos =>
    if nCall o && (e :: es).all nst && decide ((e :: es).length < 30) && (apos.endLine == cpos.line) then (match trIdx f c m o (e :: es) with
    | some r => some r
    | none => match f c o, mtOf m, mapO (f c) (e :: es) with
      | some x, some t, some ms => some (.mt t x ms)
      | _, _, _ => none) else none
  | .ListComp elt [⟨tg, iter, ifs, 0⟩] scope p =>
    if blkC c.N c.sc scope (ownOf c.N scope) && nSet iter then (match trT (c.blk scope) tg, trI f c tg iter, trIfs f (c.blk scope) ifs, f (c.blk scope) elt with
      | some t, some it, some cs, some m => if (t.slots.all fun i => ((ownOf c.N scope).map (·.2)).contains i) then some (.lc (atMu c p) ((ownOf c.N scope).map (·.2)) t it cs m) else none
      | _, _, _, _ => none) else none
  | _ => none
/-- what is not known is left open: it may not be reached -/
def tr : Nat → Tr
  | 0 => fun _ _ => some .bad
  | n + 1 => fun c e => match stepE (tr n) c e with
    | some m => some m
    | none => some .bad
end Ev

set_option Elab.async false
set_option linter.all false
set_option maxRecDepth 100000
set_option maxHeartbeats 2000000
/-! EvTr2: the translator of expressions is sound. -/
namespace Ev
open PySem PySem.Spec PyProof.Rows L2

def MdOk (T : XT) (P : Program) (w : World) (K : PySem.W.Frag) (mg : Str → Option Value) (base : Heap) (call : Nat → List D → Store → Res D) (k : Nat) (md : List (Str × MN)) : Prop := ∀ x m, md.lookup x = some m → match m with
  | .fn i ar => (∀ ds S, ds.length ≠ ar → call i ds S = .stuck) ∧ ∃ f fd ps, FnOk P w K mg base (L2.CX P w) k f fd ps (spF T K w ar (call i)) ∧ mg x = some (.ref f) ∧ PySem.W.keepIn K (.ref f) = true ∧ Binds K fd ps []
  | .con d => ∃ u v, mg x = some u ∧ RelV v u ∧ ∀ ι n H, At K w ι n H d v
  | .bi => mg x = none
  | .cls n => ∃ C, mg x = some (.ref C) ∧ T.cls n = .ref C ∧ PySem.W.excIn K C [.type "ValueError", .type "Exception", .type "BaseException", .type "object"] "ValueError.__new__" = true ∧ PySem.W.keepIn K (.ref C) = true ∧ PySem.W.subIn K (.ref C) (.type "BaseException") = some true ∧ PySem.W.typeIn K (.ref C) = some (.type "type")
  | .tol _ hs d => TolF T K mg x hs d
/-- what the making of a lambda asks -/
structure LamG (T : XT) (call : Nat → List D → Store → Res D) (k : Nat) (X : Cx) (c : SC) : Prop where
  code : ∃ cc P, LamX.TabB X.base X.mg cc P ∧ X.env.code = .ref cc ∧ (P, X.env.qual ++ "<lambda>") ∈ T.tb ∧ ∀ p ∈ T.tb, p.1 = P → p.2 = X.env.qual ++ "<lambda>"
  md2 : ∀ k', k = k' + 2 → MdOk T X.prog X.w X.K X.mg X.base call k' (c.md.map fun p => (p.1, p.2.deep))
  tick0 : k < 2 → ∀ S, call tickI [] S = .stuck
  tick2 : 2 ≤ k → ∀ S, call tickI [] S = .ok .non S
structure Gd (T : XT) (call : Nat → List D → Store → Res D) (k : Nat) (X : Cx) (c : SC) (E : XK) : Prop where
  N : X.N = c.N
  nd : c.N.Nodup
  sc : X.env.scope = c.sc
  kind : c.sc.kind = .function
  fn : ∀ x, c.fn x = true → X.fn x = true
  calm : X.calm = true
  hu : X.A.units + 200 < cLine
  room : Room k X.A
  pass : Passes (L2.CX X.prog X.w) X E
  md : MdOk T X.prog X.w X.K X.mg X.base call k c.md
  lam : c.lam = true → LamG T call k X c
structure Snd (T : XT) (call : Nat → List D → Store → Res D) (f : Tr) : Prop where
  e : ∀ {k : Nat} X c E, Gd T call k X c E → ∀ e m, f c e = some m → PE X e (TEv T X.K X.w E (ev call m))
  t : ∀ {k : Nat} X c E, Gd T call k X c E → ∀ e m, f c e = some m → PT X e (TTv T X.K X.w E fun ρ S => tst (ev call m ρ S))
section
variable {T : XT} {call : Nat → List D → Store → Res D} {k : Nat} {f : Tr} {X : Cx} {c : SC} {E : XK}
theorem noCX {P : Program} {w : World} {o : List Env} {H : Hp} {s : Shared} {e : Value} {s' : Shared} (h : L2.CX P w o H s E0 e s') : False := by
  obtain ⟨_, _, _, _, _, _, _, _, _, _, _, _, h⟩ := h
  exact h
theorem Gd.blk (g : Gd T call k X c E) {scope : Scope} (ok : BlkOk c.N c.sc scope (ownOf c.N scope)) (s : Shared) (H : Hp) (C : Addr) (cl : List (Str × Addr)) (fp : List Addr) :
    Gd T call k (X.blk s H scope (compEnvC scope cl C X.env) fp) (c.blk scope) E0 where
  N := g.N
  nd := g.nd
  sc := by
    show relS scope X.env.scope = relS scope c.sc
    rw [g.sc]
  kind := ok.kind
  fn := fun x h => h
  calm := g.calm
  hu := g.hu
  room := g.room
  pass := fun _ _ _ _ _ _ _ h => (noCX h).elim
  md := g.md
  lam := fun h => let q := g.lam h; ⟨q.code, q.md2, q.tick0, q.tick2⟩
/-- in a lambda -/
theorem Gd.inLam (g : Gd T call k X c E) {k' : Nat} {scope : Scope} (hk : k = k' + 2) (hl : c.lam = true) (L : LamX.LamS X.env.scope scope) {A : Around} {outer : List Env} {s : Shared} {H : Hp} {E' : XK} {f c' : Addr} (hr : Room k' (A.deeper (LamX.lamEnv X scope s.heap.objs.size f c'))) :
    Gd T call k' (LamX.lamCx X A outer s H E' scope f c') (c.inLam scope) E' where
  N := g.N
  nd := g.nd
  sc := rfl
  kind := L.kind
  fn := fun x h => by cases h
  calm := rfl
  hu := by have := hr.un; show (A.deeper (LamX.lamEnv X scope s.heap.objs.size f c')).units + 200 < cLine; omega
  room := hr
  pass := passes_call (takes_of rfl rfl rfl rfl) (fun _ _ _ _ h => h)
  md := (g.lam hl).md2 k' hk
  lam := fun h => by cases h
theorem Gd.vis (g : Gd T call k X c E) {x : Str} (h : visB c x = true) : Vis X.env.scope x := by
  unfold Vis
  rw [g.sc]
  unfold visB at h
  split at h
  · rename_i e; exact .inl e
  · rename_i e; exact .inr (.inl e)
  · rename_i e; exact .inr (.inr e)
  · cases h
theorem Gd.glo (g : Gd T call k X c E) {x : Str} (h : gloB c x = true) : Gl X x := by
  unfold Gl
  show X.env.scope.names.lookup x = _
  rw [g.sc]
  unfold gloB at h
  split at h
  · rename_i e; exact e
  · cases h
theorem Gd.loc (g : Gd T call k X c E) {x : Str} (h : locB c x = true) : L2.Loc X.env.scope x ∧ (X.fn x = true ∨ X.env.scope.names.lookup x = some .local) := by
  unfold L2.Loc
  rw [g.sc]
  unfold locB at h
  split at h
  · rename_i e; exact ⟨.inl e, .inr e⟩
  · rename_i e; exact ⟨.inr e, .inl (g.fn x h)⟩
  · cases h
theorem kon_ok {kc : Const} {d : D} {j : Nat} {pos : Pos} (h : kon kc = some d) : PE X (.Constant kc j pos) (TEv T X.K X.w E (ev call (.con d))) := by
  cases kc with
  | none => cases h; exact pe_k (X := X) (t := fun _ _ _ => True) (d := .non) pe_non (fun _ _ _ => by exact rfl) call
  | bool b => cases h; exact pe_k (X := X) (t := fun _ _ _ => True) (d := .bl b) pe_bl (fun _ _ _ => by exact rfl) call
  | int i => cases h; exact pe_k (X := X) (t := fun _ _ _ => True) (d := .int i) pe_int (fun _ _ _ => by exact rfl) call
  | str s =>
    simp only [kon] at h
    split at h
    · rename_i hs
      cases h
      exact pe_k (X := X) (t := fun _ _ _ => True) (d := .str s.cps.toList) pe_str (fun _ _ _ => by exact ⟨by cases s; rfl, hs⟩) call
    · cases h
  | float b => cases h
  | complex a b => cases h
  | bytes b => cases h
  | ellipsis => cases h
/-! ### the evaluator's equations, in the rules' shapes -/
section
variable {a b d : ME} {es : List ME}
theorem ev_and : ev call (.and_ a b) = fun ρ S => (ev call a ρ S).bind fun x S1 => match truthy x S1 with | some k => (if k = true then ev call b ρ S1 else .ok x S1) | none => .stuck := by
  funext ρ S; simp only [ev]; congr 1; funext x S1
  cases truthy x S1 with
  | none => rfl
  | some b => cases b <;> rfl
theorem ev_or : ev call (.or_ a b) = fun ρ S => (ev call a ρ S).bind fun x S1 => match truthy x S1 with | some k => (if k = true then .ok x S1 else ev call b ρ S1) | none => .stuck := by
  funext ρ S; simp only [ev]; congr 1; funext x S1
  cases truthy x S1 with
  | none => rfl
  | some b => cases b <;> rfl
theorem tst_bind2 {α : Type} (r : Res D) (g : Bool → Store → Res α) : (tst r).bind g = r.bind fun x S1 => match truthy x S1 with | some k => g k S1 | none => .stuck := by
  cases r with
  | ok x S =>
    show (match truthy x S with | some b => Res.ok b S | none => .stuck).bind g = (match truthy x S with | some k => g k S | none => .stuck)
    cases truthy x S <;> rfl
  | exc x S => rfl
  | stuck => rfl
theorem tst_and : (fun ρ S => tst (ev call (.and_ a b) ρ S)) = fun ρ S => (tst (ev call a ρ S)).bind fun k S1 => if k = true then tst (ev call b ρ S1) else .ok false S1 := by
  funext ρ S; rw [tst_bind2, ev_and]; dsimp only; rw [tst_bind]; congr 1; funext x S1
  cases h : truthy x S1 with
  | none => rfl
  | some k =>
    cases k with
    | true => rfl
    | false => show (match truthy x S1 with | some b => Res.ok b S1 | none => .stuck) = _; rw [h]; rfl
theorem tst_or : (fun ρ S => tst (ev call (.or_ a b) ρ S)) = fun ρ S => (tst (ev call a ρ S)).bind fun k S1 => if k = true then .ok true S1 else tst (ev call b ρ S1) := by
  funext ρ S; rw [tst_bind2, ev_or]; dsimp only; rw [tst_bind]; congr 1; funext x S1
  cases h : truthy x S1 with
  | none => rfl
  | some k =>
    cases k with
    | false => rfl
    | true => show (match truthy x S1 with | some b => Res.ok b S1 | none => .stuck) = _; rw [h]; rfl
theorem tst_not : (fun ρ S => tst (ev call (.not_ a) ρ S)) = fun ρ S => (tst (ev call a ρ S)).bind fun k S1 => .ok (!k) S1 := by
  funext ρ S; rw [tst_bind2]; simp only [ev]; rw [tst_bind]; congr 1; funext x S1
  cases truthy x S1 <;> rfl
theorem ev_ife : ev call (.ife d a b) = fun ρ S => (tst (ev call d ρ S)).bind fun k S1 => if k = true then ev call a ρ S1 else ev call b ρ S1 := by
  funext ρ S; rw [tst_bind2]; simp only [ev]; congr 1; funext x S1
  cases truthy x S1 with
  | none => rfl
  | some b => cases b <;> rfl
theorem tst_ife : (fun ρ S => tst (ev call (.ife d a b) ρ S)) = fun ρ S => (tst (ev call d ρ S)).bind fun k S1 => if k = true then tst (ev call a ρ S1) else tst (ev call b ρ S1) := by
  funext ρ S; rw [ev_ife]; dsimp only; rw [tst_bind]; congr 1; funext k S1
  cases k <;> rfl
end
theorem evs_len : ∀ (ms : List ME) (ρ : Rho) (S : Store) (xs : List D) (S1 : Store), evs call ms ρ S = .ok xs S1 → xs.length = ms.length
  | [], ρ, S, xs, S1, h => by simp only [evs] at h; cases h; rfl
  | m :: ms, ρ, S, xs, S1, h => by
    simp only [evs] at h
    cases h1 : ev call m ρ S with
    | stuck => rw [h1] at h; cases h
    | exc x S => rw [h1] at h; cases h
    | ok x S2 =>
      rw [h1, Res.bind_ok] at h
      cases h2 : evs call ms ρ S2 with
      | stuck => rw [h2] at h; cases h
      | exc x S => rw [h2] at h; cases h
      | ok ys S3 =>
        rw [h2, Res.bind_ok] at h
        cases h
        simp [evs_len ms ρ S2 ys _ h2]
theorem evs_cons (m : ME) (ms : List ME) : evs call (m :: ms) = fun ρ S => (ev call m ρ S).bind fun x S1 => (evs call ms ρ S1).bind fun xs S2 => .ok (x :: xs) S2 := by
  funext ρ S; simp only [evs]
theorem pa_m (h : Snd T call f) (g : Gd T call k X c E) : ∀ {es : List Expr} {ms : List ME}, es.all nst = true → mapO (f c) es = some ms → PA X es (TAv T X.K X.w E (evs call ms))
  | [], _, _, e => by cases e; exact pa_n call
  | a :: es, _, hs, e => by
    obtain ⟨b, bs, rfl, h1, h2⟩ := mapO_cons e
    simp only [List.all_cons, Bool.and_eq_true] at hs
    rw [evs_cons]
    exact pa_c (h.e X c E g _ _ h1) (pa_m h g hs.2 h2) (star1 hs.1 _ _)
theorem trB_ok (h : Snd T call f) (g : Gd T call k X c E) {op : BoolOp} {pos : Pos} : ∀ {es : List Expr} {e : Expr} {m : ME}, trB f c op e es = some m →
    PE X (.BoolOp op (e :: es) pos) (TEv T X.K X.w E (ev call m)) ∧ PW X (.BoolOp op (e :: es) pos) (TTv T X.K X.w E fun ρ S => tst (ev call m ρ S))
  | [], e, m, q => by
    refine ⟨pe_one (h.e X c E g _ _ q), ?_⟩
    cases op
    · exact pw_and1 (h.t X c E g _ _ q)
    · exact pw_or1 (h.t X c E g _ _ q)
  | b :: r, e, m, q => by
    simp only [trB] at q
    split at q
    · rename_i x y h1 h2
      obtain ⟨i1, i2⟩ := trB_ok h g (pos := pos) h2
      cases op with
      | And =>
        cases q
        exact ⟨by rw [ev_and]; exact pe_a (h.e X c E g _ _ h1) i1, by rw [tst_and]; exact pw_a (h.t X c E g _ _ h1) i2⟩
      | Or =>
        cases q
        exact ⟨by rw [ev_or]; exact pe_o (h.e X c E g _ _ h1) i1, by rw [tst_or]; exact pw_o (h.t X c E g _ _ h1) i2⟩
    · cases q
theorem trO_ok (h : Snd T call f) (g : Gd T call k X c E) {e : Option Expr} {l : List ME} (q : trO f c e = some l) : PO X e (TPv T X.K X.w E (evP call l)) := by
  cases e with
  | none =>
    cases q
    have : evP call [] = fun _ S => .ok .non S := by funext ρ S; simp only [evP]
    rw [this]
    exact po_n
  | some e =>
    simp only [trO, Option.map_eq_some_iff] at q
    obtain ⟨m, h1, rfl⟩ := q
    have : evP call [m] = fun ρ S => (ev call m ρ S).bind fun d S1 => match d with | .int i => .ok (.int i) S1 | _ => .stuck := by
      funext ρ S; simp only [evP] <;> rfl
    rw [this]
    exact po_s (h.e X c E g _ _ h1)
theorem tgName_ok (g : Gd T call k X c E) {e : Expr} {i : Nat} (h : tgName c e = some i) : ∃ x p, e = .Name x p ∧ X.N[i]? = some x ∧ L2.Loc X.env.scope x ∧ (X.fn x = true ∨ X.env.scope.names.lookup x = some .local) := by
  unfold tgName at h
  split at h
  · rename_i x p
    split at h
    · rename_i hl
      refine ⟨x, p, rfl, ?_, (g.loc hl).1, (g.loc hl).2⟩
      rw [g.N]
      exact slotOf_ok h
    · cases h
  · cases h
theorem asg1 {e : Expr} (h : nst e = true) (es : List Expr) (env : Env) : assignEach (e :: es) env = (false, assign e env) :: assignEach es env := by
  cases e <;> first | rfl | (cases h; done)
theorem asg_len : ∀ {es : List Expr} (h : es.all nst = true) (env : Env), (assignEach es env).length = es.length
  | [], _, _ => rfl
  | e :: es, h, env => by
    simp only [List.all_cons, Bool.and_eq_true] at h
    rw [asg1 h.1, List.length_cons, asg_len h.2, List.length_cons]
theorem asg_star : ∀ {es : List Expr} (h : es.all nst = true) (env : Env), (assignEach es env).findIdx? (·.1) = none
  | [], _, _ => rfl
  | e :: es, h, env => by
    simp only [List.all_cons, Bool.and_eq_true] at h
    rw [asg1 h.1, List.findIdx?_cons, asg_star h.2]; rfl
theorem pgs_m (g : Gd T call k X c E) : ∀ {es : List Expr} {is : List Nat}, es.all nst = true → mapO (tgName c) es = some is → PGs X es (gNs is)
  | [], _, _, e => by cases e; exact pgs_nil
  | a :: es, _, hs, e => by
    obtain ⟨i, is, rfl, h1, h2⟩ := mapO_cons e
    simp only [List.all_cons, Bool.and_eq_true] at hs
    obtain ⟨x, p, rfl, hN, hx, hf⟩ := tgName_ok g h1
    exact pgs_cons (pg_name (g.N ▸ g.nd) hN hx hf) (pgs_m g hs.2 h2) (by rw [asg1 hs.1]; rfl)
theorem trT_ok (g : Gd T call k X c E) {e : Expr} {t : MT} (h : trT c e = some t) : PG X e (gT X.K t) := by
  unfold trT at h
  split at h
  · rename_i x p
    simp only [Option.map_eq_some_iff] at h
    obtain ⟨i, h1, rfl⟩ := h
    obtain ⟨x', p', e, hN, hx, hf⟩ := tgName_ok g h1
    cases e
    exact pg_n (g.N ▸ g.nd) hN hx hf
  · rename_i es k p
    split at h
    · rename_i hs
      simp only [Option.map_eq_some_iff] at h
      obtain ⟨is, h1, rfl⟩ := h
      exact pg_tup g.calm (pgs_m g hs h1) (by rw [asg_len hs, mapO_length h1]) (asg_star hs _)
    · cases h
  · cases h
end
end Ev

set_option Elab.async false
set_option linter.all false
set_option maxRecDepth 100000
set_option maxHeartbeats 4000000
/-! EvTr3: the translator of expressions is sound: one step. -/
namespace Ev
open PySem PySem.Spec PyProof.Rows L2
section
variable {T : XT} {call : Nat → List D → Store → Res D} {k : Nat} {f : Tr} {X : Cx} {c : SC} {E : XK}
theorem seq_ok {tg e : Expr} {m : MI} (h : Snd T call f) (g : Gd T call k X c E) (q : (f c e).map MI.seq = some m) : PI X tg e (TIv T X.K X.w E (evI call m)) := by
  simp only [Option.map_eq_some_iff] at q
  obtain ⟨a, h1, rfl⟩ := q
  have e1 : evI call (.seq a) = fun ρ S => (ev call a ρ S).bind fun x S1 => match seqOf x with | some xs => .ok xs S1 | none => .stuck := by
    funext ρ S; simp only [evI] <;> rfl
  rw [e1]
  exact pi_s (h.e X c E g _ _ h1)
theorem trI_ok {tg e : Expr} {m : MI} (h : Snd T call f) (g : Gd T call k X c E) (q : trI f c tg e = some m) : PI X tg e (TIv T X.K X.w E (evI call m)) := by
  unfold trI at q
  split at q
  · rename_i x p as pos
    split at q
    · rename_i hg
      split at q
      · rename_i hl
        have hm := g.md _ _ hl
        dsimp only at hm
        split at q
        · rename_i hs
          split at q
          · rename_i hx
            subst hx
            split at q
            · rename_i a
              simp only [Option.map_eq_some_iff] at q
              obtain ⟨b, h1, rfl⟩ := q
              simp only [List.all_cons, Bool.and_eq_true, List.all_nil] at hs
              have e1 : evI call (.rng (.con (.int 0)) b) = fun ρ S => (Res.ok (D.int 0) S).bind fun x S1 => (ev call b ρ S1).bind fun y S2 => match x, y with
                  | .int lo, .int hi => if -(2 ^ 62) ≤ lo ∧ lo < 2 ^ 62 ∧ -(2 ^ 62) ≤ hi ∧ hi < 2 ^ 62 ∧ (hi - lo).toNat ≤ line then .ok (rngD lo (hi - lo).toNat) S2 else .stuck
                  | _, _ => .stuck := by
                funext ρ S; simp only [evI, ev] <;> rfl
              rw [e1]
              exact pi_r (g.glo hg) hm (h.e X c E g _ _ h1) (star1 hs.1 _ _) (star1 hs.1 _ _)
            · rename_i a b
              split at q
              · rename_i m1 m2 h1 h2
                cases q
                simp only [List.all_cons, Bool.and_eq_true, List.all_nil] at hs
                have e1 : evI call (.rng m1 m2) = fun ρ S => (ev call m1 ρ S).bind fun x S1 => (ev call m2 ρ S1).bind fun y S2 => match x, y with
                    | .int lo, .int hi => if -(2 ^ 62) ≤ lo ∧ lo < 2 ^ 62 ∧ -(2 ^ 62) ≤ hi ∧ hi < 2 ^ 62 ∧ (hi - lo).toNat ≤ line then .ok (rngD lo (hi - lo).toNat) S2 else .stuck
                    | _, _ => .stuck := by
                  funext ρ S; simp only [evI] <;> rfl
                rw [e1]
                exact pi_r2 (g.glo hg) hm (h.e X c E g _ _ h1) (h.e X c E g _ _ h2) (by rw [star1 hs.1, star1 hs.2.1]; rfl) (star1 hs.2.1 _ _)
              · cases q
            · cases q
          · split at q
            · rename_i elts kk tpos
              split at q
              · rename_i hx
                subst hx
                split at q
                · rename_i a b
                  split at q
                  · rename_i m1 m2 h1 h2
                    cases q
                    simp only [List.all_cons, Bool.and_eq_true, List.all_nil] at hs
                    have e1 : evI call (.zip m1 m2) = fun ρ S => (ev call m1 ρ S).bind fun x S1 => (ev call m2 ρ S1).bind fun y S2 => match x, y with
                        | .tup xs, .tup ys => .ok (zipD xs ys) S2
                        | .lst xs, .lst ys => .ok (zipD xs ys) S2
                        | _, _ => .stuck := by
                      funext ρ S; simp only [evI] <;> rfl
                    rw [e1]
                    exact pi_z (g.glo hg) hm (h.e X c E g _ _ h1) (h.e X c E g _ _ h2) (star1 hs.1 _ _) (star1 hs.2.1 _ _)
                  · cases q
                · cases q
              · split at q
                · rename_i hx
                  subst hx
                  split at q
                  · rename_i a
                    simp only [Option.map_eq_some_iff] at q
                    obtain ⟨b, h1, rfl⟩ := q
                    simp only [List.all_cons, Bool.and_eq_true, List.all_nil] at hs
                    have e1 : evI call (.enum b) = fun ρ S => (ev call b ρ S).bind fun x S1 => match x with
                        | .lst xs => .ok (enumD 0 xs) S1
                        | _ => .stuck := by
                      funext ρ S; simp only [evI] <;> rfl
                    rw [e1]
                    exact pi_e (g.glo hg) hm (h.e X c E g _ _ h1) (star1 hs.1 _ _) (star1 hs.1 _ _)
                  · cases q
                · exact seq_ok h g q
            · exact seq_ok h g q
        · cases q
      · exact seq_ok h g q
    · cases q
  · split at q
    · exact seq_ok h g q
    · cases q
theorem trIfs_ok {es : List Expr} {ms : List ME} (h : Snd T call f) (g : Gd T call k X c E) (q : trIfs f c es = some ms) : PTs X es (TTv T X.K X.w E fun ρ S => tst (evC call ms ρ S)) := by
  unfold trIfs at q
  split at q
  · cases q
    have e1 : evC call [] = fun _ S => Res.ok (D.bl true) S := by funext ρ S; simp only [evC]
    rw [e1]
    exact pts_n
  · simp only [Option.map_eq_some_iff] at q
    obtain ⟨b, h1, rfl⟩ := q
    have e1 : evC call [b] = ev call b := by funext ρ S; simp only [evC]
    rw [e1]
    exact pts_one (h.t X c E g _ _ h1)
  · cases q
theorem trCall_ok {x : Str} {p pos : Pos} {args : List Expr} {m : ME} (h : Snd T call f) (g : Gd T call k X c E) (q : trCall f c x args = some m) : PE X (.Call (.Name x p) args [] pos) (TEv T X.K X.w E (ev call m)) := by
  unfold trCall at q
  split at q
  · rename_i hc
    simp only [Bool.and_eq_true, Bool.not_eq_true'] at hc
    obtain ⟨⟨hg, hdb⟩, hs⟩ := hc
    split at q
    · rename_i i ar hl
      simp only [Option.map_eq_some_iff] at q
      obtain ⟨ms, h1, rfl⟩ := q
      obtain ⟨har, fa, fd, ps, F, hm, hk, hb⟩ := g.md _ _ hl
      cases args with
      | nil =>
        cases h1
        have e1 : ev call (.call i []) = fun ρ S => call i [] S := by funext ρ S; simp only [ev, evs] <;> rfl
        rw [e1]
        exact pe_f0 F har g.room (g.glo hg) hm hk hb g.pass hdb
      | cons a as =>
        have e1 : ev call (.call i ms) = fun ρ S => (evs call ms ρ S).bind fun xs S1 => call i xs S1 := by funext ρ S; simp only [ev]
        rw [e1]
        have hs' := hs
        simp only [List.all_cons, Bool.and_eq_true] at hs'
        exact pe_f F har g.room (g.glo hg) hm hk hb g.pass (pa_m h g hs h1) hdb (star1 hs'.1 _ _) (starAny hs'.2 _ _)
    · rename_i hl
      have hm := g.md _ _ hl
      dsimp only at hm
      split at q
      · rename_i hx
        subst hx
        split at q
        · rename_i a y p2
          split at q
          · rename_i t ht hl2
            have hm2 := g.md _ _ hl2
            dsimp only at hm2
            split at q
            · rename_i hg2
              simp only [Option.map_eq_some_iff] at q
              obtain ⟨ma, h1, rfl⟩ := q
              obtain ⟨hv2, hn2, hd2⟩ := tyOf_ok ht
              have e1 : ev call (.isi ma t) = fun ρ S => (ev call ma ρ S).bind fun v S1 => liftB (isiD v t) S1 := by funext ρ S; simp only [ev]
              rw [e1]
              simp only [List.all_cons, Bool.and_eq_true, List.all_nil] at hs
              exact pe_isi (g.glo hg) hm (g.glo hg2) hm2 hv2 hn2 hd2 (h.e X c E g _ _ h1) (star1 hs.1 _ _)
            · cases q
          · cases q
        · cases q
      · split at q
        · rename_i b a as hb
          simp only [Option.map_eq_some_iff] at q
          obtain ⟨ms, h1, rfl⟩ := q
          obtain ⟨hv, hn, hd⟩ := biOf_ok hb
          have e1 : ev call (.bi b ms) = fun ρ S => (evs call ms ρ S).bind fun xs S1 => lift (evBi b xs S1) S1 := by funext ρ S; simp only [ev]
          rw [e1]
          have hs' := hs
          simp only [List.all_cons, Bool.and_eq_true] at hs'
          exact pe_bi g.calm b (g.glo hg) hm hv (pa_m h g hs h1) hn hd (star1 hs'.1 _ _) (starAny hs'.2 _ _)
        · cases q
    · cases q
  · cases q
/-- a constant of the module -/
theorem glo_ok {x : Str} {pos : Pos} {d : D} (g : Gd T call k X c E) (hg : gloB c x = true) (hdb : (x == ("__debug__" : Str)) = false) (hl : c.md.lookup x = some (.con d)) : PE X (.Name x pos) (TEv T X.K X.w E (ev call (.con d))) := by
  obtain ⟨u, v, hm, r, ha⟩ := g.md _ _ hl
  exact pe_k (X := X) (t := fun _ _ _ => True) (pe_glob (g.glo hg) hm r hdb) ha call
end
end Ev

set_option Elab.async false
set_option linter.all false
set_option maxRecDepth 100000
set_option maxHeartbeats 4000000
/-! EvTr4: the translator of expressions is sound: the step. -/
namespace Ev
open PySem PySem.Spec PyProof.Rows L2
section
variable {T : XT} {call : Nat → List D → Store → Res D} {k : Nat} {f : Tr} {X : Cx} {c : SC} {E : XK}
/-- most expressions' truth is their value's -/
theorem snd_of {e : Expr} {m : ME} (h : PE X e (TEv T X.K X.w E (ev call m))) (he : ∀ whole, isTrue e X.env whole = (do let v ← whole; standAt e.pos; holding [v] (PySem.truthy v))) :
    PE X e (TEv T X.K X.w E (ev call m)) ∧ PT X e (TTv T X.K X.w E fun ρ S => tst (ev call m ρ S)) := ⟨h, pt_of h he⟩
theorem trIdx_ok {o : Expr} {mn : Str} {es : List Expr} {m : ME} {apos cpos : Pos} (h : Snd T call f) (g : Gd T call k X c E) (hs : es.all nst = true) (hl : es.length < 30) (hline : (apos.endLine == cpos.line) = true) (q : trIdx f c mn o es = some m) : PE X (.Call (.Attribute o mn apos) es [] cpos) (TEv T X.K X.w E (ev call m)) := by
  unfold trIdx at q
  split at q
  · rename_i x p e
    split at q
    · rename_i hm
      subst hm
      split at q
      · rename_i hc
        simp only [Bool.and_eq_true, Bool.not_eq_true'] at hc
        split at q
        · rename_i xs hlk
          split at q
          · rename_i zs hz
            simp only [Option.map_eq_some_iff] at q
            obtain ⟨a, h1, rfl⟩ := q
            obtain ⟨u, v, hmg, r, ha⟩ := g.md _ _ hlk
            obtain ⟨p', vs, rfl, hk, hl2⟩ := ha ⟨fun _ => 0, []⟩ 0 (fun _ => none)
            have hk' : KTup X.K p' vs := by
              rcases hk with ⟨e, _⟩ | e
              · cases e
              · exact e
            obtain ⟨ob, its, nn, k1, k2, k3, k4, k5, k6⟩ := hk'
            have ev1 := AtL.ofStrs hz hl2
            subst ev1
            simp only [List.all_cons, Bool.and_eq_true, List.all_nil] at hs
            have e1 : ev call (.idxc zs a) = fun ρ S => (ev call a ρ S).bind fun d S1 => lift (evIdxS d zs) S1 := by funext ρ S; simp only [ev]
            rw [e1]
            refine pe_idxc (to := .ref p') (pe_glob (g.glo hc.1) hmg r hc.2) ⟨p', ob, its, nn, rfl, k1, k2, k6, k3, k4, k5⟩ ?_ rfl ?_ hline (star1 hs.1 _ _)
            · have e2 : (fun ρ S => (ev call a ρ S).bind fun d S1 => Res.ok [d] S1) = evs call [a] := by funext ρ S; simp only [evs, Res.bind_ok]
              rw [e2]
              exact pa_m h g (es := [e]) (by simp [hs.1]) (by simp [mapO, h1])
            · rw [starAll (by simp [hs.1])]
              rfl
          · cases q
        · cases q
      · cases q
    · cases q
  · cases q
theorem trLam_ok {x : Str} {p pos lpos : Pos} {params : Arguments} {body : Expr} {scope : Scope} {m : ME} (h : Snd T call f) (g : Gd T call k X c E) (q : trLam f c x params body scope = some m) : PE X (.Call (.Name x p) [.Lambda params body scope lpos] [] pos) (TEv T X.K X.w E (ev call m)) := by
  unfold trLam at q
  split at q
  · rename_i hc
    simp only [Bool.and_eq_true, Bool.not_eq_true'] at hc
    obtain ⟨⟨⟨⟨hg, hdb⟩, hl⟩, hn⟩, hL⟩ := hc
    have en := noPar_ok hn
    subst en
    split at q
    · rename_i i hs d hlk
      simp only [Option.map_eq_some_iff] at q
      obtain ⟨a, h1, rfl⟩ := q
      have F : TolF T X.K X.mg x hs d := g.md _ _ hlk
      have L : LamX.LamS X.env.scope scope := by rw [g.sc]; exact LamX.lamS_by hL
      have q := g.lam hl
      by_cases hk : k < 2
      · refine ⟨fun pins s σ H Q I ⟨ι, ρ, S, R, z⟩ => ?_⟩
        simp only [ev, q.tick0 hk, Res.bind_stuck] at z
        exact False.elim z
      · obtain ⟨k', rfl⟩ : ∃ j, k = j + 2 := ⟨k - 2, by omega⟩
        obtain ⟨cc, P, TB, hcode, hmT, hu⟩ := q.code
        exact pe_told F (g.glo hg) hdb TB hcode hmT hu g.room L (q.tick2 (by omega)) fun A outer s H E' f' c' hr => h.e _ _ _ (g.inLam rfl hl L hr) _ _ h1
    · cases q
  · cases q
theorem Snd.step (h : Snd T call f) : ∀ {k : Nat} X c E, Gd T call k X c E → ∀ e m, stepE f c e = some m → PE X e (TEv T X.K X.w E (ev call m)) ∧ PT X e (TTv T X.K X.w E fun ρ S => tst (ev call m ρ S)) := by
  intro k X c E g e m q
  unfold stepE at q
  split at q
  · -- name
    refine snd_of ?_ (fun _ => rfl)
    rename_i x p
    split at q
    · rename_i hv
      split at q
      · rename_i hs
        simp only [Option.map_eq_some_iff] at q
        obtain ⟨i, h1, rfl⟩ := q
        simp only [sane, Bool.and_eq_true, Bool.not_eq_true'] at hs
        exact pe_v (by rw [g.N]; exact slotOf_ok h1) (g.vis hv) hs.1 hs.2 call
      · cases q
    · split at q
      · rename_i hg
        simp only [Bool.and_eq_true, Bool.not_eq_true'] at hg
        split at q
        · rename_i d hl
          cases q
          exact glo_ok g hg.1 hg.2 hl
        · cases q
      · cases q
  · -- constant
    refine snd_of ?_ (fun _ => rfl)
    simp only [Option.map_eq_some_iff] at q
    obtain ⟨d, h1, rfl⟩ := q
    exact kon_ok h1
  · -- binop
    refine snd_of ?_ (fun _ => rfl)
    split at q
    · rename_i x o y h1 h2 h3
      cases q
      rw [← opOf_ok h2]
      have e1 : ev call (.bin o x y) = fun ρ S => (ev call x ρ S).bind fun x S1 => (ev call y ρ S1).bind fun y S2 => lift (evBin o x y) S2 := by funext ρ S; simp only [ev]
      rw [e1]
      exact pe_b o (h.e X c E g _ _ h1) (h.e X c E g _ _ h3)
    · cases q
  · -- compare
    rename_i a o b pos
    split at q
    · cases q
    · rename_i hm
      split at q
      · rename_i x y h1 h2
        cases q
        have hm' := Bool.eq_false_iff.mpr hm
        have e1 : ev call (.cmp (copOf o) x y) = fun ρ S => (ev call x ρ S).bind fun x S1 => (ev call y ρ S1).bind fun y S2 => liftB (evCmp (copOf o) x y) S2 := by funext ρ S; simp only [ev]
        have e2 : (fun ρ S => tst (ev call (.cmp (copOf o) x y) ρ S)) = fun ρ S => tst ((ev call x ρ S).bind fun x S1 => (ev call y ρ S1).bind fun y S2 => liftB (evCmp (copOf o) x y) S2) := by rw [e1]
        rw [e2, e1]
        have t1 := pe_c (pos := pos) g.hu (copOf o) (h.e X c E g _ _ h1) (h.e X c E g _ _ h2) (by rw [copOf_ok]; exact hm')
        have t2 := pt_c (pos := pos) g.hu (copOf o) (h.e X c E g _ _ h1) (h.e X c E g _ _ h2) (by rw [copOf_ok]; exact hm')
        rw [copOf_ok] at t1 t2
        exact ⟨t1, t2⟩
      · cases q
  · -- chain
    rename_i a o p b d pos
    split at q
    · cases q
    · rename_i hm
      split at q
      · rename_i x y z h1 h2 h3
        cases q
        have hm' := Bool.eq_false_iff.mpr hm
        have e1 : ev call (.chain (copOf o) (copOf p) x y z) = fun ρ S => (ev call x ρ S).bind fun x S1 => (ev call y ρ S1).bind fun y S2 => match evCmp (copOf o) x y with | some true => (ev call z ρ S2).bind fun z S3 => liftB (evCmp (copOf p) y z) S3 | some false => .ok (.bl false) S2 | none => .stuck := by
          funext ρ S; simp only [ev] <;> rfl
        have e2 : (fun ρ S => tst (ev call (.chain (copOf o) (copOf p) x y z) ρ S)) = fun ρ S => tst ((ev call x ρ S).bind fun x S1 => (ev call y ρ S1).bind fun y S2 => match evCmp (copOf o) x y with | some true => (ev call z ρ S2).bind fun z S3 => liftB (evCmp (copOf p) y z) S3 | some false => .ok (.bl false) S2 | none => .stuck) := by rw [e1]
        rw [e2, e1]
        have t1 := pe_ch (pos := pos) g.hu (copOf o) (copOf p) (h.e X c E g _ _ h1) (h.e X c E g _ _ h2) (h.e X c E g _ _ h3) (by rw [copOf_ok, copOf_ok]; exact hm')
        have t2 := pt_ch (pos := pos) g.hu (copOf o) (copOf p) (h.e X c E g _ _ h1) (h.e X c E g _ _ h2) (h.e X c E g _ _ h3) (by rw [copOf_ok, copOf_ok]; exact hm')
        rw [copOf_ok, copOf_ok] at t1 t2
        exact ⟨t1, t2⟩
      · cases q
  · -- and, or
    obtain ⟨t1, t2⟩ := trB_ok h g q
    exact ⟨t1, t2.pt⟩
  · -- not
    simp only [Option.map_eq_some_iff] at q
    obtain ⟨a, h1, rfl⟩ := q
    refine ⟨?_, ?_⟩
    · have e1 : ev call (.not_ a) = fun ρ S => (ev call a ρ S).bind fun x S1 => liftB ((truthy x S1).map (! ·)) S1 := by funext ρ S; simp only [ev]
      rw [e1]
      exact pe_n (h.e X c E g _ _ h1)
    · rw [tst_not]
      exact pt_n (h.t X c E g _ _ h1)
  · -- neg
    refine snd_of ?_ (fun _ => rfl)
    simp only [Option.map_eq_some_iff] at q
    obtain ⟨a, h1, rfl⟩ := q
    have e1 : ev call (.neg a) = fun ρ S => (ev call a ρ S).bind fun x S1 => match x with | .int i => .ok (.int (-i)) S1 | _ => .stuck := by funext ρ S; simp only [ev] <;> rfl
    rw [e1]
    exact pe_ng (h.e X c E g _ _ h1)
  · -- if
    split at q
    · rename_i x y z h1 h2 h3
      cases q
      rw [tst_ife, ev_ife]
      exact ⟨pe_if (h.t X c E g _ _ h1) (h.e X c E g _ _ h2) (h.e X c E g _ _ h3), pt_if (h.t X c E g _ _ h1) (h.t X c E g _ _ h2) (h.t X c E g _ _ h3)⟩
    · cases q
  · -- tuple
    refine snd_of ?_ (fun _ => rfl)
    split at q
    · rename_i hs
      simp only [Bool.and_eq_true, decide_eq_true_eq] at hs
      simp only [Option.map_eq_some_iff] at q
      obtain ⟨ms, h1, rfl⟩ := q
      have e1 : ev call (.tup ms) = fun ρ S => (evs call ms ρ S).bind fun xs S1 => .ok (.tup xs) S1 := by funext ρ S; simp only [ev]
      rw [e1]
      exact pe_t (fun ρ S xs S1 z => by rw [evs_len ms ρ S xs S1 z, mapO_length h1]; exact hs.2) (pa_m h g hs.1 h1)
    · cases q
  · -- list
    refine snd_of ?_ (fun _ => rfl)
    split at q
    · rename_i hs
      simp only [Bool.and_eq_true, decide_eq_true_eq] at hs
      simp only [Option.map_eq_some_iff] at q
      obtain ⟨ms, h1, rfl⟩ := q
      rename_i es p
      have e1 : ev call (.lst (atMu c p) ms) = fun ρ S => (evs call ms ρ S).bind fun xs S1 => evMk (atMu c p) xs S1 := by funext ρ S; simp only [ev]
      rw [e1]
      exact pe_l _ (fun ρ S xs S1 z => by rw [evs_len ms ρ S xs S1 z, mapO_length h1]; exact hs.2) (pa_m h g hs.1 h1)
    · cases q
  · -- dict
    refine snd_of ?_ (fun _ => rfl)
    split at q
    · rename_i hs
      simp only [Bool.and_eq_true, decide_eq_true_eq, Bool.not_eq_true'] at hs
      split at q
      · rename_i ks ds h1 h2
        split at q
        · rename_i nd
          cases q
          refine pe_d h1 h2 hs.1.1 hs.1.2 ?_ (of_decide_eq_true nd) call
          rintro rfl
          cases hs.2
        · cases q
      · cases q
    · cases q
  · -- slice
    refine snd_of ?_ (fun _ => rfl)
    split at q
    · rename_i x l z h1 h2 h3
      cases q
      have e1 : ev call (.sl x l z) = fun ρ S => (ev call x ρ S).bind fun x S1 => (evP call l ρ S1).bind fun l S2 => (evP call z ρ S2).bind fun h S3 => lift (evSl x l h) S3 := by funext ρ S; simp only [ev]
      rw [e1]
      exact pe_sl (h.e X c E g _ _ h1) (trO_ok h g h2) (trO_ok h g h3)
    · cases q
  · -- index
    refine snd_of ?_ (fun _ => rfl)
    split at q
    · rename_i hn
      split at q
      · rename_i x y h1 h2
        cases q
        have e1 : ev call (.ix x y) = fun ρ S => (ev call x ρ S).bind fun x S1 => (ev call y ρ S1).bind fun y S2 => lift (evIx x y S2) S2 := by funext ρ S; simp only [ev]
        rw [e1]
        exact pe_x g.hu (h.e X c E g _ _ h1) (h.e X c E g _ _ h2) (plain1 hn)
      · cases q
    · cases q
  · -- call with a lambda
    exact snd_of (trLam_ok h g q) (fun _ => rfl)
  · -- call
    exact snd_of (trCall_ok h g q) (fun _ => rfl)
  · -- method
    refine snd_of ?_ (fun _ => rfl)
    split at q
    · rename_i o mn apos a as cpos hc
      simp only [Bool.and_eq_true, decide_eq_true_eq] at hc
      obtain ⟨⟨⟨hn, hs⟩, hl⟩, hline⟩ := hc
      split at q
      · rename_i r hr
        cases q
        exact trIdx_ok h g hs hl hline hr
      split at q
      · rename_i x t ms h1 h2 h3
        cases q
        have e0 := mtOf_ok h2
        subst e0
        have e1 : ev call (.mt t x ms) = fun ρ S => (ev call x ρ S).bind fun x S1 => if rcv t x S1 = true then (evs call ms ρ S1).bind fun xs S2 => evMt t x xs S2 else .stuck := by funext ρ S; simp only [ev]
        rw [e1]
        have hs' := hs
        simp only [List.all_cons, Bool.and_eq_true] at hs'
        refine pe_m g.hu t (h.e X c E g _ _ h1) (pa_m h g hs h3) (base1 hn _ _) ?_ hline (star1 hs'.1 _ _) (starAny hs'.2 _ _)
        rw [starAll hs]
        show (true && true && decide ((a :: as).length + 0 + 0 < 30)) = true
        simpa using hl
      · cases q
    · cases q
  · -- comprehension
    refine snd_of ?_ (fun _ => rfl)
    split at q
    · rename_i elt tg iter ifs scope p hc
      simp only [Bool.and_eq_true] at hc
      have ok := blkOk_by hc.1
      split at q
      · rename_i t it cs me h1 h2 h3 h4
        split at q
        · rename_i hsl
          cases q
          have e1 : ev call (.lc (atMu c p) ((ownOf c.N scope).map (·.2)) t it cs me) = fun ρ S => (evI call it ρ S).bind fun xs S1 => (lcGo (fun ρ S => (ev call me ρ S).nox) (fun ρ S => (evC call cs ρ S).nox) (wipe ρ ((ownOf c.N scope).map (·.2))) t xs [] S1).bind fun ys S2 => evMk (atMu c p) ys S2 := by funext ρ S; simp only [ev]
          rw [e1]
          refine pe_lcv _ g.calm (g.N ▸ g.nd) (trI_ok h g h2) (by rw [g.N, g.sc]; exact ok) (fun s H C cl fp => trT_ok (g.blk ok s H C cl fp) h1) (fun s H C cl fp => trIfs_ok h (g.blk ok s H C cl fp) h3) (fun s H C cl fp => h.e _ _ _ (g.blk ok s H C cl fp) _ _ h4) (fold1 hc.2 _) ?_
          intro i hi
          have := List.all_eq_true.mp hsl i hi
          simpa using this
        · cases q
      · cases q
    · cases q
  · cases q
theorem bad_ok {e : Expr} : PE X e (TEv T X.K X.w E (ev call .bad)) ∧ PT X e (TTv T X.K X.w E fun ρ S => tst (ev call .bad ρ S)) := by
  refine ⟨⟨fun pins s σ H Q I ⟨ι, ρ, S, R, f⟩ => ?_⟩, ⟨fun pins s σ H Q I ⟨ι, ρ, S, R, f⟩ => ?_⟩⟩
  · simp only [ev] at f; exact False.elim f
  · simp only [ev] at f; exact False.elim f
theorem tr_snd (T : XT) (call : Nat → List D → Store → Res D) : ∀ n, Snd T call (tr n)
  | 0 => ⟨(fun _ _ _ _ _ _ q => by cases q; exact bad_ok.1), (fun _ _ _ _ _ _ q => by cases q; exact bad_ok.2)⟩
  | n + 1 => by
    have h : ∀ {k : Nat} X c E, Gd T call k X c E → ∀ e m, tr (n + 1) c e = some m → PE X e (TEv T X.K X.w E (ev call m)) ∧ PT X e (TTv T X.K X.w E fun ρ S => tst (ev call m ρ S)) := by
      intro k X c E g e m q
      simp only [tr] at q
      split at q
      · rename_i m' h1
        cases q
        exact (tr_snd T call n).step X c E g e _ h1
      · cases q
        exact bad_ok
    exact ⟨fun X c E g e m q => (h X c E g e m q).1, fun X c E g e m q => (h X c E g e m q).2⟩
end
end Ev

set_option Elab.async false
set_option linter.all false
set_option maxRecDepth 100000
set_option maxHeartbeats 4000000
/-! EvTr5: the translator of statements, its soundness. -/
namespace Ev
open PySem PySem.Spec PyProof.Rows L2
abbrev TrS := SC → Stmt → Option MS
def namesOf (sc : Scope) (ts : List Expr) : List Str := ts.filterMap fun
  | .Name id pos => if sc.names.lookup id == some .local && pos.line == (ts.head?.map (·.pos.line)).getD 0 then some id else none
  | _ => none
/-- the stores keep their order -/
def swN (sc : Scope) (tg e : Expr) : Bool := match tg, e with
  | .Name _ _, _ => true
  | .Tuple ts _ _, .Tuple vs _ _ => !(ts.length == 2 || ts.length == 3) || vs.length != ts.length || (namesOf sc ts).length != ts.length || vs.all (foldedForSure 8)
  | .Tuple _ _ _, _ => true
  | _, _ => false
theorem swN_ok {env : Env} {tg e : Expr} (h : swN env.scope tg e = true) : swappedStores [tg] e env = pure none := by
  unfold swN at h
  split at h
  · rfl
  · rename_i ts k p vs k2 p2
    simp only [Bool.or_eq_true] at h
    unfold swappedStores
    show (if (!(ts.length == 2 || ts.length == 3) || vs.length != ts.length || env.blockKind != .function) = true then pure none else if _ then _ else if ((namesOf env.scope ts).length != ts.length || (namesOf env.scope ts).eraseDups.length != (namesOf env.scope ts).length) = true then pure none else if vs.all (foldedForSure 8) = true then pure none else _) = _
    split
    · rfl
    · rename_i c1
      split
      · rfl
      · split
        · rfl
        · rename_i c3
          split
          · rfl
          · rename_i c4
            exfalso
            simp only [Bool.or_eq_true, not_or] at c1 c3
            rcases h with ((h | h) | h) | h
            · exact c1.1.1 h
            · exact c1.1.2 h
            · exact c3.1 h
            · exact c4 h
  · rename_i hne
    cases e <;> first | rfl | exact absurd rfl (hne _ _ _)
  · cases h
theorem swp2 {env : Env} {x y : Str} {px py pt pt2 : Pos} {kt k2 : Nat} {a b : Expr} (hk : env.scope.kind = .function) (hx : env.scope.names.lookup x = some .local) (hy : env.scope.names.lookup y = some .local) (hl : py.line = px.line) (hxy : x ≠ y)
    (ha : nst a = true) (hb : nst b = true) (hf : [a, b].all (foldedForSure 8) = false) (hc : [a, b].all (constantsAlone 8) = false) :
    swappedStores [.Tuple [.Name x px, .Name y py] kt pt] (.Tuple [a, b] k2 pt2) env = pure (some [x, y]) := by
  have bk : env.blockKind = .function := by unfold Env.blockKind; rw [hk]; rfl
  have kx : env.kindOf x = some .local := hx
  have ky : env.kindOf y = some .local := hy
  have e1 : (y == x) = false := by simpa using fun h => hxy h.symm
  have e2 : (x == y) = false := by simpa using hxy
  have st : ([a, b].any fun | .Starred .. => true | _ => false) = false := by
    cases a <;> cases b <;> first | rfl | (cases ha; done) | (cases hb; done)
  have nm : ([Expr.Name x px, Expr.Name y py].filterMap fun
    | .Name id pos => if env.kindOf id == some .local && pos.line == px.line then some id else none
    | _ => none) = [x, y] := by
    simp [kx, ky, hl]
  have ed : ([x, y] : List Str).eraseDups.length = 2 := by
    simp [List.eraseDups_cons, e1, e2]
  unfold swappedStores
  show (if (!(true || _) || _ || env.blockKind != .function) = true then pure none else if ([a, b].any fun | .Starred .. => true | _ => false) = true then pure none else
    (let names := ([Expr.Name x px, Expr.Name y py].filterMap fun
    | .Name id pos => if env.kindOf id == some .local && pos.line == px.line then some id else none
    | _ => none); if (names.length != 2 || names.eraseDups.length != names.length) = true then pure none else if [a, b].all (foldedForSure 8) = true then pure none else if [a, b].all (constantsAlone 8) = true then _ else pure (some names))) = _
  rw [nm, st, hf, hc, bk]
  simp only [ed]
  rfl
theorem swp3 {env : Env} {x y z : Str} {px py pz pt pt2 : Pos} {kt k2 : Nat} {a b c : Expr} (hk : env.scope.kind = .function) (hx : env.scope.names.lookup x = some .local) (hy : env.scope.names.lookup y = some .local) (hz : env.scope.names.lookup z = some .local)
    (hl : py.line = px.line) (hl2 : pz.line = px.line) (hxy : x ≠ y) (hxz : x ≠ z) (hyz : y ≠ z)
    (ha : nst a = true) (hb : nst b = true) (hcn : nst c = true) (hf : [a, b, c].all (foldedForSure 8) = false) (hc : [a, b, c].all (constantsAlone 8) = false) :
    swappedStores [.Tuple [.Name x px, .Name y py, .Name z pz] kt pt] (.Tuple [a, b, c] k2 pt2) env = pure (some [x, y, z]) := by
  have bk : env.blockKind = .function := by unfold Env.blockKind; rw [hk]; rfl
  have kx : env.kindOf x = some .local := hx
  have ky : env.kindOf y = some .local := hy
  have kz : env.kindOf z = some .local := hz
  have e1 : (y == x) = false := by simpa using fun h => hxy h.symm
  have e3 : (z == x) = false := by simpa using fun h => hxz h.symm
  have e5 : (z == y) = false := by simpa using fun h => hyz h.symm
  have st : ([a, b, c].any fun | .Starred .. => true | _ => false) = false := by
    rw [List.any_eq_false]
    intro e he
    have hn : nst e = true := by
      simp only [List.mem_cons, List.not_mem_nil, or_false] at he
      rcases he with rfl | rfl | rfl <;> assumption
    cases e <;> first | (intro q; cases q; done) | (cases hn; done)
  have nm : ([Expr.Name x px, Expr.Name y py, Expr.Name z pz].filterMap fun
    | .Name id pos => if env.kindOf id == some .local && pos.line == px.line then some id else none
    | _ => none) = [x, y, z] := by
    simp [kx, ky, kz, hl, hl2]
  have ed : ([x, y, z] : List Str).eraseDups.length = 3 := by
    simp [List.eraseDups_cons, e1, e3, e5]
  unfold swappedStores
  show (if (!(_ || true) || _ || env.blockKind != .function) = true then pure none else if ([a, b, c].any fun | .Starred .. => true | _ => false) = true then pure none else
    (let names := ([Expr.Name x px, Expr.Name y py, Expr.Name z pz].filterMap fun
    | .Name id pos => if env.kindOf id == some .local && pos.line == px.line then some id else none
    | _ => none); if (names.length != 3 || names.eraseDups.length != names.length) = true then pure none else if [a, b, c].all (foldedForSure 8) = true then pure none else if [a, b, c].all (constantsAlone 8) = true then _ else pure (some names))) = _
  rw [nm, st, hf, hc, bk]
  simp only [ed]
  rfl
def sameL (py pos : Pos) : Bool := py.line == pos.line
def trAsg (n : Nat) (c : SC) (tg e : Expr) : Option MS := match tg, e with
  | .Subscript o i _, e => if nComp e && nSl i then (match tr n c e, tr n c o, tr n c i with
    | some v, some x, some y => some (.setix x y v)
    | _, _, _ => none) else none
  | .Name y py, .ListComp elt gs scope p =>
    if !(c.sc.names.lookup y == some .local && py.line == p.line && !(scope.names.any fun (n, k) => n == y && (k == .local || k == .cell))) then (match trT c (.Name y py), tr n c (.ListComp elt gs scope p) with
      | some t, some v => some (.asg t v)
      | _, _ => none)
    else (match gs with
      | [⟨tg, iter, ifs, 0⟩] => if blkC c.N c.sc scope (ownOf c.N scope) && nSet iter then (match slotOf c.N y, trT (c.blk scope) tg, trI (tr n) c tg iter, trIfs (tr n) (c.blk scope) ifs, tr n (c.blk scope) elt with
        | some k, some t, some it, some cs, some m => if (t.slots.all fun i => ((ownOf c.N scope).map (·.2)).contains i) then some (.asg (.name k) (.lc (atMu c p) ((ownOf c.N scope).map (·.2)) t it cs m)) else none
        | _, _, _, _, _ => none) else none
      | _ => none)
  | tg, e => if nComp e && swN c.sc tg e && nst tg then (match trT c tg, tr n c e with
    | some t, some v => some (.asg t v)
    | _, _ => none)
    else match tg, e with
      | .Tuple [.Name x px, .Name y py] _ _, .Tuple [a, b] _ _ =>
        if c.sc.names.lookup x == some .local && c.sc.names.lookup y == some .local && py.line == px.line && !(x == y) && nst a && nst b && !([a, b].all (foldedForSure 8)) && !([a, b].all (constantsAlone 8)) then (match slotOf c.N x, slotOf c.N y, tr n c a, tr n c b with
          | some i, some j, some v, some u => some (.par i j v u)
          | _, _, _, _ => none) else none
      | .Tuple [.Name x px, .Name y py, .Name z pz] _ _, .Tuple [a, b, d] _ _ =>
        if (c.sc.names.lookup x == some .local && c.sc.names.lookup y == some .local && c.sc.names.lookup z == some .local) && (py.line == px.line && pz.line == px.line && !(x == y) && !(x == z) && !(y == z)) && (nst a && nst b && nst d && !([a, b, d].all (foldedForSure 8)) && !([a, b, d].all (constantsAlone 8))) then
          (match slotOf c.N x, slotOf c.N y, slotOf c.N z with
          | some i, some j, some l => (match tr n c a, tr n c b, tr n c d with
            | some v, some u, some w => some (.par3 i j l v u w)
            | _, _, _ => none)
          | _, _, _ => none) else none
      | _, _ => none
def stepS (n : Nat) (f : TrS) : TrS := fun c s => match s with
  | .Assign [tg] e _ => trAsg n c tg e
  | .Expr e _ => if nComp e then (tr n c e).map .ex else none
  | .Return (some e) _ => (tr n c e).map .ret
  | .Return none _ => some .retN
  | .Pass _ => some .pass_
  | .Raise (some (.Call (.Name x _) [.Constant (.str _) _ _] [] _)) none _ => if gloB c x && !(x == ("__debug__" : Str)) then (match c.md.lookup x with
    | some (.cls n) => some (.rai n [])
    | _ => none) else none
  | .Break _ => some .brk
  | .Continue _ => some .ct
  | .If t b o _ => (match tr n c t, mapO (f c) b, mapO (f c) o with
    | some x, some y, some z => some (.ifs x y z)
    | _, _, _ => none)
  | .For tg it b [] _ => if nSet it then (match trT c tg, trI (tr n) c tg it, mapO (f c) b with
    | some t, some i, some y => some (.fors t i y)
    | _, _, _ => none) else none
  | .While t b [] _ => (match tr n c t, mapO (f c) b with
    | some x, some y => some (.whiles x y)
    | _, _ => none)
  | _ => none
def trS (n : Nat) : Nat → TrS
  | 0 => fun _ _ => some .bad
  | m + 1 => fun c s => match stepS n (trS n m) c s with
    | some x => some x
    | none => some .bad
end Ev

set_option Elab.async false
set_option linter.all false
set_option maxRecDepth 100000
set_option maxHeartbeats 4000000
/-! EvTr6: the translator of statements is sound. -/
namespace Ev
open PySem PySem.Spec PyProof.Rows L2
section
variable {T : XT} {call : Nat → List D → Store → Res D} {k : Nat} {X : Cx} {c : SC} {E : XK}
/-- what statements ask of the context -/
structure Ws (X : Cx) (E : XK) : Prop where
  own : PassesOwn (model X.prog X.w) X.A X.env X.xe
  tk : Takes X (WK E)
structure SndS (T : XT) (call : Nat → List D → Store → Res D) (k : Nat) (f : TrS) : Prop where
  s : ∀ X c E, Gd T call k X c E → Ws X E → ∀ s m, f c s = some m → PS X s (TSv T X.K X.w E (ex call m))
theorem pss_m {f : TrS} (h : SndS T call k f) (g : Gd T call k X c E) (hp : Ws X E) : ∀ {ss : List Stmt} {ms : List MS}, mapO (f c) ss = some ms → PSs X ss (TSv T X.K X.w E (exs call ms))
  | [], _, e => by
    cases e
    have e1 : exs call [] = fun ρ S => .ok (.nx ρ) S := by funext ρ S; simp only [exs]
    rw [e1]
    exact pss_n
  | a :: as, _, e => by
    obtain ⟨b, bs, rfl, h1, h2⟩ := mapO_cons e
    have e1 : exs call (b :: bs) = fun ρ S => (ex call b ρ S).bind fun o S1 => match o with | .nx ρ1 => exs call bs ρ1 S1 | .ret d => .ok (.ret d) S1 | .brk ρ1 => .ok (.brk ρ1) S1 | .ct ρ1 => .ok (.ct ρ1) S1 := by
      funext ρ S; simp only [exs] <;> rfl
    rw [e1]
    exact pss_c (h.s X c E g hp _ _ h1) (pss_m h g hp h2)
theorem trAsg_ok {n : Nat} {tg e : Expr} {pos : Pos} {m : MS} (g : Gd T call k X c E) (q : trAsg n c tg e = some m) : PS X (.Assign [tg] e pos) (TSv T X.K X.w E (ex call m)) := by
  have h := tr_snd T call n
  unfold trAsg at q
  split at q
  · rename_i o i p
    split at q
    · rename_i hc
      simp only [Bool.and_eq_true] at hc
      split at q
      · rename_i v x y h1 h2 h3
        cases q
        have e1 : ex call (.setix x y v) = fun ρ S => (ev call v ρ S).bind fun v S1 => (ev call x ρ S1).bind fun x S2 => (ev call y ρ S2).bind fun y S3 => match evSet x y v S3 with | some S4 => .ok (.nx ρ) S4 | none => .stuck := by
          funext ρ S; simp only [ex] <;> rfl
        rw [e1]
        refine ps_sx (h.e X c E g _ _ h1) (h.e X c E g _ _ h2) (h.e X c E g _ _ h3) ?_ (by show swapsWith e (some (.Subscript o i p)) pos.line X.env = pure false; exact swap1 hc.1 _ _ _)
        intro v
        cases i <;> first | rfl | (cases hc.2; done)
      · cases q
    · cases q
  · rename_i y py elt gs scope p
    split at q
    · rename_i hc
      split at q
      · rename_i t v h1 h2
        cases q
        have e1 : ex call (.asg t v) = fun ρ S => (ev call v ρ S).bind fun x S1 => match setT ρ t x with | some ρ1 => .ok (.nx ρ1) S1 | none => .stuck := by
          funext ρ S; simp only [ex] <;> rfl
        rw [e1]
        refine ps_a (h.e X c E g _ _ h2) (trT_ok g h1) ?_ rfl rfl
        show swapsWith (.ListComp elt gs scope p) (some (.Name y py)) pos.line X.env = pure false
        show pure (X.env.blockKind == .function && X.env.kindOf y == some .local && py.line == p.line && !(scope.names.any fun (n, k) => n == y && (k == .local || k == .cell))) = _
        have bk : X.env.blockKind = .function := by unfold Env.blockKind; rw [g.sc, g.kind]; rfl
        have ky : X.env.kindOf y = c.sc.names.lookup y := by show X.env.scope.names.lookup y = _; rw [g.sc]
        rw [bk, ky]
        simp only [Bool.not_eq_true'] at hc
        show pure (true && c.sc.names.lookup y == some .local && py.line == p.line && _) = _
        rw [Bool.true_and, hc]
      · cases q
    · rename_i hc
      simp only [Bool.not_eq_true', Bool.not_eq_false, Bool.and_eq_true, beq_iff_eq] at hc
      obtain ⟨⟨hy, hl⟩, hn⟩ := hc
      split at q
      · rename_i tg iter ifs
        split at q
        · rename_i hb
          simp only [Bool.and_eq_true] at hb
          have ok := blkOk_by hb.1
          split at q
          · rename_i kk t it cs me h0 h1 h2 h3 h4
            split at q
            · rename_i hsl
              cases q
              have e1 : ex call (.asg (.name kk) (.lc (atMu c p) ((ownOf c.N scope).map (·.2)) t it cs me)) = fun ρ S => ((evI call it ρ S).bind fun xs S1 => (lcGo (fun ρ S => (ev call me ρ S).nox) (fun ρ S => (evC call cs ρ S).nox) (wipe ρ ((ownOf c.N scope).map (·.2))) t xs [] S1).bind fun ys S2 => evMk (atMu c p) ys S2).bind fun x S1 => match setT ρ (.name kk) x with | some ρ1 => .ok (.nx ρ1) S1 | none => .stuck := by
                funext ρ S; simp only [ex, ev] <;> rfl
              rw [e1]
              have bk : X.env.scope.kind = .function := by rw [g.sc, g.kind]
              have ky : X.env.scope.names.lookup y = some .local := by rw [g.sc]; exact hy
              refine ps_lc _ g.calm (g.N ▸ g.nd) (by rw [g.N]; exact slotOf_ok h0) ky (sw_true bk ky (by simpa using hl) (by simpa using hn)) (trI_ok h g h2) (by rw [g.N, g.sc]; exact ok) (fun s H C cl fp => trT_ok (g.blk ok s H C cl fp) h1) (fun s H C cl fp => trIfs_ok h (g.blk ok s H C cl fp) h3) (fun s H C cl fp => h.e _ _ _ (g.blk ok s H C cl fp) _ _ h4) (fold1 hb.2 _) ?_
              intro i hi
              have := List.all_eq_true.mp hsl i hi
              simpa using this
            · cases q
          · cases q
        · cases q
      · cases q
  · rename_i tg e hne1 hne2
    split at q
    · rename_i hc
      simp only [Bool.and_eq_true] at hc
      split at q
      · rename_i t v h1 h2
        cases q
        have e1 : ex call (.asg t v) = fun ρ S => (ev call v ρ S).bind fun x S1 => match setT ρ t x with | some ρ1 => .ok (.nx ρ1) S1 | none => .stuck := by
          funext ρ S; simp only [ex] <;> rfl
        rw [e1]
        exact ps_a (h.e X c E g _ _ h2) (trT_ok g h1) (swap1 hc.1.1 _ _ _) (swN_ok (by rw [g.sc]; exact hc.1.2)) (by rw [asg1 hc.2]; rfl)
      · cases q
    · split at q
      · rename_i x px y py kt pt a b k2 pt2 _h
        split at q
        · rename_i hc2
          simp only [Bool.and_eq_true, Bool.not_eq_true', beq_iff_eq, beq_eq_false_iff_ne] at hc2
          obtain ⟨⟨⟨⟨⟨⟨⟨hx, hy⟩, hl⟩, hxy⟩, ha⟩, hb⟩, hf⟩, hcc⟩ := hc2
          split at q
          · rename_i i j v u h1 h2 h3 h4
            cases q
            have e1 : ex call (.par i j v u) = fun ρ S => (ev call v ρ S).bind fun x S1 => (ev call u ρ S1).bind fun y S2 => .ok (.nx ((ρ.set i (some x)).set j (some y))) S2 := by
              funext ρ S; simp only [ex]
            rw [e1]
            have kx : X.env.scope.names.lookup x = some .local := by rw [g.sc]; exact hx
            have ky : X.env.scope.names.lookup y = some .local := by rw [g.sc]; exact hy
            have nx := slotOf_ok h1
            have ny := slotOf_ok h2
            refine ps_p g.calm (g.N ▸ g.nd) (by rw [g.N]; exact nx) (by rw [g.N]; exact ny) ?_ kx ky (h.e X c E g _ _ h3) (h.e X c E g _ _ h4) (star1 ha _ _) (star1 hb _ _)
              (swp2 (by rw [g.sc, g.kind]) kx ky hl hxy ha hb hf hcc)
            rintro rfl
            rw [nx] at ny
            cases ny
            exact hxy rfl
          · cases q
        · cases q
      · rename_i x px y py z pz kt pt a b d k2 pt2 _h
        split at q
        · rename_i hc2
          simp only [Bool.and_eq_true, Bool.not_eq_true', beq_iff_eq, beq_eq_false_iff_ne] at hc2
          obtain ⟨⟨⟨⟨hx, hy⟩, hz⟩, ⟨⟨⟨hl, hl2⟩, hxy⟩, hxz⟩, hyz⟩, ⟨⟨⟨ha, hb⟩, hd⟩, hf⟩, hcc⟩ := hc2
          split at q
          · rename_i i j l h1 h2 h3
            split at q
            · rename_i v u t h4 h5 h6
              cases q
              have e1 : ex call (.par3 i j l v u t) = fun ρ S => (ev call v ρ S).bind fun x S1 => (ev call u ρ S1).bind fun y S2 => (ev call t ρ S2).bind fun z S3 => .ok (.nx (((ρ.set i (some x)).set j (some y)).set l (some z))) S3 := by
                funext ρ S; simp only [ex]
              rw [e1]
              have kx : X.env.scope.names.lookup x = some .local := by rw [g.sc]; exact hx
              have ky : X.env.scope.names.lookup y = some .local := by rw [g.sc]; exact hy
              have kz : X.env.scope.names.lookup z = some .local := by rw [g.sc]; exact hz
              have nx := slotOf_ok h1
              have ny := slotOf_ok h2
              have nz := slotOf_ok h3
              have ap : ∀ {p q : Nat} {m r : Str}, c.N[p]? = some m → c.N[q]? = some r → m ≠ r → p ≠ q := fun e1 e2 hne e => by
                subst e; rw [e1] at e2; cases e2; exact hne rfl
              exact ps_p3 g.calm (g.N ▸ g.nd) (by rw [g.N]; exact nx) (by rw [g.N]; exact ny) (by rw [g.N]; exact nz) (ap nx ny hxy) (ap nx nz hxz) (ap ny nz hyz) kx ky kz (h.e X c E g _ _ h4) (h.e X c E g _ _ h5) (h.e X c E g _ _ h6) (star1 ha _ _) (star1 hb _ _) (star1 hd _ _)
                (swp3 (by rw [g.sc, g.kind]) kx ky kz hl hl2 hxy hxz hyz ha hb hd hf hcc)
            · cases q
          · cases q
        · cases q
      · cases q
theorem SndS.step {n : Nat} {f : TrS} (hs : SndS T call k f) : SndS T call k (stepS n f) := by
  refine ⟨fun X c E g hp s m q => ?_⟩
  have h := tr_snd T call n
  unfold stepS at q
  split at q
  · exact trAsg_ok g q
  · split at q
    · rename_i hc
      simp only [Option.map_eq_some_iff] at q
      obtain ⟨a, h1, rfl⟩ := q
      have e1 : ex call (.ex a) = fun ρ S => (ev call a ρ S).bind fun _ S1 => .ok (.nx ρ) S1 := by funext ρ S; simp only [ex]
      rw [e1]
      exact ps_e (h.e X c E g _ _ h1) (swap1 hc _ _ _)
    · cases q
  · simp only [Option.map_eq_some_iff] at q
    obtain ⟨a, h1, rfl⟩ := q
    have e1 : ex call (.ret a) = fun ρ S => (ev call a ρ S).bind fun x S1 => .ok (.ret x) S1 := by funext ρ S; simp only [ex]
    rw [e1]
    exact ps_r (h.e X c E g _ _ h1)
  · cases q
    have e1 : ex call .retN = fun _ S => .ok (.ret .non) S := by funext ρ S; simp only [ex]
    rw [e1]
    exact ps_rn
  · cases q
    have e1 : ex call .pass_ = fun ρ S => .ok (.nx ρ) S := by funext ρ S; simp only [ex]
    rw [e1]
    exact ps_ps
  · split at q
    · rename_i hc
      simp only [Bool.and_eq_true, Bool.not_eq_true'] at hc
      split at q
      · rename_i n' hl
        cases q
        obtain ⟨C, gC, hT, hx, kC, s1, s2⟩ := g.md _ _ hl
        have e1 : ex call (.rai n' []) = fun _ S => .exc ⟨n', none⟩ S := by funext ρ S; simp only [ex, evs, Res.bind_ok] <;> rfl
        rw [e1]
        exact ps_rai g.calm hp.tk PySem.F.excBase_ValueError hx gC kC (raises_own s1 s2) (g.glo hc.1) hc.2 hT
      · cases q
    · cases q
  · cases q
    have e1 : ex call .brk = fun ρ S => .ok (.brk ρ) S := by funext ρ S; simp only [ex]
    rw [e1]
    exact ps_bk
  · cases q
    have e1 : ex call .ct = fun ρ S => .ok (.ct ρ) S := by funext ρ S; simp only [ex]
    rw [e1]
    exact ps_ct
  · split at q
    · rename_i x y z h1 h2 h3
      cases q
      have e1 : ex call (.ifs x y z) = fun ρ S => (tst (ev call x ρ S)).bind fun k S1 => if k = true then exs call y ρ S1 else exs call z ρ S1 := by
        funext ρ S; rw [tst_bind2]; simp only [ex]; congr 1; funext d S1
        cases truthy d S1 with
        | none => rfl
        | some b => cases b <;> rfl
      rw [e1]
      exact ps_i (h.t X c E g _ _ h1) (pss_m hs g hp h2) (pss_m hs g hp h3)
    · cases q
  · split at q
    · rename_i hn
      split at q
      · rename_i t i y h1 h2 h3
        cases q
        have e1 : ex call (.fors t i y) = fun ρ S => (evI call i ρ S).bind fun xs S1 => forGo (exs call y) t xs ρ S1 := by funext ρ S; simp only [ex]
        rw [e1]
        exact ps_f hp.own g.calm (trI_ok h g h2) (trT_ok g h1) (pss_m hs g hp h3) (fold1 hn _)
      · cases q
    · cases q
  · split at q
    · rename_i x y h1 h2
      cases q
      have e1 : ex call (.whiles x y) = fun ρ S => whileGo (ev call x) (exs call y) turns ρ S := by funext ρ S; simp only [ex]
      rw [e1]
      exact ps_w hp.own (h.t X c E g _ _ h1) (pss_m hs g hp h2) turns
    · cases q
  · cases q
theorem badS_ok {s : Stmt} : PS X s (TSv T X.K X.w E (ex call .bad)) := ⟨fun pins s σ H D I ⟨ι, ρ, S, R, f⟩ => by
  simp only [ex] at f
  exact False.elim f⟩
theorem trS_snd (T : XT) (call : Nat → List D → Store → Res D) (k n : Nat) : ∀ m, SndS T call k (trS n m)
  | 0 => ⟨fun _ _ _ _ _ _ _ q => by cases q; exact badS_ok⟩
  | m + 1 => ⟨fun X c E g hp s x q => by
    simp only [trS] at q
    split at q
    · rename_i y h1
      cases q
      exact (trS_snd T call k n m).step.s X c E g hp s _ h1
    · cases q
      exact badS_ok⟩
end
end Ev

set_option Elab.async false
set_option linter.all false
set_option maxRecDepth 100000
set_option maxHeartbeats 4000000
/-! EvDef: the defs keep their promises. -/
namespace Ev
open PySem PySem.Spec PyProof.Rows L2
structure DT where
  x : Str
  st : Stmt
  ps : List Str
  N : List Str
  ms : List MS
  lam : Bool := false
def DT.fn (d : DT) : Fn := ⟨d.ps.length, d.N.length, d.ms⟩
def Gof (L : List DT) : Nat → Option Fn := fun i => (L[i]?).map DT.fn
def DT.sc (d : DT) (md : List (Str × MN)) (mu : List (Nat × Nat)) : SC := ⟨d.N, defScope d.st, fun _ => true, md, mu, d.lam⟩
def scB (N ps : List Str) (sc : Scope) : Bool :=
  (match sc.kind with | .function => true | _ => false) && !sc.isCoroutine && !sc.isGenerator && decide N.Nodup && decide (N.take ps.length = ps) &&
    (ps.all fun x => match sc.names.lookup x with | some .local => true | some .cell => true | _ => false) && (sc.names.all fun y => match y.2 with | .free => false | _ => true)
theorem scB_ok {N ps : List Str} {sc : Scope} (h : scB N ps sc = true) : FnScope N ps sc := by
  unfold scB at h
  simp only [Bool.and_eq_true, Bool.not_eq_true', decide_eq_true_eq, List.all_eq_true] at h
  obtain ⟨⟨⟨⟨⟨⟨h1, h2⟩, h3⟩, h4⟩, h5⟩, h6⟩, h7⟩ := h
  refine ⟨?_, h2, h3, h4, h5, fun x hx => ?_, fun y hy e => ?_⟩
  · split at h1
    · assumption
    · cases h1
  · have := h6 x hx
    split at this
    · rename_i e; exact .inl e
    · rename_i e; exact .inr e
    · cases this
  · have := h7 y hy
    rw [e] at this
    cases this
def argB (a : Arguments) (ps : List Str) : Bool := match a with
  | ⟨[], as, none, [], [], none, []⟩ => decide (as.map (·.arg)).Nodup && decide (as.map (·.arg) = ps)
  | _ => false
theorem lk_zip : ∀ {ps : List Str} {us : List Value}, us.length = ps.length → ∀ x ∈ ps, ((ps.zip us).lookup x).isNone = false
  | [], _, _, x, h => by cases h
  | p :: ps, u :: us, hl, x, h => by
    rw [List.zip_cons_cons, List.lookup_cons]
    cases q : (x == p) with
    | true => rfl
    | false =>
      have h' : x ∈ ps := by
        rcases List.mem_cons.mp h with e | e
        · rw [e] at q; simp at q
        · exact e
      exact lk_zip (by simpa using hl) x h'
  | p :: ps, [], hl, _, _ => by simp at hl
theorem fm_zip : ∀ {ps : List Str} {us : List Value}, us.length = ps.length → ps.Nodup → (ps.filterMap fun n => ((ps.zip us).lookup n).map (n, ·)) = ps.zip us := by
  have gen : ∀ (ps : List Str) (us : List Value) (f : Str → Option Value), us.length = ps.length → ps.Nodup → (∀ x ∈ ps, f x = (ps.zip us).lookup x) → (ps.filterMap fun n => (f n).map (n, ·)) = ps.zip us := by
    intro ps
    induction ps with
    | nil => intro us f _ _ _; rfl
    | cons p ps ih =>
      intro us f hl nd hf
      cases us with
      | nil => simp at hl
      | cons u us =>
        have h0 := hf p (List.mem_cons_self ..)
        rw [List.zip_cons_cons, List.lookup_cons] at h0
        simp at h0
        rw [List.filterMap_cons, h0]
        show (p, u) :: _ = (p, u) :: _
        congr 1
        refine ih us f (by simpa using hl) (List.nodup_cons.mp nd).2 fun x hx => ?_
        rw [hf x (List.mem_cons_of_mem _ hx), List.zip_cons_cons, List.lookup_cons]
        have : (x == p) = false := by
          simp
          rintro rfl
          exact (List.nodup_cons.mp nd).1 hx
        rw [this]
  intro ps us hl nd
  exact gen ps us _ hl nd fun _ _ => rfl
theorem bindPlain {x qual : Str} {body : List Stmt} {scope : Scope} (as : List Arg) (nd : (as.map (·.arg)).Nodup) (kV doc pm : Value) (an : Option Addr) (cdv ct : Value) (us : List Value) (hl : us.length = (as.map (·.arg)).length) :
    bindArgs (PySem.W.fnOf x qual ⟨[], as, none, [], [], none, []⟩ body scope .none kV doc pm an cdv ct) ⟨us, []⟩ = pure ((as.map (·.arg)).zip us) := by
  generalize hp : as.map (·.arg) = ps at *
  have e1 : ((ps.take (ps.length - 0)).filter fun n => ((ps.zip us).lookup n).isNone) = [] := by
    rw [List.filter_eq_nil_iff]
    intro a ha
    rw [lk_zip hl a (List.mem_of_mem_take ha)]
    simp
  unfold bindArgs
  simp only [PySem.W.fnOf]
  have hs : seqItems? Value.none = pure none := rfl
  have hg : ¬ (us.length > ps.length) := by omega
  simp only [List.forIn_nil, pure_bind, List.map_nil, List.nil_append, List.append_nil, hp, hs]
  simp only [Option.getD_none, List.length_nil, Nat.zero_sub, List.drop_nil, Option.isNone_none, Bool.and_true, decide_eq_true_eq, List.zip_nil_right, List.forIn_nil, pure_bind]
  simp only [hg, if_false, e1, List.isEmpty_nil, Bool.not_true, Bool.false_eq_true, fm_zip hl nd]
/-- the qualified name of a lambda in the def x -/
def lamQ (x : Str) : Str := x ++ ".<locals>." ++ "<lambda>"
/-- what the head tells of a def -/
def HasF (K : PySem.W.Frag) (mg : Str → Option Value) (d : DT) : Prop := ∃ fd, FunD K d.x d.x (defArgs d.st) (defBody d.st) (defScope d.st) [] [] (He.ga K d.x) fd ∧ mg d.x = some (.ref (He.ga K d.x))
/-- what the head tells of the names -/
def MdSt (T : XT) (w : World) (K : PySem.W.Frag) (mg : Str → Option Value) (L : List DT) (md : List (Str × MN)) : Prop := ∀ x m, md.lookup x = some m → match m with
  | .fn i ar => ∃ d, L[i]? = some d ∧ ar = d.ps.length ∧ mg x = mg d.x
  | .con d => ∃ u v, mg x = some u ∧ RelV v u ∧ ∀ ι n H, At K w ι n H d v
  | .bi => mg x = none
  | .cls n => ∃ C, mg x = some (.ref C) ∧ T.cls n = .ref C ∧ PySem.W.excIn K C [.type "ValueError", .type "Exception", .type "BaseException", .type "object"] "ValueError.__new__" = true ∧ PySem.W.keepIn K (.ref C) = true ∧ PySem.W.subIn K (.ref C) (.type "BaseException") = some true ∧ PySem.W.typeIn K (.ref C) = some (.type "type")
  | .tol _ hs d => TolF T K mg x hs d
section
variable {T : XT} {P : Program} {w : World} {K : PySem.W.Frag} {mg : Str → Option Value} {base : Heap} {L : List DT} {md : List (Str × MN)}
theorem callF_ar {G : Nat → Option Fn} {i : Nat} {F : Fn} (hG : G i = some F) : ∀ (k : Nat) (ds : List D) (S : Store), ds.length ≠ F.ar → callF G k i ds S = .stuck
  | 0, _, _, _ => by simp only [callF]
  | k + 1, ds, S, h => by
    rw [callF_fn hG]
    unfold runFn
    exact if_neg h
theorem AtL.get2 {ι : Pl} {n : Nat} {H : Hp} {ds : List D} {vs : List V} {m : Nat} (l : AtL K w ι n H ds vs) {i : Nat} {d : D} (e : (ds.map some ++ List.replicate m none)[i]? = some (some d)) : ∃ v, (vs.map some ++ List.replicate m none)[i]? = some (some v) ∧ At K w ι n H d v := by
  by_cases h : i < ds.length
  · rw [List.getElem?_append_left (by simpa using h)] at e
    rw [List.getElem?_map] at e
    simp only [Option.map_eq_some_iff] at e
    obtain ⟨d', h1, h2⟩ := e
    cases h2
    obtain ⟨v, h3, h4⟩ := l.get h1
    refine ⟨v, ?_, h4⟩
    rw [List.getElem?_append_left (by rw [List.length_map, l.length]; exact h), List.getElem?_map, h3]
    rfl
  · rw [List.getElem?_append_right (by simpa using h)] at e
    rw [List.getElem?_replicate] at e
    split at e <;> cases e
theorem map_lookup {x : Str} {m : MN} : ∀ {md : List (Str × MN)}, (md.map fun p => (p.1, p.2.deep)).lookup x = some m → ∃ m0, md.lookup x = some m0 ∧ m = m0.deep
  | [], h => by cases h
  | (y, n) :: r, h => by
    rw [List.map_cons, List.lookup_cons] at h
    rw [List.lookup_cons]
    cases q : (x == y) with
    | true => rw [q] at h; cases h; exact ⟨n, rfl, rfl⟩
    | false => rw [q] at h; exact map_lookup h
theorem binds_of {d : DT} (h : argB (defArgs d.st) d.ps = true) {f : Addr} {fd : FuncData} (F : FunD K d.x d.x (defArgs d.st) (defBody d.st) (defScope d.st) [] [] f fd) : L2.Binds K fd d.ps [] := by
  unfold argB at h
  split at h
  · rename_i as e
    simp only [Bool.and_eq_true, decide_eq_true_eq] at h
    rw [e] at F
    refine F.bindsN fun kV doc pm an cdv ct us hl => ?_
    rw [← h.2]
    exact bindPlain as h.1 kV doc pm an cdv ct us (by rw [h.2]; exact hl)
  · cases h
/-- every def, at every depth -/
theorem defs_ok {n m : Nat} {mu : List (Nat × Nat)} (hL : L.length ≤ 999999) (hF : ∀ d ∈ L, HasF K mg d) (hmd : MdSt T w K mg L md) (hsc : ∀ d ∈ L, scB d.N d.ps (defScope d.st) = true) (hag : ∀ d ∈ L, argB (defArgs d.st) d.ps = true)
    (htr : ∀ d ∈ L, mapO (trS n m (d.sc md mu)) (defBody d.st) = some d.ms)
    (hlam : ∀ d ∈ L, d.lam = true → LamX.TabB base mg (He.cT K (d.x, none)).1 (He.cT K (d.x, none)).2 ∧ ((He.cT K (d.x, none)).2, lamQ d.x) ∈ T.tb ∧ ∀ p ∈ T.tb, p.1 = (He.cT K (d.x, none)).2 → p.2 = lamQ d.x) :
    ∀ k i d, L[i]? = some d → ∀ fd, FunD K d.x d.x (defArgs d.st) (defBody d.st) (defScope d.st) [] [] (He.ga K d.x) fd → FnOk P w K mg base (L2.CX P w) k (He.ga K d.x) fd d.ps (spF T K w d.ps.length (callF (Gof L) k i)) := by
  have nT : Gof L tickI = none := by show (L[999999]?).map DT.fn = none; rw [List.getElem?_eq_none (by omega)]; rfl
  have nL : ∀ i, Gof L (lamI i) = none := fun i => by show (L[i + 1000000]?).map DT.fn = none; rw [List.getElem?_eq_none (by omega)]; rfl
  have bnd : ∀ d ∈ L, ∀ f fd, FunD K d.x d.x (defArgs d.st) (defBody d.st) (defScope d.st) [] [] f fd → L2.Binds K fd d.ps [] := by
    intro d hd f fd F
    have h := hag d hd
    unfold argB at h
    split at h
    · rename_i as e
      simp only [Bool.and_eq_true, decide_eq_true_eq] at h
      rw [e] at F
      refine F.bindsN fun kV doc pm an cdv ct us hl => ?_
      rw [← h.2]
      exact bindPlain as h.1 kV doc pm an cdv ct us (by rw [h.2]; exact hl)
    · cases h
  have one : ∀ k x m, md.lookup x = some m → (∀ i d, L[i]? = some d → ∀ fd, FunD K d.x d.x (defArgs d.st) (defBody d.st) (defScope d.st) [] [] (He.ga K d.x) fd → FnOk P w K mg base (L2.CX P w) k (He.ga K d.x) fd d.ps (spF T K w d.ps.length (callF (Gof L) k i))) → match m with
      | .fn i ar => (∀ ds S, ds.length ≠ ar → callF (Gof L) k i ds S = .stuck) ∧ ∃ f fd ps, FnOk P w K mg base (L2.CX P w) k f fd ps (spF T K w ar (callF (Gof L) k i)) ∧ mg x = some (.ref f) ∧ PySem.W.keepIn K (.ref f) = true ∧ L2.Binds K fd ps []
      | _ => True := by
    intro k x mm hx hk
    have h := hmd x mm hx
    cases mm with
    | fn i ar =>
      obtain ⟨d, h1, rfl, h3⟩ := h
      have hm := List.mem_of_getElem? h1
      obtain ⟨fd, F, h5⟩ := hF d hm
      exact ⟨callF_ar (F := d.fn) (by show (L[i]?).map DT.fn = _; rw [h1]; rfl) k, _, fd, d.ps, hk i d h1 fd F, h3.trans h5, F.kp, bnd d hm _ fd F⟩
    | _ => trivial
  have comb : ∀ k, (∀ i d, L[i]? = some d → ∀ fd, FunD K d.x d.x (defArgs d.st) (defBody d.st) (defScope d.st) [] [] (He.ga K d.x) fd → FnOk P w K mg base (L2.CX P w) k (He.ga K d.x) fd d.ps (spF T K w d.ps.length (callF (Gof L) k i))) → MdOk T P w K mg base (callF (Gof L) k) k md := by
    intro k hk x mm hx
    have h := hmd x mm hx
    have q := one k x mm hx hk
    cases mm with
    | fn i ar => exact q
    | con d => exact h
    | bi => exact h
    | cls n => exact h
    | tol i hs d => exact h
  have deep : ∀ k, (∀ i d, L[i]? = some d → ∀ fd, FunD K d.x d.x (defArgs d.st) (defBody d.st) (defScope d.st) [] [] (He.ga K d.x) fd → FnOk P w K mg base (L2.CX P w) k (He.ga K d.x) fd d.ps (spF T K w d.ps.length (callF (Gof L) k i))) → MdOk T P w K mg base (callF (Gof L) (k + 2)) k (md.map fun p => (p.1, p.2.deep)) := by
    intro k hk x mm hx
    obtain ⟨m0, hx0, rfl⟩ := map_lookup hx
    have h := hmd x m0 hx0
    have q := one k x m0 hx0 hk
    cases m0 with
    | fn i ar =>
      show (∀ ds S, ds.length ≠ ar → callF (Gof L) (k + 2) (lamI i) ds S = .stuck) ∧ ∃ f fd ps, FnOk P w K mg base (L2.CX P w) k f fd ps (spF T K w ar (callF (Gof L) (k + 2) (lamI i))) ∧ mg x = some (.ref f) ∧ PySem.W.keepIn K (.ref f) = true ∧ L2.Binds K fd ps []
      have e : callF (Gof L) (k + 2) (lamI i) = callF (Gof L) k i := by funext ds S; exact callF_lam (nL i) k ds S
      rw [e]
      exact q
    | con d => exact h
    | bi => exact h
    | cls n => exact h
    | tol i hs d => exact h
  intro k
  induction k using Nat.strongRecOn with
  | _ k ih =>
    intro i d hd fd F
    match k, ih with
    | 0, _ =>
      refine ⟨fun vs H Q E h => h.1, fun A outer s H args us vs Q E _ _ _ _ h => ?_⟩
      obtain ⟨_, ι, S, ds, _, _, z⟩ := h
      simp only [callF] at z
      exact False.elim z
    | k + 1, ih =>
      have hm := List.mem_of_getElem? hd
      have hS := scB_ok (hsc d hm)
      obtain ⟨oc, od, dV, kV, doc, pm, an, cdv, ct, osl, rfl, lk, hcd, _, _⟩ := F.ex
      refine fn_of lk hcd hS (fun vs H Q E h => h.1) fun A outer s H vs Q E hr h => ?_
      obtain ⟨hl, ι, S, ds, so, l, z⟩ := h
      have hG : Gof L i = some d.fn := by show (L[i]?).map DT.fn = _; rw [hd]; rfl
      have lamG : d.lam = true → LamG T (callF (Gof L) k) k (cxOf (L2.CX P w) P w K mg base d.N d.x (defScope d.st) (He.ga K d.x) cdv A outer s H E) (d.sc md mu) := by
        intro hl
        obtain ⟨TB, h1, h2⟩ := hlam d hm hl
        obtain ⟨cc, ecc⟩ := He.codeIn_ref hcd
        have ec : (He.cT K (d.x, none)).1 = cc := He.codeOf_eq (p := (d.x, none)) lk ecc
        have hd2 : ∀ k', k = k' + 2 → MdOk T P w K mg base (callF (Gof L) k) k' (md.map fun p => (p.1, p.2.deep)) := by
          intro k' e
          subst e
          exact deep k' (ih k' (by omega))
        have ht0 : k < 2 → ∀ S, callF (Gof L) k tickI [] S = .stuck := by
          intro hk S
          exact callF_tick0 nT k hk S
        have ht2 : 2 ≤ k → ∀ S, callF (Gof L) k tickI [] S = .ok .non S := by
          intro hk S
          obtain ⟨j, e⟩ : ∃ j, k = j + 2 := ⟨k - 2, by omega⟩
          rw [e]
          exact callF_tick nT j S
        rw [ec] at TB
        have eq : (cxOf (L2.CX P w) P w K mg base d.N d.x (defScope d.st) (He.ga K d.x) cdv A outer s H E).env.qual ++ "<lambda>" = lamQ d.x := rfl
        generalize He.cT K (d.x, none) = ct0 at TB h1 h2
        refine { code := ⟨cc, ct0.2, ?_, ?_, ?_, ?_⟩, md2 := hd2, tick0 := ht0, tick2 := ht2 }
        · exact TB
        · exact ecc
        · rw [eq]; exact h1
        · rw [eq]; exact h2
      have g : Gd T (callF (Gof L) k) k (cxOf (L2.CX P w) P w K mg base d.N d.x (defScope d.st) (He.ga K d.x) cdv A outer s H E) (d.sc md mu) E := {
        N := rfl
        nd := hS.nd
        sc := rfl
        kind := hS.kind
        fn := fun _ _ => rfl
        calm := rfl
        hu := by have := hr.un; show (A.deeper (envOfC d.x (defScope d.st) s.heap.objs.size (He.ga K d.x) cdv)).units + 200 < cLine; omega
        room := hr
        pass := passes_call (takes_of rfl rfl rfl rfl) (fun _ _ _ _ h => h)
        md := comb k (ih k (Nat.lt_succ_self _))
        lam := lamG }
      have t := pss_m (trS_snd T (callF (Gof L) k) k n m) g ⟨passes_of rfl, takes_of rfl rfl rfl rfl⟩ (htr d hm)
      refine ⟨_, t, ι, ds.map some ++ List.replicate (d.N.length - ds.length) none, S, ⟨so, ?_, fun j e he => ?_⟩, ?_⟩
      · show _ ≤ (L2.start d.N vs).length
        unfold L2.start
        simp [l.length]
      · unfold L2.start
        rw [l.length]
        exact l.get2 he
      · show FinS T K w E ι S.length H (exs (callF (Gof L) k) d.ms (ds.map some ++ List.replicate (d.N.length - ds.length) none) S) _
        have hl2 : ds.length = d.ps.length := by rw [← l.length]; exact hl
        have e1 : callF (Gof L) (k + 1) i ds S = (exs (callF (Gof L) k) d.ms (ds.map some ++ List.replicate (d.N.length - ds.length) none) S).bind fun o S1 => match o with
            | .nx _ => .ok .non S1
            | .ret d => .ok d S1
            | _ => .stuck := by
          rw [callF_fn hG]
          unfold runFn
          exact if_pos hl2
        rw [e1] at z
        generalize exs (callF (Gof L) k) d.ms (ds.map some ++ List.replicate (d.N.length - ds.length) none) S = r at z ⊢
        cases r with
        | stuck => exact z
        | exc x S1 => exact z
        | ok o S1 =>
          cases o with
          | nx ρ => exact fun σ' ι' H' st R => z .non ι' H' st R.st rfl
          | ret d => exact z
          | brk ρ => exact False.elim z
          | ct ρ => exact False.elim z
end
end Ev

set_option Elab.async false
set_option linter.all false
set_option maxRecDepth 100000
set_option maxHeartbeats 4000000
/-! EvHead: what the head's run must show of the names. -/
namespace Ev
open PySem PySem.Spec PyProof.Rows L2
def scaB : D → Value → Bool
  | .non, .none => true
  | .bl b, .bool c => b == c
  | .int i, .int j _ => i == j
  | .str s, .str z _ => decide (z = toS s) && okS s
  | _, _ => false
theorem scaB_ok {d : D} {u : Value} (h : scaB d u = true) : ∃ v, RelV v u ∧ CAt d v := by
  unfold scaB at h
  split at h
  · exact ⟨.non, rfl, rfl⟩
  · rename_i b c; exact ⟨.bl b, by rw [show c = b from (by simpa using h : b = c).symm]; rfl, rfl⟩
  · rename_i i j t; exact ⟨.int i, ⟨t, by rw [show j = i from (by simpa using h : i = j).symm]⟩, rfl⟩
  · rename_i s z t
    simp only [Bool.and_eq_true, decide_eq_true_eq] at h
    exact ⟨.str (toS s), ⟨t, by rw [h.1]⟩, rfl, h.2⟩
  · cases h
mutual
def conB (K : PySem.W.Frag) : D → Value → Bool
  | .tup xs, .ref a => (match K.lookup a with
    | some ⟨.type c, none, .seq its _, _⟩ => decide (c = "tuple") && decide (its.size ≤ line) && conL K xs its.toList
    | _ => false)
  | d, u => scaB d u
def conL (K : PySem.W.Frag) : List D → List Value → Bool
  | [], [] => true
  | d :: ds, u :: us => conB K d u && conL K ds us
  | _, _ => false
end
section
variable {K : PySem.W.Frag} {w : World}
theorem sca_at {d : D} {v : V} (h : CAt d v) (ι : Pl) (n : Nat) (H : Hp) : At K w ι n H d v := by
  cases d <;> first | exact h | exact False.elim h
mutual
theorem conB_ok : ∀ (d : D) (u : Value), conB K d u = true → ∃ v, RelV v u ∧ ∀ ι n H, At K w ι n H d v
  | .tup xs, u, h => by
    cases u with
    | ref a =>
      unfold conB at h
      split at h
      · rename_i c its n sl hl
        simp only [Bool.and_eq_true, decide_eq_true_eq] at h
        obtain ⟨⟨rfl, hz⟩, h⟩ := h
        obtain ⟨vs, rv, l⟩ := conL_ok xs its.toList h
        exact ⟨.ref a, rfl, fun ι n' H => ⟨a, vs, rfl, .inr ⟨_, its, n, hl, rfl, rfl, hz, rv, rfl⟩, l ι n' H⟩⟩
      · cases h
    | _ => simp [conB, scaB] at h
  | .non, u, h => by
    have h' : scaB .non u = true := by cases u <;> simpa [conB] using h
    obtain ⟨v, r, c⟩ := scaB_ok h'; exact ⟨v, r, sca_at c⟩
  | .bl b, u, h => by
    have h' : scaB (.bl b) u = true := by cases u <;> simpa [conB] using h
    obtain ⟨v, r, c⟩ := scaB_ok h'; exact ⟨v, r, sca_at c⟩
  | .int b, u, h => by
    have h' : scaB (.int b) u = true := by cases u <;> simpa [conB] using h
    obtain ⟨v, r, c⟩ := scaB_ok h'; exact ⟨v, r, sca_at c⟩
  | .str b, u, h => by
    have h' : scaB (.str b) u = true := by cases u <;> simpa [conB] using h
    obtain ⟨v, r, c⟩ := scaB_ok h'; exact ⟨v, r, sca_at c⟩
  | .lst b, u, h => by cases u <;> simp [conB, scaB] at h
  | .dic b c, u, h => by cases u <;> simp [conB, scaB] at h
  | .ref b, u, h => by cases u <;> simp [conB, scaB] at h
  | .fro b, u, h => by cases u <;> simp [conB, scaB] at h
theorem conL_ok : ∀ (ds : List D) (us : List Value), conL K ds us = true → ∃ vs, Vals vs us ∧ ∀ ι n H, AtL K w ι n H ds vs
  | [], [], _ => ⟨[], .nil, fun _ _ _ => rfl⟩
  | d :: ds, u :: us, h => by
    simp only [conL, Bool.and_eq_true] at h
    obtain ⟨v, r, c⟩ := conB_ok d u h.1
    obtain ⟨vs, rs, cs⟩ := conL_ok ds us h.2
    exact ⟨v :: vs, .cons r rs, fun ι n H => ⟨v, vs, rfl, c ι n H, cs ι n H⟩⟩
  | [], _ :: _, h => by simp [conL] at h
  | _ :: _, [], h => by simp [conL] at h
end
def entB : List Kk → List D → List DictEntry → Bool
  | [], [], [] => true
  | .s k :: ks, d :: ds, e :: es => (match e.key with
    | .str z _ => decide (z = toS k)
    | _ => false) && scaB d e.val && entB ks ds es
  | _, _, _ => false
theorem toS_inj {a b : List Nat} (h : toS a = toS b) : a = b := by
  have := congrArg Str.cps h
  simpa [toS] using congrArg Array.toList this
theorem entB_ok : ∀ {ks : List Kk} {ds : List D} {es : List DictEntry}, entB ks ds es = true → ks.all isS = true ∧ es.any (·.refKey) = false ∧ ∀ z : List Nat, match dget (.s z) ks ds with
    | none => es.find? (·.key.isStr (toS z)) = none
    | some d => ∃ e v, es.find? (·.key.isStr (toS z)) = some e ∧ RelV v e.val ∧ CAt d v
  | [], [], [], _ => ⟨rfl, rfl, fun z => rfl⟩
  | .s k :: ks, d :: ds, e :: es, h => by
    simp only [entB, Bool.and_eq_true] at h
    obtain ⟨⟨h1, h2⟩, h3⟩ := h
    obtain ⟨i1, i2, i3⟩ := entB_ok h3
    split at h1
    · rename_i y t hk
      have hy : y = toS k := of_decide_eq_true h1
      have rk : e.refKey = false := by unfold DictEntry.refKey; rw [hk]
      refine ⟨by simp [isS, i1], by simp [rk, i2], fun z => ?_⟩
      have eis : e.key.isStr (toS z) = decide (k = z) := by
        rw [hk, hy]
        show (toS k == toS z) = _
        by_cases q : k = z
        · rw [q]; simp
        · have : toS k ≠ toS z := fun e => q (toS_inj e)
          simp [q, this]
      unfold dget
      by_cases q : k = z
      · have : (Kk.s k = Kk.s z) := by rw [q]
        rw [if_pos this]
        obtain ⟨v, r, c⟩ := scaB_ok h2
        refine ⟨e, v, ?_, r, c⟩
        rw [List.find?_cons, eis]
        simp [q]
      · have : ¬ (Kk.s k = Kk.s z) := fun e => q (by cases e; rfl)
        rw [if_neg this]
        have ef : (e :: es).find? (·.key.isStr (toS z)) = es.find? (·.key.isStr (toS z)) := by
          rw [List.find?_cons, eis]
          simp [q]
        rw [ef]
        exact i3 z
    · cases h1
  | [], [], _ :: _, h => by simp [entB] at h
  | [], _ :: _, _, h => by simp [entB] at h
  | .s _ :: _, [], _, h => by simp [entB] at h
  | .s _ :: _, _ :: _, [], h => by simp [entB] at h
  | .i _ :: _, _, _, h => by simp [entB] at h
theorem dic_ok {a : Addr} {ks : List Kk} {ds : List D} (hk : ∃ es n, KDict K w a es n) (hne : ks ≠ []) (h : (match K.lookup a with
    | some ⟨_, _, .dict es _, _⟩ => entB ks ds es.toList
    | _ => false) = true) : KDic K w a ks ds := by
  split at h
  · rename_i oc od es n sl hl
    obtain ⟨i1, i2, i3⟩ := entB_ok h
    refine ⟨hk, i1, hne, fun z => ?_⟩
    have en : PySem.W.nsIn K a (toS z) = match es.toList.find? (·.key.isStr (toS z)) with
        | some e => some (some e.val)
        | none => if es.toList.any (·.refKey) then none else some none := by
      unfold PySem.W.nsIn
      rw [hl]
      rfl
    have := i3 z
    cases q : dget (.s z) ks ds with
    | none =>
      rw [q] at this
      refine ⟨none, ?_, rfl⟩
      rw [en, this]
      simp [i2]
    | some d =>
      rw [q] at this
      obtain ⟨e, v, h1, h2, h3⟩ := this
      refine ⟨some e.val, ?_, e.val, v, rfl, h2, h3⟩
      rw [en, h1]
  · cases h
/-! ### the check of all names -/
def clN (nm : List Str) (n : Nat) : Str := nm.getD n ⟨#[]⟩
/-- the classes and the tables of code objects, as the head has them -/
def tOf (K : PySem.W.Frag) (nm : List Str) (tf : List He.Defn) : XT := ⟨fun n => .ref (He.ga K (clN nm n)), fun _ => ⟨#[]⟩, tf.map fun p => ((He.cT K p).2, lamQ p.1)⟩
def hdB (K : PySem.W.Frag) (nm : List Str) (sg : Scope) : List ExceptHandler → List (List (Nat × Bool) × List Nat) → Bool
  | [], [] => true
  | .ExceptHandler (some (.Name x _)) none [.Return (some (.Constant (.str z) _ _)) _] _ :: hds, (t, r) :: hs => (match sg.names.lookup x with
    | some .globalImplicit => true
    | _ => false) && !(x == ("__debug__" : Str)) && He.eqO (PySem.W.nsIn K mainGlobals x) (some (some (.ref (He.ga K x)))) && okS r && decide (z = toS r) && (t.all fun q => decide (PySem.W.exmOne K (.ref (He.ga K (clN nm q.1))) (.ref (He.ga K x)) = some q.2)) && hdB K nm sg hds hs
  | .ExceptHandler (some (.Name x _)) (some _) _ _ :: hds, (t, []) :: hs => (match sg.names.lookup x with
    | some .globalImplicit => true
    | _ => false) && !(x == ("__debug__" : Str)) && He.eqO (PySem.W.nsIn K mainGlobals x) (some (some (.ref (He.ga K x)))) && (t.all fun q => !q.2 && decide (PySem.W.exmOne K (.ref (He.ga K (clN nm q.1))) (.ref (He.ga K x)) = some false)) && hdB K nm sg hds hs
  | _, _ => false
def tolB (K : PySem.W.Frag) (nm : List Str) (d : DT) (hs : List (List (Nat × Bool) × List Nat)) (z : List Nat) : Bool := match d.ps, defBody d.st with
  | [a], [.Try [.Expr (.Call (.Name b _) [] [] _) _] (h₀ :: hds) [] [] _, .Return (some (.Constant (.str y) _ _)) _] => decide (a = b) && decide (y = toS z) && okS z && !(a == ("__debug__" : Str)) && !(a == ("__classdict__" : Str)) && hdB K nm (defScope d.st) (h₀ :: hds) hs
  | _, _ => false
def mdB1 (nm : List Str) (L : List DT) (K : PySem.W.Frag) (x : Str) : MN → Bool
  | .cls n => decide (nm[n]? = some x) && He.eqO (PySem.W.nsIn K mainGlobals x) (some (some (.ref (He.ga K x)))) && PySem.W.excIn K (He.ga K x) [.type "ValueError", .type "Exception", .type "BaseException", .type "object"] "ValueError.__new__" && PySem.W.keepIn K (.ref (He.ga K x)) &&
    decide (PySem.W.subIn K (.ref (He.ga K x)) (.type "BaseException") = some true) && decide (PySem.W.typeIn K (.ref (He.ga K x)) = some (.type "type"))
  | .tol i hs z => (match L[i]? with
    | some d => decide (d.x = x) && tolB K nm d hs z
    | none => false)
  | .fn i ar => (match L[i]? with
    | some d => decide (ar = d.ps.length) && He.eqO (PySem.W.nsIn K mainGlobals x) (some (some (.ref (He.ga K d.x)))) && He.eqO (PySem.W.nsIn K mainGlobals d.x) (some (some (.ref (He.ga K d.x))))
    | none => false)
  | .con (.dic ks ds) => !ks.isEmpty && He.eqO (PySem.W.nsIn K mainGlobals x) (some (some (.ref (He.ga K x)))) && (match K.lookup (He.ga K x) with
    | some ⟨_, _, .dict es _, _⟩ => entB ks ds es.toList
    | _ => false)
  | .con d => (match PySem.W.nsIn K mainGlobals x with
    | some (some u) => conB K d u
    | _ => false)
  | .bi => He.eqO (PySem.W.nsIn K mainGlobals x) (some none)
def lamOk (L : List DT) (tf : List He.Defn) (K : PySem.W.Frag) : Bool := (L.all fun d => !d.lam || tf.contains (d.x, none)) && (tf.all fun p => p.2.isNone && tf.all fun q => decide (p = q) || !decide ((He.cT K p).2 = (He.cT K q).2))
def mdB (nm : List Str) (tf : List He.Defn) (L : List DT) (md : List (Str × MN)) (K : PySem.W.Frag) : Bool := lamOk L tf K && (md.all fun p => mdB1 nm L K p.1 p.2) && (L.all fun d => He.eqO (PySem.W.nsIn K mainGlobals d.x) (some (some (.ref (He.ga K d.x)))))
def keysS : List Kk → List Str
  | [] => []
  | .s z :: ks => toS z :: keysS ks
  | .i _ :: ks => keysS ks
def tabOf : List (Str × MN) → List He.Tab
  | [] => []
  | (x, .con (.dic ks _)) :: r => ((fun K => He.ga K x), keysS ks) :: tabOf r
  | _ :: r => tabOf r
def DT.dd (d : DT) : He.DefD := ⟨(d.x, none), d.x, d.x, defArgs d.st, defBody d.st, defScope d.st, [], []⟩
theorem tabOf_mem {x : Str} {ks : List Kk} {ds : List D} : ∀ {md : List (Str × MN)}, (x, MN.con (.dic ks ds)) ∈ md → ((fun K => He.ga K x), keysS ks) ∈ tabOf md
  | p :: r, h => by
    rcases List.mem_cons.mp h with e | h
    · subst e; exact List.mem_cons_self ..
    · have := tabOf_mem h
      unfold tabOf
      split
      · rename_i e; cases e
      · rename_i e; cases e; exact List.mem_cons_of_mem _ this
      · rename_i e; cases e; exact this
theorem lookup_mem {x : Str} {m : MN} : ∀ {md : List (Str × MN)}, md.lookup x = some m → (x, m) ∈ md
  | (y, n) :: r, h => by
    rw [List.lookup_cons] at h
    cases q : (x == y) with
    | true =>
      rw [q] at h
      have : x = y := by simpa using q
      cases h; rw [this]; exact List.mem_cons_self ..
    | false => rw [q] at h; exact List.mem_cons_of_mem _ (lookup_mem h)
theorem hdB_ok {K : PySem.W.Frag} {nm : List Str} {tf : List He.Defn} {sg : Scope} {h : Heap} {mg : Str → Option Value} (X : K.In h) (G : h.Ns mainGlobals mg) : ∀ {hds : List ExceptHandler} {hs : List (List (Nat × Bool) × List Nat)}, hdB K nm sg hds hs = true → ∃ l, HdT K mg (tOf K nm tf) sg hds hs l
  | [], [], _ => ⟨[], .nil⟩
  | hd :: hds, (t, r) :: hs, q => by
    unfold hdB at q
    split at q
    · rename_i e; cases e
    · rename_i x np z j p1 p2 p3 hds' t' r' hs' e1 e2
      cases e1
      cases e2
      simp only [Bool.and_eq_true, Bool.not_eq_true', decide_eq_true_eq, List.all_eq_true] at q
      obtain ⟨⟨⟨⟨⟨⟨q1, q2⟩, q3⟩, q4⟩, q5⟩, q6⟩, q7⟩ := q
      obtain ⟨l, hl⟩ := hdB_ok X G q7
      subst q5
      refine ⟨_, .cons (C := .ref (He.ga K x)) ?_ q2 (PySem.W.mg_of X G (He.eqO_ok q3)) q4 (fun n b e => ?_) hl⟩
      · split at q1
        · assumption
        · cases q1
      · have hm : (n, b) ∈ t := by
          clear q6
          induction t with
          | nil => cases e
          | cons y ys ih =>
            rw [List.lookup_cons] at e
            cases z : (n == y.1) with
            | true =>
              rw [z] at e
              have : n = y.1 := by simpa using z
              cases e; rw [this]; exact List.mem_cons_self ..
            | false => rw [z] at e; exact List.mem_cons_of_mem _ (ih e)
        exact q6 (n, b) hm
    · rename_i x np n0 su p1 hds' t' hs' e1 e2
      cases e1
      cases e2
      simp only [Bool.and_eq_true, Bool.not_eq_true', decide_eq_true_eq, List.all_eq_true] at q
      obtain ⟨⟨⟨⟨q1, q2⟩, q3⟩, q6⟩, q7⟩ := q
      obtain ⟨l, hl⟩ := hdB_ok X G q7
      refine ⟨_, .skip (C := .ref (He.ga K x)) ?_ q2 (PySem.W.mg_of X G (He.eqO_ok q3)) (fun n b e => ?_) hl⟩
      · split at q1
        · assumption
        · cases q1
      · have hm : (n, b) ∈ t := by
          clear q6
          induction t with
          | nil => cases e
          | cons y ys ih =>
            rw [List.lookup_cons] at e
            cases z : (n == y.1) with
            | true =>
              rw [z] at e
              have : n = y.1 := by simpa using z
              cases e; rw [this]; exact List.mem_cons_self ..
            | false => rw [z] at e; exact List.mem_cons_of_mem _ (ih e)
        exact q6 (n, b) hm
    · cases q
  | [], _ :: _, q => by simp [hdB] at q
  | _ :: _, [], q => by
    unfold hdB at q
    split at q
    · rename_i e _; cases e
    · rename_i e; cases e
    · rename_i e; cases e
    · cases q
theorem said {nm : List Str} {L : List DT} {md : List (Str × MN)} {tf : List He.Defn} {fa : List He.Fa} {h : Heap} {mg : Str → Option Value} (hsc : ∀ d ∈ L, scB d.N d.ps (defScope d.st) = true) (hag : ∀ d ∈ L, argB (defArgs d.st) d.ps = true)
    (X : K.In h) (G : h.Ns mainGlobals mg) (c : He.SaysX fa (L.map DT.dd) (tabOf md) tf (mdB nm tf L md) w h K) :
    (∀ d ∈ L, HasF K mg d) ∧ MdSt (tOf K nm tf) w K mg L md ∧ lamOk L tf K = true := by
  have hm := c.more
  unfold mdB at hm
  simp only [Bool.and_eq_true, List.all_eq_true] at hm
  have hlam := hm.1.1
  replace hm := And.intro hm.1.2 hm.2
  have gl : ∀ d ∈ L, mg d.x = some (.ref (He.ga K d.x)) := fun d hd => PySem.W.mg_of X G (He.eqO_ok (hm.2 d hd))
  have hasF : ∀ d ∈ L, HasF K mg d := fun d hd => by
    obtain ⟨fd, F⟩ := c.t.d.defs (d := d.dd) (List.mem_map_of_mem hd)
    exact ⟨fd, F, gl d hd⟩
  refine ⟨hasF, fun x m hx => ?_, hlam⟩
  · have hx' := lookup_mem hx
    have h1 := hm.1 _ hx'
    cases m with
    | cls n =>
      simp only [mdB1, Bool.and_eq_true, decide_eq_true_eq] at h1
      obtain ⟨⟨⟨⟨⟨e1, e2⟩, e3⟩, e4⟩, e5⟩, e6⟩ := h1
      refine ⟨He.ga K x, PySem.W.mg_of X G (He.eqO_ok e2), ?_, e3, e4, e5, e6⟩
      show Value.ref (He.ga K (clN nm n)) = _
      have : clN nm n = x := by unfold clN; rw [List.getD_eq_getElem?_getD, e1]; rfl
      rw [this]
    | tol i hs z =>
      simp only [mdB1] at h1
      split at h1
      · rename_i d hd
        simp only [Bool.and_eq_true, decide_eq_true_eq] at h1
        obtain ⟨e1, e2⟩ := h1
        subst e1
        have hmem := List.mem_of_getElem? hd
        obtain ⟨fd, F, hg⟩ := hasF d hmem
        have S := scB_ok (hsc d hmem)
        have B := binds_of (hag d hmem) F
        unfold tolB at e2
        split at e2
        · rename_i a b p1 p2 p3 h₀ hds p8 y j p9 p10 ep eb
          simp only [Bool.and_eq_true, Bool.not_eq_true', decide_eq_true_eq] at e2
          obtain ⟨⟨⟨⟨⟨e3, e4⟩, e5⟩, e6⟩, e7⟩, e8⟩ := e2
          subst e3
          subst e4
          obtain ⟨l, hl⟩ := hdB_ok (tf := tf) X G e8
          rw [ep] at S B
          rw [eb] at F
          refine ⟨_, d.N, a, _, _, _, fd, F, hg, B, S, ?_, ?_, e6, e7, e5, p1, p2, p3, p8, p9, p10, j, h₀, hds, l, rfl, hl⟩
          · have := S.pre
            cases hN : d.N with
            | nil => rw [hN] at this; cases this
            | cons u us => rw [hN] at this; simp at this; rw [this]; rfl
          · rcases S.par a (List.mem_cons_self ..) with z | z
            · exact .inl z
            · exact .inr (.inl z)
        · cases e2
      · cases h1
    | fn i ar =>
      simp only [mdB1] at h1
      split at h1
      · rename_i d hd
        simp only [Bool.and_eq_true, decide_eq_true_eq] at h1
        exact ⟨d, hd, h1.1.1, (PySem.W.mg_of X G (He.eqO_ok h1.1.2)).trans (gl d (List.mem_of_getElem? hd)).symm⟩
      · cases h1
    | con d =>
      have other : (match PySem.W.nsIn K mainGlobals x with
          | some (some u) => conB K d u
          | _ => false) = true → ∃ u v, mg x = some u ∧ RelV v u ∧ ∀ ι n H, At K w ι n H d v := by
        intro h2
        split at h2
        · rename_i u hu
          obtain ⟨v, r, a⟩ := conB_ok (w := w) d u h2
          exact ⟨u, v, PySem.W.mg_of X G hu, r, a⟩
        · cases h2
      cases d with
      | dic ks ds =>
        simp only [mdB1, Bool.and_eq_true, Bool.not_eq_true'] at h1
        obtain ⟨⟨h1, h2⟩, h3⟩ := h1
        obtain ⟨i, hi, e⟩ := List.mem_iff_getElem.mp (tabOf_mem hx')
        have hk := c.t.tab i (t := _) (by rw [List.getElem?_eq_getElem hi, e])
        refine ⟨_, .ref (He.ga K x), PySem.W.mg_of X G (He.eqO_ok h2), rfl, fun ι n H => ⟨He.ga K x, rfl, .inr (dic_ok hk ?_ h3)⟩⟩
        rintro rfl
        cases h1
      | _ => exact other h1
    | bi => exact PySem.W.mg_none_of X G (He.eqO_ok h1)
end
end Ev

set_option Elab.async false
set_option linter.all false
set_option maxRecDepth 100000
set_option maxHeartbeats 4000000
/-! EvFin: from the plain law to the law. -/
namespace Ev
open PySem PySem.Spec PyProof.Rows L2
section
variable {L : List DT} {md : List (Str × MN)} {mu : List (Nat × Nat)} {nm : List Str} {tf : List He.Defn} {fa : List He.Fa} {n m i k : Nat} {x : Str} {d : DT}
/-- all that is asked of the texts -/
structure Txt (L : List DT) (md : List (Str × MN)) (mu : List (Nat × Nat)) (n m : Nat) : Prop where
  sc : ∀ d ∈ L, scB d.N d.ps (defScope d.st) = true
  ag : ∀ d ∈ L, argB (defArgs d.st) d.ps = true
  tr : ∀ d ∈ L, mapO (trS n m (d.sc md mu)) (defBody d.st) = some d.ms
theorem law_F {l : PySem.W.OpenLaw} (t : Txt L md mu n m) (hL : L.length ≤ 999999) (hi : L[i]? = some d) (hps : d.ps = [x]) (plain : ∀ ns : List Int, ns.length ≤ 63 → ∃ S, callF (Gof L) k i [.fro ns] [] = .ok (.bl true) S)
    {w : World} {mg : Str → Option Value} {f : Addr} {h : Heap} (Y : ∃ K : PySem.W.Frag, K.In h ∧ He.SaysX fa (L.map DT.dd) (tabOf md) tf (mdB nm tf L md) w h K) (G : h.Ns mainGlobals mg) (hf : mg d.x = some (.ref f)) :
    ∃ K : PySem.W.Frag, K.In h ∧ LamX.LawAtS l w K (L2.CX l.prog w) k 63 x mg f h := by
  obtain ⟨K, KX, c⟩ := Y
  obtain ⟨hF, hM, hlam⟩ := said t.sc t.ag KX G c
  unfold lamOk at hlam
  simp only [Bool.and_eq_true, List.all_eq_true] at hlam
  have hm := List.mem_of_getElem? hi
  obtain ⟨fd, F, hg⟩ := hF d hm
  have e := hf.symm.trans hg
  cases e
  have hag := t.ag d hm
  have mem : ∀ {p : Addr × Addr}, p ∈ tf.map (He.cT K) → ∃ q ∈ tf, He.cT K q = p := fun {p} hp => List.mem_map.mp hp
  refine ⟨K, KX, fd, tf.map (He.cT K), spF (tOf K nm tf) K w 1 (callF (Gof L) k i), fun p hp => ?_, fun p hp => ?_, fun p hp => ?_, fun s u => ?_, fun H a ns hl _ hT hS => ?_, fun base _ _ hTB => ?_⟩
  · obtain ⟨q, hq, rfl⟩ := mem hp; exact c.empty q hq
  · obtain ⟨q, hq, rfl⟩ := mem hp; exact c.out q hq
  · obtain ⟨q, hq, rfl⟩ := mem hp; exact PySem.W.codeHd_of_K KX (c.hd q hq)
  · unfold argB at hag
    split at hag
    · rename_i as e
      simp only [Bool.and_eq_true, decide_eq_true_eq] at hag
      rw [e] at F
      have b := FunD.bindsA (ps := d.ps) F (fun kV doc pm an cdv ct us hl => by
        rw [← hag.2]
        exact bindPlain as hag.1 kV doc pm an cdv ct us (by rw [hag.2]; exact hl)) s [u] (by rw [hps]; rfl)
      rw [hps] at b
      exact b
    · cases hag
  · obtain ⟨S, e⟩ := plain ns hl
    refine ⟨rfl, ⟨fun _ => 0, []⟩, [], [.fro ns], ⟨?_, (fun i j hi => absurd hi (Nat.not_lt_zero _)), (fun j o hj => by simp at hj), (fun b hb => nomatch hb)⟩, ?_, ?_⟩
    · intro p hp
      obtain ⟨q, hq, rfl⟩ := List.mem_map.mp hp
      exact LamX.TabS.nil (hT _ (List.mem_map_of_mem hq))
    · refine ⟨.ref a, [], rfl, ⟨a, rfl, ?_⟩, rfl⟩
      rcases hS with z | z
      · exact .inl ⟨z, ⟨(fun ⟨j, hj, _⟩ => absurd hj (Nat.not_lt_zero _)), (fun hb => nomatch hb)⟩⟩
      · exact .inr z
    · rw [e]
      exact fun v ι' H' _ _ a => a
  · have q := defs_ok (T := tOf K nm tf) (P := l.prog) (w := w) (K := K) (mg := mg) (base := base) hL hF hM t.sc t.ag t.tr (fun d' hd' hl => ?_) k i d hi fd F
    · rw [hps] at q
      exact q
    · have ht : (d'.x, none) ∈ tf := by
        have := hlam.1 d' hd'
        rw [hl] at this
        simpa using this
      refine ⟨hTB _ (List.mem_map_of_mem ht), List.mem_map.mpr ⟨_, ht, rfl⟩, fun p hp e => ?_⟩
      obtain ⟨r, hr, rfl⟩ := List.mem_map.mp hp
      have := (hlam.2 r hr).2 (d'.x, none) ht
      simp only [Bool.or_eq_true, Bool.not_eq_true', decide_eq_true_eq, decide_eq_false_iff_not] at this
      rcases this with z | z
      · rw [z]
      · exact absurd e z
end
end Ev

set_option Elab.async false
set_option linter.all false
set_option maxRecDepth 100000
set_option maxHeartbeats 4000000
/-! EvWp: plain laws: tools. -/
namespace Ev
def Wp {α : Type} (r : Res α) (Q : α → Store → Prop) : Prop := match r with
  | .ok a S => Q a S
  | _ => False
section
variable {α β : Type} {Q : α → Store → Prop} {R : β → Store → Prop}
theorem wp_ok (a : α) (S : Store) : Wp (.ok a S) Q = Q a S := rfl
theorem wp_bind (r : Res β) (f : β → Store → Res α) : Wp (r.bind f) Q = Wp r (fun b S => Wp (f b S) Q) := by cases r <;> rfl
theorem wp_nox (r : Res α) : Wp r.nox Q = Wp r Q := by cases r <;> rfl
theorem wp_lift_some (d : D) (S : Store) {Q : D → Store → Prop} : Wp (lift (some d) S) Q = Q d S := rfl
theorem wp_liftB_some (d : Bool) (S : Store) {Q : D → Store → Prop} : Wp (liftB (some d) S) Q = Q (.bl d) S := rfl
theorem Wp.mono {r : Res α} (h : Wp r Q) {Q' : α → Store → Prop} (f : ∀ a S, Q a S → Q' a S) : Wp r Q' := by
  cases r with
  | ok a S => exact f a S h
  | exc x S => exact h
  | stuck => exact h
theorem Wp.ok_of {r : Res α} (h : Wp r Q) : ∃ a S, r = .ok a S ∧ Q a S := by
  cases r with
  | ok a S => exact ⟨a, S, rfl, h⟩
  | exc x S => exact h.elim
  | stuck => exact h.elim
theorem wp_ite {c : Prop} [Decidable c] (a b : Res α) : Wp (if c then a else b) Q = if c then Wp a Q else Wp b Q := by split <;> rfl
end
theorem callF_s {G : Nat → Option Fn} {i ar sl : Nat} {m : List MS} (h : G i = some ⟨ar, sl, m⟩) (k : Nat) {ds : List D} (hl : ds.length = ar) (S : Store) :
    callF G (k + 1) i ds S = (exs (callF G k) m (ds.map some ++ List.replicate (sl - ds.length) none) S).bind fun o S1 => match o with
      | .nx _ => .ok .non S1
      | .ret d => .ok d S1
      | _ => .stuck := by
  rw [callF_fn h]
  exact if_pos hl
theorem ret_ok (d : D) (S : Store) : ((Res.ok (Flo.ret d) S).bind fun o S1 => match o with
      | .nx _ => Res.ok D.non S1
      | .ret d => .ok d S1
      | _ => .stuck) = .ok d S := rfl
/-- a loop's body -/
def xs_ (call : Nat → List D → Store → Res D) (b : List MS) : Rho → Store → Res Flo := fun ρ S => exs call b ρ S
theorem ex_fors (call : Nat → List D → Store → Res D) (t : MT) (it : MI) (b : List MS) (ρ : Rho) (S : Store) : ex call (.fors t it b) ρ S = (evI call it ρ S).bind fun xs S1 => forGo (xs_ call b) t xs ρ S1 := by simp only [ex] <;> rfl
/-! ### operations -/
theorem b_add (a b : Int) : evBin .add (.int a) (.int b) = some (.int (a + b)) := rfl
theorem b_sub (a b : Int) : evBin .sub (.int a) (.int b) = some (.int (a - b)) := rfl
theorem b_mulR (a b : Int) (h : -18446744073709551616 < b ∧ b < 18446744073709551616) : evBin .mul (.int a) (.int b) = some (.int (a * b)) := if_pos (.inr h)
theorem b_mulL (a b : Int) (h : -18446744073709551616 < a ∧ a < 18446744073709551616) : evBin .mul (.int a) (.int b) = some (.int (a * b)) := if_pos (.inl h)
theorem b_div (a b : Int) (h : 0 < b ∧ b < 1073741824) : evBin .fdiv (.int a) (.int b) = some (.int (a / b)) := if_pos h
theorem b_mod (a b : Int) (h : 0 < b) : evBin .mod (.int a) (.int b) = some (.int (a % b)) := if_pos h
theorem b_addT (a b : List D) (h : a.length + b.length ≤ line) : evBin .add (.tup a) (.tup b) = some (.tup (a ++ b)) := if_pos h
theorem b_addL (a b : List D) (h : a.length + b.length ≤ line) : evBin .add (.lst a) (.lst b) = some (.lst (a ++ b)) := if_pos h
theorem c_lt (a b : Int) : evCmp .lt (.int a) (.int b) = some (decide (a < b)) := rfl
theorem c_le (a b : Int) : evCmp .le (.int a) (.int b) = some (decide (a ≤ b)) := rfl
theorem c_gt (a b : Int) : evCmp .gt (.int a) (.int b) = some (decide (b < a)) := rfl
theorem c_ge (a b : Int) : evCmp .ge (.int a) (.int b) = some (decide (b ≤ a)) := rfl
theorem c_eqI (a b : Int) : evCmp .eq (.int a) (.int b) = some (decide (a = b)) := rfl
theorem c_neI (a b : Int) : evCmp .ne (.int a) (.int b) = some (!decide (a = b)) := rfl
theorem beq_dec {α : Type} [DecidableEq α] (a b : List α) : (a == b) = decide (a = b) := by rw [Bool.eq_iff_iff]; simp
theorem c_eqS (a b : List Nat) : evCmp .eq (.str a) (.str b) = some (decide (a = b)) := congrArg some (beq_dec a b)
theorem c_neS (a b : List Nat) : evCmp .ne (.str a) (.str b) = some (!decide (a = b)) := congrArg (fun z => some (!z)) (beq_dec a b)
theorem eqD_s (a b : List Nat) : eqD (.str a) (.str b) = decide (b = a) := (beq_dec a b).trans (by rw [decide_eq_decide]; exact eq_comm)
theorem c_eqB (a b : Bool) : evCmp .eq (.bl a) (.bl b) = some (a == b) := rfl
theorem c_neB (a b : Bool) : evCmp .ne (.bl a) (.bl b) = some (!(a == b)) := rfl
theorem t_bl (b : Bool) (S : Store) : truthy (.bl b) S = some b := rfl
theorem t_int (b : Int) (S : Store) : truthy (.int b) S = some (b != 0) := rfl
theorem t_tup (b : List D) (S : Store) : truthy (.tup b) S = some (!b.isEmpty) := rfl
theorem t_lst (b : List D) (S : Store) : truthy (.lst b) S = some (!b.isEmpty) := rfl
theorem t_non (S : Store) : truthy .non S = some false := rfl
theorem bi_int (i : Int) (S : Store) : evBi .int [.int i] S = some (.int i) := rfl
theorem bi_abs (i : Int) (S : Store) : evBi .abs [.int i] S = some (.int (if i < 0 then -i else i)) := rfl
theorem bi_lenT (xs : List D) (S : Store) : evBi .len [.tup xs] S = some (.int xs.length) := rfl
theorem bi_lenL (xs : List D) (S : Store) : evBi .len [.lst xs] S = some (.int xs.length) := rfl
theorem bi_lenS (s : List Nat) (S : Store) (h : s.length ≤ line) : evBi .len [.str s] S = some (.int s.length) := if_pos h
theorem bi_tupL (xs : List D) (S : Store) : evBi .tuple [.lst xs] S = some (.tup xs) := rfl
theorem bi_tupT (xs : List D) (S : Store) : evBi .tuple [.tup xs] S = some (.tup xs) := rfl
theorem bi_lstT (xs : List D) (S : Store) : evBi .list [.tup xs] S = some (.lst xs) := rfl
theorem bi_lstL (xs : List D) (S : Store) : evBi .list [.lst xs] S = some (.lst xs) := rfl
theorem bi_lstF (xs : List Int) (S : Store) : evBi .list [.fro xs] S = some (.lst (xs.map .int)) := rfl
theorem bi_all (xs : List D) (S : Store) : evBi .all [.lst xs] S = (boolsOf xs).map fun bs => .bl (bs.all id) := rfl
theorem bi_sum (xs : List D) (S : Store) : evBi .sum [.lst xs] S = (intsOf xs).map fun ns => .int ns.sum := rfl
theorem ixT (xs : List D) (i : Int) (S : Store) : evIx (.tup xs) (.int i) S = atI xs i := rfl
theorem ixL (xs : List D) (i : Int) (S : Store) : evIx (.lst xs) (.int i) S = atI xs i := rfl
theorem ixS (s : List Nat) (i : Int) (S : Store) (h : s.length ≤ line) : evIx (.str s) (.int i) S = match atI s i with | some c => some (.str [c]) | none => none := if_pos h
theorem mk_f (xs : List D) (S : Store) : evMk false xs S = .ok (.lst xs) S := rfl
theorem mk_t (xs : List D) (S : Store) : evMk true xs S = .ok (.ref S.length) (S ++ [.lst xs]) := rfl
theorem atI_in {α : Type} {xs : List α} {i : Int} (h0 : 0 ≤ i) (h1 : i < xs.length) : ∃ x ∈ xs, atI xs i = some x := by
  have hj : i.toNat < xs.length := by omega
  refine ⟨xs[i.toNat], List.getElem_mem hj, ?_⟩
  unfold atI ixN
  rw [if_pos h0, if_pos h1]
  simp [hj]
/-- the cup stands first -/
def Cup (S : Store) : Prop := ∃ (a b : Int) (r : Store), S = .lst [.int a, .int b] :: r ∧ 0 ≤ a
end Ev

set_option Elab.async false
set_option linter.all false
set_option maxRecDepth 100000
set_option maxHeartbeats 4000000
/-! EvVal: values of the language, as data. -/
namespace Ev
mutual
/-- plain data with short texts -/
def gd : D → Bool
  | .non => true
  | .bl _ => true
  | .int _ => true
  | .str s => decide (s.length ≤ 1000)
  | .tup xs => gdL xs
  | .lst xs => gdL xs
  | _ => false
def gdL : List D → Bool
  | [] => true
  | x :: xs => gd x && gdL xs
end
mutual
theorem gd_data : ∀ d : D, gd d = true → isData d = true
  | .non, _ => rfl
  | .bl _, _ => rfl
  | .int _, _ => rfl
  | .str _, _ => rfl
  | .tup xs, h => gdL_data xs h
  | .lst xs, h => gdL_data xs h
  | .dic _ _, h => by cases h
  | .ref _, h => by cases h
  | .fro _, h => by cases h
theorem gdL_data : ∀ xs : List D, gdL xs = true → areData xs = true
  | [], _ => rfl
  | x :: xs, h => by
    simp only [gdL, Bool.and_eq_true] at h
    simp only [areData, Bool.and_eq_true]
    exact ⟨gd_data x h.1, gdL_data xs h.2⟩
end
theorem gdL_iff : ∀ {xs : List D}, gdL xs = true ↔ ∀ x ∈ xs, gd x = true
  | [] => by simp [gdL]
  | x :: xs => by simp [gdL, gdL_iff]
theorem depL_le {n : Nat} : ∀ {xs : List D}, depL xs ≤ n ↔ ∀ x ∈ xs, dep x ≤ n
  | [] => by simp [depL]
  | x :: xs => by simp [depL, depL_le, Nat.max_le]
def isWhole (d : D) (lo hi : Int) : Bool := match d with
  | .int i => decide (lo ≤ i) && decide (i ≤ hi)
  | _ => false
def letters : List Nat := [97, 98, 99, 100, 101, 102, 103, 104, 105, 106, 107, 108, 109, 110, 111, 112, 113, 114, 115, 116, 117, 118, 119, 120, 121, 122]
def signs : List Nat := [97, 98, 99, 100, 101, 102, 103, 104, 105, 106, 107, 108, 109, 110, 111, 112, 113, 114, 115, 116, 117, 118, 119, 120, 121, 122, 48, 49, 50, 51, 52, 53, 54, 55, 56, 57]
def isText (d : D) (first behind : List Nat) : Bool := match d with
  | .str [] => false
  | .str (c :: s) => decide (s.length ≤ 7) && decide (c ∈ first) && s.all fun x => decide (x ∈ behind)
  | _ => false
def isWord (d : D) : Bool := isText d letters signs
mutual
def built : D → Bool
  | .tup [.str s] => s == [110, 105, 108]
  | .tup [.str s, x] => if s = [110, 117, 109, 98, 101, 114] then isWhole x (-536870912) 536870911 else if s = [97, 116, 111, 109] then isWord x else if s = [112, 114, 111, 99, 101, 115, 115] then isWhole x 0 7 else if s = [116, 117, 112, 108, 101] then builtT x else false
  | .tup [.str s, x, y] => s == [112, 97, 105, 114] && built x && built y
  | _ => false
def builtT : D → Bool
  | .tup ys => decide (ys.length ≤ 6) && builtL ys
  | _ => false
def builtL : List D → Bool
  | [] => true
  | x :: xs => built x && builtL xs
end
mutual
def size : D → Int
  | .tup [.str s, x] => if s = [116, 117, 112, 108, 101] then sizeT x else 0
  | .tup [.str s, x, y] => if s = [112, 97, 105, 114] then 2 + size x + size y else 0
  | _ => 0
def sizeT : D → Int
  | .tup ys => 1 + ys.length + sizeL ys
  | _ => 0
def sizeL : List D → Int
  | [] => 0
  | x :: xs => size x + sizeL xs
end
theorem builtL_iff : ∀ {xs : List D}, builtL xs = true ↔ ∀ x ∈ xs, built x = true
  | [] => by simp [builtL]
  | x :: xs => by simp [builtL, builtL_iff]
theorem sizeL_le {n : Int} : ∀ {xs : List D}, (∀ x ∈ xs, size x ≤ n) → sizeL xs ≤ xs.length * n
  | [], _ => by simp [sizeL]
  | x :: xs, h => by
    have h1 := h x (List.mem_cons_self ..)
    have h2 := sizeL_le fun y hy => h y (List.mem_cons_of_mem _ hy)
    simp only [sizeL, List.length_cons]
    push_cast
    rw [Int.add_mul]
    omega
/-- how large a drawn value may be -/
def sz : Nat → Int
  | 0 => 0
  | n + 1 => 4 + 3 * sz n
theorem sz_pos : ∀ n, 0 ≤ sz n
  | 0 => by decide
  | n + 1 => by have := sz_pos n; simp only [sz]; omega
/-- a drawn value -/
def vOk (n : Nat) (d : D) : Bool := built d && decide (size d ≤ sz n) && gd d && decide (dep d ≤ 2 * n + 2)
theorem sz_mono : ∀ {m n : Nat}, m ≤ n → sz m ≤ sz n
  | m, 0, h => by have : m = 0 := by omega
                  subst this; exact Int.le_refl _
  | m, n + 1, h => by
    by_cases e : m = n + 1
    · subst e; exact Int.le_refl _
    · have := sz_mono (m := m) (n := n) (by omega)
      have := sz_pos n
      simp only [sz]; omega
theorem vOk_mono {m n : Nat} (h : m ≤ n) {d : D} (v : vOk m d = true) : vOk n d = true := by
  simp only [vOk, Bool.and_eq_true, decide_eq_true_eq] at v ⊢
  have := sz_mono h
  exact ⟨⟨⟨v.1.1.1, by omega⟩, v.1.2⟩, by omega⟩
theorem vOk_tup {n : Nat} {ys : List D} (hl : ys.length ≤ 3) (h : ∀ y ∈ ys, vOk n y = true) : vOk (n + 1) (.tup [.str [116, 117, 112, 108, 101], .tup ys]) = true := by
  simp only [vOk, Bool.and_eq_true, decide_eq_true_eq] at h
  simp only [vOk, Bool.and_eq_true, decide_eq_true_eq]
  have h1 : sizeL ys ≤ ys.length * sz n := sizeL_le fun y hy => (h y hy).1.1.2
  have h2 : (ys.length : Int) * sz n ≤ 3 * sz n := Int.mul_le_mul_of_nonneg_right (by omega) (sz_pos n)
  have h3 : depL ys ≤ 2 * n + 2 := depL_le.mpr fun y hy => (h y hy).2
  refine ⟨⟨⟨?_, ?_⟩, ?_⟩, ?_⟩
  · simp [built, builtT, builtL_iff]
    exact ⟨by omega, fun y hy => (h y hy).1.1.1⟩
  · simp [size, sizeT, sz]; omega
  · simp [gd, gdL]
    exact gdL_iff.mpr fun y hy => (h y hy).1.2
  · simp [dep, depL]; omega
theorem vOk_pair {n : Nat} {x y : D} (h1 : vOk n x = true) (h2 : vOk n y = true) : vOk (n + 1) (.tup [.str [112, 97, 105, 114], x, y]) = true := by
  simp only [vOk, Bool.and_eq_true, decide_eq_true_eq] at h1 h2
  simp only [vOk, Bool.and_eq_true, decide_eq_true_eq]
  have := sz_pos n
  refine ⟨⟨⟨?_, ?_⟩, ?_⟩, ?_⟩
  · simp [built, h1.1.1.1, h2.1.1.1]
  · simp [size, sz]; omega
  · simp [gd, gdL, h1.1.2, h2.1.2]
  · simp [dep, depL]; omega
/-- a comprehension without a test -/
theorem wp_lcGo {P : D → Prop} {I : Store → Prop} {f c : Rho → Store → Res D} {ρ : Rho} {t : MT} : ∀ {xs acc : List D} {S : Store}, (∀ x ∈ xs, ∀ S, I S → ∃ ρ1, setT ρ t x = some ρ1 ∧ c ρ1 S = .ok (.bl true) S ∧ Wp (f ρ1 S) fun d S' => I S' ∧ P d) → I S → (∀ y ∈ acc, P y) →
    Wp (lcGo f c ρ t xs acc S) fun ys S' => I S' ∧ (∀ y ∈ ys, P y) ∧ ys.length = acc.length + xs.length
  | [], acc, S, _, hS, ha => ⟨hS, ha, rfl⟩
  | x :: xs, acc, S, h, hS, ha => by
    obtain ⟨ρ1, e1, e2, w⟩ := h x (List.mem_cons_self ..) S hS
    obtain ⟨d, S1, e3, hS1, hd⟩ := w.ok_of
    unfold lcGo
    simp only [e1, e2, Res.bind_ok, t_bl, e3]
    refine (wp_lcGo (fun y hy => h y (List.mem_cons_of_mem _ hy)) hS1 ?_).mono fun ys S' q => ⟨q.1, q.2.1, ?_⟩
    · intro y hy
      rcases List.mem_append.mp hy with hy | hy
      · exact ha y hy
      · rw [List.mem_singleton.mp hy]; exact hd
    · rw [q.2.2]; simp; omega
theorem rngD_len (lo : Int) : ∀ n : Nat, (rngD lo n).length = n
  | 0 => rfl
  | n + 1 => by simp [rngD, rngD_len (lo + 1) n]
theorem p29 : evBin .pow (.int 2) (.int 29) = some (.int 536870912) := by simp [evBin]
theorem p18 : evBin .pow (.int 10) (.int 18) = some (.int 1000000000000000000) := by simp [evBin]
end Ev

set_option Elab.async false
set_option linter.all false
set_option maxRecDepth 100000
set_option maxHeartbeats 4000000
namespace Ev
/-- a suite, in two parts -/
theorem exs_app {call : Nat → List D → Store → Res D} (b : List MS) : ∀ (a : List MS) (ρ : Rho) (S : Store), exs call (a ++ b) ρ S = (exs call a ρ S).bind fun o S1 => match o with
    | .nx ρ1 => exs call b ρ1 S1
    | .ret d => .ok (.ret d) S1
    | .brk ρ1 => .ok (.brk ρ1) S1
    | .ct ρ1 => .ok (.ct ρ1) S1
  | [], ρ, S => by simp only [List.nil_append, exs, Res.bind_ok]
  | s :: ss, ρ, S => by
    simp only [List.cons_append, exs]
    cases ex call s ρ S with
    | stuck => rfl
    | exc x S1 => rfl
    | ok o S1 =>
      simp only [Res.bind_ok]
      cases o with
      | nx ρ1 => exact exs_app b ss ρ1 S1
      | ret d => rfl
      | brk ρ1 => rfl
      | ct ρ1 => rfl
theorem exs_at {call : Nat → List D → Store → Res D} (n : Nat) (m : List MS) (ρ : Rho) (S : Store) : exs call m ρ S = (exs call (m.take n) ρ S).bind fun o S1 => match o with
    | .nx ρ1 => exs call (m.drop n) ρ1 S1
    | .ret d => .ok (.ret d) S1
    | .brk ρ1 => .ok (.brk ρ1) S1
    | .ct ρ1 => .ok (.ct ρ1) S1 := by
  rw [← exs_app, List.take_append_drop]
theorem atI_get {α : Type} {xs : List α} {j : Nat} {x : α} (h : xs[j]? = some x) : atI xs j = some x := by
  have hj : j < xs.length := (List.getElem?_eq_some_iff.mp h).1
  unfold atI ixN
  rw [if_pos (by omega), if_pos (by omega)]
  simpa using h
theorem atI0 {α : Type} (x : α) (xs : List α) : atI (x :: xs) 0 = some x := atI_get (j := 0) rfl
theorem atI1 {α : Type} (x y : α) (xs : List α) : atI (x :: y :: xs) 1 = some y := atI_get (j := 1) rfl
theorem atI2 {α : Type} (x y z : α) (xs : List α) : atI (x :: y :: z :: xs) 2 = some z := atI_get (j := 2) rfl
theorem atI3 {α : Type} (x y z u : α) (xs : List α) : atI (x :: y :: z :: u :: xs) 3 = some u := atI_get (j := 3) rfl
theorem c_inS (c : Nat) (z : List Nat) : evCmp .in_ (.str [c]) (.str z) = some (decide (c ∈ z)) := rfl
theorem c_ninS (c : Nat) (z : List Nat) : evCmp .nin (.str [c]) (.str z) = some (!decide (c ∈ z)) := rfl
theorem c_inT (s : List Nat) (xs : List D) (h : areData xs = true) : evCmp .in_ (.str s) (.tup xs) = some (eqAny (.str s) xs) := by
  show inOk (.str s) (.tup xs) = _
  have : inOk (.str s) (.tup xs) = if isData (.str s) && areData xs && decide (min (depL xs) (dep (.str s)) ≤ deepest) then some (eqAny (.str s) xs) else none := by
    cases s with
    | nil => rfl
    | cons c s => cases s <;> rfl
  rw [this, h]
  simp [isData, dep]
theorem c_inL (s : List Nat) (xs : List D) (h : areData xs = true) : evCmp .in_ (.str s) (.lst xs) = some (eqAny (.str s) xs) := by
  show inOk (.str s) (.lst xs) = _
  have : inOk (.str s) (.lst xs) = if isData (.str s) && areData xs && decide (min (depL xs) (dep (.str s)) ≤ deepest) then some (eqAny (.str s) xs) else none := by
    cases s with
    | nil => rfl
    | cons c s => cases s <;> rfl
  rw [this, h]
  simp [isData, dep]
theorem sl1S (c : Nat) (s : List Nat) (h : s.length < line) : evSl (.str (c :: s)) (.int 1) .non = some (.str s) := by
  have e : cut (c :: s) (some 1) none = s := by
    simp [cut, sIx]
  show (if (c :: s).length ≤ line then some (D.str (cut (c :: s) (some 1) none)) else none) = _
  rw [if_pos (by simp; omega), e]
theorem sl1T (x : D) (xs : List D) : evSl (.tup (x :: xs)) (.int 1) .non = some (.tup xs) := by
  have e : cut (x :: xs) (some 1) none = xs := by
    simp [cut, sIx]
  show some (D.tup (cut (x :: xs) (some 1) none)) = _
  rw [e]
theorem lcGo_map {f c : Rho → Store → Res D} {ρ : Rho} {t : MT} {S : Store} {g : D → D} : ∀ {xs acc : List D}, (∀ x ∈ xs, ∃ ρ1, setT ρ t x = some ρ1 ∧ c ρ1 S = .ok (.bl true) S ∧ f ρ1 S = .ok (g x) S) → lcGo f c ρ t xs acc S = .ok (acc ++ xs.map g) S
  | [], acc, _ => by simp [lcGo]
  | x :: xs, acc, h => by
    obtain ⟨ρ1, e1, e2, e3⟩ := h x (List.mem_cons_self ..)
    unfold lcGo
    simp only [e1, e2, Res.bind_ok, t_bl, e3]
    rw [lcGo_map fun y hy => h y (List.mem_cons_of_mem _ hy)]
    simp
theorem lcGo_fil {f c : Rho → Store → Res D} {ρ : Rho} {t : MT} {S : Store} {g : D → D} {p : D → Bool} : ∀ {xs acc : List D}, (∀ x ∈ xs, ∃ ρ1, setT ρ t x = some ρ1 ∧ c ρ1 S = .ok (.bl (p x)) S ∧ f ρ1 S = .ok (g x) S) → lcGo f c ρ t xs acc S = .ok (acc ++ (xs.filter p).map g) S
  | [], acc, _ => by simp [lcGo]
  | x :: xs, acc, h => by
    obtain ⟨ρ1, e1, e2, e3⟩ := h x (List.mem_cons_self ..)
    unfold lcGo
    simp only [e1, e2, Res.bind_ok, t_bl]
    cases q : p x with
    | true =>
      simp only [e3, Res.bind_ok]
      rw [lcGo_fil fun y hy => h y (List.mem_cons_of_mem _ hy)]
      simp [q]
    | false =>
      dsimp only
      rw [lcGo_fil fun y hy => h y (List.mem_cons_of_mem _ hy)]
      simp [q]
theorem boolsOf_map {α : Type} (f : α → Bool) : ∀ xs : List α, boolsOf (xs.map fun x => D.bl (f x)) = some (xs.map f)
  | [] => rfl
  | x :: xs => by simp [boolsOf, boolsOf_map f xs]
theorem intsOf_map {α : Type} (f : α → Int) : ∀ xs : List α, intsOf (xs.map fun x => D.int (f x)) = some (xs.map f)
  | [] => rfl
  | x :: xs => by simp [intsOf, intsOf_map f xs]
theorem Wp.eq {α : Type} {r : Res α} {a : α} {S : Store} (h : Wp r fun b S' => b = a ∧ S' = S) : r = .ok a S := by
  obtain ⟨b, S', e, rfl, rfl⟩ := h.ok_of
  exact e
theorem wp_eq {α : Type} {r : Res α} {a : α} {S : Store} (h : r = .ok a S) (Q : α → Store → Prop) : Wp r Q = Q a S := by rw [h]; rfl
def isTup (d : D) (lo hi : Int) : Bool := match d with
  | .tup xs => decide (lo ≤ xs.length) && decide ((xs.length : Int) ≤ hi)
  | _ => false
def isHd (d : D) (lo hi : Int) : Bool := match d with
  | .tup (.str s :: r) => decide (lo ≤ r.length + 1) && decide ((r.length + 1 : Int) ≤ hi)
  | _ => false
theorem c_eqNil (xs : List D) (h : areData xs = true) : evCmp .eq (.lst xs) (.lst []) = some xs.isEmpty := by
  show (if eqOk (.lst xs) (.lst []) = true then some (eqD (.lst xs) (.lst [])) else none) = _
  have e0 : min (dep (.lst xs)) (dep (.lst [])) ≤ deepest := Nat.le_trans (Nat.min_le_right _ _) (by decide)
  have e : eqOk (.lst xs) (.lst []) = true := by
    unfold eqOk
    rw [decide_eq_true e0]
    simp [isData, h, areData]
  rw [if_pos e]
  cases xs <;> rfl
theorem c_eqTup0 (xs : List D) (h : areData xs = true) : evCmp .eq (.tup xs) (.tup []) = some xs.isEmpty := by
  show (if eqOk (.tup xs) (.tup []) = true then some (eqD (.tup xs) (.tup [])) else none) = _
  have e0 : min (dep (.tup xs)) (dep (.tup [])) ≤ deepest := Nat.le_trans (Nat.min_le_right _ _) (by decide)
  have e : eqOk (.tup xs) (.tup []) = true := by
    unfold eqOk
    rw [decide_eq_true e0]
    simp [isData, h, areData]
  rw [if_pos e]
  cases xs <;> rfl
theorem fil_emp (s sg : List Nat) : ([] ++ ((s.map fun c => D.str [c]).filter fun (d : D) => match d with
    | .str [c] => !decide (c ∈ sg)
    | _ => false).map fun d => d).isEmpty = s.all fun x => decide (x ∈ sg) := by
  rw [Bool.eq_iff_iff]
  simp [List.filter_eq_nil_iff]
mutual
theorem size_pos : ∀ d : D, 0 ≤ size d
  | .tup [.str s, .tup ys] => by
    simp only [size, sizeT]
    split
    · have := sizeL_pos ys; omega
    · omega
  | .tup [.str s, x, y] => by
    simp only [size]
    split
    · have := size_pos x; have := size_pos y; omega
    · omega
  | .non => by simp [size]
  | .bl _ => by simp [size]
  | .int _ => by simp [size]
  | .str _ => by simp [size]
  | .lst _ => by simp [size]
  | .dic _ _ => by simp [size]
  | .ref _ => by simp [size]
  | .fro _ => by simp [size]
  | .tup [] => by simp [size]
  | .tup [_] => by simp [size]
  | .tup (.non :: _) => by simp [size]
  | .tup (.bl _ :: _) => by simp [size]
  | .tup (.int _ :: _) => by simp [size]
  | .tup (.tup _ :: _) => by simp [size]
  | .tup (.lst _ :: _) => by simp [size]
  | .tup (.dic _ _ :: _) => by simp [size]
  | .tup (.ref _ :: _) => by simp [size]
  | .tup (.fro _ :: _) => by simp [size]
  | .tup (.str _ :: _ :: _ :: _ :: _) => by simp [size]
  | .tup [.str _, .non] => by simp [size, sizeT]
  | .tup [.str _, .bl _] => by simp [size, sizeT]
  | .tup [.str _, .int _] => by simp [size, sizeT]
  | .tup [.str _, .str _] => by simp [size, sizeT]
  | .tup [.str _, .lst _] => by simp [size, sizeT]
  | .tup [.str _, .dic _ _] => by simp [size, sizeT]
  | .tup [.str _, .ref _] => by simp [size, sizeT]
  | .tup [.str _, .fro _] => by simp [size, sizeT]
theorem sizeL_pos : ∀ ds : List D, 0 ≤ sizeL ds
  | [] => by simp [sizeL]
  | x :: xs => by
    simp only [sizeL]
    have := size_pos x; have := sizeL_pos xs; omega
end
/-- what is left of many behind the parts -/
def lo : List D → Int → Int
  | [], m => m
  | y :: ys, m => lo ys (if 0 ≤ m then (if built y = true ∧ size y ≤ m then m - size y else -1) else -1)
theorem lo_neg : ∀ (ys : List D) (m : Int), m < 0 → ys ≠ [] → lo ys m = -1
  | [], _, _, h => absurd rfl h
  | y :: ys, m, hm, _ => by
    unfold lo
    rw [if_neg (by omega)]
    cases ys with
    | nil => rfl
    | cons z zs => exact lo_neg _ _ (by omega) (by simp)
theorem lo_pos : ∀ (ys : List D) (m : Int), 0 ≤ m → lo ys m = if builtL ys = true ∧ sizeL ys ≤ m then m - sizeL ys else -1
  | [], m, h => by simp [lo, builtL, sizeL, h]
  | y :: ys, m, h => by
    unfold lo
    rw [if_pos h]
    have hy := size_pos y
    have hs := sizeL_pos ys
    by_cases q : built y = true ∧ size y ≤ m
    · rw [if_pos q, lo_pos ys _ (by omega)]
      simp only [builtL, sizeL, q.1, Bool.true_and]
      by_cases q2 : builtL ys = true
      · by_cases q3 : sizeL ys ≤ m - size y
        · rw [if_pos ⟨q2, q3⟩, if_pos ⟨q2, by omega⟩]; omega
        · rw [if_neg (fun z => q3 z.2), if_neg (fun z => q3 (by omega))]
      · rw [if_neg (fun z => q2 z.1), if_neg (fun z => q2 z.1)]
    · rw [if_neg q]
      have r1 : lo ys (-1) = -1 := by
        cases ys with
        | nil => rfl
        | cons z zs => exact lo_neg _ _ (by omega) (by simp)
      rw [r1, if_neg]
      simp only [builtL, sizeL, Bool.and_eq_true]
      rintro ⟨⟨q1, _⟩, q2⟩
      exact q ⟨q1, by omega⟩
theorem built_hd {d : D} (h : isHd d 1 3 = false) : built d = false := by
  unfold isHd at h
  split at h
  · rename_i s r
    match r with
    | [] => simp at h
    | [x] => simp at h
    | [x, y] => simp at h
    | x :: y :: z :: r => rfl
  · rename_i hne
    cases d <;> try rfl
    rename_i xs
    match xs with
    | [] => rfl
    | x :: r =>
      cases x <;> first | rfl | exact absurd rfl (hne _ _)
theorem dep_tup {x : D} {xs : List D} (h : x ∈ xs) : dep x < dep (.tup xs) := by
  have := (depL_le (n := depL xs)).mp (Nat.le_refl _) x h
  simp only [dep]; omega
theorem lo_tup {ys : List D} (hl : ys.length ≤ 6) {m : Int} (hm : 0 ≤ m) : lo ys (m - (1 + ys.length)) = if (ys.length ≤ 6 ∧ builtL ys = true) ∧ 1 + ↑ys.length + sizeL ys ≤ m then m - (1 + ↑ys.length + sizeL ys) else -1 := by
  have hs := sizeL_pos ys
  by_cases h : 0 ≤ m - (1 + ys.length)
  · rw [lo_pos _ _ h]
    by_cases q : builtL ys = true ∧ sizeL ys ≤ m - (1 + ys.length)
    · rw [if_pos q, if_pos ⟨⟨hl, q.1⟩, by omega⟩]; omega
    · rw [if_neg q, if_neg]
      rintro ⟨⟨_, q1⟩, q2⟩
      exact q ⟨q1, by omega⟩
  · rw [if_neg (fun z => h (by omega))]
    cases ys with
    | nil => simp [lo] at h ⊢; omega
    | cons y ys => exact lo_neg _ _ (by omega) (by simp)
theorem lo_pair {x y : D} {m : Int} (hm : 0 ≤ m) : lo [x, y] (m - 2) = if (built x = true ∧ built y = true) ∧ 2 + size x + size y ≤ m then m - (2 + size x + size y) else -1 := by
  have hx := size_pos x
  have hy := size_pos y
  by_cases h : 0 ≤ m - 2
  · rw [lo_pos _ _ h]
    simp only [builtL, sizeL, Bool.and_true, Bool.and_eq_true]
    by_cases q : (built x = true ∧ built y = true) ∧ size x + (size y + 0) ≤ m - 2
    · rw [if_pos q, if_pos ⟨q.1, by omega⟩]; omega
    · rw [if_neg q, if_neg]
      rintro ⟨q1, q2⟩
      exact q ⟨q1, by omega⟩
  · rw [if_neg (fun z => h (by omega))]
    exact lo_neg _ _ (by omega) (by simp)
def fits (d : D) : Bool := built d && decide (size d ≤ 120)
def are (d : D) : Bool := match d with
  | .tup xs => decide (xs.length ≤ 6) && xs.all fits
  | _ => false
theorem dget_s (z l : List Nat) (ls : List Kk) (v : D) (vs : List D) : dget (.s z) (.s l :: ls) (v :: vs) = if z = l then some v else dget (.s z) ls vs := by
  show (if Kk.s l = Kk.s z then some v else dget (.s z) ls vs) = _
  by_cases h : z = l
  · rw [if_pos (by rw [h]), if_pos h]
  · rw [if_neg (fun e => h (by cases e; rfl)), if_neg h]
theorem dget_n (z : Kk) : dget z [] [] = none := rfl
theorem getD_ite (c : Prop) [Decidable c] (v : D) (o : Option D) (d : D) : (if c then some v else o).getD d = if c then v else o.getD d := by split <;> rfl
theorem mt_get2 (ks : List Kk) (vs : List D) (s : List Nat) (d : D) (S : Store) : evMt .get (.dic ks vs) [.str s, d] S = .ok ((dget (.s s) ks vs).getD d) S := rfl
theorem rcv_get (ks : List Kk) (vs : List D) (S : Store) : rcv .get (.dic ks vs) S = true := rfl
theorem ite_int (c : Prop) [Decidable c] (a b : Int) : (if c then D.int a else D.int b) = .int (if c then a else b) := by split <;> rfl
theorem areData_fil {xs : List D} {p : D → Bool} (h : gdL xs = true) : areData ([] ++ (xs.filter p).map fun d => d) = true := by
  have : ∀ ys : List D, (∀ y ∈ ys, isData y = true) → areData ys = true := by
    intro ys
    induction ys with
    | nil => intro _; rfl
    | cons y ys ih => intro h; simp [areData, h y (List.mem_cons_self ..), ih fun z hz => h z (List.mem_cons_of_mem _ hz)]
  apply this
  intro y hy
  simp at hy
  exact gd_data y (gdL_iff.mp h y hy.1)
theorem fil_all (xs : List D) (p : D → Bool) : ([] ++ (xs.filter fun d => !p d).map fun d => d).isEmpty = xs.all p := by
  rw [Bool.eq_iff_iff]
  simp [List.filter_eq_nil_iff]
theorem builtL_all (xs : List D) : builtL xs = xs.all built := by
  rw [Bool.eq_iff_iff, builtL_iff]; simp
theorem bi_sum2 {α : Type} (xs : List α) (f : α → Int) (S : Store) : evBi .sum [.lst (xs.map fun x => .int (f x))] S = some (.int (xs.map f).sum) := by
  rw [bi_sum, intsOf_map]; rfl
theorem sizeL_sum (xs : List D) : sizeL xs = (xs.map size).sum := by
  induction xs with
  | nil => rfl
  | cons x xs ih => simp [sizeL, ih]
/-- the shapes of values -/
theorem built_shape {d : D} (h : built d = true) : (∃ ys, d = .tup [.str [116, 117, 112, 108, 101], .tup ys] ∧ ys.length ≤ 6 ∧ ∀ y ∈ ys, built y = true) ∨ (∃ x y, d = .tup [.str [112, 97, 105, 114], x, y] ∧ built x = true ∧ built y = true) ∨
    (∃ s r, d = .tup (.str s :: r) ∧ ¬ s = [116, 117, 112, 108, 101] ∧ ¬ s = [112, 97, 105, 114] ∧ size d = 0) := by
  unfold built at h
  split at h
  · rename_i s
    have : s = [110, 105, 108] := by simpa using h
    subst this
    exact .inr (.inr ⟨_, _, rfl, by decide, by decide, by simp [size]⟩)
  · rename_i s x
    by_cases ht : s = [116, 117, 112, 108, 101]
    · subst ht
      simp at h
      cases x <;> first | (cases h; done) | skip
      rename_i ys
      simp [builtT] at h
      exact .inl ⟨ys, rfl, h.1, builtL_iff.mp h.2⟩
    · by_cases hp : s = [112, 97, 105, 114]
      · subst hp; simp at h
      · exact .inr (.inr ⟨s, [x], rfl, ht, hp, by simp [size, ht]⟩)
  · rename_i s x y
    simp at h
    obtain ⟨⟨rfl, h1⟩, h2⟩ := h
    exact .inr (.inl ⟨x, y, rfl, h1, h2⟩)
  · cases h
theorem inL_data (d : D) (xs : List D) (hd : gd d = true) (hx : areData xs = true) (h : depL xs ≤ 120) : evCmp .in_ d (.lst xs) = some (eqAny d xs) := by
  have e : (isData d && areData xs && decide (min (depL xs) (dep d) ≤ deepest)) = true := by
    rw [gd_data d hd, hx]
    simp
    exact Nat.le_trans (Nat.min_le_left _ _) h
  show inOk d (.lst xs) = _
  have : inOk d (.lst xs) = if (isData d && areData xs && decide (min (depL xs) (dep d) ≤ deepest)) = true then some (eqAny d xs) else none := by
    cases d <;> try rfl
    rename_i s
    cases s with
    | nil => rfl
    | cons c s => cases s <;> rfl
  rw [this, if_pos e]
theorem eqD_tt (a b : List D) : eqD (.tup a) (.tup b) = eqL a b := rfl
theorem eqL_cc (a b : D) (as bs : List D) : eqL (a :: as) (b :: bs) = (eqD a b && eqL as bs) := rfl
theorem eqL_nn : eqL [] [] = true := rfl
theorem eqL_nc (b : D) (bs : List D) : eqL [] (b :: bs) = false := rfl
theorem eqL_cn (b : D) (bs : List D) : eqL (b :: bs) [] = false := rfl
theorem eqD_s1 (s : List Nat) : eqD (.str s) .non = false := rfl
theorem eqD_s2 (s : List Nat) (b : Bool) : eqD (.str s) (.bl b) = false := rfl
theorem eqD_s3 (s : List Nat) (b : Int) : eqD (.str s) (.int b) = false := rfl
theorem eqD_s4 (s : List Nat) (b : List D) : eqD (.str s) (.tup b) = false := rfl
theorem eqD_s5 (s : List Nat) (b : List D) : eqD (.str s) (.lst b) = false := rfl
theorem eqD_t1 (s : List D) : eqD (.tup s) .non = false := rfl
theorem eqD_t2 (s : List D) (b : Bool) : eqD (.tup s) (.bl b) = false := rfl
theorem eqD_t3 (s : List D) (b : Int) : eqD (.tup s) (.int b) = false := rfl
theorem eqD_t4 (s : List D) (b : List Nat) : eqD (.tup s) (.str b) = false := rfl
theorem eqD_t5 (s : List D) (b : List D) : eqD (.tup s) (.lst b) = false := rfl
mutual
def gl : D → Bool
  | .tup xs => decide (xs.length ≤ 1000) && glL xs
  | .lst xs => decide (xs.length ≤ 1000) && glL xs
  | _ => true
def glL : List D → Bool
  | [] => true
  | x :: xs => gl x && glL xs
end
theorem glL_iff : ∀ {xs : List D}, glL xs = true ↔ ∀ x ∈ xs, gl x = true
  | [] => by simp [glL]
  | x :: xs => by simp [glL, glL_iff]
theorem built_gl : ∀ (n : Nat) (d : D), dep d ≤ n → built d = true → gl d = true := by
  intro n
  induction n using Nat.strongRecOn with
  | _ n ih =>
    intro d hn h
    unfold built at h
    split at h
    · simp [gl, glL]
    · rename_i s x
      by_cases h1 : s = [110, 117, 109, 98, 101, 114]
      · subst h1; simp at h
        cases x <;> first | (simp [gl, glL]; done) | (simp [isWhole] at h; done)
      · by_cases h2 : s = [97, 116, 111, 109]
        · subst h2; simp at h
          cases x <;> first | (simp [gl, glL]; done) | (simp [isWord, isText] at h; done)
        · by_cases h3 : s = [112, 114, 111, 99, 101, 115, 115]
          · subst h3; simp at h
            cases x <;> first | (simp [gl, glL]; done) | (simp [isWhole] at h; done)
          · by_cases h4 : s = [116, 117, 112, 108, 101]
            · subst h4; simp at h
              cases x <;> first | (cases h; done) | skip
              rename_i ys
              simp [builtT] at h
              have hy := builtL_iff.mp h.2
              have : glL ys = true := glL_iff.mpr fun y hyy => ih (n - 1) (by simp only [dep, depL] at hn; omega) y (by have := dep_tup hyy; simp only [dep, depL] at this hn ⊢; omega) (hy y hyy)
              simp [gl, glL, this]; omega
            · simp [h1, h2, h3, h4] at h
    · rename_i s x y
      simp at h
      have hx := ih (n - 1) (by simp only [dep, depL] at hn; omega) x (by simp only [dep, depL] at hn; omega) h.1.2
      have hy := ih (n - 1) (by simp only [dep, depL] at hn; omega) y (by simp only [dep, depL] at hn; omega) h.2
      simp [gl, glL, hx, hy]
    · cases h
theorem slA (xs : List D) (i : Int) : evSl (.tup xs) .non (.int i) = some (.tup (cut xs none (some i))) := rfl
theorem slB (xs : List D) (i : Int) : evSl (.tup xs) (.int i) .non = some (.tup (cut xs (some i) none)) := rfl
theorem slC (xs : List D) (i j : Int) : evSl (.tup xs) (.int i) (.int j) = some (.tup (cut xs (some i) (some j))) := rfl
theorem cut_mem {xs : List D} {l h : Option Int} {y : D} (q : y ∈ cut xs l h) : y ∈ xs := List.mem_of_mem_drop (List.mem_of_mem_take q)
theorem cut_len (xs : List D) (l h : Option Int) : (cut xs l h).length ≤ xs.length := by
  unfold cut; simp; omega
theorem tup_ok {ys : List D} {m : Nat} (h : ∀ y ∈ ys, gd y = true ∧ dep y ≤ m) : gd (.tup ys) = true ∧ dep (.tup ys) ≤ m + 1 := by
  refine ⟨gdL_iff.mpr fun y hy => (h y hy).1, ?_⟩
  have := depL_le.mpr fun y hy => (h y hy).2
  simp only [dep]; omega
theorem wp_forGo {f : Rho → Store → Res Flo} {t : MT} {Q : Flo → Store → Prop} (I : Rho → Store → Prop) : ∀ {xs : List D} {ρ : Rho} {S : Store}, (∀ x ∈ xs, ∀ ρ S, I ρ S → ∃ ρ1, setT ρ t x = some ρ1 ∧ Wp (f ρ1 S) fun o S' => ∃ ρ2, o = .nx ρ2 ∧ I ρ2 S') → I ρ S → (∀ ρ S, I ρ S → Q (.nx ρ) S) → Wp (forGo f t xs ρ S) Q
  | [], ρ, S, _, hI, hQ => hQ ρ S hI
  | x :: xs, ρ, S, h, hI, hQ => by
    obtain ⟨ρ1, e1, w⟩ := h x (List.mem_cons_self ..) ρ S hI
    obtain ⟨o, S1, e2, ρ2, rfl, hI2⟩ := w.ok_of
    unfold forGo
    simp only [e1, e2, Res.bind_ok]
    exact wp_forGo I (fun y hy => h y (List.mem_cons_of_mem _ hy)) hI2 hQ
theorem c_isntB (a b : Bool) : evCmp .isnt (.bl a) (.bl b) = some (!(a == b)) := rfl
theorem odd_c : ∀ x ∈ ([.non, .tup [], .int 0, .int 8, .int (-1), .int 536870912, .bl true, .bl false, .str [], .str [104, 105], .str [72, 105], .str [97, 98, 99, 100, 101, 102, 103, 104, 105], .tup [.str [110, 105, 108]], .tup [.str [110, 117, 109, 98, 101, 114], .int 3], .tup [.str [110, 97, 109, 101], .str [81]], .tup [.str [115, 101, 108, 102]], .tup [.str [97, 110, 121]], .lst [.int 0],
    .tup [.str [116, 117, 112, 108, 101], .tup []], .tup [.str [112, 97, 105, 114], .tup [.str [110, 105, 108]], .tup [.str [110, 105, 108]]], .tup [.str [100, 111], .tup [.str [110, 105, 108]]], .tup [.str [99, 97, 108, 108], .str [114, 117, 110], .tup []], .tup [.str [97, 115, 107], .str [110, 111, 119], .tup []]] : List D), gd x = true ∧ dep x ≤ 2 := by decide +kernel
end Ev

set_option Elab.async false
set_option linter.all false
set_option maxRecDepth 100000
set_option maxHeartbeats 4000000
/-! words of heaps, as data -/
namespace Ev
/-- the words that stand for themselves -/
def plainB (w : D) : Bool := match w with
  | .tup [.str s] => decide (s = [110, 105, 108])
  | .tup [.str s, .int i] => (decide (s = [110, 117, 109, 98, 101, 114]) && decide (-536870912 ≤ i) && decide (i ≤ 536870911)) || (decide (s = [112, 114, 111, 99, 101, 115, 115]) && decide (0 ≤ i) && decide (i ≤ 7))
  | .tup [.str s, .str z] => decide (s = [97, 116, 111, 109]) && isWord (.str z) && decide (z.length ≤ 1000)
  | _ => false
inductive RdL (P : D → D → Int → Prop) : List D → List D → Int → Prop
  | nil : RdL P [] [] 0
  | cons {w v : D} {e f : Int} {ws vs : List D} (h : P w v e) (t : RdL P ws vs f) : RdL P (w :: ws) (v :: vs) (e + f)
/-- the word w in the cells c stands for v, its extent is e; no place below lo is looked at; n bounds the depth -/
def Rd (c : List D) (lo : Nat) : Nat → D → D → Int → Prop
  | 0, w, v, e => plainB w = true ∧ v = w ∧ e = 0
  | n + 1, w, v, e => (plainB w = true ∧ v = w ∧ e = 0) ∨
      (∃ (p : Nat) (ws us : List D) (f : Int), lo ≤ p ∧ w = .tup [.str [112, 97, 105, 114], .int p] ∧ ws.length = 2 ∧ (c.drop p).take 2 = ws ∧ RdL (Rd c lo n) ws us f ∧ v = .tup (.str [112, 97, 105, 114] :: us) ∧ e = 2 + f) ∨
      (∃ (p : Nat) (ws us : List D) (f : Int), lo ≤ p ∧ w = .tup [.str [116, 117, 112, 108, 101], .int p] ∧ ws.length ≤ 6 ∧ c[p]? = some (.tup [.str [99, 111, 117, 110, 116], .int ws.length]) ∧ (c.drop (p + 1)).take ws.length = ws ∧ RdL (Rd c lo n) ws us f ∧ v = .tup [.str [116, 117, 112, 108, 101], .tup us] ∧ e = 1 + ws.length + f)
section
variable {P P' : D → D → Int → Prop} {ws vs : List D} {e : Int}
theorem RdL.len (h : RdL P ws vs e) : vs.length = ws.length := by
  induction h with
  | nil => rfl
  | cons h t ih => simp [ih]
theorem RdL.imp (h : RdL P ws vs e) (f : ∀ w v e, w ∈ ws → P w v e → P' w v e) : RdL P' ws vs e := by
  induction h with
  | nil => exact .nil
  | cons h t ih => exact .cons (f _ _ _ (List.mem_cons_self ..) h) (ih fun w v e m => f w v e (List.mem_cons_of_mem _ m))
theorem RdL.mem (h : RdL P ws vs e) {w : D} (m : w ∈ ws) : ∃ v e, P w v e := by
  induction h with
  | nil => cases m
  | cons h t ih =>
    rcases List.mem_cons.mp m with rfl | m
    · exact ⟨_, _, h⟩
    · exact ih m
theorem RdL.memV (h : RdL P ws vs e) {v : D} (m : v ∈ vs) : ∃ w e, w ∈ ws ∧ P w v e := by
  induction h with
  | nil => cases m
  | cons h t ih =>
    rcases List.mem_cons.mp m with rfl | m
    · exact ⟨_, _, List.mem_cons_self .., h⟩
    · obtain ⟨w, e, a, b⟩ := ih m
      exact ⟨w, e, List.mem_cons_of_mem _ a, b⟩
theorem RdL.pos (h : RdL P ws vs e) (f : ∀ w v e, P w v e → 0 ≤ e) : 0 ≤ e := by
  induction h with
  | nil => decide
  | cons h t ih => have := f _ _ _ h; omega
end
section
variable {c : List D} {lo : Nat}
theorem Rd.pl {w : D} (h : plainB w = true) : ∀ n, Rd c lo n w w 0
  | 0 => ⟨h, rfl, rfl⟩
  | n + 1 => .inl ⟨h, rfl, rfl⟩
theorem Rd.pos : ∀ {n : Nat} {w v : D} {e : Int}, Rd c lo n w v e → 0 ≤ e
  | 0, _, _, _, h => by rw [h.2.2]; decide
  | n + 1, _, _, _, h => by
    rcases h with h | ⟨p, ws, us, f, _, _, _, _, h, _, rfl⟩ | ⟨p, ws, us, f, _, _, _, _, _, h, _, rfl⟩
    · rw [h.2.2]; decide
    · have := h.pos fun w v e q => Rd.pos q; omega
    · have := h.pos fun w v e q => Rd.pos q; omega
theorem Rd.up : ∀ {n : Nat} {w v : D} {e : Int}, Rd c lo n w v e → Rd c lo (n + 1) w v e
  | 0, _, _, _, h => .inl h
  | n + 1, _, _, _, h => by
    rcases h with h | ⟨p, ws, us, f, h1, h2, h3, h4, h, h5, h6⟩ | ⟨p, ws, us, f, h1, h2, h3, h4, h5, h, h6, h7⟩
    · exact .inl h
    · exact .inr (.inl ⟨p, ws, us, f, h1, h2, h3, h4, h.imp fun w v e _ q => Rd.up q, h5, h6⟩)
    · exact .inr (.inr ⟨p, ws, us, f, h1, h2, h3, h4, h5, h.imp fun w v e _ q => Rd.up q, h6, h7⟩)
theorem Rd.mono {n m : Nat} (hm : n ≤ m) {w v : D} {e : Int} (h : Rd c lo n w v e) : Rd c lo m w v e := by
  induction hm with
  | refl => exact h
  | step _ ih => exact ih.up
/-- what is looked at is there as well -/
theorem Rd.grow {c' : List D} {lo' : Nat} (hl : lo' ≤ lo) (hc : ∀ i x, lo ≤ i → c[i]? = some x → c'[i]? = some x) : ∀ {n : Nat} {w v : D} {e : Int}, Rd c lo n w v e → Rd c' lo' n w v e
  | 0, _, _, _, h => h
  | n + 1, _, _, _, h => by
    have cut : ∀ (q m : Nat) (ws : List D), lo ≤ q → ws.length = m → (c.drop q).take m = ws → (c'.drop q).take m = ws := by
      intro q m ws hq hm e
      apply List.ext_getElem?
      intro i
      by_cases hi : i < m
      · obtain ⟨y, hy⟩ : ∃ y, ws[i]? = some y := ⟨_, List.getElem?_eq_getElem (by omega)⟩
        have hw : (List.take m (List.drop q c))[i]? = some y := by rw [e]; exact hy
        rw [List.getElem?_take_of_lt hi, List.getElem?_drop] at hw
        rw [List.getElem?_take_of_lt hi, List.getElem?_drop, hc _ _ (by omega) hw, hy]
      · rw [List.getElem?_eq_none (by rw [List.length_take]; omega), List.getElem?_eq_none (by omega)]
    rcases h with h | ⟨p, ws, us, f, h1, h2, h3, h4, h, h5, h6⟩ | ⟨p, ws, us, f, h1, h2, h3, h4, h5, h, h6, h7⟩
    · exact .inl h
    · exact .inr (.inl ⟨p, ws, us, f, by omega, h2, h3, cut p 2 ws h1 h3 h4, h.imp fun w v e _ q => Rd.grow hl hc q, h5, h6⟩)
    · exact .inr (.inr ⟨p, ws, us, f, by omega, h2, h3, hc p _ h1 h4, cut (p + 1) _ ws (by omega) rfl h5, h.imp fun w v e _ q => Rd.grow hl hc q, h6, h7⟩)
theorem Rd.app {n : Nat} {w v : D} {e : Int} (more : List D) (h : Rd c lo n w v e) : Rd (c ++ more) lo n w v e :=
  h.grow (Nat.le_refl _) fun i x _ hx => by
    rw [List.getElem?_append_left (List.getElem?_eq_some_iff.mp hx).1]; exact hx
/-- the places that are looked at are there -/
theorem slice_len {q m : Nat} {ws : List D} (hl : ws.length = m) (h : (c.drop q).take m = ws) (hm : 0 < m) : q + m ≤ c.length := by
  have := congrArg List.length h
  rw [List.length_take, List.length_drop, hl] at this
  omega
theorem cut_nat (xs : List D) (p m : Nat) (h : p + m ≤ xs.length) : cut xs (some (p : Int)) (some ((p : Int) + m)) = (xs.drop p).take m := by
  unfold cut sIx
  have e1 : ¬ ((p : Int) < 0) := by omega
  have e2 : ¬ ((p : Int) + m < 0) := by omega
  simp only [e1, e2, if_false]
  have e3 : min ((p : Int).toNat) xs.length = p := by omega
  have e4 : min (((p : Int) + m).toNat) xs.length = p + m := by omega
  rw [e3, e4]
  congr 1
  omega
theorem plain_cases {w : D} (h : plainB w = true) : w = .tup [.str [110, 105, 108]] ∨ (∃ i, w = .tup [.str [110, 117, 109, 98, 101, 114], .int i] ∧ -536870912 ≤ i ∧ i ≤ 536870911) ∨ (∃ z, w = .tup [.str [97, 116, 111, 109], .str z] ∧ isWord (.str z) = true ∧ z.length ≤ 1000) ∨ (∃ i, w = .tup [.str [112, 114, 111, 99, 101, 115, 115], .int i] ∧ 0 ≤ i ∧ i ≤ 7) := by
  unfold plainB at h
  split at h
  · simp at h; subst h; exact .inl rfl
  · simp at h
    rcases h with ⟨⟨rfl, a⟩, b⟩ | ⟨⟨rfl, a⟩, b⟩
    · exact .inr (.inl ⟨_, rfl, a, b⟩)
    · exact .inr (.inr (.inr ⟨_, rfl, a, b⟩))
  · simp at h
    obtain ⟨⟨rfl, a⟩, b⟩ := h
    exact .inr (.inr (.inl ⟨_, rfl, a, b⟩))
  · cases h
theorem plain_built {w : D} (h : plainB w = true) : built w = true ∧ size w = 0 ∧ gd w = true ∧ dep w ≤ 1 := by
  rcases plain_cases h with rfl | ⟨i, rfl, a, b⟩ | ⟨z, rfl, a, b⟩ | ⟨i, rfl, a, b⟩
  · decide
  · simp [built, isWhole, a, b, size, sizeT, gd, gdL, dep, depL]
  · simp [built, a, size, sizeT, gd, gdL, dep, depL, b]
  · simp [built, isWhole, a, b, size, sizeT, gd, gdL, dep, depL]
theorem RdL.val {P : D → D → Int → Prop} {ws vs : List D} {e : Int} (h : RdL P ws vs e) (f : ∀ w v e, P w v e → built v = true ∧ size v = e) : builtL vs = true ∧ sizeL vs = e := by
  induction h with
  | nil => exact ⟨rfl, rfl⟩
  | cons h t ih =>
    have := f _ _ _ h
    simp [builtL, sizeL, this.1, this.2, ih.1, ih.2]
/-- what is read is a value -/
theorem Rd.val : ∀ {n : Nat} {w v : D} {e : Int}, Rd c lo n w v e → (built v = true ∧ size v = e) ∧ gd v = true ∧ dep v ≤ 2 * n + 1
  | 0, _, _, _, h => by
    obtain ⟨h, rfl, rfl⟩ := h
    have := plain_built h
    exact ⟨⟨this.1, this.2.1⟩, this.2.2.1, by omega⟩
  | n + 1, _, _, _, h => by
    rcases h with ⟨h, rfl, rfl⟩ | ⟨p, ws, us, f, h1, h2, h3, h4, h, rfl, rfl⟩ | ⟨p, ws, us, f, h1, h2, h3, h4, h5, h, rfl, rfl⟩
    · have := plain_built h
      exact ⟨⟨this.1, this.2.1⟩, this.2.2.1, by omega⟩
    · have q := h.val fun w v e q => (Rd.val q).1
      have hl := h.len
      have g : ∀ u ∈ us, gd u = true ∧ dep u ≤ 2 * n + 1 := fun u hu => by
        obtain ⟨w, e, _, q⟩ := h.memV hu
        exact (Rd.val q).2
      match us, hl with
      | [x, y], _ =>
        have gx := g x (by simp)
        have gy := g y (by simp)
        simp only [builtL, sizeL, Bool.and_eq_true] at q
        refine ⟨⟨by simp [built, q.1.1, q.1.2], by simp [size]; omega⟩, by simp [gd, gdL, gx.1, gy.1], ?_⟩
        simp only [dep, depL]; omega
      | [], hl => simp at hl; omega
      | [_], hl => simp at hl; omega
      | _ :: _ :: _ :: _, hl => simp at hl; omega
    · have q := h.val fun w v e q => (Rd.val q).1
      have hl := h.len
      have g : ∀ u ∈ us, gd u = true ∧ dep u ≤ 2 * n + 1 := fun u hu => by
        obtain ⟨w, e, _, q⟩ := h.memV hu
        exact (Rd.val q).2
      refine ⟨⟨by simp [built, builtT, q.1]; omega, by simp [size, sizeT, q.2, hl]⟩, ?_, ?_⟩
      · simp [gd, gdL]; exact gdL_iff.mpr fun u hu => (g u hu).1
      · have := depL_le.mpr fun u hu => (g u hu).2
        simp only [dep, depL]; omega
theorem RdL.det {P P' : D → D → Int → Prop} : ∀ {ws vs vs' : List D} {e e' : Int}, RdL P ws vs e → RdL P' ws vs' e' → (∀ w v v' e e', P w v e → P' w v' e' → v = v' ∧ e = e') → vs = vs' ∧ e = e'
  | [], _, _, _, _, .nil, .nil, _ => ⟨rfl, rfl⟩
  | _ :: _, _, _, _, _, .cons h t, .cons h' t', f => by
    obtain ⟨rfl, rfl⟩ := f _ _ _ _ _ h h'
    obtain ⟨rfl, rfl⟩ := t.det t' f
    exact ⟨rfl, rfl⟩
/-- a word stands for one value -/
theorem Rd.det : ∀ {n m : Nat} {w v v' : D} {e e' : Int}, Rd c lo n w v e → Rd c lo m w v' e' → v = v' ∧ e = e' := by
  have key : ∀ {n : Nat} {w v v' : D} {e e' : Int}, Rd c lo n w v e → Rd c lo n w v' e' → v = v' ∧ e = e' := by
    intro n
    induction n with
    | zero => intro w v v' e e' h h'; exact ⟨h.2.1.trans h'.2.1.symm, h.2.2.trans h'.2.2.symm⟩
    | succ n ih =>
      intro w v v' e e' h h'
      rcases h with ⟨h, rfl, rfl⟩ | ⟨p, ws, us, f, h1, rfl, h3, h4, h, rfl, rfl⟩ | ⟨p, ws, us, f, h1, rfl, h3, h4, h5, h, rfl, rfl⟩
      · rcases h' with ⟨h', rfl, rfl⟩ | ⟨p', ws', us', f', k1, rfl, k3, k4, k, rfl, rfl⟩ | ⟨p', ws', us', f', k1, rfl, k3, k4, k5, k, rfl, rfl⟩
        · exact ⟨rfl, rfl⟩
        · simp [plainB] at h
        · simp [plainB] at h
      · rcases h' with ⟨h', rfl, rfl⟩ | ⟨p', ws', us', f', k1, k2, k3, k4, k, rfl, rfl⟩ | ⟨p', ws', us', f', k1, k2, k3, k4, k5, k, rfl, rfl⟩
        · simp [plainB] at h'
        · have ep : p = p' := by simp at k2; omega
          subst ep
          have ew : ws = ws' := h4.symm.trans k4
          subst ew
          obtain ⟨rfl, rfl⟩ := h.det k fun w v v' e e' a b => ih a b
          exact ⟨rfl, rfl⟩
        · simp at k2
      · rcases h' with ⟨h', rfl, rfl⟩ | ⟨p', ws', us', f', k1, k2, k3, k4, k, rfl, rfl⟩ | ⟨p', ws', us', f', k1, k2, k3, k4, k5, k, rfl, rfl⟩
        · simp [plainB] at h'
        · simp at k2
        · have ep : p = p' := by simp at k2; omega
          subst ep
          rw [h4] at k4
          have el : ws.length = ws'.length := by simp at k4; omega
          have ew : ws = ws' := by rw [← h5, ← k5, el]
          subst ew
          obtain ⟨rfl, rfl⟩ := h.det k fun w v v' e e' a b => ih a b
          exact ⟨rfl, rfl⟩
  intro n m w v v' e e' h h'
  exact key (h.mono (Nat.le_max_left n m)) (h'.mono (Nat.le_max_right n m))
end
end Ev

set_option Elab.async false
set_option linter.all false
set_option maxRecDepth 100000
set_option maxHeartbeats 0
namespace Ev
open PySem PySem.Spec PyProof.Rows L2
def top (i : Nat) : Stmt := PySem.Challenge.pw_messagehouse_k51_values_and_their_order.main.body.getD i (.Pass ⟨0, 0, 0, 0⟩)
def md0 : List (Str × MN) := [("HouseError", .cls 0), ("InvalidNumber", .cls 1), ("InvalidValue", .cls 2), ("InvalidHeap", .cls 4), ("InvalidWords", .cls 5), ("NoRoom", .cls 6), ("_law_error", .tol 41 [([(0, false), (1, false), (2, false), (4, false), (5, false), (6, false)], []), ([(0, false), (1, false), (2, false), (3, false), (4, true), (5, false), (6, false)], [104, 101, 97, 112]), ([(0, false), (1, false), (2, false), (3, false), (4, false), (5, true), (6, false)], [119, 111, 114, 100, 115]), ([(0, false), (1, false), (2, true), (3, false), (4, false), (5, false), (6, false)], [118, 97, 108, 117, 101]), ([(0, false), (1, true), (2, false), (3, false), (4, false), (5, false), (6, false)], [110, 117, 109, 98, 101, 114]), ([(0, false), (1, false), (2, false), (3, false), (4, false), (5, false), (6, true)], [114, 111, 111, 109]), ([(0, true), (1, true), (2, true), (3, true), (4, true), (5, true), (6, true)], [111, 116, 104, 101, 114])] []), ("is_whole", .fn 0 3), ("is_tuple_of", .fn 1 3), ("is_text", .fn 2 3), ("is_word", .fn 3 1), ("is_headed", .fn 4 3), ("inner_of", .fn 5 1), ("fits_plain", .fn 6 1), ("compare_in", .fn 7 2), ("is_thing", .fn 8 1), ("is_count", .fn 9 1), ("long_at", .fn 10 2), ("inner_at", .fn 11 2), ("is_there", .fn 12 2), ("left_at", .fn 13 3), ("fits_word", .fn 14 2), ("fits_room", .fn 15 1), ("fits_heap", .fn 16 1), ("value_in", .fn 17 2), ("need_heap", .fn 18 1), ("need_word", .fn 19 2), ("value_at", .fn 20 2), ("compared_in", .fn 21 3), ("compared_at", .fn 22 3)]
def md1 : List (Str × MN) := [("_law_cup", .fn 23 1), ("_law_roll", .fn 24 2), ("_law_some", .fn 25 2), ("_law_inner", .fn 26 1), ("_law_size", .fn 27 1), ("_law_rank", .fn 28 1), ("_law_compared", .fn 29 2), ("_law_value", .fn 30 2), ("_law_words_in", .fn 31 2), ("_law_read", .fn 32 2), ("_law_long", .fn 33 2), ("_law_extent", .fn 34 2), ("_law_met", .fn 35 2), ("_law_plain", .fn 36 1), ("_law_heap", .fn 37 2), ("_law_roots", .fn 38 2), ("_law_lay", .fn 39 2), ("_law_same", .fn 40 2), ("_law_error", .fn 41 1), ("_law_changed", .fn 42 2), ("law", .fn 43 1), ("ValueError", .bi), ("abs", .bi), ("all", .bi), ("bool", .bi), ("enumerate", .bi), ("int", .bi), ("isinstance", .bi), ("len", .bi), ("list", .bi)]
def md2 : List (Str × MN) := [("range", .bi), ("str", .bi), ("sum", .bi), ("super", .bi), ("tuple", .bi), ("zip", .bi), ("LETTERS", .con (.str [97, 98, 99, 100, 101, 102, 103, 104, 105, 106, 107, 108, 109, 110, 111, 112, 113, 114, 115, 116, 117, 118, 119, 120, 121, 122])), ("SIGNS", .con (.str [97, 98, 99, 100, 101, 102, 103, 104, 105, 106, 107, 108, 109, 110, 111, 112, 113, 114, 115, 116, 117, 118, 119, 120, 121, 122, 48, 49, 50, 51, 52, 53, 54, 55, 56, 57])), ("LONGEST", .con (.int 8)), ("LOW", .con (.int (-536870912))), ("HIGH", .con (.int 536870911)), ("PROCESSES", .con (.int 8)), ("ITEMS", .con (.int 6)), ("SIZE", .con (.int 120)), ("SORTS", .con (.tup [(.str [110, 117, 109, 98, 101, 114]), (.str [97, 116, 111, 109]), (.str [112, 114, 111, 99, 101, 115, 115]), (.str [116, 117, 112, 108, 101]), (.str [110, 105, 108]), (.str [112, 97, 105, 114])])), ("LEAST", .con (.int 64)), ("ROOM", .con (.int 16384)), ("ROOMS", .con (.tup [(.int 64), (.int 128), (.int 256), (.int 512), (.int 1024), (.int 2048), (.int 4096), (.int 8192), (.int 16384)])), ("THINGS", .con (.tup [(.str [112, 97, 105, 114]), (.str [116, 117, 112, 108, 101])])), ("PLAIN", .con (.tup [(.str [97, 116, 111, 109]), (.str [110, 117, 109, 98, 101, 114]), (.str [112, 114, 111, 99, 101, 115, 115])]))]
def md : List (Str × MN) := md0 ++ md1 ++ md2
def mu : List (Nat × Nat) := [(149, 11)]
def nm : List Str := ["HouseError", "InvalidNumber", "InvalidValue", "TooMany", "InvalidHeap", "InvalidWords", "NoRoom"]
def tf : List He.Defn := [("law", none)]
abbrev i_is_whole : Nat := 0
abbrev i_is_tuple_of : Nat := 1
abbrev i_is_text : Nat := 2
abbrev i_is_word : Nat := 3
abbrev i_is_headed : Nat := 4
abbrev i_inner_of : Nat := 5
abbrev i_fits_plain : Nat := 6
abbrev i_compare_in : Nat := 7
abbrev i_is_thing : Nat := 8
abbrev i_is_count : Nat := 9
abbrev i_long_at : Nat := 10
abbrev i_inner_at : Nat := 11
abbrev i_is_there : Nat := 12
abbrev i_left_at : Nat := 13
abbrev i_fits_word : Nat := 14
abbrev i_fits_room : Nat := 15
abbrev i_fits_heap : Nat := 16
abbrev i_value_in : Nat := 17
abbrev i_need_heap : Nat := 18
abbrev i_need_word : Nat := 19
abbrev i_value_at : Nat := 20
abbrev i_compared_in : Nat := 21
abbrev i_compared_at : Nat := 22
abbrev i_law_cup : Nat := 23
abbrev i_law_roll : Nat := 24
abbrev i_law_some : Nat := 25
abbrev i_law_inner : Nat := 26
abbrev i_law_size : Nat := 27
abbrev i_law_rank : Nat := 28
abbrev i_law_compared : Nat := 29
abbrev i_law_value : Nat := 30
abbrev i_law_words_in : Nat := 31
abbrev i_law_read : Nat := 32
abbrev i_law_long : Nat := 33
abbrev i_law_extent : Nat := 34
abbrev i_law_met : Nat := 35
abbrev i_law_plain : Nat := 36
abbrev i_law_heap : Nat := 37
abbrev i_law_roots : Nat := 38
abbrev i_law_lay : Nat := 39
abbrev i_law_same : Nat := 40
abbrev i_law_error : Nat := 41
abbrev i_law_changed : Nat := 42
abbrev i_law : Nat := 43
def m_is_whole : List MS := [
  .ret (.and_ (.isi (.var 0) .int) (.and_ (.not_ (.isi (.var 0) .bool)) (.chain .le .le (.var 1) (.var 0) (.var 2))))]
def d_is_whole : DT := ⟨"is_whole", top 12, ["value", "low", "high"], ["value", "low", "high"], m_is_whole, false⟩
def m_is_tuple_of : List MS := [
  .ret (.and_ (.isi (.var 0) .tuple) (.chain .le .le (.var 1) (.bi .len [.var 0]) (.var 2)))]
def d_is_tuple_of : DT := ⟨"is_tuple_of", top 13, ["value", "low", "high"], ["value", "low", "high"], m_is_tuple_of, false⟩
def m_is_text : List MS := [
  .ifs (.or_ (.not_ (.isi (.var 0) .str)) (.not_ (.chain .le .le (.con (.int 1)) (.bi .len [.var 0]) (.con (.int 8))))) [.ret (.con (.bl false))] [],
  .ret (.and_ (.cmp .in_ (.ix (.var 0) (.con (.int 0))) (.var 1)) (.bi .all [.lc false [3] (.name 3) (.seq (.sl (.var 0) [.con (.int 1)] [])) [] (.cmp .in_ (.var 3) (.var 2))]))]
def d_is_text : DT := ⟨"is_text", top 14, ["value", "first", "behind"], ["value", "first", "behind", "sign"], m_is_text, false⟩
def m_is_word : List MS := [
  .ret (.call i_is_text [.var 0, .con (.str [97, 98, 99, 100, 101, 102, 103, 104, 105, 106, 107, 108, 109, 110, 111, 112, 113, 114, 115, 116, 117, 118, 119, 120, 121, 122]), .con (.str [97, 98, 99, 100, 101, 102, 103, 104, 105, 106, 107, 108, 109, 110, 111, 112, 113, 114, 115, 116, 117, 118, 119, 120, 121, 122, 48, 49, 50, 51, 52, 53, 54, 55, 56, 57])])]
def d_is_word : DT := ⟨"is_word", top 15, ["value"], ["value"], m_is_word, false⟩
def m_is_headed : List MS := [
  .ret (.and_ (.call i_is_tuple_of [.var 0, .var 1, .var 2]) (.isi (.ix (.var 0) (.con (.int 0))) .str))]
def d_is_headed : DT := ⟨"is_headed", top 16, ["value", "low", "high"], ["value", "low", "high"], m_is_headed, false⟩
def m_inner_of : List MS := [
  .ifs (.cmp .eq (.ix (.var 0) (.con (.int 0))) (.con (.str [116, 117, 112, 108, 101]))) [.ret (.ix (.var 0) (.con (.int 1)))] [],
  .ret (.ife (.cmp .eq (.ix (.var 0) (.con (.int 0))) (.con (.str [112, 97, 105, 114]))) (.sl (.var 0) [.con (.int 1)] []) (.tup []))]
def d_inner_of : DT := ⟨"inner_of", top 24, ["value"], ["value"], m_inner_of, false⟩
def m_fits_plain : List MS := [
  .ifs (.cmp .ne (.bi .len [.var 0]) (.con (.int 2))) [.ret (.con (.bl false))] [],
  .ifs (.cmp .eq (.ix (.var 0) (.con (.int 0))) (.con (.str [110, 117, 109, 98, 101, 114]))) [.ret (.call i_is_whole [.ix (.var 0) (.con (.int 1)), .con (.int (-536870912)), .con (.int 536870911)])] [],
  .ifs (.cmp .eq (.ix (.var 0) (.con (.int 0))) (.con (.str [97, 116, 111, 109]))) [.ret (.call i_is_word [.ix (.var 0) (.con (.int 1))])] [],
  .ret (.and_ (.cmp .eq (.ix (.var 0) (.con (.int 0))) (.con (.str [112, 114, 111, 99, 101, 115, 115]))) (.call i_is_whole [.ix (.var 0) (.con (.int 1)), .con (.int 0), .bin .sub (.con (.int 8)) (.con (.int 1))]))]
def d_fits_plain : DT := ⟨"fits_plain", top 25, ["value"], ["value"], m_fits_plain, false⟩
def m_compare_in : List MS := [
  .ifs (.cmp .ne (.ix (.var 0) (.con (.int 0))) (.ix (.var 1) (.con (.int 0)))) [.ret (.ife (.cmp .lt (.idxc [[110, 117, 109, 98, 101, 114], [97, 116, 111, 109], [112, 114, 111, 99, 101, 115, 115], [116, 117, 112, 108, 101], [110, 105, 108], [112, 97, 105, 114]] (.ix (.var 0) (.con (.int 0)))) (.idxc [[110, 117, 109, 98, 101, 114], [97, 116, 111, 109], [112, 114, 111, 99, 101, 115, 115], [116, 117, 112, 108, 101], [110, 105, 108], [112, 97, 105, 114]] (.ix (.var 1) (.con (.int 0))))) (.neg (.con (.int 1))) (.con (.int 1)))] [],
  .ifs (.cmp .in_ (.ix (.var 0) (.con (.int 0))) (.tup [.con (.str [110, 117, 109, 98, 101, 114]), .con (.str [97, 116, 111, 109]), .con (.str [112, 114, 111, 99, 101, 115, 115])])) [.ret (.bin .sub (.cmp .gt (.ix (.var 0) (.con (.int 1))) (.ix (.var 1) (.con (.int 1)))) (.cmp .lt (.ix (.var 0) (.con (.int 1))) (.ix (.var 1) (.con (.int 1)))))] [],
  .par 2 3 (.call i_inner_of [.var 0]) (.call i_inner_of [.var 1]),
  .ifs (.cmp .ne (.bi .len [.var 2]) (.bi .len [.var 3])) [.ret (.ife (.cmp .lt (.bi .len [.var 2]) (.bi .len [.var 3])) (.neg (.con (.int 1))) (.con (.int 1)))] [],
  .fors (.names [4, 5]) (.zip (.var 2) (.var 3)) [.asg (.name 6) (.call i_compare_in [.var 4, .var 5]), .ifs (.cmp .ne (.var 6) (.con (.int 0))) [.ret (.var 6)] []],
  .ret (.con (.int 0))]
def d_compare_in : DT := ⟨"compare_in", top 26, ["one", "other"], ["one", "other", "ones", "others", "low", "high", "found"], m_compare_in, false⟩
def m_is_thing : List MS := [
  .ret (.cmp .in_ (.ix (.var 0) (.con (.int 0))) (.con (.tup [.str [112, 97, 105, 114], .str [116, 117, 112, 108, 101]])))]
def d_is_thing : DT := ⟨"is_thing", top 33, ["word"], ["word"], m_is_thing, false⟩
def m_is_count : List MS := [
  .ret (.and_ (.call i_is_headed [.var 0, .con (.int 2), .con (.int 2)]) (.and_ (.cmp .eq (.ix (.var 0) (.con (.int 0))) (.con (.str [99, 111, 117, 110, 116]))) (.call i_is_whole [.ix (.var 0) (.con (.int 1)), .con (.int 0), .con (.int 6)])))]
def d_is_count : DT := ⟨"is_count", top 34, ["value"], ["value"], m_is_count, false⟩
def m_long_at : List MS := [
  .ret (.ife (.cmp .eq (.ix (.var 1) (.con (.int 0))) (.con (.str [112, 97, 105, 114]))) (.con (.int 2)) (.bin .add (.con (.int 1)) (.ix (.ix (.var 0) (.ix (.var 1) (.con (.int 1)))) (.con (.int 1)))))]
def d_long_at : DT := ⟨"long_at", top 35, ["cells", "word"], ["cells", "word"], m_long_at, false⟩
def m_inner_at : List MS := [
  .ifs (.cmp .eq (.ix (.var 1) (.con (.int 0))) (.con (.str [112, 97, 105, 114]))) [.ret (.sl (.var 0) [.ix (.var 1) (.con (.int 1))] [.bin .add (.ix (.var 1) (.con (.int 1))) (.con (.int 2))])] [],
  .ret (.ife (.cmp .eq (.ix (.var 1) (.con (.int 0))) (.con (.str [116, 117, 112, 108, 101]))) (.sl (.var 0) [.bin .add (.ix (.var 1) (.con (.int 1))) (.con (.int 1))] [.bin .add (.bin .add (.ix (.var 1) (.con (.int 1))) (.con (.int 1))) (.ix (.ix (.var 0) (.ix (.var 1) (.con (.int 1)))) (.con (.int 1)))]) (.tup []))]
def d_inner_at : DT := ⟨"inner_at", top 36, ["cells", "word"], ["cells", "word"], m_inner_at, false⟩
def m_is_there : List MS := [
  .ifs (.not_ (.call i_is_whole [.ix (.var 1) (.con (.int 1)), .con (.int 0), .bin .sub (.bi .len [.var 0]) (.con (.int 1))])) [.ret (.con (.bl false))] [],
  .ifs (.cmp .eq (.ix (.var 1) (.con (.int 0))) (.con (.str [112, 97, 105, 114]))) [.ret (.cmp .lt (.bin .add (.ix (.var 1) (.con (.int 1))) (.con (.int 1))) (.bi .len [.var 0]))] [],
  .ret (.and_ (.call i_is_count [.ix (.var 0) (.ix (.var 1) (.con (.int 1)))]) (.cmp .lt (.bin .add (.ix (.var 1) (.con (.int 1))) (.ix (.ix (.var 0) (.ix (.var 1) (.con (.int 1)))) (.con (.int 1)))) (.bi .len [.var 0])))]
def d_is_there : DT := ⟨"is_there", top 37, ["cells", "word"], ["cells", "word"], m_is_there, false⟩
def m_left_at : List MS := [
  .ifs (.not_ (.call i_is_headed [.var 1, .con (.int 1), .con (.int 2)])) [.ret (.neg (.con (.int 1)))] [],
  .ifs (.cmp .eq (.var 1) (.tup [.con (.str [110, 105, 108])])) [.ret (.var 2)] [],
  .ifs (.cmp .in_ (.ix (.var 1) (.con (.int 0))) (.con (.tup [.str [97, 116, 111, 109], .str [110, 117, 109, 98, 101, 114], .str [112, 114, 111, 99, 101, 115, 115]]))) [.ret (.ife (.call i_fits_plain [.var 1]) (.var 2) (.neg (.con (.int 1))))] [],
  .ifs (.or_ (.cmp .nin (.ix (.var 1) (.con (.int 0))) (.con (.tup [.str [112, 97, 105, 114], .str [116, 117, 112, 108, 101]]))) (.or_ (.cmp .ne (.bi .len [.var 1]) (.con (.int 2))) (.not_ (.call i_is_there [.var 0, .var 1])))) [.ret (.neg (.con (.int 1)))] [],
  .asg (.name 2) (.bin .sub (.var 2) (.call i_long_at [.var 0, .var 1])),
  .fors (.name 3) (.seq (.call i_inner_at [.var 0, .var 1])) [.asg (.name 2) (.ife (.cmp .ge (.var 2) (.con (.int 0))) (.call i_left_at [.var 0, .var 3, .var 2]) (.neg (.con (.int 1))))],
  .ret (.var 2)]
def d_left_at : DT := ⟨"left_at", top 38, ["cells", "value", "many"], ["cells", "value", "many", "part"], m_left_at, false⟩
def m_fits_word : List MS := [
  .ret (.cmp .ge (.call i_left_at [.var 0, .var 1, .con (.int 120)]) (.con (.int 0)))]
def d_fits_word : DT := ⟨"fits_word", top 39, ["cells", "value"], ["cells", "value"], m_fits_word, false⟩
def m_fits_room : List MS := [
  .ret (.and_ (.call i_is_whole [.var 0, .con (.int 64), .con (.int 16384)]) (.cmp .in_ (.var 0) (.con (.tup [.int 64, .int 128, .int 256, .int 512, .int 1024, .int 2048, .int 4096, .int 8192, .int 16384]))))]
def d_fits_room : DT := ⟨"fits_room", top 40, ["value"], ["value"], m_fits_room, false⟩
def m_fits_heap : List MS := [
  .ifs (.or_ (.not_ (.call i_is_tuple_of [.var 0, .con (.int 2), .con (.int 2)])) (.or_ (.not_ (.call i_fits_room [.ix (.var 0) (.con (.int 1))])) (.not_ (.call i_is_tuple_of [.ix (.var 0) (.con (.int 0)), .con (.int 0), .ix (.var 0) (.con (.int 1))])))) [.ret (.con (.bl false))] [],
  .ret (.bi .all [.lc false [1] (.name 1) (.seq (.ix (.var 0) (.con (.int 0)))) [] (.or_ (.call i_is_count [.var 1]) (.call i_fits_word [.ix (.var 0) (.con (.int 0)), .var 1]))])]
def d_fits_heap : DT := ⟨"fits_heap", top 41, ["value"], ["value", "cell"], m_fits_heap, false⟩
def m_value_in : List MS := [
  .ifs (.cmp .eq (.ix (.var 1) (.con (.int 0))) (.con (.str [116, 117, 112, 108, 101]))) [.ret (.tup [.con (.str [116, 117, 112, 108, 101]), .bi .tuple [.lc false [2] (.name 2) (.seq (.call i_inner_at [.ix (.var 0) (.con (.int 0)), .var 1])) [] (.call i_value_in [.var 0, .var 2])]])] [],
  .ifs (.cmp .eq (.ix (.var 1) (.con (.int 0))) (.con (.str [112, 97, 105, 114]))) [.asg (.names [3, 4]) (.call i_inner_at [.ix (.var 0) (.con (.int 0)), .var 1]), .ret (.tup [.con (.str [112, 97, 105, 114]), .call i_value_in [.var 0, .var 3], .call i_value_in [.var 0, .var 4]])] [],
  .ret (.var 1)]
def d_value_in : DT := ⟨"value_in", top 42, ["heap", "word"], ["heap", "word", "own", "head", "rest"], m_value_in, false⟩
def m_need_heap : List MS := [
  .ifs (.not_ (.call i_fits_heap [.var 0])) [.rai 4 []] []]
def d_need_heap : DT := ⟨"need_heap", top 43, ["value"], ["value"], m_need_heap, false⟩
def m_need_word : List MS := [
  .ifs (.not_ (.call i_fits_word [.ix (.var 0) (.con (.int 0)), .var 1])) [.rai 5 []] []]
def d_need_word : DT := ⟨"need_word", top 44, ["heap", "value"], ["heap", "value"], m_need_word, false⟩
def m_value_at : List MS := [
  .ex (.call i_need_heap [.var 0]),
  .ex (.call i_need_word [.var 0, .var 1]),
  .ret (.call i_value_in [.var 0, .var 1])]
def d_value_at : DT := ⟨"value_at", top 45, ["heap", "word"], ["heap", "word"], m_value_at, false⟩
def m_compared_in : List MS := [
  .ifs (.cmp .eq (.var 1) (.var 2)) [.ret (.con (.int 0))] [],
  .ifs (.or_ (.not_ (.call i_is_thing [.var 1])) (.cmp .ne (.ix (.var 1) (.con (.int 0))) (.ix (.var 2) (.con (.int 0))))) [.ret (.ife (.cmp .eq (.ix (.var 1) (.con (.int 0))) (.ix (.var 2) (.con (.int 0)))) (.call i_compare_in [.var 1, .var 2]) (.bin .sub (.bin .mul (.con (.int 2)) (.cmp .gt (.idxc [[110, 117, 109, 98, 101, 114], [97, 116, 111, 109], [112, 114, 111, 99, 101, 115, 115], [116, 117, 112, 108, 101], [110, 105, 108], [112, 97, 105, 114]] (.ix (.var 1) (.con (.int 0)))) (.idxc [[110, 117, 109, 98, 101, 114], [97, 116, 111, 109], [112, 114, 111, 99, 101, 115, 115], [116, 117, 112, 108, 101], [110, 105, 108], [112, 97, 105, 114]] (.ix (.var 2) (.con (.int 0)))))) (.con (.int 1))))] [],
  .par 3 4 (.call i_inner_at [.ix (.var 0) (.con (.int 0)), .var 1]) (.call i_inner_at [.ix (.var 0) (.con (.int 0)), .var 2]),
  .ifs (.cmp .ne (.bi .len [.var 3]) (.bi .len [.var 4])) [.ret (.ife (.cmp .lt (.bi .len [.var 3]) (.bi .len [.var 4])) (.neg (.con (.int 1))) (.con (.int 1)))] [],
  .fors (.names [5, 6]) (.zip (.var 3) (.var 4)) [.asg (.name 7) (.call i_compared_in [.var 0, .var 5, .var 6]), .ifs (.cmp .ne (.var 7) (.con (.int 0))) [.ret (.var 7)] []],
  .ret (.con (.int 0))]
def d_compared_in : DT := ⟨"compared_in", top 47, ["heap", "one", "other"], ["heap", "one", "other", "ones", "others", "low", "high", "found"], m_compared_in, false⟩
def m_compared_at : List MS := [
  .ex (.call i_need_heap [.var 0]),
  .ex (.call i_need_word [.var 0, .var 1]),
  .ex (.call i_need_word [.var 0, .var 2]),
  .ret (.call i_compared_in [.var 0, .var 1, .var 2])]
def d_compared_at : DT := ⟨"compared_at", top 48, ["heap", "one", "other"], ["heap", "one", "other"], m_compared_at, false⟩
def m_law_cup : List MS := [
  .asg (.name 1) (.bi .abs [.ix (.bin .add (.bi .list [.var 0]) (.lst false [.con (.int 0)])) (.con (.int 0))]),
  .ret (.lst true [.ife (.cmp .ge (.var 1) (.bin .pow (.con (.int 10)) (.con (.int 18)))) (.bin .fdiv (.var 1) (.con (.int 109))) (.con (.int 0)), .bin .add (.bin .mod (.bi .int [.bin .add (.bin .mul (.var 1) (.con (.int 347))) (.con (.int 2767))]) (.con (.int 2077503049))) (.con (.int 223))])]
def d_law_cup : DT := ⟨"_law_cup", top 50, ["script"], ["script", "cell"], m_law_cup, false⟩
def m_law_roll : List MS := [
  .ifs (.cmp .gt (.ix (.var 0) (.con (.int 0))) (.con (.int 0))) [.asg (.name 2) (.bin .mod (.bi .int [.ix (.var 0) (.con (.int 0))]) (.var 1)), .setix (.var 0) (.con (.int 0)) (.bin .fdiv (.ix (.var 0) (.con (.int 0))) (.var 1)), .ret (.var 2)] [],
  .setix (.var 0) (.con (.int 1)) (.bin .mod (.bi .int [.bin .add (.bin .mul (.ix (.var 0) (.con (.int 1))) (.con (.int 31153))) (.con (.int 8101))]) (.con (.int 2147483543))),
  .asg (.name 3) (.bin .mod (.bi .int [.bin .mul (.ix (.var 0) (.con (.int 1))) (.bin .add (.ix (.var 0) (.con (.int 1))) (.con (.int 281)))]) (.con (.int 2147483587))),
  .ret (.bin .mod (.bi .int [.bin .fdiv (.var 3) (.con (.int 881))]) (.var 1))]
def d_law_roll : DT := ⟨"_law_roll", top 51, ["cup", "many"], ["cup", "many", "found", "deep"], m_law_roll, false⟩
def m_law_some : List MS := [
  .ret (.ix (.var 1) (.call i_law_roll [.var 0, .bi .len [.var 1]]))]
def d_law_some : DT := ⟨"_law_some", top 52, ["cup", "things"], ["cup", "things"], m_law_some, false⟩
def m_law_inner : List MS := [
  .ret (.ife (.cmp .eq (.ix (.var 0) (.con (.int 0))) (.con (.str [116, 117, 112, 108, 101]))) (.ix (.var 0) (.con (.int 1))) (.ife (.cmp .eq (.ix (.var 0) (.con (.int 0))) (.con (.str [112, 97, 105, 114]))) (.sl (.var 0) [.con (.int 1)] []) (.tup [])))]
def d_law_inner : DT := ⟨"_law_inner", top 53, ["value"], ["value"], m_law_inner, false⟩
def m_law_size : List MS := [
  .asg (.name 1) (.ife (.cmp .eq (.ix (.var 0) (.con (.int 0))) (.con (.str [116, 117, 112, 108, 101]))) (.bin .add (.con (.int 1)) (.bi .len [.ix (.var 0) (.con (.int 1))])) (.ife (.cmp .eq (.ix (.var 0) (.con (.int 0))) (.con (.str [112, 97, 105, 114]))) (.con (.int 2)) (.con (.int 0)))),
  .ret (.bin .add (.var 1) (.bi .sum [.lc false [2] (.name 2) (.seq (.call i_law_inner [.var 0])) [] (.call i_law_size [.var 2])]))]
def d_law_size : DT := ⟨"_law_size", top 54, ["value"], ["value", "own", "part"], m_law_size, false⟩
def m_law_rank : List MS := [
  .ret (.mt .index (.lst false [.con (.str [110, 117, 109, 98, 101, 114]), .con (.str [97, 116, 111, 109]), .con (.str [112, 114, 111, 99, 101, 115, 115]), .con (.str [116, 117, 112, 108, 101]), .con (.str [110, 105, 108]), .con (.str [112, 97, 105, 114])]) [.ix (.var 0) (.con (.int 0))])]
def d_law_rank : DT := ⟨"_law_rank", top 55, ["value"], ["value"], m_law_rank, false⟩
def m_law_compared : List MS := [
  .ifs (.cmp .ne (.call i_law_rank [.var 0]) (.call i_law_rank [.var 1])) [.ret (.ife (.cmp .lt (.call i_law_rank [.var 0]) (.call i_law_rank [.var 1])) (.neg (.con (.int 1))) (.con (.int 1)))] [],
  .ifs (.cmp .in_ (.ix (.var 0) (.con (.int 0))) (.lst false [.con (.str [110, 117, 109, 98, 101, 114]), .con (.str [97, 116, 111, 109]), .con (.str [112, 114, 111, 99, 101, 115, 115])])) [.ret (.ife (.cmp .lt (.ix (.var 0) (.con (.int 1))) (.ix (.var 1) (.con (.int 1)))) (.neg (.con (.int 1))) (.ife (.cmp .gt (.ix (.var 0) (.con (.int 1))) (.ix (.var 1) (.con (.int 1)))) (.con (.int 1)) (.con (.int 0))))] [],
  .par 2 3 (.call i_law_inner [.var 0]) (.call i_law_inner [.var 1]),
  .ifs (.cmp .ne (.bi .len [.var 2]) (.bi .len [.var 3])) [.ret (.ife (.cmp .lt (.bi .len [.var 2]) (.bi .len [.var 3])) (.neg (.con (.int 1))) (.con (.int 1)))] [],
  .asg (.name 4) (.lc false [5, 6] (.names [5, 6]) (.zip (.var 2) (.var 3)) [] (.call i_law_compared [.var 5, .var 6])),
  .ret (.ix (.bin .add (.lc false [7] (.name 7) (.seq (.var 4)) [.cmp .ne (.var 7) (.con (.int 0))] (.var 7)) (.lst false [.con (.int 0)])) (.con (.int 0)))]
def d_law_compared : DT := ⟨"_law_compared", top 56, ["one", "other"], ["one", "other", "ones", "others", "found", "low", "high", "own"], m_law_compared, false⟩
def m_law_value : List MS := [
  .asg (.name 2) (.ife (.cmp .gt (.var 1) (.con (.int 0))) (.call i_law_roll [.var 0, .con (.int 7)]) (.call i_law_roll [.var 0, .con (.int 4)])),
  .ifs (.cmp .eq (.var 2) (.con (.int 0))) [.ret (.tup [.con (.str [110, 117, 109, 98, 101, 114]), .call i_law_some [.var 0, .lst false [.con (.int 0), .con (.int 1), .con (.int 2), .neg (.con (.int 1)), .con (.int 7), .bin .sub (.bin .pow (.con (.int 2)) (.con (.int 29))) (.con (.int 1)), .neg (.bin .pow (.con (.int 2)) (.con (.int 29)))]]])] [],
  .ifs (.cmp .eq (.var 2) (.con (.int 1))) [.ret (.tup [.con (.str [97, 116, 111, 109]), .call i_law_some [.var 0, .lst false [.con (.str [104, 105]), .con (.str [121, 101, 115]), .con (.str [110, 111]), .con (.str [97]), .con (.str [97, 98])]]])] [],
  .ifs (.cmp .eq (.var 2) (.con (.int 2))) [.ret (.tup [.con (.str [112, 114, 111, 99, 101, 115, 115]), .call i_law_roll [.var 0, .con (.int 3)]])] [],
  .ifs (.cmp .eq (.var 2) (.con (.int 3))) [.ret (.tup [.con (.str [110, 105, 108])])] [],
  .ifs (.cmp .lt (.var 2) (.con (.int 6))) [.ret (.tup [.con (.str [116, 117, 112, 108, 101]), .bi .tuple [.lc false [3] (.name 3) (.rng (.con (.int 0)) (.call i_law_roll [.var 0, .con (.int 4)])) [] (.call i_law_value [.var 0, .bin .sub (.var 1) (.con (.int 1))])]])] [],
  .ret (.tup [.con (.str [112, 97, 105, 114]), .call i_law_value [.var 0, .bin .sub (.var 1) (.con (.int 1))], .call i_law_value [.var 0, .bin .sub (.var 1) (.con (.int 1))]])]
def d_law_value : DT := ⟨"_law_value", top 57, ["cup", "deep"], ["cup", "deep", "way", "turn"], m_law_value, false⟩
def m_law_words_in : List MS := [
  .ifs (.cmp .eq (.ix (.var 1) (.con (.int 0))) (.con (.str [112, 97, 105, 114]))) [.ret (.bi .list [.sl (.var 0) [.ix (.var 1) (.con (.int 1))] [.bin .add (.ix (.var 1) (.con (.int 1))) (.con (.int 2))]])] [],
  .ret (.ife (.cmp .eq (.ix (.var 1) (.con (.int 0))) (.con (.str [116, 117, 112, 108, 101]))) (.bi .list [.sl (.var 0) [.bin .add (.ix (.var 1) (.con (.int 1))) (.con (.int 1))] [.bin .add (.bin .add (.ix (.var 1) (.con (.int 1))) (.con (.int 1))) (.ix (.ix (.var 0) (.ix (.var 1) (.con (.int 1)))) (.con (.int 1)))]]) (.lst false []))]
def d_law_words_in : DT := ⟨"_law_words_in", top 58, ["cells", "word"], ["cells", "word"], m_law_words_in, false⟩
def m_law_read : List MS := [
  .asg (.name 2) (.lc false [3] (.name 3) (.seq (.call i_law_words_in [.var 0, .var 1])) [] (.call i_law_read [.var 0, .var 3])),
  .ifs (.cmp .eq (.ix (.var 1) (.con (.int 0))) (.con (.str [116, 117, 112, 108, 101]))) [.ret (.tup [.con (.str [116, 117, 112, 108, 101]), .bi .tuple [.var 2]])] [],
  .ret (.ife (.cmp .eq (.ix (.var 1) (.con (.int 0))) (.con (.str [112, 97, 105, 114]))) (.tup [.con (.str [112, 97, 105, 114]), .ix (.var 2) (.con (.int 0)), .ix (.var 2) (.con (.int 1))]) (.var 1))]
def d_law_read : DT := ⟨"_law_read", top 59, ["cells", "word"], ["cells", "word", "parts", "own"], m_law_read, false⟩
def m_law_long : List MS := [
  .ret (.ife (.cmp .eq (.ix (.var 1) (.con (.int 0))) (.con (.str [112, 97, 105, 114]))) (.con (.int 2)) (.ife (.cmp .eq (.ix (.var 1) (.con (.int 0))) (.con (.str [116, 117, 112, 108, 101]))) (.bin .add (.con (.int 1)) (.ix (.ix (.var 0) (.ix (.var 1) (.con (.int 1)))) (.con (.int 1)))) (.con (.int 0))))]
def d_law_long : DT := ⟨"_law_long", top 60, ["cells", "word"], ["cells", "word"], m_law_long, false⟩
def m_law_extent : List MS := [
  .ret (.bin .add (.call i_law_long [.var 0, .var 1]) (.bi .sum [.lc false [2] (.name 2) (.seq (.call i_law_words_in [.var 0, .var 1])) [] (.call i_law_extent [.var 0, .var 2])]))]
def d_law_extent : DT := ⟨"_law_extent", top 61, ["cells", "word"], ["cells", "word", "own"], m_law_extent, false⟩
def m_law_met : List MS := [
  .par 2 3 (.lst false []) (.bi .list [.var 1]),
  .whiles (.cmp .ne (.var 3) (.lst false [])) [.par 4 3 (.ix (.var 3) (.con (.int 0))) (.sl (.var 3) [.con (.int 1)] []), .ifs (.and_ (.cmp .in_ (.ix (.var 4) (.con (.int 0))) (.tup [.con (.str [116, 117, 112, 108, 101]), .con (.str [112, 97, 105, 114])])) (.cmp .nin (.var 4) (.var 2))) [.ex (.mt .append (.var 2) [.var 4]), .asg (.name 3) (.bin .add (.var 3) (.call i_law_words_in [.var 0, .var 4]))] []],
  .ret (.var 2)]
def d_law_met : DT := ⟨"_law_met", top 62, ["cells", "roots"], ["cells", "roots", "found", "line", "word"], m_law_met, false⟩
def m_law_plain : List MS := [
  .asg (.name 1) (.lst false [.tup [.con (.str [110, 117, 109, 98, 101, 114]), .con (.int 0)], .tup [.con (.str [110, 117, 109, 98, 101, 114]), .con (.int 5)], .tup [.con (.str [110, 117, 109, 98, 101, 114]), .neg (.con (.int 7))], .tup [.con (.str [97, 116, 111, 109]), .con (.str [104, 105])], .tup [.con (.str [97, 116, 111, 109]), .con (.str [97])], .tup [.con (.str [112, 114, 111, 99, 101, 115, 115]), .con (.int 2)], .tup [.con (.str [110, 105, 108])]]),
  .ret (.call i_law_some [.var 0, .var 1])]
def d_law_plain : DT := ⟨"_law_plain", top 63, ["cup"], ["cup", "some"], m_law_plain, false⟩
def m_law_heap : List MS := [
  .asg (.names [2, 3]) (.tup [.lst false [], .lc false [4] (.name 4) (.rng (.con (.int 0)) (.con (.int 3))) [] (.call i_law_plain [.var 0])]),
  .fors (.name 4) (.rng (.con (.int 0)) (.var 1)) [.par 5 6 (.lc false [7] (.name 7) (.rng (.con (.int 0)) (.call i_law_roll [.var 0, .con (.int 4)])) [] (.call i_law_some [.var 0, .bin .add (.sl (.var 3) [.neg (.con (.int 6))] []) (.var 3)])) (.bi .len [.var 2]), .ifs (.or_ (.cmp .eq (.call i_law_roll [.var 0, .con (.int 3)]) (.con (.int 0))) (.cmp .lt (.bi .len [.var 5]) (.con (.int 2)))) [.asg (.name 5) (.sl (.bin .add (.var 5) (.lst false [.call i_law_plain [.var 0], .call i_law_plain [.var 0]])) [] [.con (.int 2)]), .par 8 9 (.tup [.con (.str [112, 97, 105, 114]), .var 6]) (.var 5)] [.par 8 9 (.tup [.con (.str [116, 117, 112, 108, 101]), .var 6]) (.bin .add (.lst false [.tup [.con (.str [99, 111, 117, 110, 116]), .bi .len [.var 5]]]) (.var 5))], .ifs (.cmp .le (.bi .sum [.lc false [7] (.name 7) (.seq (.var 5)) [] (.call i_law_extent [.var 2, .var 7])]) (.con (.int 50))) [.asg (.names [2, 3]) (.tup [.bin .add (.var 2) (.var 9), .bin .add (.var 3) (.lst false [.var 8])])] [], .ifs (.cmp .eq (.call i_law_roll [.var 0, .con (.int 6)]) (.con (.int 0))) [.asg (.name 2) (.bin .add (.var 2) (.lst false [.call i_law_some [.var 0, .lst false [.tup [.con (.str [99, 111, 117, 110, 116]), .con (.int 2)], .tup [.con (.str [110, 105, 108])], .ix (.var 3) (.neg (.con (.int 1)))]]]))] []],
  .ret (.tup [.tup [.bi .tuple [.var 2], .call i_law_some [.var 0, .lst false [.con (.int 256), .con (.int 512)]]], .var 3])]
def d_law_heap : DT := ⟨"_law_heap", top 64, ["cup", "many"], ["cup", "many", "cells", "words", "turn", "own", "place", "part", "word", "more"], m_law_heap, false⟩
def m_law_roots : List MS := [
  .ret (.bi .tuple [.lc false [2] (.name 2) (.rng (.con (.int 0)) (.call i_law_roll [.var 0, .con (.int 5)])) [] (.call i_law_some [.var 0, .var 1])])]
def d_law_roots : DT := ⟨"_law_roots", top 65, ["cup", "words"], ["cup", "words", "turn"], m_law_roots, false⟩
def m_law_lay : List MS := [
  .par 2 3 (.bi .list [.call i_law_inner [.var 1]]) (.bi .len [.var 0]),
  .ifs (.cmp .nin (.ix (.var 1) (.con (.int 0))) (.tup [.con (.str [116, 117, 112, 108, 101]), .con (.str [112, 97, 105, 114])])) [.ret (.tup [.var 0, .var 1])] [],
  .asg (.name 4) (.ife (.cmp .eq (.ix (.var 1) (.con (.int 0))) (.con (.str [116, 117, 112, 108, 101]))) (.bin .add (.var 3) (.con (.int 1))) (.var 3)),
  .asg (.name 0) (.bin .add (.bin .add (.var 0) (.ife (.cmp .eq (.ix (.var 1) (.con (.int 0))) (.con (.str [116, 117, 112, 108, 101]))) (.lst false [.tup [.con (.str [99, 111, 117, 110, 116]), .bi .len [.var 2]]]) (.lst false []))) (.var 2)),
  .fors (.names [5, 6]) (.enum (.var 2)) [.asg (.names [0, 7]) (.call i_law_lay [.var 0, .var 6]), .asg (.name 0) (.bin .add (.bin .add (.sl (.var 0) [] [.bin .add (.var 4) (.var 5)]) (.lst false [.var 7])) (.sl (.var 0) [.bin .add (.bin .add (.var 4) (.var 5)) (.con (.int 1))] []))],
  .ret (.tup [.var 0, .tup [.ix (.var 1) (.con (.int 0)), .var 3]])]
def d_law_lay : DT := ⟨"_law_lay", top 66, ["cells", "value"], ["cells", "value", "parts", "place", "first", "at", "part", "word"], m_law_lay, false⟩
def m_law_same : List MS := [
  .ifs (.or_ (.isi (.var 0) .bool) (.isi (.var 1) .bool)) [.ret (.and_ (.isi (.var 0) .bool) (.and_ (.isi (.var 1) .bool) (.cmp .eq (.var 0) (.var 1))))] [],
  .ifs (.and_ (.isi (.var 0) .tuple) (.isi (.var 1) .tuple)) [.ret (.and_ (.cmp .eq (.bi .len [.var 0]) (.bi .len [.var 1])) (.cmp .eq (.lc false [2, 3] (.names [2, 3]) (.zip (.var 0) (.var 1)) [.not_ (.call i_law_same [.var 2, .var 3])] (.con (.int 1))) (.lst false [])))] [],
  .ret (.and_ (.not_ (.isi (.var 0) .tuple)) (.and_ (.not_ (.isi (.var 1) .tuple)) (.cmp .eq (.var 0) (.var 1))))]
def d_law_same : DT := ⟨"_law_same", top 67, ["one", "other"], ["one", "other", "a", "b"], m_law_same, false⟩
def m_law_error : List MS := [
  .bad,
  .ret (.con (.str []))]
def d_law_error : DT := ⟨"_law_error", top 68, ["call"], ["call", "e"], m_law_error, false⟩
def m_law_changed : List MS := [
  .asg (.name 2) (.call i_law_inner [.var 1]),
  .ifs (.or_ (.cmp .eq (.var 2) (.tup [])) (.cmp .eq (.call i_law_roll [.var 0, .con (.int 4)]) (.con (.int 0)))) [.asg (.name 3) (.lst false [.tup [.con (.str [110, 117, 109, 98, 101, 114]), .con (.int 1)], .tup [.con (.str [97, 116, 111, 109]), .con (.str [97, 98])], .tup [.con (.str [110, 105, 108])], .tup [.con (.str [112, 114, 111, 99, 101, 115, 115]), .con (.int 1)], .tup [.con (.str [116, 117, 112, 108, 101]), .tup []], .tup [.con (.str [112, 97, 105, 114]), .tup [.con (.str [110, 105, 108])], .tup [.con (.str [110, 105, 108])]]]), .ret (.call i_law_some [.var 0, .var 3])] [],
  .asg (.name 4) (.call i_law_roll [.var 0, .bi .len [.var 2]]),
  .asg (.name 2) (.bin .add (.bin .add (.sl (.var 2) [] [.var 4]) (.tup [.call i_law_changed [.var 0, .ix (.var 2) (.var 4)]])) (.sl (.var 2) [.bin .add (.var 4) (.con (.int 1))] [])),
  .ret (.ife (.cmp .eq (.ix (.var 1) (.con (.int 0))) (.con (.str [116, 117, 112, 108, 101]))) (.tup [.con (.str [116, 117, 112, 108, 101]), .var 2]) (.bin .add (.tup [.con (.str [112, 97, 105, 114])]) (.var 2)))]
def d_law_changed : DT := ⟨"_law_changed", top 69, ["cup", "value"], ["cup", "value", "parts", "some", "at"], m_law_changed, false⟩
def m_law : List MS := [
  .asg (.name 1) (.call i_law_cup [.var 0]),
  .fors (.name 2) (.rng (.con (.int 0)) (.con (.int 4))) [.asg (.names [3, 4]) (.call i_law_heap [.var 1, .bin .add (.con (.int 1)) (.call i_law_roll [.var 1, .con (.int 12)])]), .fors (.name 5) (.rng (.con (.int 0)) (.con (.int 5))) [.asg (.names [6, 7]) (.tup [.call i_law_some [.var 1, .var 4], .call i_law_some [.var 1, .var 4]]), .par 8 9 (.call i_law_read [.ix (.var 3) (.con (.int 0)), .var 6]) (.call i_law_read [.ix (.var 3) (.con (.int 0)), .var 7]), .ifs (.not_ (.call i_law_same [.call i_value_at [.var 3, .var 6], .var 8])) [.ret (.con (.bl false))] [], .ifs (.not_ (.call i_law_same [.call i_compared_at [.var 3, .var 6, .var 7], .call i_law_compared [.var 8, .var 9]])) [.ret (.con (.bl false))] []], .asg (.name 8) (.call i_law_value [.var 1, .con (.int 3)]), .asg (.name 9) (.call i_law_some [.var 1, .lst false [.var 8, .call i_law_changed [.var 1, .var 8], .call i_law_changed [.var 1, .var 8]]]), .asg (.names [10, 6]) (.call i_law_lay [.lst false [], .var 8]), .asg (.names [10, 7]) (.call i_law_lay [.var 10, .var 9]), .asg (.name 3) (.tup [.bi .tuple [.var 10], .con (.int 256)]), .ifs (.cmp .ne (.call i_compared_at [.var 3, .var 6, .var 7]) (.call i_law_compared [.var 8, .var 9])) [.ret (.con (.bl false))] [], .ifs (.cmp .ne (.call i_compared_at [.var 3, .var 7, .var 6]) (.call i_law_compared [.var 9, .var 8])) [.ret (.con (.bl false))] []],
  .asg (.name 10) (.tup [.tup [.con (.str [110, 117, 109, 98, 101, 114]), .con (.int 1)], .tup [.con (.str [110, 105, 108])], .tup [.con (.str [99, 111, 117, 110, 116]), .con (.int 2)], .tup [.con (.str [112, 97, 105, 114]), .con (.int 0)], .tup [.con (.str [112, 97, 105, 114]), .con (.int 0)]]),
  .asg (.name 10) (.bin .add (.var 10) (.tup [.tup [.con (.str [110, 117, 109, 98, 101, 114]), .con (.int 1)], .tup [.con (.str [110, 105, 108])], .tup [.con (.str [99, 111, 117, 110, 116]), .con (.int 2)], .tup [.con (.str [112, 97, 105, 114]), .con (.int 0)], .tup [.con (.str [112, 97, 105, 114]), .con (.int 5)]])),
  .asg (.name 3) (.tup [.var 10, .con (.int 64)]),
  .ifs (.cmp .ne (.call i_compared_at [.var 3, .tup [.con (.str [116, 117, 112, 108, 101]), .con (.int 2)], .tup [.con (.str [116, 117, 112, 108, 101]), .con (.int 7)]]) (.con (.int 0))) [.ret (.con (.bl false))] [],
  .ifs (.cmp .ne (.call i_value_at [.var 3, .tup [.con (.str [116, 117, 112, 108, 101]), .con (.int 2)]]) (.call i_value_at [.var 3, .tup [.con (.str [116, 117, 112, 108, 101]), .con (.int 7)]])) [.ret (.con (.bl false))] [],
  .asg (.name 11) (.lst false [.tup [.con (.str [110, 117, 109, 98, 101, 114]), .neg (.con (.int 2))], .tup [.con (.str [110, 117, 109, 98, 101, 114]), .con (.int 10)], .tup [.con (.str [97, 116, 111, 109]), .con (.str [97])], .tup [.con (.str [97, 116, 111, 109]), .con (.str [97, 98])], .tup [.con (.str [112, 114, 111, 99, 101, 115, 115]), .con (.int 0)], .tup [.con (.str [112, 114, 111, 99, 101, 115, 115]), .con (.int 7)]]),
  .asg (.name 11) (.bin .add (.var 11) (.lst false [.tup [.con (.str [116, 117, 112, 108, 101]), .con (.int 2)], .tup [.con (.str [110, 105, 108])], .tup [.con (.str [112, 97, 105, 114]), .con (.int 0)]])),
  .fors (.names [12, 6]) (.enum (.var 11)) [.asg (.name 13) (.lc false [7] (.name 7) (.seq (.var 11)) [] (.call i_compared_at [.var 3, .var 6, .var 7])), .ifs (.cmp .ne (.var 13) (.bin .add (.bin .add (.bin .mul (.lst false [.con (.int 1)]) (.var 12)) (.lst false [.con (.int 0)])) (.bin .mul (.lst false [.neg (.con (.int 1))]) (.bin .sub (.bin .sub (.bi .len [.var 11]) (.var 12)) (.con (.int 1)))))) [.ret (.con (.bl false))] []],
  .asg (.name 4) (.lc false [14] (.name 14) (.seq (.tup [.con (.non), .tup [.var 10, .con (.int 8)]])) [] (.told [([(0, false), (1, false), (2, false), (4, false), (5, false), (6, false)], []), ([(0, false), (1, false), (2, false), (3, false), (4, true), (5, false), (6, false)], [104, 101, 97, 112]), ([(0, false), (1, false), (2, false), (3, false), (4, false), (5, true), (6, false)], [119, 111, 114, 100, 115]), ([(0, false), (1, false), (2, true), (3, false), (4, false), (5, false), (6, false)], [118, 97, 108, 117, 101]), ([(0, false), (1, true), (2, false), (3, false), (4, false), (5, false), (6, false)], [110, 117, 109, 98, 101, 114]), ([(0, false), (1, false), (2, false), (3, false), (4, false), (5, false), (6, true)], [114, 111, 111, 109]), ([(0, true), (1, true), (2, true), (3, true), (4, true), (5, true), (6, true)], [111, 116, 104, 101, 114])] [] (.call (lamI i_value_at) [.var 14, .con (.non)]))),
  .asg (.name 4) (.bin .add (.var 4) (.lc false [14] (.name 14) (.seq (.tup [.con (.non), .tup [.con (.str [116, 117, 112, 108, 101]), .con (.int 0)], .tup [.con (.str [112, 97, 105, 114]), .con (.int 9)], .tup [.con (.str [99, 111, 117, 110, 116]), .con (.int 2)]])) [] (.told [([(0, false), (1, false), (2, false), (4, false), (5, false), (6, false)], []), ([(0, false), (1, false), (2, false), (3, false), (4, true), (5, false), (6, false)], [104, 101, 97, 112]), ([(0, false), (1, false), (2, false), (3, false), (4, false), (5, true), (6, false)], [119, 111, 114, 100, 115]), ([(0, false), (1, false), (2, true), (3, false), (4, false), (5, false), (6, false)], [118, 97, 108, 117, 101]), ([(0, false), (1, true), (2, false), (3, false), (4, false), (5, false), (6, false)], [110, 117, 109, 98, 101, 114]), ([(0, false), (1, false), (2, false), (3, false), (4, false), (5, false), (6, true)], [114, 111, 111, 109]), ([(0, true), (1, true), (2, true), (3, true), (4, true), (5, true), (6, true)], [111, 116, 104, 101, 114])] [] (.call (lamI i_value_at) [.var 3, .var 14])))),
  .asg (.name 4) (.bin .add (.var 4) (.lc false [14] (.name 14) (.seq (.tup [.con (.non), .tup []])) [] (.told [([(0, false), (1, false), (2, false), (4, false), (5, false), (6, false)], []), ([(0, false), (1, false), (2, false), (3, false), (4, true), (5, false), (6, false)], [104, 101, 97, 112]), ([(0, false), (1, false), (2, false), (3, false), (4, false), (5, true), (6, false)], [119, 111, 114, 100, 115]), ([(0, false), (1, false), (2, true), (3, false), (4, false), (5, false), (6, false)], [118, 97, 108, 117, 101]), ([(0, false), (1, true), (2, false), (3, false), (4, false), (5, false), (6, false)], [110, 117, 109, 98, 101, 114]), ([(0, false), (1, false), (2, false), (3, false), (4, false), (5, false), (6, true)], [114, 111, 111, 109]), ([(0, true), (1, true), (2, true), (3, true), (4, true), (5, true), (6, true)], [111, 116, 104, 101, 114])] [] (.call (lamI i_compared_at) [.var 14, .con (.non), .con (.non)])))),
  .asg (.name 4) (.bin .add (.var 4) (.lc false [14] (.name 14) (.seq (.tup [.con (.non), .tup [.con (.str [112, 97, 105, 114]), .con (.int 2)]])) [] (.told [([(0, false), (1, false), (2, false), (4, false), (5, false), (6, false)], []), ([(0, false), (1, false), (2, false), (3, false), (4, true), (5, false), (6, false)], [104, 101, 97, 112]), ([(0, false), (1, false), (2, false), (3, false), (4, false), (5, true), (6, false)], [119, 111, 114, 100, 115]), ([(0, false), (1, false), (2, true), (3, false), (4, false), (5, false), (6, false)], [118, 97, 108, 117, 101]), ([(0, false), (1, true), (2, false), (3, false), (4, false), (5, false), (6, false)], [110, 117, 109, 98, 101, 114]), ([(0, false), (1, false), (2, false), (3, false), (4, false), (5, false), (6, true)], [114, 111, 111, 109]), ([(0, true), (1, true), (2, true), (3, true), (4, true), (5, true), (6, true)], [111, 116, 104, 101, 114])] [] (.call (lamI i_compared_at) [.var 3, .var 14, .con (.non)])))),
  .asg (.name 4) (.bin .add (.var 4) (.lc false [14] (.name 14) (.seq (.tup [.con (.non), .tup [.con (.str [116, 117, 112, 108, 101]), .con (.int 5)], .con (.int 3)])) [] (.told [([(0, false), (1, false), (2, false), (4, false), (5, false), (6, false)], []), ([(0, false), (1, false), (2, false), (3, false), (4, true), (5, false), (6, false)], [104, 101, 97, 112]), ([(0, false), (1, false), (2, false), (3, false), (4, false), (5, true), (6, false)], [119, 111, 114, 100, 115]), ([(0, false), (1, false), (2, true), (3, false), (4, false), (5, false), (6, false)], [118, 97, 108, 117, 101]), ([(0, false), (1, true), (2, false), (3, false), (4, false), (5, false), (6, false)], [110, 117, 109, 98, 101, 114]), ([(0, false), (1, false), (2, false), (3, false), (4, false), (5, false), (6, true)], [114, 111, 111, 109]), ([(0, true), (1, true), (2, true), (3, true), (4, true), (5, true), (6, true)], [111, 116, 104, 101, 114])] [] (.call (lamI i_compared_at) [.var 3, .tup [.con (.str [110, 105, 108])], .var 14])))),
  .ret (.cmp .eq (.var 4) (.bin .add (.bin .add (.bin .add (.bin .mul (.lst false [.con (.str [104, 101, 97, 112])]) (.con (.int 2))) (.bin .mul (.lst false [.con (.str [119, 111, 114, 100, 115])]) (.con (.int 4)))) (.bin .mul (.lst false [.con (.str [104, 101, 97, 112])]) (.con (.int 2)))) (.bin .mul (.lst false [.con (.str [119, 111, 114, 100, 115])]) (.con (.int 5)))))]
def d_law : DT := ⟨"law", top 70, ["script"], ["script", "cup", "turn", "heap", "words", "step", "one", "other", "value", "near", "cells", "rows", "at", "told", "odd"], m_law, true⟩
def L0 : List DT := [d_is_whole, d_is_tuple_of, d_is_text, d_is_word, d_is_headed, d_inner_of, d_fits_plain, d_compare_in, d_is_thing, d_is_count, d_long_at, d_inner_at, d_is_there, d_left_at, d_fits_word, d_fits_room, d_fits_heap, d_value_in, d_need_heap, d_need_word, d_value_at, d_compared_in, d_compared_at, d_law_cup, d_law_roll, d_law_some, d_law_inner, d_law_size, d_law_rank, d_law_compared]
def L1 : List DT := [d_law_value, d_law_words_in, d_law_read, d_law_long, d_law_extent, d_law_met, d_law_plain, d_law_heap, d_law_roots, d_law_lay, d_law_same, d_law_error, d_law_changed, d_law]
def L : List DT := L0 ++ L1
theorem tr_all : (L.map fun d => mapO (trS 400 100 (d.sc md mu)) (defBody d.st)) = L.map fun d => some d.ms := by kernel_rfl
theorem sc_all : (L.all fun d => scB d.N d.ps (defScope d.st)) = true := by kernel_rfl
theorem ag_all : (L.all fun d => argB (defArgs d.st) d.ps) = true := by kernel_rfl
theorem txt : Txt L md mu 400 100 := ⟨List.all_eq_true.mp sc_all, List.all_eq_true.mp ag_all, fun d hd => List.map_inj_left.mp tr_all d hd⟩
abbrev G : Nat → Option Fn := Gof L
theorem G_is_whole : G i_is_whole = some ⟨3, 3, m_is_whole⟩ := by rfl
theorem G_is_tuple_of : G i_is_tuple_of = some ⟨3, 3, m_is_tuple_of⟩ := by rfl
theorem G_is_text : G i_is_text = some ⟨3, 4, m_is_text⟩ := by rfl
theorem G_is_word : G i_is_word = some ⟨1, 1, m_is_word⟩ := by rfl
theorem G_is_headed : G i_is_headed = some ⟨3, 3, m_is_headed⟩ := by rfl
theorem G_inner_of : G i_inner_of = some ⟨1, 1, m_inner_of⟩ := by rfl
theorem G_fits_plain : G i_fits_plain = some ⟨1, 1, m_fits_plain⟩ := by rfl
theorem G_compare_in : G i_compare_in = some ⟨2, 7, m_compare_in⟩ := by rfl
theorem G_is_thing : G i_is_thing = some ⟨1, 1, m_is_thing⟩ := by rfl
theorem G_is_count : G i_is_count = some ⟨1, 1, m_is_count⟩ := by rfl
theorem G_long_at : G i_long_at = some ⟨2, 2, m_long_at⟩ := by rfl
theorem G_inner_at : G i_inner_at = some ⟨2, 2, m_inner_at⟩ := by rfl
theorem G_is_there : G i_is_there = some ⟨2, 2, m_is_there⟩ := by rfl
theorem G_left_at : G i_left_at = some ⟨3, 4, m_left_at⟩ := by rfl
theorem G_fits_word : G i_fits_word = some ⟨2, 2, m_fits_word⟩ := by rfl
theorem G_fits_room : G i_fits_room = some ⟨1, 1, m_fits_room⟩ := by rfl
theorem G_fits_heap : G i_fits_heap = some ⟨1, 2, m_fits_heap⟩ := by rfl
theorem G_value_in : G i_value_in = some ⟨2, 5, m_value_in⟩ := by rfl
theorem G_need_heap : G i_need_heap = some ⟨1, 1, m_need_heap⟩ := by rfl
theorem G_need_word : G i_need_word = some ⟨2, 2, m_need_word⟩ := by rfl
theorem G_value_at : G i_value_at = some ⟨2, 2, m_value_at⟩ := by rfl
theorem G_compared_in : G i_compared_in = some ⟨3, 8, m_compared_in⟩ := by rfl
theorem G_compared_at : G i_compared_at = some ⟨3, 3, m_compared_at⟩ := by rfl
theorem G_law_cup : G i_law_cup = some ⟨1, 2, m_law_cup⟩ := by rfl
theorem G_law_roll : G i_law_roll = some ⟨2, 4, m_law_roll⟩ := by rfl
theorem G_law_some : G i_law_some = some ⟨2, 2, m_law_some⟩ := by rfl
theorem G_law_inner : G i_law_inner = some ⟨1, 1, m_law_inner⟩ := by rfl
theorem G_law_size : G i_law_size = some ⟨1, 3, m_law_size⟩ := by rfl
theorem G_law_rank : G i_law_rank = some ⟨1, 1, m_law_rank⟩ := by rfl
theorem G_law_compared : G i_law_compared = some ⟨2, 8, m_law_compared⟩ := by rfl
theorem G_law_value : G i_law_value = some ⟨2, 4, m_law_value⟩ := by rfl
theorem G_law_words_in : G i_law_words_in = some ⟨2, 2, m_law_words_in⟩ := by rfl
theorem G_law_read : G i_law_read = some ⟨2, 4, m_law_read⟩ := by rfl
theorem G_law_long : G i_law_long = some ⟨2, 2, m_law_long⟩ := by rfl
theorem G_law_extent : G i_law_extent = some ⟨2, 3, m_law_extent⟩ := by rfl
theorem G_law_met : G i_law_met = some ⟨2, 5, m_law_met⟩ := by rfl
theorem G_law_plain : G i_law_plain = some ⟨1, 2, m_law_plain⟩ := by rfl
theorem G_law_heap : G i_law_heap = some ⟨2, 10, m_law_heap⟩ := by rfl
theorem G_law_roots : G i_law_roots = some ⟨2, 3, m_law_roots⟩ := by rfl
theorem G_law_lay : G i_law_lay = some ⟨2, 8, m_law_lay⟩ := by rfl
theorem G_law_same : G i_law_same = some ⟨2, 4, m_law_same⟩ := by rfl
theorem G_law_error : G i_law_error = some ⟨1, 2, m_law_error⟩ := by rfl
theorem G_law_changed : G i_law_changed = some ⟨2, 5, m_law_changed⟩ := by rfl
theorem G_law : G i_law = some ⟨1, 15, m_law⟩ := by rfl
end Ev

set_option Elab.async false
set_option linter.all false
set_option maxRecDepth 100000
set_option maxHeartbeats 0
namespace Ev
open PySem PySem.Spec PyProof.Rows L2
def hdLo0 : List PySem.Str := ["is_whole", "is_tuple_of", "is_text", "is_word", "is_headed", "inner_of", "fits_plain", "compare_in", "is_thing", "is_count", "long_at", "inner_at", "is_there", "left_at", "fits_word", "fits_room", "fits_heap", "value_in", "need_heap", "need_word", "value_at", "compared_in", "compared_at", "_law_cup", "_law_roll", "_law_some", "_law_inner", "_law_size", "_law_rank", "_law_compared"]
def hdLo1 : List PySem.Str := ["_law_value", "_law_words_in", "_law_read", "_law_long", "_law_extent", "_law_met", "_law_plain", "_law_heap", "_law_roots", "_law_lay", "_law_same", "_law_error", "_law_changed", "HouseError", "InvalidNumber", "InvalidValue", "TooMany", "InvalidHeap", "InvalidWords", "NoRoom", "LETTERS", "SIGNS", "LONGEST", "LOW", "HIGH", "PROCESSES", "ITEMS", "SIZE", "SORTS", "LEAST"]
def hdLo2 : List PySem.Str := ["ROOM", "ROOMS", "THINGS", "PLAIN"]
def hdLo : List PySem.Str := hdLo0 ++ hdLo1 ++ hdLo2
abbrev Rw : PySem.W.OpenRow := PySem.W.OpenLaw.row PySem.Challenge.rw_messagehouse_k51_values_and_their_order
abbrev hk : PySem.W.Hook := He.hookX 4 [] (L.map DT.dd) (tabOf md) tf (mdB nm tf L md)
def ob (s : PySem.W.SharedT) : He.AlX := He.obsX 4 [] (L.map DT.dd) (tabOf md) tf (mdB nm tf L md) (HandSHeadRun.getT s)
theorem ob_eq (s : PySem.W.SharedT) : ob s = hk.obs s.abs := He.obsX_eq (HandSHeadRun.getT_eq s)
theorem run0 (w : World) : HandSHeadRun.RunEq Rw (PySem.W.view Rw.prog [70]) hk ob 4000 hdLo (w.withFollow "special-get-raises" false) := by
  intro os
  kernel_rfl
theorem run1 (w : World) : HandSHeadRun.RunEq Rw (PySem.W.view Rw.prog [70]) hk ob 4000 hdLo (w.withFollow "special-get-raises" true) := by
  intro os
  kernel_rfl
theorem run (w : World) : HandSHeadRun.RunEq Rw (PySem.W.view Rw.prog [70]) hk ob 4000 hdLo w := PySem.W.byRow2 "special-get-raises" run0 run1 w
end Ev

set_option Elab.async false
set_option linter.all false
set_option maxRecDepth 100000
set_option maxHeartbeats 4000000
namespace Ev
theorem wp_roll {k : Nat} {S : Store} (hC : Cup S) {n : Int} (h0 : 0 < n) (h1 : n < 1073741824) {Q : D → Store → Prop} (hQ : ∀ r S', 0 ≤ r → r < n → Cup S' → Q (.int r) S') : Wp (callF G (k + 1) i_law_roll [.ref 0, .int n] S) Q := by
  obtain ⟨a, b, r, rfl, ha⟩ := hC
  rw [callF_s G_law_roll k rfl]
  by_cases hp : 0 < a
  · simp [↓ex_fors, ev, evs, evC, evP, evI, ex, exs, Res.bind_ok, Res.bind_exc, Res.bind_stuck, Res.nox_ok, lift_some, liftB_some, setT, setSlots, wipe, b_add, b_sub, c_lt, c_le, c_gt, c_ge, c_eqI, c_neI, c_eqS, c_neS, c_eqB, c_neB, t_bl, t_int, t_tup, t_lst, t_non, bi_int, bi_abs, bi_lenT, bi_lenL, bi_tupL, bi_tupT, bi_lstT, bi_lstL, bi_lstF, ixT, ixL, mk_f, mk_t, isiD, wp_ok, wp_bind, wp_nox, wp_lift_some, wp_liftB_some, m_law_roll, evIx, atI, ixN, hp, b_mod _ n h0, b_div _ n ⟨h0, h1⟩, evSet]
    exact hQ _ _ (Int.emod_nonneg _ (by omega)) (Int.emod_lt_of_pos _ h0) ⟨_, _, _, rfl, Int.ediv_nonneg ha (by omega)⟩
  · have hc0 := Int.emod_nonneg (b * 31153 + 8101) (show (2147483543 : Int) ≠ 0 by decide)
    have hc1 := Int.emod_lt_of_pos (b * 31153 + 8101) (show (0 : Int) < 2147483543 by decide)
    simp [↓ex_fors, ev, evs, evC, evP, evI, ex, exs, Res.bind_ok, Res.bind_exc, Res.bind_stuck, Res.nox_ok, lift_some, liftB_some, setT, setSlots, wipe, b_add, b_sub, c_lt, c_le, c_gt, c_ge, c_eqI, c_neI, c_eqS, c_neS, c_eqB, c_neB, t_bl, t_int, t_tup, t_lst, t_non, bi_int, bi_abs, bi_lenT, bi_lenL, bi_tupL, bi_tupT, bi_lstT, bi_lstL, bi_lstF, ixT, ixL, mk_f, mk_t, isiD, wp_ok, wp_bind, wp_nox, wp_lift_some, wp_liftB_some, m_law_roll, evIx, atI, ixN, hp, b_mod, b_mulR, evSet]
    generalize (b * 31153 + 8101) % 2147483543 = c at *
    simp [↓ex_fors, ev, evs, evC, evP, evI, ex, exs, Res.bind_ok, Res.bind_exc, Res.bind_stuck, Res.nox_ok, lift_some, liftB_some, setT, setSlots, wipe, b_add, b_sub, c_lt, c_le, c_gt, c_ge, c_eqI, c_neI, c_eqS, c_neS, c_eqB, c_neB, t_bl, t_int, t_tup, t_lst, t_non, bi_int, bi_abs, bi_lenT, bi_lenL, bi_tupL, bi_tupT, bi_lstT, bi_lstL, bi_lstF, ixT, ixL, mk_f, mk_t, isiD, wp_ok, wp_bind, wp_nox, wp_lift_some, wp_liftB_some, b_mulL c _ ⟨by omega, by omega⟩, b_div, b_mod, b_mod _ n h0]
    exact hQ _ _ (Int.emod_nonneg _ (by omega)) (Int.emod_lt_of_pos _ h0) ⟨_, _, _, rfl, ha⟩
theorem wp_some {k : Nat} {S : Store} (hC : Cup S) {xs : List D} (hne : 0 < xs.length) (hl : xs.length < 1073741824) {Q : D → Store → Prop} (hQ : ∀ x ∈ xs, ∀ S', Cup S' → Q x S') : Wp (callF G (k + 2) i_law_some [.ref 0, .lst xs] S) Q := by
  rw [callF_s G_law_some (k + 1) rfl]
  simp [↓ex_fors, ev, evs, evC, evP, evI, ex, exs, Res.bind_ok, Res.bind_exc, Res.bind_stuck, Res.nox_ok, lift_some, liftB_some, setT, setSlots, wipe, b_add, b_sub, c_lt, c_le, c_gt, c_ge, c_eqI, c_neI, c_eqS, c_neS, c_eqB, c_neB, t_bl, t_int, t_tup, t_lst, t_non, bi_int, bi_abs, bi_lenT, bi_lenL, bi_tupL, bi_tupT, bi_lstT, bi_lstL, bi_lstF, ixT, ixL, mk_f, mk_t, isiD, wp_ok, wp_bind, wp_nox, wp_lift_some, wp_liftB_some, m_law_some]
  refine wp_roll hC (by omega) (by omega) fun r S' h0 h1 hC' => ?_
  obtain ⟨x, hx, e⟩ := atI_in h0 h1
  simp [↓ex_fors, ev, evs, evC, evP, evI, ex, exs, Res.bind_ok, Res.bind_exc, Res.bind_stuck, Res.nox_ok, lift_some, liftB_some, setT, setSlots, wipe, b_add, b_sub, c_lt, c_le, c_gt, c_ge, c_eqI, c_neI, c_eqS, c_neS, c_eqB, c_neB, t_bl, t_int, t_tup, t_lst, t_non, bi_int, bi_abs, bi_lenT, bi_lenL, bi_tupL, bi_tupT, bi_lstT, bi_lstL, bi_lstF, ixT, ixL, mk_f, mk_t, isiD, wp_ok, wp_bind, wp_nox, wp_lift_some, wp_liftB_some, e]
  exact hQ x hx S' hC'
theorem value_leaf0 : ∀ x ∈ ([.int 0, .int 1, .int 2, .int (-1), .int 7, .int 536870911, .int (-536870912)] : List D), vOk 0 (.tup [.str [110, 117, 109, 98, 101, 114], x]) = true := by decide +kernel
theorem value_leaf1 : ∀ x ∈ ([.str [104, 105], .str [121, 101, 115], .str [110, 111], .str [97], .str [97, 98]] : List D), vOk 0 (.tup [.str [97, 116, 111, 109], x]) = true := by decide +kernel
theorem value_leaf2 {r : Int} (h0 : 0 ≤ r) (h1 : r < 3) : vOk 0 (.tup [.str [112, 114, 111, 99, 101, 115, 115], .int r]) = true := by
  have : r = 0 ∨ r = 1 ∨ r = 2 := by omega
  rcases this with rfl | rfl | rfl <;> decide +kernel
theorem wp_value : ∀ (n : Nat) {k : Nat} (_ : n + 3 ≤ k) {S : Store} (_ : Cup S) {Q : D → Store → Prop} (_ : ∀ d S', vOk n d = true → Cup S' → Q d S'), Wp (callF G k i_law_value [.ref 0, .int n] S) Q := by
  intro n
  induction n with
  | zero =>
    intro k hk S hC Q hQ
    obtain ⟨k, rfl⟩ : ∃ j, k = j + 3 := ⟨k - 3, by omega⟩
    rw [callF_s G_law_value (k + 2) rfl]
    simp [↓ex_fors, ev, evs, evC, evP, evI, ex, exs, Res.bind_ok, Res.bind_exc, Res.bind_stuck, Res.nox_ok, lift_some, liftB_some, setT, setSlots, wipe, b_add, b_sub, c_lt, c_le, c_gt, c_ge, c_eqI, c_neI, c_eqS, c_neS, c_eqB, c_neB, t_bl, t_int, t_tup, t_lst, t_non, bi_int, bi_abs, bi_lenT, bi_lenL, bi_tupL, bi_tupT, bi_lstT, bi_lstL, bi_lstF, ixT, ixL, mk_f, mk_t, isiD, wp_ok, wp_bind, wp_nox, wp_lift_some, wp_liftB_some, m_law_value]
    refine wp_roll hC (by omega) (by omega) fun r S1 h0 h1 hC1 => ?_
    have : r = 0 ∨ r = 1 ∨ r = 2 ∨ r = 3 := by omega
    rcases this with rfl | rfl | rfl | rfl
    · simp [↓ex_fors, ev, evs, evC, evP, evI, ex, exs, Res.bind_ok, Res.bind_exc, Res.bind_stuck, Res.nox_ok, lift_some, liftB_some, setT, setSlots, wipe, b_add, b_sub, c_lt, c_le, c_gt, c_ge, c_eqI, c_neI, c_eqS, c_neS, c_eqB, c_neB, t_bl, t_int, t_tup, t_lst, t_non, bi_int, bi_abs, bi_lenT, bi_lenL, bi_tupL, bi_tupT, bi_lstT, bi_lstL, bi_lstF, ixT, ixL, mk_f, mk_t, isiD, wp_ok, wp_bind, wp_nox, wp_lift_some, wp_liftB_some, p29]
      refine wp_some hC1 (by simp) (by simp) fun x hx S2 hC2 => ?_
      exact hQ _ _ (value_leaf0 x hx) hC2
    · simp [↓ex_fors, ev, evs, evC, evP, evI, ex, exs, Res.bind_ok, Res.bind_exc, Res.bind_stuck, Res.nox_ok, lift_some, liftB_some, setT, setSlots, wipe, b_add, b_sub, c_lt, c_le, c_gt, c_ge, c_eqI, c_neI, c_eqS, c_neS, c_eqB, c_neB, t_bl, t_int, t_tup, t_lst, t_non, bi_int, bi_abs, bi_lenT, bi_lenL, bi_tupL, bi_tupT, bi_lstT, bi_lstL, bi_lstF, ixT, ixL, mk_f, mk_t, isiD, wp_ok, wp_bind, wp_nox, wp_lift_some, wp_liftB_some]
      refine wp_some hC1 (by simp) (by simp) fun x hx S2 hC2 => ?_
      exact hQ _ _ (value_leaf1 x hx) hC2
    · simp [↓ex_fors, ev, evs, evC, evP, evI, ex, exs, Res.bind_ok, Res.bind_exc, Res.bind_stuck, Res.nox_ok, lift_some, liftB_some, setT, setSlots, wipe, b_add, b_sub, c_lt, c_le, c_gt, c_ge, c_eqI, c_neI, c_eqS, c_neS, c_eqB, c_neB, t_bl, t_int, t_tup, t_lst, t_non, bi_int, bi_abs, bi_lenT, bi_lenL, bi_tupL, bi_tupT, bi_lstT, bi_lstL, bi_lstF, ixT, ixL, mk_f, mk_t, isiD, wp_ok, wp_bind, wp_nox, wp_lift_some, wp_liftB_some]
      refine wp_roll hC1 (by omega) (by omega) fun r S2 h0 h1 hC2 => ?_
      exact hQ _ _ (value_leaf2 h0 h1) hC2
    · simp [↓ex_fors, ev, evs, evC, evP, evI, ex, exs, Res.bind_ok, Res.bind_exc, Res.bind_stuck, Res.nox_ok, lift_some, liftB_some, setT, setSlots, wipe, b_add, b_sub, c_lt, c_le, c_gt, c_ge, c_eqI, c_neI, c_eqS, c_neS, c_eqB, c_neB, t_bl, t_int, t_tup, t_lst, t_non, bi_int, bi_abs, bi_lenT, bi_lenL, bi_tupL, bi_tupT, bi_lstT, bi_lstL, bi_lstF, ixT, ixL, mk_f, mk_t, isiD, wp_ok, wp_bind, wp_nox, wp_lift_some, wp_liftB_some]
      exact hQ _ _ (by decide +kernel) hC1
  | succ n ih =>
    intro k hk S hC Q hQ
    obtain ⟨k, rfl⟩ : ∃ j, k = j + 3 := ⟨k - 3, by omega⟩
    rw [callF_s G_law_value (k + 2) rfl]
    have hn : (0 : Int) < (n : Int) + 1 := by omega
    simp [↓ex_fors, ev, evs, evC, evP, evI, ex, exs, Res.bind_ok, Res.bind_exc, Res.bind_stuck, Res.nox_ok, lift_some, liftB_some, setT, setSlots, wipe, b_add, b_sub, c_lt, c_le, c_gt, c_ge, c_eqI, c_neI, c_eqS, c_neS, c_eqB, c_neB, t_bl, t_int, t_tup, t_lst, t_non, bi_int, bi_abs, bi_lenT, bi_lenL, bi_tupL, bi_tupT, bi_lstT, bi_lstL, bi_lstF, ixT, ixL, mk_f, mk_t, isiD, wp_ok, wp_bind, wp_nox, wp_lift_some, wp_liftB_some, m_law_value, hn]
    refine wp_roll hC (by omega) (by omega) fun r S1 h0 h1 hC1 => ?_
    have : r = 0 ∨ r = 1 ∨ r = 2 ∨ r = 3 ∨ r = 4 ∨ r = 5 ∨ r = 6 := by omega
    have e1 : ((n : Int) + 1 - 1) = n := by omega
    rcases this with rfl | rfl | rfl | rfl | rfl | rfl | rfl
    · simp [↓ex_fors, ev, evs, evC, evP, evI, ex, exs, Res.bind_ok, Res.bind_exc, Res.bind_stuck, Res.nox_ok, lift_some, liftB_some, setT, setSlots, wipe, b_add, b_sub, c_lt, c_le, c_gt, c_ge, c_eqI, c_neI, c_eqS, c_neS, c_eqB, c_neB, t_bl, t_int, t_tup, t_lst, t_non, bi_int, bi_abs, bi_lenT, bi_lenL, bi_tupL, bi_tupT, bi_lstT, bi_lstL, bi_lstF, ixT, ixL, mk_f, mk_t, isiD, wp_ok, wp_bind, wp_nox, wp_lift_some, wp_liftB_some, p29]
      refine wp_some hC1 (by simp) (by simp) fun x hx S2 hC2 => ?_
      exact hQ _ _ (vOk_mono (Nat.zero_le _) (value_leaf0 x hx)) hC2
    · simp [↓ex_fors, ev, evs, evC, evP, evI, ex, exs, Res.bind_ok, Res.bind_exc, Res.bind_stuck, Res.nox_ok, lift_some, liftB_some, setT, setSlots, wipe, b_add, b_sub, c_lt, c_le, c_gt, c_ge, c_eqI, c_neI, c_eqS, c_neS, c_eqB, c_neB, t_bl, t_int, t_tup, t_lst, t_non, bi_int, bi_abs, bi_lenT, bi_lenL, bi_tupL, bi_tupT, bi_lstT, bi_lstL, bi_lstF, ixT, ixL, mk_f, mk_t, isiD, wp_ok, wp_bind, wp_nox, wp_lift_some, wp_liftB_some]
      refine wp_some hC1 (by simp) (by simp) fun x hx S2 hC2 => ?_
      exact hQ _ _ (vOk_mono (Nat.zero_le _) (value_leaf1 x hx)) hC2
    · simp [↓ex_fors, ev, evs, evC, evP, evI, ex, exs, Res.bind_ok, Res.bind_exc, Res.bind_stuck, Res.nox_ok, lift_some, liftB_some, setT, setSlots, wipe, b_add, b_sub, c_lt, c_le, c_gt, c_ge, c_eqI, c_neI, c_eqS, c_neS, c_eqB, c_neB, t_bl, t_int, t_tup, t_lst, t_non, bi_int, bi_abs, bi_lenT, bi_lenL, bi_tupL, bi_tupT, bi_lstT, bi_lstL, bi_lstF, ixT, ixL, mk_f, mk_t, isiD, wp_ok, wp_bind, wp_nox, wp_lift_some, wp_liftB_some]
      refine wp_roll hC1 (by omega) (by omega) fun r S2 h0 h1 hC2 => ?_
      exact hQ _ _ (vOk_mono (Nat.zero_le _) (value_leaf2 h0 h1)) hC2
    · simp [↓ex_fors, ev, evs, evC, evP, evI, ex, exs, Res.bind_ok, Res.bind_exc, Res.bind_stuck, Res.nox_ok, lift_some, liftB_some, setT, setSlots, wipe, b_add, b_sub, c_lt, c_le, c_gt, c_ge, c_eqI, c_neI, c_eqS, c_neS, c_eqB, c_neB, t_bl, t_int, t_tup, t_lst, t_non, bi_int, bi_abs, bi_lenT, bi_lenL, bi_tupL, bi_tupT, bi_lstT, bi_lstL, bi_lstF, ixT, ixL, mk_f, mk_t, isiD, wp_ok, wp_bind, wp_nox, wp_lift_some, wp_liftB_some]
      exact hQ _ _ (vOk_mono (Nat.zero_le _) (by decide +kernel)) hC1
    · simp [↓ex_fors, ev, evs, evC, evP, evI, ex, exs, Res.bind_ok, Res.bind_exc, Res.bind_stuck, Res.nox_ok, lift_some, liftB_some, setT, setSlots, wipe, b_add, b_sub, c_lt, c_le, c_gt, c_ge, c_eqI, c_neI, c_eqS, c_neS, c_eqB, c_neB, t_bl, t_int, t_tup, t_lst, t_non, bi_int, bi_abs, bi_lenT, bi_lenL, bi_tupL, bi_tupT, bi_lstT, bi_lstL, bi_lstF, ixT, ixL, mk_f, mk_t, isiD, wp_ok, wp_bind, wp_nox, wp_lift_some, wp_liftB_some, e1]
      refine wp_roll hC1 (by omega) (by omega) fun r S2 h0 h1 hC2 => ?_
      have hr : (-4611686018427387904 : Int) ≤ r ∧ r < 4611686018427387904 ∧ r ≤ 16777216 := ⟨by omega, by omega, by omega⟩
      simp [↓ex_fors, ev, evs, evC, evP, evI, ex, exs, Res.bind_ok, Res.bind_exc, Res.bind_stuck, Res.nox_ok, lift_some, liftB_some, setT, setSlots, wipe, b_add, b_sub, c_lt, c_le, c_gt, c_ge, c_eqI, c_neI, c_eqS, c_neS, c_eqB, c_neB, t_bl, t_int, t_tup, t_lst, t_non, bi_int, bi_abs, bi_lenT, bi_lenL, bi_tupL, bi_tupT, bi_lstT, bi_lstL, bi_lstF, ixT, ixL, mk_f, mk_t, isiD, wp_ok, wp_bind, wp_nox, wp_lift_some, wp_liftB_some, hr]
      refine (wp_lcGo (P := fun d => vOk n d = true) (I := Cup) ?_ hC2 (by simp)).mono ?_
      · intro x hx S3 hC3
        refine ⟨_, rfl, rfl, ?_⟩
        simp [↓ex_fors, ev, evs, evC, evP, evI, ex, exs, Res.bind_ok, Res.bind_exc, Res.bind_stuck, Res.nox_ok, lift_some, liftB_some, setT, setSlots, wipe, b_add, b_sub, c_lt, c_le, c_gt, c_ge, c_eqI, c_neI, c_eqS, c_neS, c_eqB, c_neB, t_bl, t_int, t_tup, t_lst, t_non, bi_int, bi_abs, bi_lenT, bi_lenL, bi_tupL, bi_tupT, bi_lstT, bi_lstL, bi_lstF, ixT, ixL, mk_f, mk_t, isiD, wp_ok, wp_bind, wp_nox, wp_lift_some, wp_liftB_some, e1]
        exact ih (by omega) hC3 fun d S' hd hC' => ⟨hC', hd⟩
      · rintro ys S3 ⟨hC3, hy, hl⟩
        simp [↓ex_fors, ev, evs, evC, evP, evI, ex, exs, Res.bind_ok, Res.bind_exc, Res.bind_stuck, Res.nox_ok, lift_some, liftB_some, setT, setSlots, wipe, b_add, b_sub, c_lt, c_le, c_gt, c_ge, c_eqI, c_neI, c_eqS, c_neS, c_eqB, c_neB, t_bl, t_int, t_tup, t_lst, t_non, bi_int, bi_abs, bi_lenT, bi_lenL, bi_tupL, bi_tupT, bi_lstT, bi_lstL, bi_lstF, ixT, ixL, mk_f, mk_t, isiD, wp_ok, wp_bind, wp_nox, wp_lift_some, wp_liftB_some, rngD_len] at hl ⊢
        exact hQ _ _ (vOk_tup (by omega) hy) hC3
    · simp [↓ex_fors, ev, evs, evC, evP, evI, ex, exs, Res.bind_ok, Res.bind_exc, Res.bind_stuck, Res.nox_ok, lift_some, liftB_some, setT, setSlots, wipe, b_add, b_sub, c_lt, c_le, c_gt, c_ge, c_eqI, c_neI, c_eqS, c_neS, c_eqB, c_neB, t_bl, t_int, t_tup, t_lst, t_non, bi_int, bi_abs, bi_lenT, bi_lenL, bi_tupL, bi_tupT, bi_lstT, bi_lstL, bi_lstF, ixT, ixL, mk_f, mk_t, isiD, wp_ok, wp_bind, wp_nox, wp_lift_some, wp_liftB_some, e1]
      refine wp_roll hC1 (by omega) (by omega) fun r S2 h0 h1 hC2 => ?_
      have hr : (-4611686018427387904 : Int) ≤ r ∧ r < 4611686018427387904 ∧ r ≤ 16777216 := ⟨by omega, by omega, by omega⟩
      simp [↓ex_fors, ev, evs, evC, evP, evI, ex, exs, Res.bind_ok, Res.bind_exc, Res.bind_stuck, Res.nox_ok, lift_some, liftB_some, setT, setSlots, wipe, b_add, b_sub, c_lt, c_le, c_gt, c_ge, c_eqI, c_neI, c_eqS, c_neS, c_eqB, c_neB, t_bl, t_int, t_tup, t_lst, t_non, bi_int, bi_abs, bi_lenT, bi_lenL, bi_tupL, bi_tupT, bi_lstT, bi_lstL, bi_lstF, ixT, ixL, mk_f, mk_t, isiD, wp_ok, wp_bind, wp_nox, wp_lift_some, wp_liftB_some, hr]
      refine (wp_lcGo (P := fun d => vOk n d = true) (I := Cup) ?_ hC2 (by simp)).mono ?_
      · intro x hx S3 hC3
        refine ⟨_, rfl, rfl, ?_⟩
        simp [↓ex_fors, ev, evs, evC, evP, evI, ex, exs, Res.bind_ok, Res.bind_exc, Res.bind_stuck, Res.nox_ok, lift_some, liftB_some, setT, setSlots, wipe, b_add, b_sub, c_lt, c_le, c_gt, c_ge, c_eqI, c_neI, c_eqS, c_neS, c_eqB, c_neB, t_bl, t_int, t_tup, t_lst, t_non, bi_int, bi_abs, bi_lenT, bi_lenL, bi_tupL, bi_tupT, bi_lstT, bi_lstL, bi_lstF, ixT, ixL, mk_f, mk_t, isiD, wp_ok, wp_bind, wp_nox, wp_lift_some, wp_liftB_some, e1]
        exact ih (by omega) hC3 fun d S' hd hC' => ⟨hC', hd⟩
      · rintro ys S3 ⟨hC3, hy, hl⟩
        simp [↓ex_fors, ev, evs, evC, evP, evI, ex, exs, Res.bind_ok, Res.bind_exc, Res.bind_stuck, Res.nox_ok, lift_some, liftB_some, setT, setSlots, wipe, b_add, b_sub, c_lt, c_le, c_gt, c_ge, c_eqI, c_neI, c_eqS, c_neS, c_eqB, c_neB, t_bl, t_int, t_tup, t_lst, t_non, bi_int, bi_abs, bi_lenT, bi_lenL, bi_tupL, bi_tupT, bi_lstT, bi_lstL, bi_lstF, ixT, ixL, mk_f, mk_t, isiD, wp_ok, wp_bind, wp_nox, wp_lift_some, wp_liftB_some, rngD_len] at hl ⊢
        exact hQ _ _ (vOk_tup (by omega) hy) hC3
    · simp [↓ex_fors, ev, evs, evC, evP, evI, ex, exs, Res.bind_ok, Res.bind_exc, Res.bind_stuck, Res.nox_ok, lift_some, liftB_some, setT, setSlots, wipe, b_add, b_sub, c_lt, c_le, c_gt, c_ge, c_eqI, c_neI, c_eqS, c_neS, c_eqB, c_neB, t_bl, t_int, t_tup, t_lst, t_non, bi_int, bi_abs, bi_lenT, bi_lenL, bi_tupL, bi_tupT, bi_lstT, bi_lstL, bi_lstF, ixT, ixL, mk_f, mk_t, isiD, wp_ok, wp_bind, wp_nox, wp_lift_some, wp_liftB_some, e1]
      refine ih (by omega) hC1 fun d1 S2 hd1 hC2 => ?_
      refine ih (by omega) hC2 fun d2 S3 hd2 hC3 => ?_
      exact hQ _ _ (vOk_pair hd1 hd2) hC3
theorem wp_cup {k : Nat} {ns : List Int} (hl : ns.length ≤ 63) {Q : D → Store → Prop} (hQ : ∀ S', Cup S' → Q (.ref 0) S') : Wp (callF G (k + 1) i_law_cup [.fro ns] []) Q := by
  rw [callF_s G_law_cup k rfl]
  have e1 : (ns.map D.int).length + ([D.int 0] : List D).length ≤ line := by show _ ≤ 16777216; simp; omega
  have e2 : ∃ c : Int, atI (ns.map D.int ++ [D.int 0]) 0 = some (.int c) := by
    cases ns with
    | nil => exact ⟨0, rfl⟩
    | cons n ns => exact ⟨n, atI0 _ _⟩
  obtain ⟨c, e2⟩ := e2
  have hc : 0 ≤ (if c < 0 then -c else c) := by split <;> omega
  simp [↓ex_fors, ev, evs, evC, evP, evI, ex, exs, Res.bind_ok, Res.bind_exc, Res.bind_stuck, Res.nox_ok, lift_some, liftB_some, setT, setSlots, wipe, b_add, b_sub, c_lt, c_le, c_gt, c_ge, c_eqI, c_neI, c_eqS, c_neS, c_eqB, c_neB, t_bl, t_int, t_tup, t_lst, t_non, bi_int, bi_abs, bi_lenT, bi_lenL, bi_tupL, bi_tupT, bi_lstT, bi_lstL, bi_lstF, ixT, ixL, mk_f, mk_t, isiD, wp_ok, wp_bind, wp_nox, wp_lift_some, wp_liftB_some, m_law_cup, b_addL _ _ e1, e2, p18]
  generalize (if c < 0 then -c else c) = a at *
  by_cases h : 1000000000000000000 ≤ a
  · simp [↓ex_fors, ev, evs, evC, evP, evI, ex, exs, Res.bind_ok, Res.bind_exc, Res.bind_stuck, Res.nox_ok, lift_some, liftB_some, setT, setSlots, wipe, b_add, b_sub, c_lt, c_le, c_gt, c_ge, c_eqI, c_neI, c_eqS, c_neS, c_eqB, c_neB, t_bl, t_int, t_tup, t_lst, t_non, bi_int, bi_abs, bi_lenT, bi_lenL, bi_tupL, bi_tupT, bi_lstT, bi_lstL, bi_lstF, ixT, ixL, mk_f, mk_t, isiD, wp_ok, wp_bind, wp_nox, wp_lift_some, wp_liftB_some, h, b_div, b_mod, b_mulR]
    exact hQ _ ⟨_, _, _, rfl, Int.ediv_nonneg hc (by decide)⟩
  · simp [↓ex_fors, ev, evs, evC, evP, evI, ex, exs, Res.bind_ok, Res.bind_exc, Res.bind_stuck, Res.nox_ok, lift_some, liftB_some, setT, setSlots, wipe, b_add, b_sub, c_lt, c_le, c_gt, c_ge, c_eqI, c_neI, c_eqS, c_neS, c_eqB, c_neB, t_bl, t_int, t_tup, t_lst, t_non, bi_int, bi_abs, bi_lenT, bi_lenL, bi_tupL, bi_tupT, bi_lstT, bi_lstL, bi_lstF, ixT, ixL, mk_f, mk_t, isiD, wp_ok, wp_bind, wp_nox, wp_lift_some, wp_liftB_some, h, b_div, b_mod, b_mulR]
    exact hQ _ ⟨_, _, _, rfl, by decide⟩
end Ev

set_option Elab.async false
set_option linter.all false
set_option maxRecDepth 100000
set_option maxHeartbeats 4000000
namespace Ev
variable {k : Nat} {S : Store}
theorem e_whole (d : D) (hd : gd d = true) (lo hi : Int) : callF G (k + 1) i_is_whole [d, .int lo, .int hi] S = .ok (.bl (isWhole d lo hi)) S := by
  rw [callF_s G_is_whole k rfl]
  cases d <;> first | (cases hd; done) | simp [↓ex_fors, ev, evs, evC, evP, evI, ex, exs, Res.bind_ok, Res.bind_exc, Res.bind_stuck, Res.nox_ok, lift_some, liftB_some, setT, setSlots, wipe, b_add, b_sub, c_lt, c_le, c_gt, c_ge, c_eqI, c_neI, c_eqS, c_neS, c_eqB, c_neB, t_bl, t_int, t_tup, t_lst, t_non, bi_int, bi_abs, bi_lenT, bi_lenL, bi_tupL, bi_tupT, bi_lstT, bi_lstL, bi_lstF, ixT, ixL, mk_f, mk_t, isiD, wp_ok, wp_bind, wp_nox, wp_lift_some, wp_liftB_some, m_is_whole, isWhole]
  rename_i i
  by_cases h : lo ≤ i <;> simp [h, Res.bind_ok]
theorem e_tuple (d : D) (hd : gd d = true) (lo hi : Int) : callF G (k + 1) i_is_tuple_of [d, .int lo, .int hi] S = .ok (.bl (isTup d lo hi)) S := by
  rw [callF_s G_is_tuple_of k rfl]
  cases d <;> first | (cases hd; done) | simp [↓ex_fors, ev, evs, evC, evP, evI, ex, exs, Res.bind_ok, Res.bind_exc, Res.bind_stuck, Res.nox_ok, lift_some, liftB_some, setT, setSlots, wipe, b_add, b_sub, c_lt, c_le, c_gt, c_ge, c_eqI, c_neI, c_eqS, c_neS, c_eqB, c_neB, t_bl, t_int, t_tup, t_lst, t_non, bi_int, bi_abs, bi_lenT, bi_lenL, bi_tupL, bi_tupT, bi_lstT, bi_lstL, bi_lstF, ixT, ixL, mk_f, mk_t, isiD, wp_ok, wp_bind, wp_nox, wp_lift_some, wp_liftB_some, m_is_tuple_of, isTup]
  rename_i xs
  by_cases h : lo ≤ xs.length <;> simp [h, Res.bind_ok]
theorem e_headed (d : D) (hd : gd d = true) (lo hi : Int) (h1 : 1 ≤ lo) : callF G (k + 2) i_is_headed [d, .int lo, .int hi] S = .ok (.bl (isHd d lo hi)) S := by
  rw [callF_s G_is_headed (k + 1) rfl]
  simp [↓ex_fors, ev, evs, evC, evP, evI, ex, exs, Res.bind_ok, Res.bind_exc, Res.bind_stuck, Res.nox_ok, lift_some, liftB_some, setT, setSlots, wipe, b_add, b_sub, c_lt, c_le, c_gt, c_ge, c_eqI, c_neI, c_eqS, c_neS, c_eqB, c_neB, t_bl, t_int, t_tup, t_lst, t_non, bi_int, bi_abs, bi_lenT, bi_lenL, bi_tupL, bi_tupT, bi_lstT, bi_lstL, bi_lstF, ixT, ixL, mk_f, mk_t, isiD, wp_ok, wp_bind, wp_nox, wp_lift_some, wp_liftB_some, m_is_headed, e_tuple d hd]
  cases d <;> first | (cases hd; done) | simp [↓ex_fors, ev, evs, evC, evP, evI, ex, exs, Res.bind_ok, Res.bind_exc, Res.bind_stuck, Res.nox_ok, lift_some, liftB_some, setT, setSlots, wipe, b_add, b_sub, c_lt, c_le, c_gt, c_ge, c_eqI, c_neI, c_eqS, c_neS, c_eqB, c_neB, t_bl, t_int, t_tup, t_lst, t_non, bi_int, bi_abs, bi_lenT, bi_lenL, bi_tupL, bi_tupT, bi_lstT, bi_lstL, bi_lstF, ixT, ixL, mk_f, mk_t, isiD, wp_ok, wp_bind, wp_nox, wp_lift_some, wp_liftB_some, isTup, isHd]
  rename_i xs
  cases xs with
  | nil =>
    have : ¬ lo ≤ 0 := by omega
    simp [this, Res.bind_ok]
  | cons x r =>
    simp only [gd, gdL, Bool.and_eq_true] at hd
    by_cases h : lo ≤ r.length + 1
    · by_cases h' : (r.length + 1 : Int) ≤ hi
      · simp [h, h', Res.bind_ok, ixT, atI0, lift_some]
        cases x <;> first | (cases hd.1; done) | simp [isiD, liftB_some, h, h', Res.bind_ok]
      · simp [h, h', Res.bind_ok]
        cases x <;> simp [h']
    · simp [h, Res.bind_ok]
      cases x <;> simp [h]
theorem e_text (d : D) (hd : gd d = true) (fi be : List Nat) : callF G (k + 1) i_is_text [d, .str fi, .str be] S = .ok (.bl (isText d fi be)) S := by
  rw [callF_s G_is_text k rfl]
  cases d <;> first | (cases hd; done) | simp [↓ex_fors, ev, evs, evC, evP, evI, ex, exs, Res.bind_ok, Res.bind_exc, Res.bind_stuck, Res.nox_ok, lift_some, liftB_some, setT, setSlots, wipe, b_add, b_sub, c_lt, c_le, c_gt, c_ge, c_eqI, c_neI, c_eqS, c_neS, c_eqB, c_neB, t_bl, t_int, t_tup, t_lst, t_non, bi_int, bi_abs, bi_lenT, bi_lenL, bi_tupL, bi_tupT, bi_lstT, bi_lstL, bi_lstF, ixT, ixL, mk_f, mk_t, isiD, wp_ok, wp_bind, wp_nox, wp_lift_some, wp_liftB_some, m_is_text, isText]
  rename_i s
  have hl : s.length ≤ 1000 := by simpa [gd] using hd
  have hl2 : s.length ≤ line := by show s.length ≤ 16777216; omega
  cases s with
  | nil => simp [↓ex_fors, ev, evs, evC, evP, evI, ex, exs, Res.bind_ok, Res.bind_exc, Res.bind_stuck, Res.nox_ok, lift_some, liftB_some, setT, setSlots, wipe, b_add, b_sub, c_lt, c_le, c_gt, c_ge, c_eqI, c_neI, c_eqS, c_neS, c_eqB, c_neB, t_bl, t_int, t_tup, t_lst, t_non, bi_int, bi_abs, bi_lenT, bi_lenL, bi_tupL, bi_tupT, bi_lstT, bi_lstL, bi_lstF, ixT, ixL, mk_f, mk_t, isiD, wp_ok, wp_bind, wp_nox, wp_lift_some, wp_liftB_some, bi_lenS _ _ hl2]
  | cons c s =>
    have lS : ∀ S : Store, evBi .len [.str (c :: s)] S = some (.int (c :: s).length) := fun S => bi_lenS _ S hl2
    have iS : ∀ (i : Int) (S : Store), evIx (.str (c :: s)) (.int i) S = match atI (c :: s) i with | some c => some (.str [c]) | none => none := fun i S => ixS _ i S hl2
    simp at hl
    have e3 : (1 : Int) ≤ (s.length : Int) + 1 := by omega
    by_cases h8 : s.length ≤ 7
    · have e4 : (s.length : Int) + 1 ≤ 8 := by omega
      have e5 : s.length ≤ 16777216 := by omega
      simp [↓ex_fors, ev, evs, evC, evP, evI, ex, exs, Res.bind_ok, Res.bind_exc, Res.bind_stuck, Res.nox_ok, lift_some, liftB_some, setT, setSlots, wipe, b_add, b_sub, c_lt, c_le, c_gt, c_ge, c_eqI, c_neI, c_eqS, c_neS, c_eqB, c_neB, t_bl, t_int, t_tup, t_lst, t_non, bi_int, bi_abs, bi_lenT, bi_lenL, bi_tupL, bi_tupT, bi_lstT, bi_lstL, bi_lstF, ixT, ixL, mk_f, mk_t, isiD, wp_ok, wp_bind, wp_nox, wp_lift_some, wp_liftB_some, lS, iS, e3, e4, atI0, c_inS, h8, sl1S c s (by show s.length < 16777216; omega), seqOf, e5]
      by_cases hc : c ∈ fi
      · simp [↓ex_fors, ev, evs, evC, evP, evI, ex, exs, Res.bind_ok, Res.bind_exc, Res.bind_stuck, Res.nox_ok, lift_some, liftB_some, setT, setSlots, wipe, b_add, b_sub, c_lt, c_le, c_gt, c_ge, c_eqI, c_neI, c_eqS, c_neS, c_eqB, c_neB, t_bl, t_int, t_tup, t_lst, t_non, bi_int, bi_abs, bi_lenT, bi_lenL, bi_tupL, bi_tupT, bi_lstT, bi_lstL, bi_lstF, ixT, ixL, mk_f, mk_t, isiD, wp_ok, wp_bind, wp_nox, wp_lift_some, wp_liftB_some, hc]
        rw [lcGo_map (g := fun d => match d with
          | .str [c] => .bl (decide (c ∈ be))
          | _ => .non)]
        · have : ((s.map fun c => D.str [c]).map fun d => match d with
            | .str [c] => D.bl (decide (c ∈ be))
            | _ => .non) = s.map fun x => D.bl (decide (x ∈ be)) := by simp
          simp only [List.nil_append, this]
          simp [↓ex_fors, ev, evs, evC, evP, evI, ex, exs, Res.bind_ok, Res.bind_exc, Res.bind_stuck, Res.nox_ok, lift_some, liftB_some, setT, setSlots, wipe, b_add, b_sub, c_lt, c_le, c_gt, c_ge, c_eqI, c_neI, c_eqS, c_neS, c_eqB, c_neB, t_bl, t_int, t_tup, t_lst, t_non, bi_int, bi_abs, bi_lenT, bi_lenL, bi_tupL, bi_tupT, bi_lstT, bi_lstL, bi_lstF, ixT, ixL, mk_f, mk_t, isiD, wp_ok, wp_bind, wp_nox, wp_lift_some, wp_liftB_some, bi_all, boolsOf_map]
        · intro x hx
          obtain ⟨c', _, rfl⟩ := List.mem_map.mp hx
          exact ⟨_, rfl, rfl, by simp [↓ex_fors, ev, evs, evC, evP, evI, ex, exs, Res.bind_ok, Res.bind_exc, Res.bind_stuck, Res.nox_ok, lift_some, liftB_some, setT, setSlots, wipe, b_add, b_sub, c_lt, c_le, c_gt, c_ge, c_eqI, c_neI, c_eqS, c_neS, c_eqB, c_neB, t_bl, t_int, t_tup, t_lst, t_non, bi_int, bi_abs, bi_lenT, bi_lenL, bi_tupL, bi_tupT, bi_lstT, bi_lstL, bi_lstF, ixT, ixL, mk_f, mk_t, isiD, wp_ok, wp_bind, wp_nox, wp_lift_some, wp_liftB_some, c_inS]⟩
      · simp [↓ex_fors, ev, evs, evC, evP, evI, ex, exs, Res.bind_ok, Res.bind_exc, Res.bind_stuck, Res.nox_ok, lift_some, liftB_some, setT, setSlots, wipe, b_add, b_sub, c_lt, c_le, c_gt, c_ge, c_eqI, c_neI, c_eqS, c_neS, c_eqB, c_neB, t_bl, t_int, t_tup, t_lst, t_non, bi_int, bi_abs, bi_lenT, bi_lenL, bi_tupL, bi_tupT, bi_lstT, bi_lstL, bi_lstF, ixT, ixL, mk_f, mk_t, isiD, wp_ok, wp_bind, wp_nox, wp_lift_some, wp_liftB_some, hc]
    · have e4 : ¬ (s.length : Int) + 1 ≤ 8 := by omega
      simp [↓ex_fors, ev, evs, evC, evP, evI, ex, exs, Res.bind_ok, Res.bind_exc, Res.bind_stuck, Res.nox_ok, lift_some, liftB_some, setT, setSlots, wipe, b_add, b_sub, c_lt, c_le, c_gt, c_ge, c_eqI, c_neI, c_eqS, c_neS, c_eqB, c_neB, t_bl, t_int, t_tup, t_lst, t_non, bi_int, bi_abs, bi_lenT, bi_lenL, bi_tupL, bi_tupT, bi_lstT, bi_lstL, bi_lstF, ixT, ixL, mk_f, mk_t, isiD, wp_ok, wp_bind, wp_nox, wp_lift_some, wp_liftB_some, lS, e3, e4, h8]
theorem e_word (d : D) (hd : gd d = true) : callF G (k + 2) i_is_word [d] S = .ok (.bl (isWord d)) S := by
  rw [callF_s G_is_word (k + 1) rfl]
  simp [↓ex_fors, ev, evs, evC, evP, evI, ex, exs, Res.bind_ok, Res.bind_exc, Res.bind_stuck, Res.nox_ok, lift_some, liftB_some, setT, setSlots, wipe, b_add, b_sub, c_lt, c_le, c_gt, c_ge, c_eqI, c_neI, c_eqS, c_neS, c_eqB, c_neB, t_bl, t_int, t_tup, t_lst, t_non, bi_int, bi_abs, bi_lenT, bi_lenL, bi_tupL, bi_tupT, bi_lstT, bi_lstL, bi_lstF, ixT, ixL, mk_f, mk_t, isiD, wp_ok, wp_bind, wp_nox, wp_lift_some, wp_liftB_some, m_is_word, e_text d hd]
  rfl
end Ev

set_option Elab.async false
set_option linter.all false
set_option maxRecDepth 100000
set_option maxHeartbeats 4000000
namespace Ev
variable {k : Nat} {S : Store}
theorem e_plain (s : List Nat) (r : List D) (hd : gdL r = true) : callF G (k + 3) i_fits_plain [.tup (.str s :: r)] S = .ok (.bl (match r with
    | [x] => if s = [110, 117, 109, 98, 101, 114] then isWhole x (-536870912) 536870911 else if s = [97, 116, 111, 109] then isWord x else if s = [112, 114, 111, 99, 101, 115, 115] then isWhole x 0 7 else false
    | _ => false)) S := by
  rw [callF_s G_fits_plain (k + 2) rfl]
  match r with
  | [] => simp [↓ex_fors, ev, evs, evC, evP, evI, ex, exs, Res.bind_ok, Res.bind_exc, Res.bind_stuck, Res.nox_ok, lift_some, liftB_some, setT, setSlots, wipe, b_add, b_sub, c_lt, c_le, c_gt, c_ge, c_eqI, c_neI, c_eqS, c_neS, c_eqB, c_neB, t_bl, t_int, t_tup, t_lst, t_non, bi_int, bi_abs, bi_lenT, bi_lenL, bi_tupL, bi_tupT, bi_lstT, bi_lstL, bi_lstF, ixT, ixL, mk_f, mk_t, isiD, wp_ok, wp_bind, wp_nox, wp_lift_some, wp_liftB_some, m_fits_plain]
  | x :: y :: r =>
    have : ¬ ((r.length : Int) + 1 + 1 + 1 = 2) := by omega
    simp [↓ex_fors, ev, evs, evC, evP, evI, ex, exs, Res.bind_ok, Res.bind_exc, Res.bind_stuck, Res.nox_ok, lift_some, liftB_some, setT, setSlots, wipe, b_add, b_sub, c_lt, c_le, c_gt, c_ge, c_eqI, c_neI, c_eqS, c_neS, c_eqB, c_neB, t_bl, t_int, t_tup, t_lst, t_non, bi_int, bi_abs, bi_lenT, bi_lenL, bi_tupL, bi_tupT, bi_lstT, bi_lstL, bi_lstF, ixT, ixL, mk_f, mk_t, isiD, wp_ok, wp_bind, wp_nox, wp_lift_some, wp_liftB_some, m_fits_plain, this]
  | [x] =>
    simp only [gdL, Bool.and_eq_true] at hd
    by_cases h1 : s = [110, 117, 109, 98, 101, 114]
    · subst h1
      simp [↓ex_fors, ev, evs, evC, evP, evI, ex, exs, Res.bind_ok, Res.bind_exc, Res.bind_stuck, Res.nox_ok, lift_some, liftB_some, setT, setSlots, wipe, b_add, b_sub, c_lt, c_le, c_gt, c_ge, c_eqI, c_neI, c_eqS, c_neS, c_eqB, c_neB, t_bl, t_int, t_tup, t_lst, t_non, bi_int, bi_abs, bi_lenT, bi_lenL, bi_tupL, bi_tupT, bi_lstT, bi_lstL, bi_lstF, ixT, ixL, mk_f, mk_t, isiD, wp_ok, wp_bind, wp_nox, wp_lift_some, wp_liftB_some, m_fits_plain, atI0, atI1, e_whole x hd.1]
    · by_cases h2 : s = [97, 116, 111, 109]
      · subst h2
        simp [↓ex_fors, ev, evs, evC, evP, evI, ex, exs, Res.bind_ok, Res.bind_exc, Res.bind_stuck, Res.nox_ok, lift_some, liftB_some, setT, setSlots, wipe, b_add, b_sub, c_lt, c_le, c_gt, c_ge, c_eqI, c_neI, c_eqS, c_neS, c_eqB, c_neB, t_bl, t_int, t_tup, t_lst, t_non, bi_int, bi_abs, bi_lenT, bi_lenL, bi_tupL, bi_tupT, bi_lstT, bi_lstL, bi_lstF, ixT, ixL, mk_f, mk_t, isiD, wp_ok, wp_bind, wp_nox, wp_lift_some, wp_liftB_some, m_fits_plain, atI0, atI1, e_word x hd.1]
      · by_cases h3 : s = [112, 114, 111, 99, 101, 115, 115]
        · subst h3
          simp [↓ex_fors, ev, evs, evC, evP, evI, ex, exs, Res.bind_ok, Res.bind_exc, Res.bind_stuck, Res.nox_ok, lift_some, liftB_some, setT, setSlots, wipe, b_add, b_sub, c_lt, c_le, c_gt, c_ge, c_eqI, c_neI, c_eqS, c_neS, c_eqB, c_neB, t_bl, t_int, t_tup, t_lst, t_non, bi_int, bi_abs, bi_lenT, bi_lenL, bi_tupL, bi_tupT, bi_lstT, bi_lstL, bi_lstF, ixT, ixL, mk_f, mk_t, isiD, wp_ok, wp_bind, wp_nox, wp_lift_some, wp_liftB_some, m_fits_plain, atI0, atI1, e_whole x hd.1]
        · simp [↓ex_fors, ev, evs, evC, evP, evI, ex, exs, Res.bind_ok, Res.bind_exc, Res.bind_stuck, Res.nox_ok, lift_some, liftB_some, setT, setSlots, wipe, b_add, b_sub, c_lt, c_le, c_gt, c_ge, c_eqI, c_neI, c_eqS, c_neS, c_eqB, c_neB, t_bl, t_int, t_tup, t_lst, t_non, bi_int, bi_abs, bi_lenT, bi_lenL, bi_tupL, bi_tupT, bi_lstT, bi_lstL, bi_lstF, ixT, ixL, mk_f, mk_t, isiD, wp_ok, wp_bind, wp_nox, wp_lift_some, wp_liftB_some, m_fits_plain, atI0, atI1, h1, h2, h3]
theorem e_inner_t (x : D) : callF G (k + 1) i_inner_of [.tup [.str [116, 117, 112, 108, 101], x]] S = .ok x S := by
  rw [callF_s G_inner_of k rfl]
  simp [↓ex_fors, ev, evs, evC, evP, evI, ex, exs, Res.bind_ok, Res.bind_exc, Res.bind_stuck, Res.nox_ok, lift_some, liftB_some, setT, setSlots, wipe, b_add, b_sub, c_lt, c_le, c_gt, c_ge, c_eqI, c_neI, c_eqS, c_neS, c_eqB, c_neB, t_bl, t_int, t_tup, t_lst, t_non, bi_int, bi_abs, bi_lenT, bi_lenL, bi_tupL, bi_tupT, bi_lstT, bi_lstL, bi_lstF, ixT, ixL, mk_f, mk_t, isiD, wp_ok, wp_bind, wp_nox, wp_lift_some, wp_liftB_some, m_inner_of, atI0, atI1]
theorem e_inner_p (x y : D) : callF G (k + 1) i_inner_of [.tup [.str [112, 97, 105, 114], x, y]] S = .ok (.tup [x, y]) S := by
  rw [callF_s G_inner_of k rfl]
  simp [↓ex_fors, ev, evs, evC, evP, evI, ex, exs, Res.bind_ok, Res.bind_exc, Res.bind_stuck, Res.nox_ok, lift_some, liftB_some, setT, setSlots, wipe, b_add, b_sub, c_lt, c_le, c_gt, c_ge, c_eqI, c_neI, c_eqS, c_neS, c_eqB, c_neB, t_bl, t_int, t_tup, t_lst, t_non, bi_int, bi_abs, bi_lenT, bi_lenL, bi_tupL, bi_tupT, bi_lstT, bi_lstL, bi_lstF, ixT, ixL, mk_f, mk_t, isiD, wp_ok, wp_bind, wp_nox, wp_lift_some, wp_liftB_some, m_inner_of, atI0, atI1, sl1T]
theorem e_linner_t (x : D) : callF G (k + 1) i_law_inner [.tup [.str [116, 117, 112, 108, 101], x]] S = .ok x S := by
  rw [callF_s G_law_inner k rfl]
  simp [↓ex_fors, ev, evs, evC, evP, evI, ex, exs, Res.bind_ok, Res.bind_exc, Res.bind_stuck, Res.nox_ok, lift_some, liftB_some, setT, setSlots, wipe, b_add, b_sub, c_lt, c_le, c_gt, c_ge, c_eqI, c_neI, c_eqS, c_neS, c_eqB, c_neB, t_bl, t_int, t_tup, t_lst, t_non, bi_int, bi_abs, bi_lenT, bi_lenL, bi_tupL, bi_tupT, bi_lstT, bi_lstL, bi_lstF, ixT, ixL, mk_f, mk_t, isiD, wp_ok, wp_bind, wp_nox, wp_lift_some, wp_liftB_some, m_law_inner, atI0, atI1]
theorem e_linner_p (x y : D) : callF G (k + 1) i_law_inner [.tup [.str [112, 97, 105, 114], x, y]] S = .ok (.tup [x, y]) S := by
  rw [callF_s G_law_inner k rfl]
  simp [↓ex_fors, ev, evs, evC, evP, evI, ex, exs, Res.bind_ok, Res.bind_exc, Res.bind_stuck, Res.nox_ok, lift_some, liftB_some, setT, setSlots, wipe, b_add, b_sub, c_lt, c_le, c_gt, c_ge, c_eqI, c_neI, c_eqS, c_neS, c_eqB, c_neB, t_bl, t_int, t_tup, t_lst, t_non, bi_int, bi_abs, bi_lenT, bi_lenL, bi_tupL, bi_tupT, bi_lstT, bi_lstL, bi_lstF, ixT, ixL, mk_f, mk_t, isiD, wp_ok, wp_bind, wp_nox, wp_lift_some, wp_liftB_some, m_law_inner, atI0, atI1, sl1T]
theorem e_linner_o (s : List Nat) (r : List D) (h1 : ¬ s = [116, 117, 112, 108, 101]) (h2 : ¬ s = [112, 97, 105, 114]) : callF G (k + 1) i_law_inner [.tup (.str s :: r)] S = .ok (.tup []) S := by
  rw [callF_s G_law_inner k rfl]
  simp [↓ex_fors, ev, evs, evC, evP, evI, ex, exs, Res.bind_ok, Res.bind_exc, Res.bind_stuck, Res.nox_ok, lift_some, liftB_some, setT, setSlots, wipe, b_add, b_sub, c_lt, c_le, c_gt, c_ge, c_eqI, c_neI, c_eqS, c_neS, c_eqB, c_neB, t_bl, t_int, t_tup, t_lst, t_non, bi_int, bi_abs, bi_lenT, bi_lenL, bi_tupL, bi_tupT, bi_lstT, bi_lstL, bi_lstF, ixT, ixL, mk_f, mk_t, isiD, wp_ok, wp_bind, wp_nox, wp_lift_some, wp_liftB_some, m_law_inner, atI0, h1, h2]
end Ev

set_option Elab.async false
set_option linter.all false
set_option maxRecDepth 100000
set_option maxHeartbeats 4000000
namespace Ev
variable {k : Nat} {S : Store}
/-- the six shapes of values -/
inductive Bt : D → Prop
  | nil : Bt (.tup [.str [110, 105, 108]])
  | num (i : Int) : Bt (.tup [.str [110, 117, 109, 98, 101, 114], .int i])
  | atom (z : List Nat) : Bt (.tup [.str [97, 116, 111, 109], .str z])
  | proc (i : Int) : Bt (.tup [.str [112, 114, 111, 99, 101, 115, 115], .int i])
  | tup (ys : List D) (h : ∀ y ∈ ys, built y = true) : Bt (.tup [.str [116, 117, 112, 108, 101], .tup ys])
  | pair (x y : D) (hx : built x = true) (hy : built y = true) : Bt (.tup [.str [112, 97, 105, 114], x, y])
theorem bt_of {d : D} (h : built d = true) : Bt d := by
  unfold built at h
  split at h
  · rename_i s
    have : s = [110, 105, 108] := by simpa using h
    subst this
    exact .nil
  · rename_i s x
    by_cases h1 : s = [110, 117, 109, 98, 101, 114]
    · subst h1; simp at h
      cases x <;> first | exact .num _ | (simp [isWhole] at h; done)
    · by_cases h2 : s = [97, 116, 111, 109]
      · subst h2; simp at h
        cases x <;> first | exact .atom _ | (simp [isWord, isText] at h; done)
      · by_cases h3 : s = [112, 114, 111, 99, 101, 115, 115]
        · subst h3; simp at h
          cases x <;> first | exact .proc _ | (simp [isWhole] at h; done)
        · by_cases h4 : s = [116, 117, 112, 108, 101]
          · subst h4; simp at h
            cases x <;> first | (cases h; done) | skip
            rename_i ys
            simp [builtT] at h
            exact .tup ys (builtL_iff.mp h.2)
          · simp [h1, h2, h3, h4] at h
  · rename_i s x y
    simp at h
    obtain ⟨⟨rfl, h1⟩, h2⟩ := h
    exact .pair x y h1 h2
  · cases h
def rank (s : List Nat) : Int := if s = [110, 117, 109, 98, 101, 114] then 0 else if s = [97, 116, 111, 109] then 1 else if s = [112, 114, 111, 99, 101, 115, 115] then 2 else if s = [116, 117, 112, 108, 101] then 3 else if s = [110, 105, 108] then 4 else 5
def cmpP : D → D → Int
  | .int a, .int b => b2n (decide (b < a)) - b2n (decide (a < b))
  | .str a, .str b => b2n (decide (b < a)) - b2n (decide (a < b))
  | _, _ => 0
mutual
/-- which stands first -/
def cmp : D → D → Int
  | .tup (.str s :: r), .tup (.str t :: u) => if s = t then (if s = [116, 117, 112, 108, 101] then cmpT r u else if s = [112, 97, 105, 114] then cmpL r u else cmpV r u) else if rank s < rank t then -1 else 1
  | _, _ => 0
def cmpV : List D → List D → Int
  | [x], [y] => cmpP x y
  | _, _ => 0
def cmpT : List D → List D → Int
  | x :: _, y :: _ => cmpU x y
  | _, _ => 0
def cmpU : D → D → Int
  | .tup xs, .tup ys => if xs.length = ys.length then cmpL xs ys else if xs.length < ys.length then -1 else 1
  | _, _ => 0
def cmpL : List D → List D → Int
  | x :: xs, y :: ys => if cmp x y = 0 then cmpL xs ys else cmp x y
  | _, _ => 0
end
theorem subB (a b : Bool) : evBin .sub (.bl a) (.bl b) = some (.int (b2n a - b2n b)) := rfl
theorem c_ltS (a b : List Nat) : evCmp .lt (.str a) (.str b) = some (decide (a < b)) := rfl
theorem c_gtS (a b : List Nat) : evCmp .gt (.str a) (.str b) = some (decide (b < a)) := rfl
theorem findS_s (z x : List Nat) (xs : List (List Nat)) : findS z (x :: xs) = if x = z then some 0 else (findS z xs).map (· + 1) := rfl
theorem seq_tup (xs : List D) : seqOf (.tup xs) = some xs := rfl
theorem for_cmp {K : Nat} {a b c e : D} : ∀ {xs ys : List D}, (∀ x ∈ xs, ∀ y ∈ ys, ∀ S : Store, callF G K i_compare_in [x, y] S = .ok (.int (cmp x y)) S) → ∀ (f g h : Option D) (S : Store),
    ∃ r, forGo (xs_ (callF G K) [.asg (.name 6) (.call i_compare_in [.var 4, .var 5]), .ifs (.cmp .ne (.var 6) (.con (.int 0))) [.ret (.var 6)] []]) (.names [4, 5]) (zipD xs ys) [some a, some b, some c, some e, f, g, h] S = .ok r S ∧
      (if cmpL xs ys = 0 then ∃ f g h, r = .nx [some a, some b, some c, some e, f, g, h] else r = .ret (.int (cmpL xs ys)))
  | [], ys, _, f, g, h, S => ⟨.nx [some a, some b, some c, some e, f, g, h], by simp only [zipD, forGo], by simp [cmpL]⟩
  | x :: xs, [], _, f, g, h, S => ⟨.nx [some a, some b, some c, some e, f, g, h], by simp only [zipD, forGo], by simp [cmpL]⟩
  | x :: xs, y :: ys, hh, f, g, h, S => by
    have h0 := hh x (List.mem_cons_self ..) y (List.mem_cons_self ..) S
    by_cases hc : cmp x y = 0
    · obtain ⟨r, e1, e2⟩ := for_cmp (K := K) (a := a) (b := b) (c := c) (e := e) (xs := xs) (ys := ys) (fun x hx y hy => hh x (List.mem_cons_of_mem _ hx) y (List.mem_cons_of_mem _ hy)) (some x) (some y) (some (.int 0)) S
      refine ⟨r, ?_, ?_⟩
      · unfold zipD forGo
        simp [xs_, ↓ex_fors, ev, evs, evC, evP, evI, ex, exs, Res.bind_ok, Res.bind_exc, Res.bind_stuck, Res.nox_ok, lift_some, liftB_some, setT, setSlots, wipe, b_add, b_sub, c_lt, c_le, c_gt, c_ge, c_eqI, c_neI, c_eqS, c_neS, c_eqB, c_neB, t_bl, t_int, t_tup, t_lst, t_non, bi_int, bi_abs, bi_lenT, bi_lenL, bi_tupL, bi_tupT, bi_lstT, bi_lstL, bi_lstF, ixT, ixL, mk_f, mk_t, isiD, wp_ok, wp_bind, wp_nox, wp_lift_some, wp_liftB_some, h0, hc]
        exact e1
      · simp only [cmpL, hc, if_true]
        exact e2
    · refine ⟨.ret (.int (cmp x y)), ?_, ?_⟩
      · unfold zipD forGo
        simp [xs_, ↓ex_fors, ev, evs, evC, evP, evI, ex, exs, Res.bind_ok, Res.bind_exc, Res.bind_stuck, Res.nox_ok, lift_some, liftB_some, setT, setSlots, wipe, b_add, b_sub, c_lt, c_le, c_gt, c_ge, c_eqI, c_neI, c_eqS, c_neS, c_eqB, c_neB, t_bl, t_int, t_tup, t_lst, t_non, bi_int, bi_abs, bi_lenT, bi_lenL, bi_tupL, bi_tupT, bi_lstT, bi_lstL, bi_lstF, ixT, ixL, mk_f, mk_t, isiD, wp_ok, wp_bind, wp_nox, wp_lift_some, wp_liftB_some, h0, hc]
      · simp [cmpL, hc]
theorem e_cmp : ∀ (n : Nat) (d e : D), dep d ≤ n → built d = true → built e = true → ∀ {k : Nat}, n + 3 ≤ k → ∀ S : Store, callF G k i_compare_in [d, e] S = .ok (.int (cmp d e)) S := by
  intro n
  induction n using Nat.strongRecOn with
  | _ n ih =>
    intro d e hn hd he k hk S
    obtain ⟨k, rfl⟩ : ∃ j, k = j + 3 := ⟨k - 3, by omega⟩
    rw [callF_s G_compare_in (k + 2) rfl]
    have bd := bt_of hd
    have be := bt_of he
    cases bd <;> cases be <;> first
      | (simp [↓ex_fors, ev, evs, evC, evP, evI, ex, exs, Res.bind_ok, Res.bind_exc, Res.bind_stuck, Res.nox_ok, lift_some, liftB_some, setT, setSlots, wipe, b_add, b_sub, c_lt, c_le, c_gt, c_ge, c_eqI, c_neI, c_eqS, c_neS, c_eqB, c_neB, t_bl, t_int, t_tup, t_lst, t_non, bi_int, bi_abs, bi_lenT, bi_lenL, bi_tupL, bi_tupT, bi_lstT, bi_lstL, bi_lstF, ixT, ixL, mk_f, mk_t, isiD, wp_ok, wp_bind, wp_nox, wp_lift_some, wp_liftB_some, m_compare_in, atI0, atI1, evIdxS, findS_s, cmp, rank, c_inT, areData, isData, eqAny, eqD_s, subB, c_ltS, c_gtS, cmpV, cmpP]; done)
      | skip
    · simp [↓ex_fors, ev, evs, evC, evP, evI, ex, exs, Res.bind_ok, Res.bind_exc, Res.bind_stuck, Res.nox_ok, lift_some, liftB_some, setT, setSlots, wipe, b_add, b_sub, c_lt, c_le, c_gt, c_ge, c_eqI, c_neI, c_eqS, c_neS, c_eqB, c_neB, t_bl, t_int, t_tup, t_lst, t_non, bi_int, bi_abs, bi_lenT, bi_lenL, bi_tupL, bi_tupT, bi_lstT, bi_lstL, bi_lstF, ixT, ixL, mk_f, mk_t, isiD, wp_ok, wp_bind, wp_nox, wp_lift_some, wp_liftB_some, m_compare_in, atI0, atI1, evIdxS, findS_s, cmp, rank, c_inT, areData, isData, eqAny, eqD_s, callF_s G_inner_of, m_inner_of, zipD, forGo, cmpV]
    · rename_i xs hx ys hy
      simp [↓ex_fors, ev, evs, evC, evP, evI, ex, exs, Res.bind_ok, Res.bind_exc, Res.bind_stuck, Res.nox_ok, lift_some, liftB_some, setT, setSlots, wipe, b_add, b_sub, c_lt, c_le, c_gt, c_ge, c_eqI, c_neI, c_eqS, c_neS, c_eqB, c_neB, t_bl, t_int, t_tup, t_lst, t_non, bi_int, bi_abs, bi_lenT, bi_lenL, bi_tupL, bi_tupT, bi_lstT, bi_lstL, bi_lstF, ixT, ixL, mk_f, mk_t, isiD, wp_ok, wp_bind, wp_nox, wp_lift_some, wp_liftB_some, m_compare_in, atI0, atI1, evIdxS, findS_s, cmp, cmpT, cmpU, rank, c_inT, areData, isData, eqAny, eqD_s, e_inner_t]
      by_cases hl : xs.length = ys.length
      · have hn1 : 1 ≤ n := by simp only [dep, depL] at hn; omega
        obtain ⟨r, e1, e2⟩ := for_cmp (K := k + 2) (a := .tup [.str [116, 117, 112, 108, 101], .tup xs]) (b := .tup [.str [116, 117, 112, 108, 101], .tup ys]) (c := .tup xs) (e := .tup ys) (xs := xs) (ys := ys) (fun x hxx y hyy S => ih (n - 1) (by omega) x y (by have := dep_tup hxx; simp only [dep, depL] at this hn ⊢; omega) (hx x hxx) (hy y hyy) (by omega) S) none none none S
        simp [↓ex_fors, ev, evs, evC, evP, evI, ex, exs, Res.bind_ok, Res.bind_exc, Res.bind_stuck, Res.nox_ok, lift_some, liftB_some, setT, setSlots, wipe, b_add, b_sub, c_lt, c_le, c_gt, c_ge, c_eqI, c_neI, c_eqS, c_neS, c_eqB, c_neB, t_bl, t_int, t_tup, t_lst, t_non, bi_int, bi_abs, bi_lenT, bi_lenL, bi_tupL, bi_tupT, bi_lstT, bi_lstL, bi_lstF, ixT, ixL, mk_f, mk_t, isiD, wp_ok, wp_bind, wp_nox, wp_lift_some, wp_liftB_some, hl, e1]
        by_cases hc : cmpL xs ys = 0
        · rw [if_pos hc] at e2
          obtain ⟨f, g, h, rfl⟩ := e2
          simp [↓ex_fors, ev, evs, evC, evP, evI, ex, exs, Res.bind_ok, Res.bind_exc, Res.bind_stuck, Res.nox_ok, lift_some, liftB_some, setT, setSlots, wipe, b_add, b_sub, c_lt, c_le, c_gt, c_ge, c_eqI, c_neI, c_eqS, c_neS, c_eqB, c_neB, t_bl, t_int, t_tup, t_lst, t_non, bi_int, bi_abs, bi_lenT, bi_lenL, bi_tupL, bi_tupT, bi_lstT, bi_lstL, bi_lstF, ixT, ixL, mk_f, mk_t, isiD, wp_ok, wp_bind, wp_nox, wp_lift_some, wp_liftB_some, hc]
        · rw [if_neg hc] at e2
          subst e2
          simp [↓ex_fors, ev, evs, evC, evP, evI, ex, exs, Res.bind_ok, Res.bind_exc, Res.bind_stuck, Res.nox_ok, lift_some, liftB_some, setT, setSlots, wipe, b_add, b_sub, c_lt, c_le, c_gt, c_ge, c_eqI, c_neI, c_eqS, c_neS, c_eqB, c_neB, t_bl, t_int, t_tup, t_lst, t_non, bi_int, bi_abs, bi_lenT, bi_lenL, bi_tupL, bi_tupT, bi_lstT, bi_lstL, bi_lstF, ixT, ixL, mk_f, mk_t, isiD, wp_ok, wp_bind, wp_nox, wp_lift_some, wp_liftB_some]
      · have hl' : ¬ ((xs.length : Int) = ys.length) := by omega
        by_cases h2 : xs.length < ys.length
        · simp [↓ex_fors, ev, evs, evC, evP, evI, ex, exs, Res.bind_ok, Res.bind_exc, Res.bind_stuck, Res.nox_ok, lift_some, liftB_some, setT, setSlots, wipe, b_add, b_sub, c_lt, c_le, c_gt, c_ge, c_eqI, c_neI, c_eqS, c_neS, c_eqB, c_neB, t_bl, t_int, t_tup, t_lst, t_non, bi_int, bi_abs, bi_lenT, bi_lenL, bi_tupL, bi_tupT, bi_lstT, bi_lstL, bi_lstF, ixT, ixL, mk_f, mk_t, isiD, wp_ok, wp_bind, wp_nox, wp_lift_some, wp_liftB_some, hl, hl', h2]
        · simp [↓ex_fors, ev, evs, evC, evP, evI, ex, exs, Res.bind_ok, Res.bind_exc, Res.bind_stuck, Res.nox_ok, lift_some, liftB_some, setT, setSlots, wipe, b_add, b_sub, c_lt, c_le, c_gt, c_ge, c_eqI, c_neI, c_eqS, c_neS, c_eqB, c_neB, t_bl, t_int, t_tup, t_lst, t_non, bi_int, bi_abs, bi_lenT, bi_lenL, bi_tupL, bi_tupT, bi_lstT, bi_lstL, bi_lstF, ixT, ixL, mk_f, mk_t, isiD, wp_ok, wp_bind, wp_nox, wp_lift_some, wp_liftB_some, hl, hl', h2]
    · rename_i x y hx hy x' y' hx' hy'
      have hn1 : 1 ≤ n := by simp only [dep, depL] at hn; omega
      have dx : dep x ≤ n - 1 := by simp only [dep, depL] at hn; omega
      have dy : dep y ≤ n - 1 := by simp only [dep, depL] at hn; omega
      simp [↓ex_fors, ev, evs, evC, evP, evI, ex, exs, Res.bind_ok, Res.bind_exc, Res.bind_stuck, Res.nox_ok, lift_some, liftB_some, setT, setSlots, wipe, b_add, b_sub, c_lt, c_le, c_gt, c_ge, c_eqI, c_neI, c_eqS, c_neS, c_eqB, c_neB, t_bl, t_int, t_tup, t_lst, t_non, bi_int, bi_abs, bi_lenT, bi_lenL, bi_tupL, bi_tupT, bi_lstT, bi_lstL, bi_lstF, ixT, ixL, mk_f, mk_t, isiD, wp_ok, wp_bind, wp_nox, wp_lift_some, wp_liftB_some, m_compare_in, atI0, atI1, evIdxS, findS_s, cmp, rank, c_inT, areData, isData, eqAny, eqD_s, e_inner_p]
      obtain ⟨r, e1, e2⟩ := for_cmp (K := k + 2) (a := .tup [.str [112, 97, 105, 114], x, y]) (b := .tup [.str [112, 97, 105, 114], x', y']) (c := .tup [x, y]) (e := .tup [x', y']) (xs := [x, y]) (ys := [x', y']) (fun z hz u hu S => by
        have bu : built u = true := by
          rcases List.mem_cons.mp hu with e | hu
          · rw [e]; exact hx'
          · rw [List.mem_singleton.mp hu]; exact hy'
        rcases List.mem_cons.mp hz with e | hz
        · rw [e]; exact ih (n - 1) (by omega) x u dx hx bu (by omega) S
        · rw [List.mem_singleton.mp hz]; exact ih (n - 1) (by omega) y u dy hy bu (by omega) S) none none none S
      rw [e1]
      by_cases hc : cmpL [x, y] [x', y'] = 0
      · rw [if_pos hc] at e2
        obtain ⟨f, g, h, rfl⟩ := e2
        simp [↓ex_fors, ev, evs, evC, evP, evI, ex, exs, Res.bind_ok, Res.bind_exc, Res.bind_stuck, Res.nox_ok, lift_some, liftB_some, setT, setSlots, wipe, b_add, b_sub, c_lt, c_le, c_gt, c_ge, c_eqI, c_neI, c_eqS, c_neS, c_eqB, c_neB, t_bl, t_int, t_tup, t_lst, t_non, bi_int, bi_abs, bi_lenT, bi_lenL, bi_tupL, bi_tupT, bi_lstT, bi_lstL, bi_lstF, ixT, ixL, mk_f, mk_t, isiD, wp_ok, wp_bind, wp_nox, wp_lift_some, wp_liftB_some, hc]
      · rw [if_neg hc] at e2
        subst e2
        simp [↓ex_fors, ev, evs, evC, evP, evI, ex, exs, Res.bind_ok, Res.bind_exc, Res.bind_stuck, Res.nox_ok, lift_some, liftB_some, setT, setSlots, wipe, b_add, b_sub, c_lt, c_le, c_gt, c_ge, c_eqI, c_neI, c_eqS, c_neS, c_eqB, c_neB, t_bl, t_int, t_tup, t_lst, t_non, bi_int, bi_abs, bi_lenT, bi_lenL, bi_tupL, bi_tupT, bi_lstT, bi_lstL, bi_lstF, ixT, ixL, mk_f, mk_t, isiD, wp_ok, wp_bind, wp_nox, wp_lift_some, wp_liftB_some]
theorem cmp_refl : ∀ (n : Nat) (d : D), dep d ≤ n → built d = true → cmp d d = 0 := by
  intro n
  induction n using Nat.strongRecOn with
  | _ n ih =>
    intro d hn hb
    have hL : ∀ xs : List D, (∀ x ∈ xs, cmp x x = 0) → cmpL xs xs = 0 := by
      intro xs
      induction xs with
      | nil => intro _; simp [cmpL]
      | cons x xs ih2 => intro h; simp [cmpL, h x (List.mem_cons_self ..), ih2 fun y hy => h y (List.mem_cons_of_mem _ hy)]
    cases bt_of hb with
    | nil => simp [cmp, cmpV]
    | num i => simp [cmp, cmpV, cmpP]
    | atom z => simp [cmp, cmpV, cmpP]
    | proc i => simp [cmp, cmpV, cmpP]
    | tup ys h =>
      have hn1 : 1 ≤ n := by simp only [dep, depL] at hn; omega
      simp [cmp, cmpT, cmpU]
      exact hL ys fun y hy => ih (n - 1) (by omega) y (by have := dep_tup hy; simp only [dep, depL] at this hn ⊢; omega) (h y hy)
    | pair x y hx hy =>
      have hn1 : 1 ≤ n := by simp only [dep, depL] at hn; omega
      simp [cmp]
      refine hL [x, y] fun z hz => ?_
      rcases List.mem_cons.mp hz with e | hz
      · rw [e]; exact ih (n - 1) (by omega) x (by simp only [dep, depL] at hn; omega) hx
      · rw [List.mem_singleton.mp hz]; exact ih (n - 1) (by omega) y (by simp only [dep, depL] at hn; omega) hy
end Ev

set_option Elab.async false
set_option linter.all false
set_option maxRecDepth 100000
set_option maxHeartbeats 4000000
namespace Ev
variable {k : Nat} {S : Store}
theorem e_lrank (s : List Nat) (r : List D) (h : s = [110, 117, 109, 98, 101, 114] ∨ s = [97, 116, 111, 109] ∨ s = [112, 114, 111, 99, 101, 115, 115] ∨ s = [116, 117, 112, 108, 101] ∨ s = [110, 105, 108] ∨ s = [112, 97, 105, 114]) : callF G (k + 1) i_law_rank [.tup (.str s :: r)] S = .ok (.int (rank s)) S := by
  rw [callF_s G_law_rank k rfl]
  rcases h with rfl | rfl | rfl | rfl | rfl | rfl <;> (simp [↓ex_fors, ev, evs, evC, evP, evI, ex, exs, Res.bind_ok, Res.bind_exc, Res.bind_stuck, Res.nox_ok, lift_some, liftB_some, setT, setSlots, wipe, b_add, b_sub, c_lt, c_le, c_gt, c_ge, c_eqI, c_neI, c_eqS, c_neS, c_eqB, c_neB, t_bl, t_int, t_tup, t_lst, t_non, bi_int, bi_abs, bi_lenT, bi_lenL, bi_tupL, bi_tupT, bi_lstT, bi_lstL, bi_lstF, ixT, ixL, mk_f, mk_t, isiD, wp_ok, wp_bind, wp_nox, wp_lift_some, wp_liftB_some, m_law_rank, atI0, rcv, evMt, evIdxL, evIdx, findIx, isData, areData, depL, dep, eqD_s, rank] <;> rfl)
theorem lt_asymm {a b : List Nat} (h : a < b) : ¬ b < a := fun h' => List.lt_irrefl a (List.lt_trans h h')
theorem sgn_eq (p q : Prop) [Decidable p] [Decidable q] (h : ¬ (p ∧ q)) : b2n (decide q) - b2n (decide p) = if p then -1 else if q then 1 else 0 := by
  by_cases hp : p <;> by_cases hq : q <;> simp [hp, hq, b2n] <;> exact h ⟨hp, hq⟩
/-- the first that is not 0 -/
theorem zip_fil (f : D → D → Int) : ∀ (xs ys : List D), (((zipD xs ys).map fun d => match d with
    | .tup [a, b] => D.int (f a b)
    | _ => .non).filter fun d => match d with
    | .int i => !decide (i = 0)
    | _ => false) = (((List.zipWith f xs ys).filter fun i => !decide (i = 0)).map D.int)
  | [], _ => by simp [zipD]
  | x :: xs, [] => by simp [zipD]
  | x :: xs, y :: ys => by
    have := zip_fil f xs ys
    by_cases h : f x y = 0 <;> simp [zipD, h] at this ⊢ <;> exact this
theorem cmpL_hd : ∀ (xs ys : List D), ∃ r, ((List.zipWith cmp xs ys).filter fun i => !decide (i = 0)) ++ [0] = cmpL xs ys :: r
  | [], _ => ⟨[], by simp [cmpL]⟩
  | x :: xs, [] => ⟨[], by simp [cmpL]⟩
  | x :: xs, y :: ys => by
    obtain ⟨r, e⟩ := cmpL_hd xs ys
    by_cases h : cmp x y = 0
    · refine ⟨r, ?_⟩
      simp [h, cmpL] at e ⊢
      exact e
    · exact ⟨_, by simp [h, cmpL]; rfl⟩
theorem lcGo_id {c : Rho → Store → Res D} {f : Rho → Store → Res D} {ρ : Rho} {t : MT} {S : Store} {p : D → Bool} {xs : List D} (h : ∀ x ∈ xs, ∃ ρ1, setT ρ t x = some ρ1 ∧ c ρ1 S = .ok (.bl (p x)) S ∧ f ρ1 S = .ok x S) : lcGo f c ρ t xs [] S = .ok (xs.filter p) S := by
  rw [lcGo_fil (g := fun d => d) (p := p) h]
  simp
theorem mem_zip : ∀ {xs ys : List D} {z : D}, z ∈ zipD xs ys → ∃ x ∈ xs, ∃ y ∈ ys, z = .tup [x, y]
  | [], _, _, h => by simp [zipD] at h
  | x :: xs, [], _, h => by simp [zipD] at h
  | x :: xs, y :: ys, z, h => by
    simp only [zipD, List.mem_cons] at h
    rcases h with rfl | h
    · exact ⟨x, List.mem_cons_self .., y, List.mem_cons_self .., rfl⟩
    · obtain ⟨a, ha, b, hb, e⟩ := mem_zip h
      exact ⟨a, List.mem_cons_of_mem _ ha, b, List.mem_cons_of_mem _ hb, e⟩
theorem b_addL2 (a b : List D) (h : a.length + b.length ≤ line) : evBin .add (.lst a) (.lst b) = some (.lst (a ++ b)) := if_pos h
/-- behind the lists' lengths -/
theorem lcmp_end {K : Nat} {a b : D} {xs ys : List D} (hl : xs.length ≤ 1000) (h : ∀ x ∈ xs, ∀ y ∈ ys, ∀ S : Store, callF G K i_law_compared [x, y] S = .ok (.int (cmp x y)) S) (f g h1 h2 : Option D) (S : Store) :
    exs (callF G K) (m_law_compared.drop 4) [some a, some b, some (.tup xs), some (.tup ys), f, g, h1, h2] S = .ok (.ret (.int (cmpL xs ys))) S := by
  show exs (callF G K) [_, _] _ S = _
  simp only [exs, ex, ev, evI, evs, evC, List.getElem?_cons_zero, List.getElem?_cons_succ, Res.bind_ok, wipe, List.set_cons_zero, List.set_cons_succ]
  rw [lcGo_map (g := fun d => match d with
    | .tup [a, b] => .int (cmp a b)
    | _ => .non)]
  · simp only [List.nil_append, Res.bind_ok, mk_f, setT, List.set_cons_zero, List.set_cons_succ, ev, evI, evC, List.getElem?_cons_zero, List.getElem?_cons_succ, seqOf]
    rw [lcGo_id (p := fun d => match d with
      | .int i => !decide (i = 0)
      | _ => false)]
    · rw [zip_fil]
      obtain ⟨r, e⟩ := cmpL_hd xs ys
      have hz : ((List.zipWith cmp xs ys).filter fun i => !decide (i = 0)).length ≤ 1000 := Nat.le_trans (List.length_filter_le _ _) (by rw [List.length_zipWith]; omega)
      have e2 : (((List.zipWith cmp xs ys).filter fun i => !decide (i = 0)).map D.int) ++ [D.int 0] = .int (cmpL xs ys) :: r.map D.int := by
        have := congrArg (List.map D.int) e
        simpa using this
      have hb := b_addL2 (((List.zipWith cmp xs ys).filter fun i => !decide (i = 0)).map D.int) [D.int 0] (by show _ ≤ 16777216; simp; omega)
      rw [e2] at hb
      simp only [Res.bind_ok, mk_f, ev, evs, hb, lift_some, ixL, atI0]
    · intro x hx
      refine ⟨_, rfl, ?_, ?_⟩
      · obtain ⟨z, hz, rfl⟩ := List.mem_map.mp hx
        obtain ⟨u, hu, v, hv, rfl⟩ := mem_zip hz
        simp [↓ex_fors, ev, evs, evC, evP, evI, ex, exs, Res.bind_ok, Res.bind_exc, Res.bind_stuck, Res.nox_ok, lift_some, liftB_some, setT, setSlots, wipe, b_add, b_sub, c_lt, c_le, c_gt, c_ge, c_eqI, c_neI, c_eqS, c_neS, c_eqB, c_neB, t_bl, t_int, t_tup, t_lst, t_non, bi_int, bi_abs, bi_lenT, bi_lenL, bi_tupL, bi_tupT, bi_lstT, bi_lstL, bi_lstF, ixT, ixL, mk_f, mk_t, isiD, wp_ok, wp_bind, wp_nox, wp_lift_some, wp_liftB_some]
      · simp [↓ex_fors, ev, evs, evC, evP, evI, ex, exs, Res.bind_ok, Res.bind_exc, Res.bind_stuck, Res.nox_ok, lift_some, liftB_some, setT, setSlots, wipe, b_add, b_sub, c_lt, c_le, c_gt, c_ge, c_eqI, c_neI, c_eqS, c_neS, c_eqB, c_neB, t_bl, t_int, t_tup, t_lst, t_non, bi_int, bi_abs, bi_lenT, bi_lenL, bi_tupL, bi_tupT, bi_lstT, bi_lstL, bi_lstF, ixT, ixL, mk_f, mk_t, isiD, wp_ok, wp_bind, wp_nox, wp_lift_some, wp_liftB_some]
  · intro z hz
    obtain ⟨u, hu, v, hv, rfl⟩ := mem_zip hz
    refine ⟨_, rfl, rfl, ?_⟩
    simp [↓ex_fors, ev, evs, evC, evP, evI, ex, exs, Res.bind_ok, Res.bind_exc, Res.bind_stuck, Res.nox_ok, lift_some, liftB_some, setT, setSlots, wipe, b_add, b_sub, c_lt, c_le, c_gt, c_ge, c_eqI, c_neI, c_eqS, c_neS, c_eqB, c_neB, t_bl, t_int, t_tup, t_lst, t_non, bi_int, bi_abs, bi_lenT, bi_lenL, bi_tupL, bi_tupT, bi_lstT, bi_lstL, bi_lstF, ixT, ixL, mk_f, mk_t, isiD, wp_ok, wp_bind, wp_nox, wp_lift_some, wp_liftB_some, h u hu v hv]
theorem e_lcmp : ∀ (n : Nat) (d e : D), dep d ≤ n → built d = true → built e = true → gl d = true → ∀ {k : Nat}, n + 3 ≤ k → ∀ S : Store, callF G k i_law_compared [d, e] S = .ok (.int (cmp d e)) S := by
  intro n
  induction n using Nat.strongRecOn with
  | _ n ih =>
    intro d e hn hd he hg k hk S
    obtain ⟨k, rfl⟩ : ∃ j, k = j + 3 := ⟨k - 3, by omega⟩
    rw [callF_s G_law_compared (k + 2) rfl]
    have bd := bt_of hd
    have be := bt_of he
    cases bd <;> cases be <;> first
      | (simp [↓ex_fors, ev, evs, evC, evP, evI, ex, exs, Res.bind_ok, Res.bind_exc, Res.bind_stuck, Res.nox_ok, lift_some, liftB_some, setT, setSlots, wipe, b_add, b_sub, c_lt, c_le, c_gt, c_ge, c_eqI, c_neI, c_eqS, c_neS, c_eqB, c_neB, t_bl, t_int, t_tup, t_lst, t_non, bi_int, bi_abs, bi_lenT, bi_lenL, bi_tupL, bi_tupT, bi_lstT, bi_lstL, bi_lstF, ixT, ixL, mk_f, mk_t, isiD, wp_ok, wp_bind, wp_nox, wp_lift_some, wp_liftB_some, m_law_compared, e_lrank, atI0, atI1, cmp, rank, c_inL, areData, isData, eqAny, eqD_s]; done)
      | skip
    · simp [↓ex_fors, ev, evs, evC, evP, evI, ex, exs, Res.bind_ok, Res.bind_exc, Res.bind_stuck, Res.nox_ok, lift_some, liftB_some, setT, setSlots, wipe, b_add, b_sub, c_lt, c_le, c_gt, c_ge, c_eqI, c_neI, c_eqS, c_neS, c_eqB, c_neB, t_bl, t_int, t_tup, t_lst, t_non, bi_int, bi_abs, bi_lenT, bi_lenL, bi_tupL, bi_tupT, bi_lstT, bi_lstL, bi_lstF, ixT, ixL, mk_f, mk_t, isiD, wp_ok, wp_bind, wp_nox, wp_lift_some, wp_liftB_some, m_law_compared, e_lrank, atI0, cmp, rank, c_inL, areData, isData, eqAny, eqD_s, callF_s G_law_inner, m_law_inner, cmpV]
      rfl
    · rename_i a b
      simp [↓ex_fors, ev, evs, evC, evP, evI, ex, exs, Res.bind_ok, Res.bind_exc, Res.bind_stuck, Res.nox_ok, lift_some, liftB_some, setT, setSlots, wipe, b_add, b_sub, c_lt, c_le, c_gt, c_ge, c_eqI, c_neI, c_eqS, c_neS, c_eqB, c_neB, t_bl, t_int, t_tup, t_lst, t_non, bi_int, bi_abs, bi_lenT, bi_lenL, bi_tupL, bi_tupT, bi_lstT, bi_lstL, bi_lstF, ixT, ixL, mk_f, mk_t, isiD, wp_ok, wp_bind, wp_nox, wp_lift_some, wp_liftB_some, m_law_compared, e_lrank, atI0, atI1, cmp, rank, c_inL, areData, isData, eqAny, eqD_s, cmpV, cmpP, sgn_eq (a < b) (b < a) (by omega)]
      by_cases h1 : a < b
      · simp [↓ex_fors, ev, evs, evC, evP, evI, ex, exs, Res.bind_ok, Res.bind_exc, Res.bind_stuck, Res.nox_ok, lift_some, liftB_some, setT, setSlots, wipe, b_add, b_sub, c_lt, c_le, c_gt, c_ge, c_eqI, c_neI, c_eqS, c_neS, c_eqB, c_neB, t_bl, t_int, t_tup, t_lst, t_non, bi_int, bi_abs, bi_lenT, bi_lenL, bi_tupL, bi_tupT, bi_lstT, bi_lstL, bi_lstF, ixT, ixL, mk_f, mk_t, isiD, wp_ok, wp_bind, wp_nox, wp_lift_some, wp_liftB_some, h1]
      · by_cases h2 : b < a <;> simp [↓ex_fors, ev, evs, evC, evP, evI, ex, exs, Res.bind_ok, Res.bind_exc, Res.bind_stuck, Res.nox_ok, lift_some, liftB_some, setT, setSlots, wipe, b_add, b_sub, c_lt, c_le, c_gt, c_ge, c_eqI, c_neI, c_eqS, c_neS, c_eqB, c_neB, t_bl, t_int, t_tup, t_lst, t_non, bi_int, bi_abs, bi_lenT, bi_lenL, bi_tupL, bi_tupT, bi_lstT, bi_lstL, bi_lstF, ixT, ixL, mk_f, mk_t, isiD, wp_ok, wp_bind, wp_nox, wp_lift_some, wp_liftB_some, h1, h2]
    · rename_i a b
      simp [↓ex_fors, ev, evs, evC, evP, evI, ex, exs, Res.bind_ok, Res.bind_exc, Res.bind_stuck, Res.nox_ok, lift_some, liftB_some, setT, setSlots, wipe, b_add, b_sub, c_lt, c_le, c_gt, c_ge, c_eqI, c_neI, c_eqS, c_neS, c_eqB, c_neB, t_bl, t_int, t_tup, t_lst, t_non, bi_int, bi_abs, bi_lenT, bi_lenL, bi_tupL, bi_tupT, bi_lstT, bi_lstL, bi_lstF, ixT, ixL, mk_f, mk_t, isiD, wp_ok, wp_bind, wp_nox, wp_lift_some, wp_liftB_some, m_law_compared, e_lrank, atI0, atI1, cmp, rank, c_inL, areData, isData, eqAny, eqD_s, cmpV, cmpP, c_ltS, c_gtS, sgn_eq (a < b) (b < a) (fun h => lt_asymm h.1 h.2)]
      by_cases h1 : a < b
      · simp [↓ex_fors, ev, evs, evC, evP, evI, ex, exs, Res.bind_ok, Res.bind_exc, Res.bind_stuck, Res.nox_ok, lift_some, liftB_some, setT, setSlots, wipe, b_add, b_sub, c_lt, c_le, c_gt, c_ge, c_eqI, c_neI, c_eqS, c_neS, c_eqB, c_neB, t_bl, t_int, t_tup, t_lst, t_non, bi_int, bi_abs, bi_lenT, bi_lenL, bi_tupL, bi_tupT, bi_lstT, bi_lstL, bi_lstF, ixT, ixL, mk_f, mk_t, isiD, wp_ok, wp_bind, wp_nox, wp_lift_some, wp_liftB_some, h1]
      · by_cases h2 : b < a <;> simp [↓ex_fors, ev, evs, evC, evP, evI, ex, exs, Res.bind_ok, Res.bind_exc, Res.bind_stuck, Res.nox_ok, lift_some, liftB_some, setT, setSlots, wipe, b_add, b_sub, c_lt, c_le, c_gt, c_ge, c_eqI, c_neI, c_eqS, c_neS, c_eqB, c_neB, t_bl, t_int, t_tup, t_lst, t_non, bi_int, bi_abs, bi_lenT, bi_lenL, bi_tupL, bi_tupT, bi_lstT, bi_lstL, bi_lstF, ixT, ixL, mk_f, mk_t, isiD, wp_ok, wp_bind, wp_nox, wp_lift_some, wp_liftB_some, h1, h2]
    · rename_i a b
      simp [↓ex_fors, ev, evs, evC, evP, evI, ex, exs, Res.bind_ok, Res.bind_exc, Res.bind_stuck, Res.nox_ok, lift_some, liftB_some, setT, setSlots, wipe, b_add, b_sub, c_lt, c_le, c_gt, c_ge, c_eqI, c_neI, c_eqS, c_neS, c_eqB, c_neB, t_bl, t_int, t_tup, t_lst, t_non, bi_int, bi_abs, bi_lenT, bi_lenL, bi_tupL, bi_tupT, bi_lstT, bi_lstL, bi_lstF, ixT, ixL, mk_f, mk_t, isiD, wp_ok, wp_bind, wp_nox, wp_lift_some, wp_liftB_some, m_law_compared, e_lrank, atI0, atI1, cmp, rank, c_inL, areData, isData, eqAny, eqD_s, cmpV, cmpP, sgn_eq (a < b) (b < a) (by omega)]
      by_cases h1 : a < b
      · simp [↓ex_fors, ev, evs, evC, evP, evI, ex, exs, Res.bind_ok, Res.bind_exc, Res.bind_stuck, Res.nox_ok, lift_some, liftB_some, setT, setSlots, wipe, b_add, b_sub, c_lt, c_le, c_gt, c_ge, c_eqI, c_neI, c_eqS, c_neS, c_eqB, c_neB, t_bl, t_int, t_tup, t_lst, t_non, bi_int, bi_abs, bi_lenT, bi_lenL, bi_tupL, bi_tupT, bi_lstT, bi_lstL, bi_lstF, ixT, ixL, mk_f, mk_t, isiD, wp_ok, wp_bind, wp_nox, wp_lift_some, wp_liftB_some, h1]
      · by_cases h2 : b < a <;> simp [↓ex_fors, ev, evs, evC, evP, evI, ex, exs, Res.bind_ok, Res.bind_exc, Res.bind_stuck, Res.nox_ok, lift_some, liftB_some, setT, setSlots, wipe, b_add, b_sub, c_lt, c_le, c_gt, c_ge, c_eqI, c_neI, c_eqS, c_neS, c_eqB, c_neB, t_bl, t_int, t_tup, t_lst, t_non, bi_int, bi_abs, bi_lenT, bi_lenL, bi_tupL, bi_tupT, bi_lstT, bi_lstL, bi_lstF, ixT, ixL, mk_f, mk_t, isiD, wp_ok, wp_bind, wp_nox, wp_lift_some, wp_liftB_some, h1, h2]
    · rename_i xs hx ys hy
      have hn1 : 1 ≤ n := by simp only [dep, depL] at hn; omega
      have gx : glL xs = true ∧ xs.length ≤ 1000 := by simp [gl, glL] at hg; exact ⟨hg.2, hg.1⟩
      have fin := lcmp_end (K := k + 2) (a := .tup [.str [116, 117, 112, 108, 101], .tup xs]) (b := .tup [.str [116, 117, 112, 108, 101], .tup ys]) (xs := xs) (ys := ys) gx.2 (fun x hxx y hyy S => ih (n - 1) (by omega) x y (by have := dep_tup hxx; simp only [dep, depL] at this hn ⊢; omega) (hx x hxx) (hy y hyy) (glL_iff.mp gx.1 x hxx) (by omega) S)
      by_cases hl : xs.length = ys.length
      · rw [exs_at 4]
        have pre : exs (callF G (k + 2)) (m_law_compared.take 4) ([D.tup [.str [116, 117, 112, 108, 101], .tup xs], .tup [.str [116, 117, 112, 108, 101], .tup ys]].map some ++ List.replicate (8 - [D.tup [.str [116, 117, 112, 108, 101], .tup xs], .tup [.str [116, 117, 112, 108, 101], .tup ys]].length) none) S = .ok (.nx [some (.tup [.str [116, 117, 112, 108, 101], .tup xs]), some (.tup [.str [116, 117, 112, 108, 101], .tup ys]), some (.tup xs), some (.tup ys), none, none, none, none]) S := by
          simp [↓ex_fors, ev, evs, evC, evP, evI, ex, exs, Res.bind_ok, Res.bind_exc, Res.bind_stuck, Res.nox_ok, lift_some, liftB_some, setT, setSlots, wipe, b_add, b_sub, c_lt, c_le, c_gt, c_ge, c_eqI, c_neI, c_eqS, c_neS, c_eqB, c_neB, t_bl, t_int, t_tup, t_lst, t_non, bi_int, bi_abs, bi_lenT, bi_lenL, bi_tupL, bi_tupT, bi_lstT, bi_lstL, bi_lstF, ixT, ixL, mk_f, mk_t, isiD, wp_ok, wp_bind, wp_nox, wp_lift_some, wp_liftB_some, m_law_compared, e_lrank, atI0, c_inL, areData, isData, eqAny, eqD_s, e_linner_t, hl]
        rw [pre]
        simp only [Res.bind_ok, fin]
        simp [cmp, cmpT, cmpU, hl]
      · have hl' : ¬ ((xs.length : Int) = ys.length) := by omega
        by_cases h2 : xs.length < ys.length
        · simp [↓ex_fors, ev, evs, evC, evP, evI, ex, exs, Res.bind_ok, Res.bind_exc, Res.bind_stuck, Res.nox_ok, lift_some, liftB_some, setT, setSlots, wipe, b_add, b_sub, c_lt, c_le, c_gt, c_ge, c_eqI, c_neI, c_eqS, c_neS, c_eqB, c_neB, t_bl, t_int, t_tup, t_lst, t_non, bi_int, bi_abs, bi_lenT, bi_lenL, bi_tupL, bi_tupT, bi_lstT, bi_lstL, bi_lstF, ixT, ixL, mk_f, mk_t, isiD, wp_ok, wp_bind, wp_nox, wp_lift_some, wp_liftB_some, m_law_compared, e_lrank, atI0, c_inL, areData, isData, eqAny, eqD_s, e_linner_t, cmp, cmpT, cmpU, hl, hl', h2]
        · simp [↓ex_fors, ev, evs, evC, evP, evI, ex, exs, Res.bind_ok, Res.bind_exc, Res.bind_stuck, Res.nox_ok, lift_some, liftB_some, setT, setSlots, wipe, b_add, b_sub, c_lt, c_le, c_gt, c_ge, c_eqI, c_neI, c_eqS, c_neS, c_eqB, c_neB, t_bl, t_int, t_tup, t_lst, t_non, bi_int, bi_abs, bi_lenT, bi_lenL, bi_tupL, bi_tupT, bi_lstT, bi_lstL, bi_lstF, ixT, ixL, mk_f, mk_t, isiD, wp_ok, wp_bind, wp_nox, wp_lift_some, wp_liftB_some, m_law_compared, e_lrank, atI0, c_inL, areData, isData, eqAny, eqD_s, e_linner_t, cmp, cmpT, cmpU, hl, hl', h2]
    · rename_i x y hx hy x' y' hx' hy'
      have hn1 : 1 ≤ n := by simp only [dep, depL] at hn; omega
      have dx : dep x ≤ n - 1 := by simp only [dep, depL] at hn; omega
      have dy : dep y ≤ n - 1 := by simp only [dep, depL] at hn; omega
      have gx : gl x = true ∧ gl y = true := by simp [gl, glL] at hg; exact hg
      have fin := lcmp_end (K := k + 2) (a := .tup [.str [112, 97, 105, 114], x, y]) (b := .tup [.str [112, 97, 105, 114], x', y']) (xs := [x, y]) (ys := [x', y']) (by simp) (fun z hz u hu S => by
        have bu : built u = true := by
          rcases List.mem_cons.mp hu with e | hu
          · rw [e]; exact hx'
          · rw [List.mem_singleton.mp hu]; exact hy'
        rcases List.mem_cons.mp hz with e | hz
        · rw [e]; exact ih (n - 1) (by omega) x u dx hx bu gx.1 (by omega) S
        · rw [List.mem_singleton.mp hz]; exact ih (n - 1) (by omega) y u dy hy bu gx.2 (by omega) S)
      rw [exs_at 4]
      have pre : exs (callF G (k + 2)) (m_law_compared.take 4) ([D.tup [.str [112, 97, 105, 114], x, y], .tup [.str [112, 97, 105, 114], x', y']].map some ++ List.replicate (8 - [D.tup [.str [112, 97, 105, 114], x, y], .tup [.str [112, 97, 105, 114], x', y']].length) none) S = .ok (.nx [some (.tup [.str [112, 97, 105, 114], x, y]), some (.tup [.str [112, 97, 105, 114], x', y']), some (.tup [x, y]), some (.tup [x', y']), none, none, none, none]) S := by
        simp [↓ex_fors, ev, evs, evC, evP, evI, ex, exs, Res.bind_ok, Res.bind_exc, Res.bind_stuck, Res.nox_ok, lift_some, liftB_some, setT, setSlots, wipe, b_add, b_sub, c_lt, c_le, c_gt, c_ge, c_eqI, c_neI, c_eqS, c_neS, c_eqB, c_neB, t_bl, t_int, t_tup, t_lst, t_non, bi_int, bi_abs, bi_lenT, bi_lenL, bi_tupL, bi_tupT, bi_lstT, bi_lstL, bi_lstF, ixT, ixL, mk_f, mk_t, isiD, wp_ok, wp_bind, wp_nox, wp_lift_some, wp_liftB_some, m_law_compared, e_lrank, atI0, c_inL, areData, isData, eqAny, eqD_s, e_linner_p]
      rw [pre]
      simp only [Res.bind_ok, fin]
      simp [cmp]
end Ev

set_option Elab.async false
set_option linter.all false
set_option maxRecDepth 100000
set_option maxHeartbeats 4000000
namespace Ev
variable {k : Nat} {S : Store} {c : List D} {lo : Nat}
theorem slD (xs : List D) (i j : Int) : evSl (.lst xs) (.int i) (.int j) = some (.lst (cut xs (some i) (some j))) := rfl
theorem cut2 {p : Nat} {ws : List D} (hl : ws.length = 2) (h : (c.drop p).take 2 = ws) : cut c (some (p : Int)) (some ((p : Int) + 2)) = ws := by
  have := cut_nat c p 2 (slice_len hl h (by decide))
  rw [h] at this
  exact this
theorem cutN {p : Nat} {ws : List D} (h0 : p < c.length) (h : (c.drop (p + 1)).take ws.length = ws) : cut c (some ((p : Int) + 1)) (some ((p : Int) + 1 + ws.length)) = ws := by
  have hb : p + 1 + ws.length ≤ c.length := by
    by_cases hz : ws.length = 0
    · omega
    · exact slice_len rfl h (by omega)
  have := cut_nat c (p + 1) ws.length hb
  rw [h] at this
  push_cast at this
  exact this
theorem e_inat_p {p : Nat} {ws : List D} (hl : ws.length = 2) (h : (c.drop p).take 2 = ws) : callF G (k + 1) i_inner_at [.tup c, .tup [.str [112, 97, 105, 114], .int p]] S = .ok (.tup ws) S := by
  rw [callF_s G_inner_at k rfl]
  simp [↓ex_fors, ev, evs, evC, evP, evI, ex, exs, Res.bind_ok, Res.bind_exc, Res.bind_stuck, Res.nox_ok, lift_some, liftB_some, setT, setSlots, wipe, b_add, b_sub, c_lt, c_le, c_gt, c_ge, c_eqI, c_neI, c_eqS, c_neS, c_eqB, c_neB, t_bl, t_int, t_tup, t_lst, t_non, bi_int, bi_abs, bi_lenT, bi_lenL, bi_tupL, bi_tupT, bi_lstT, bi_lstL, bi_lstF, ixT, ixL, mk_f, mk_t, isiD, wp_ok, wp_bind, wp_nox, wp_lift_some, wp_liftB_some, m_inner_at, atI0, atI1, slC, cut2 hl h]
theorem e_inat_t {p : Nat} {ws : List D} (h0 : c[p]? = some (.tup [.str [99, 111, 117, 110, 116], .int ws.length])) (h : (c.drop (p + 1)).take ws.length = ws) : callF G (k + 1) i_inner_at [.tup c, .tup [.str [116, 117, 112, 108, 101], .int p]] S = .ok (.tup ws) S := by
  rw [callF_s G_inner_at k rfl]
  have hp := (List.getElem?_eq_some_iff.mp h0).1
  simp [↓ex_fors, ev, evs, evC, evP, evI, ex, exs, Res.bind_ok, Res.bind_exc, Res.bind_stuck, Res.nox_ok, lift_some, liftB_some, setT, setSlots, wipe, b_add, b_sub, c_lt, c_le, c_gt, c_ge, c_eqI, c_neI, c_eqS, c_neS, c_eqB, c_neB, t_bl, t_int, t_tup, t_lst, t_non, bi_int, bi_abs, bi_lenT, bi_lenL, bi_tupL, bi_tupT, bi_lstT, bi_lstL, bi_lstF, ixT, ixL, mk_f, mk_t, isiD, wp_ok, wp_bind, wp_nox, wp_lift_some, wp_liftB_some, m_inner_at, atI0, atI1, slC, atI_get h0, cutN hp h]
theorem e_win_p {x : D} (hx : x = .tup c ∨ x = .lst c) {p : Nat} {ws : List D} (hl : ws.length = 2) (h : (c.drop p).take 2 = ws) : callF G (k + 1) i_law_words_in [x, .tup [.str [112, 97, 105, 114], .int p]] S = .ok (.lst ws) S := by
  rw [callF_s G_law_words_in k rfl]
  rcases hx with rfl | rfl <;> simp [↓ex_fors, ev, evs, evC, evP, evI, ex, exs, Res.bind_ok, Res.bind_exc, Res.bind_stuck, Res.nox_ok, lift_some, liftB_some, setT, setSlots, wipe, b_add, b_sub, c_lt, c_le, c_gt, c_ge, c_eqI, c_neI, c_eqS, c_neS, c_eqB, c_neB, t_bl, t_int, t_tup, t_lst, t_non, bi_int, bi_abs, bi_lenT, bi_lenL, bi_tupL, bi_tupT, bi_lstT, bi_lstL, bi_lstF, ixT, ixL, mk_f, mk_t, isiD, wp_ok, wp_bind, wp_nox, wp_lift_some, wp_liftB_some, m_law_words_in, atI0, atI1, slC, slD, cut2 hl h]
theorem e_win_t {x : D} (hx : x = .tup c ∨ x = .lst c) {p : Nat} {ws : List D} (h0 : c[p]? = some (.tup [.str [99, 111, 117, 110, 116], .int ws.length])) (h : (c.drop (p + 1)).take ws.length = ws) : callF G (k + 1) i_law_words_in [x, .tup [.str [116, 117, 112, 108, 101], .int p]] S = .ok (.lst ws) S := by
  rw [callF_s G_law_words_in k rfl]
  have hp := (List.getElem?_eq_some_iff.mp h0).1
  rcases hx with rfl | rfl <;> simp [↓ex_fors, ev, evs, evC, evP, evI, ex, exs, Res.bind_ok, Res.bind_exc, Res.bind_stuck, Res.nox_ok, lift_some, liftB_some, setT, setSlots, wipe, b_add, b_sub, c_lt, c_le, c_gt, c_ge, c_eqI, c_neI, c_eqS, c_neS, c_eqB, c_neB, t_bl, t_int, t_tup, t_lst, t_non, bi_int, bi_abs, bi_lenT, bi_lenL, bi_tupL, bi_tupT, bi_lstT, bi_lstL, bi_lstF, ixT, ixL, mk_f, mk_t, isiD, wp_ok, wp_bind, wp_nox, wp_lift_some, wp_liftB_some, m_law_words_in, atI0, atI1, slC, slD, atI_get h0, cutN hp h]
theorem plain_hd {w : D} (h : plainB w = true) : ∃ s r, w = .tup (.str s :: r) ∧ ¬ s = [116, 117, 112, 108, 101] ∧ ¬ s = [112, 97, 105, 114] ∧ ¬ s = [99, 111, 117, 110, 116] := by
  rcases plain_cases h with rfl | ⟨i, rfl, _⟩ | ⟨z, rfl, _⟩ | ⟨i, rfl, _⟩ <;> exact ⟨_, _, rfl, by decide, by decide, by decide⟩
theorem e_win_o {x w : D} (h : plainB w = true) : callF G (k + 1) i_law_words_in [x, w] S = .ok (.lst []) S := by
  obtain ⟨s, r, rfl, h1, h2, _⟩ := plain_hd h
  rw [callF_s G_law_words_in k rfl]
  simp [↓ex_fors, ev, evs, evC, evP, evI, ex, exs, Res.bind_ok, Res.bind_exc, Res.bind_stuck, Res.nox_ok, lift_some, liftB_some, setT, setSlots, wipe, b_add, b_sub, c_lt, c_le, c_gt, c_ge, c_eqI, c_neI, c_eqS, c_neS, c_eqB, c_neB, t_bl, t_int, t_tup, t_lst, t_non, bi_int, bi_abs, bi_lenT, bi_lenL, bi_tupL, bi_tupT, bi_lstT, bi_lstL, bi_lstF, ixT, ixL, mk_f, mk_t, isiD, wp_ok, wp_bind, wp_nox, wp_lift_some, wp_liftB_some, m_law_words_in, atI0, h1, h2]
theorem lc_rd {P : D → D → Int → Prop} {h : D → D} {f g : Rho → Store → Res D} {ρ : Rho} {t : MT} {ws vs : List D} {e : Int} (r : RdL P ws vs e) : ∀ {acc : List D}, (∀ w v e, w ∈ ws → P w v e → ∃ ρ1, setT ρ t w = some ρ1 ∧ g ρ1 S = .ok (.bl true) S ∧ f ρ1 S = .ok (h v) S) →
    lcGo f g ρ t ws acc S = .ok (acc ++ vs.map h) S := by
  induction r with
  | nil => intro acc _; simp [lcGo]
  | @cons w v e f' ws vs hh t ih =>
    intro acc q
    obtain ⟨ρ1, e1, e2, e3⟩ := q _ _ _ (List.mem_cons_self ..) hh
    have s2 := ih (acc := acc ++ [h v]) fun w v e m => q w v e (List.mem_cons_of_mem _ m)
    unfold lcGo
    simp only [e1, e2, Res.bind_ok, t_bl, e3]
    rw [s2]; simp
theorem RdL.size {n : Nat} {ws us : List D} {f : Int} (h : RdL (Rd c lo n) ws us f) : (us.map Ev.size).sum = f := by
  rw [← sizeL_sum]
  exact (h.val fun w v e q => q.val.1).2
theorem e_lext {x : D} (hx : x = .tup c ∨ x = .lst c) : ∀ (n : Nat) {w v : D} {e : Int}, Rd c lo n w v e → ∀ {k : Nat}, n + 2 ≤ k → ∀ S : Store, callF G k i_law_extent [x, w] S = .ok (.int e) S := by
  intro n
  have pl : ∀ {w : D}, plainB w = true → ∀ {k : Nat}, 2 ≤ k → ∀ S : Store, callF G k i_law_extent [x, w] S = .ok (.int 0) S := by
    intro w h k hk S
    obtain ⟨k, rfl⟩ : ∃ j, k = j + 2 := ⟨k - 2, by omega⟩
    have e0 := fun S => e_win_o (k := k) (S := S) (x := x) h
    obtain ⟨s, r, rfl, h1, h2, _⟩ := plain_hd h
    rw [callF_s G_law_extent (k + 1) rfl]
    simp [↓ex_fors, ev, evs, evC, evP, evI, ex, exs, Res.bind_ok, Res.bind_exc, Res.bind_stuck, Res.nox_ok, lift_some, liftB_some, setT, setSlots, wipe, b_add, b_sub, c_lt, c_le, c_gt, c_ge, c_eqI, c_neI, c_eqS, c_neS, c_eqB, c_neB, t_bl, t_int, t_tup, t_lst, t_non, bi_int, bi_abs, bi_lenT, bi_lenL, bi_tupL, bi_tupT, bi_lstT, bi_lstL, bi_lstF, ixT, ixL, mk_f, mk_t, isiD, wp_ok, wp_bind, wp_nox, wp_lift_some, wp_liftB_some, m_law_extent, callF_s G_law_long, m_law_long, atI0, h1, h2, e0, seqOf, lcGo, bi_sum, intsOf]
  induction n with
  | zero =>
    intro w v e h k hk S
    obtain ⟨h, rfl, rfl⟩ := h
    exact pl h (by omega) S
  | succ n ih =>
    intro w v e h k hk S
    rcases h with ⟨h, rfl, rfl⟩ | ⟨p, ws, us, f, h1, rfl, h3, h4, h, rfl, rfl⟩ | ⟨p, ws, us, f, h1, rfl, h3, h4, h5, h, rfl, rfl⟩
    · exact pl h (by omega) S
    · obtain ⟨k, rfl⟩ : ∃ j, k = j + 2 := ⟨k - 2, by omega⟩
      rw [callF_s G_law_extent (k + 1) rfl]
      simp [↓ex_fors, ev, evs, evC, evP, evI, ex, exs, Res.bind_ok, Res.bind_exc, Res.bind_stuck, Res.nox_ok, lift_some, liftB_some, setT, setSlots, wipe, b_add, b_sub, c_lt, c_le, c_gt, c_ge, c_eqI, c_neI, c_eqS, c_neS, c_eqB, c_neB, t_bl, t_int, t_tup, t_lst, t_non, bi_int, bi_abs, bi_lenT, bi_lenL, bi_tupL, bi_tupT, bi_lstT, bi_lstL, bi_lstF, ixT, ixL, mk_f, mk_t, isiD, wp_ok, wp_bind, wp_nox, wp_lift_some, wp_liftB_some, m_law_extent, callF_s G_law_long, m_law_long, atI0, atI1, e_win_p hx h3 h4, seqOf]
      rw [lc_rd (h := fun v => .int (size v)) h]
      · have := h.size
        simp [↓ex_fors, ev, evs, evC, evP, evI, ex, exs, Res.bind_ok, Res.bind_exc, Res.bind_stuck, Res.nox_ok, lift_some, liftB_some, setT, setSlots, wipe, b_add, b_sub, c_lt, c_le, c_gt, c_ge, c_eqI, c_neI, c_eqS, c_neS, c_eqB, c_neB, t_bl, t_int, t_tup, t_lst, t_non, bi_int, bi_abs, bi_lenT, bi_lenL, bi_tupL, bi_tupT, bi_lstT, bi_lstL, bi_lstF, ixT, ixL, mk_f, mk_t, isiD, wp_ok, wp_bind, wp_nox, wp_lift_some, wp_liftB_some, bi_sum2, this]
      · intro w v e _ q
        refine ⟨_, rfl, rfl, ?_⟩
        have := q.val.1.2
        simp [↓ex_fors, ev, evs, evC, evP, evI, ex, exs, Res.bind_ok, Res.bind_exc, Res.bind_stuck, Res.nox_ok, lift_some, liftB_some, setT, setSlots, wipe, b_add, b_sub, c_lt, c_le, c_gt, c_ge, c_eqI, c_neI, c_eqS, c_neS, c_eqB, c_neB, t_bl, t_int, t_tup, t_lst, t_non, bi_int, bi_abs, bi_lenT, bi_lenL, bi_tupL, bi_tupT, bi_lstT, bi_lstL, bi_lstF, ixT, ixL, mk_f, mk_t, isiD, wp_ok, wp_bind, wp_nox, wp_lift_some, wp_liftB_some, ih q (k := k + 1) (by omega), this]
    · obtain ⟨k, rfl⟩ : ∃ j, k = j + 2 := ⟨k - 2, by omega⟩
      rw [callF_s G_law_extent (k + 1) rfl]
      have hi0 := atI_get h4
      rcases hx with rfl | rfl
      · simp [↓ex_fors, ev, evs, evC, evP, evI, ex, exs, Res.bind_ok, Res.bind_exc, Res.bind_stuck, Res.nox_ok, lift_some, liftB_some, setT, setSlots, wipe, b_add, b_sub, c_lt, c_le, c_gt, c_ge, c_eqI, c_neI, c_eqS, c_neS, c_eqB, c_neB, t_bl, t_int, t_tup, t_lst, t_non, bi_int, bi_abs, bi_lenT, bi_lenL, bi_tupL, bi_tupT, bi_lstT, bi_lstL, bi_lstF, ixT, ixL, mk_f, mk_t, isiD, wp_ok, wp_bind, wp_nox, wp_lift_some, wp_liftB_some, m_law_extent, callF_s G_law_long, m_law_long, atI0, atI1, hi0, e_win_t (.inl rfl) h4 h5, seqOf]
        rw [lc_rd (h := fun v => .int (size v)) h]
        · have := h.size
          simp [↓ex_fors, ev, evs, evC, evP, evI, ex, exs, Res.bind_ok, Res.bind_exc, Res.bind_stuck, Res.nox_ok, lift_some, liftB_some, setT, setSlots, wipe, b_add, b_sub, c_lt, c_le, c_gt, c_ge, c_eqI, c_neI, c_eqS, c_neS, c_eqB, c_neB, t_bl, t_int, t_tup, t_lst, t_non, bi_int, bi_abs, bi_lenT, bi_lenL, bi_tupL, bi_tupT, bi_lstT, bi_lstL, bi_lstF, ixT, ixL, mk_f, mk_t, isiD, wp_ok, wp_bind, wp_nox, wp_lift_some, wp_liftB_some, bi_sum2, this]
        · intro w v e _ q
          refine ⟨_, rfl, rfl, ?_⟩
          have := q.val.1.2
          simp [↓ex_fors, ev, evs, evC, evP, evI, ex, exs, Res.bind_ok, Res.bind_exc, Res.bind_stuck, Res.nox_ok, lift_some, liftB_some, setT, setSlots, wipe, b_add, b_sub, c_lt, c_le, c_gt, c_ge, c_eqI, c_neI, c_eqS, c_neS, c_eqB, c_neB, t_bl, t_int, t_tup, t_lst, t_non, bi_int, bi_abs, bi_lenT, bi_lenL, bi_tupL, bi_tupT, bi_lstT, bi_lstL, bi_lstF, ixT, ixL, mk_f, mk_t, isiD, wp_ok, wp_bind, wp_nox, wp_lift_some, wp_liftB_some, ih q (k := k + 1) (by omega), this]
      · simp [↓ex_fors, ev, evs, evC, evP, evI, ex, exs, Res.bind_ok, Res.bind_exc, Res.bind_stuck, Res.nox_ok, lift_some, liftB_some, setT, setSlots, wipe, b_add, b_sub, c_lt, c_le, c_gt, c_ge, c_eqI, c_neI, c_eqS, c_neS, c_eqB, c_neB, t_bl, t_int, t_tup, t_lst, t_non, bi_int, bi_abs, bi_lenT, bi_lenL, bi_tupL, bi_tupT, bi_lstT, bi_lstL, bi_lstF, ixT, ixL, mk_f, mk_t, isiD, wp_ok, wp_bind, wp_nox, wp_lift_some, wp_liftB_some, m_law_extent, callF_s G_law_long, m_law_long, atI0, atI1, hi0, e_win_t (.inr rfl) h4 h5, seqOf]
        rw [lc_rd (h := fun v => .int (size v)) h]
        · have := h.size
          simp [↓ex_fors, ev, evs, evC, evP, evI, ex, exs, Res.bind_ok, Res.bind_exc, Res.bind_stuck, Res.nox_ok, lift_some, liftB_some, setT, setSlots, wipe, b_add, b_sub, c_lt, c_le, c_gt, c_ge, c_eqI, c_neI, c_eqS, c_neS, c_eqB, c_neB, t_bl, t_int, t_tup, t_lst, t_non, bi_int, bi_abs, bi_lenT, bi_lenL, bi_tupL, bi_tupT, bi_lstT, bi_lstL, bi_lstF, ixT, ixL, mk_f, mk_t, isiD, wp_ok, wp_bind, wp_nox, wp_lift_some, wp_liftB_some, bi_sum2, this]
        · intro w v e _ q
          refine ⟨_, rfl, rfl, ?_⟩
          have := q.val.1.2
          simp [↓ex_fors, ev, evs, evC, evP, evI, ex, exs, Res.bind_ok, Res.bind_exc, Res.bind_stuck, Res.nox_ok, lift_some, liftB_some, setT, setSlots, wipe, b_add, b_sub, c_lt, c_le, c_gt, c_ge, c_eqI, c_neI, c_eqS, c_neS, c_eqB, c_neB, t_bl, t_int, t_tup, t_lst, t_non, bi_int, bi_abs, bi_lenT, bi_lenL, bi_tupL, bi_tupT, bi_lstT, bi_lstL, bi_lstF, ixT, ixL, mk_f, mk_t, isiD, wp_ok, wp_bind, wp_nox, wp_lift_some, wp_liftB_some, ih q (k := k + 1) (by omega), this]
theorem e_lread {x : D} (hx : x = .tup c ∨ x = .lst c) : ∀ (n : Nat) {w v : D} {e : Int}, Rd c lo n w v e → ∀ {k : Nat}, n + 2 ≤ k → ∀ S : Store, callF G k i_law_read [x, w] S = .ok v S := by
  intro n
  have pl : ∀ {w : D}, plainB w = true → ∀ {k : Nat}, 2 ≤ k → ∀ S : Store, callF G k i_law_read [x, w] S = .ok w S := by
    intro w h k hk S
    obtain ⟨k, rfl⟩ : ∃ j, k = j + 2 := ⟨k - 2, by omega⟩
    have e0 := fun S => e_win_o (k := k) (S := S) (x := x) h
    obtain ⟨s, r, rfl, h1, h2, _⟩ := plain_hd h
    rw [callF_s G_law_read (k + 1) rfl]
    simp [↓ex_fors, ev, evs, evC, evP, evI, ex, exs, Res.bind_ok, Res.bind_exc, Res.bind_stuck, Res.nox_ok, lift_some, liftB_some, setT, setSlots, wipe, b_add, b_sub, c_lt, c_le, c_gt, c_ge, c_eqI, c_neI, c_eqS, c_neS, c_eqB, c_neB, t_bl, t_int, t_tup, t_lst, t_non, bi_int, bi_abs, bi_lenT, bi_lenL, bi_tupL, bi_tupT, bi_lstT, bi_lstL, bi_lstF, ixT, ixL, mk_f, mk_t, isiD, wp_ok, wp_bind, wp_nox, wp_lift_some, wp_liftB_some, m_law_read, atI0, h1, h2, e0, seqOf, lcGo]
  induction n with
  | zero =>
    intro w v e h k hk S
    obtain ⟨h, rfl, rfl⟩ := h
    exact pl h (by omega) S
  | succ n ih =>
    intro w v e h k hk S
    rcases h with ⟨h, rfl, rfl⟩ | ⟨p, ws, us, f, h1, rfl, h3, h4, h, rfl, rfl⟩ | ⟨p, ws, us, f, h1, rfl, h3, h4, h5, h, rfl, rfl⟩
    · exact pl h (by omega) S
    · obtain ⟨k, rfl⟩ : ∃ j, k = j + 2 := ⟨k - 2, by omega⟩
      rw [callF_s G_law_read (k + 1) rfl]
      simp [↓ex_fors, ev, evs, evC, evP, evI, ex, exs, Res.bind_ok, Res.bind_exc, Res.bind_stuck, Res.nox_ok, lift_some, liftB_some, setT, setSlots, wipe, b_add, b_sub, c_lt, c_le, c_gt, c_ge, c_eqI, c_neI, c_eqS, c_neS, c_eqB, c_neB, t_bl, t_int, t_tup, t_lst, t_non, bi_int, bi_abs, bi_lenT, bi_lenL, bi_tupL, bi_tupT, bi_lstT, bi_lstL, bi_lstF, ixT, ixL, mk_f, mk_t, isiD, wp_ok, wp_bind, wp_nox, wp_lift_some, wp_liftB_some, m_law_read, atI0, atI1, e_win_p hx h3 h4, seqOf]
      rw [lc_rd (h := fun v => v) h]
      · have hl := h.len
        match us, hl with
        | [x, y], _ => simp [↓ex_fors, ev, evs, evC, evP, evI, ex, exs, Res.bind_ok, Res.bind_exc, Res.bind_stuck, Res.nox_ok, lift_some, liftB_some, setT, setSlots, wipe, b_add, b_sub, c_lt, c_le, c_gt, c_ge, c_eqI, c_neI, c_eqS, c_neS, c_eqB, c_neB, t_bl, t_int, t_tup, t_lst, t_non, bi_int, bi_abs, bi_lenT, bi_lenL, bi_tupL, bi_tupT, bi_lstT, bi_lstL, bi_lstF, ixT, ixL, mk_f, mk_t, isiD, wp_ok, wp_bind, wp_nox, wp_lift_some, wp_liftB_some, atI0, atI1]
        | [], hl => simp at hl; omega
        | [_], hl => simp at hl; omega
        | _ :: _ :: _ :: _, hl => simp at hl; omega
      · intro w v e _ q
        refine ⟨_, rfl, rfl, ?_⟩
        simp [↓ex_fors, ev, evs, evC, evP, evI, ex, exs, Res.bind_ok, Res.bind_exc, Res.bind_stuck, Res.nox_ok, lift_some, liftB_some, setT, setSlots, wipe, b_add, b_sub, c_lt, c_le, c_gt, c_ge, c_eqI, c_neI, c_eqS, c_neS, c_eqB, c_neB, t_bl, t_int, t_tup, t_lst, t_non, bi_int, bi_abs, bi_lenT, bi_lenL, bi_tupL, bi_tupT, bi_lstT, bi_lstL, bi_lstF, ixT, ixL, mk_f, mk_t, isiD, wp_ok, wp_bind, wp_nox, wp_lift_some, wp_liftB_some, ih q (k := k + 1) (by omega)]
    · obtain ⟨k, rfl⟩ : ∃ j, k = j + 2 := ⟨k - 2, by omega⟩
      rw [callF_s G_law_read (k + 1) rfl]
      simp [↓ex_fors, ev, evs, evC, evP, evI, ex, exs, Res.bind_ok, Res.bind_exc, Res.bind_stuck, Res.nox_ok, lift_some, liftB_some, setT, setSlots, wipe, b_add, b_sub, c_lt, c_le, c_gt, c_ge, c_eqI, c_neI, c_eqS, c_neS, c_eqB, c_neB, t_bl, t_int, t_tup, t_lst, t_non, bi_int, bi_abs, bi_lenT, bi_lenL, bi_tupL, bi_tupT, bi_lstT, bi_lstL, bi_lstF, ixT, ixL, mk_f, mk_t, isiD, wp_ok, wp_bind, wp_nox, wp_lift_some, wp_liftB_some, m_law_read, atI0, atI1, e_win_t hx h4 h5, seqOf]
      rw [lc_rd (h := fun v => v) h]
      · simp [↓ex_fors, ev, evs, evC, evP, evI, ex, exs, Res.bind_ok, Res.bind_exc, Res.bind_stuck, Res.nox_ok, lift_some, liftB_some, setT, setSlots, wipe, b_add, b_sub, c_lt, c_le, c_gt, c_ge, c_eqI, c_neI, c_eqS, c_neS, c_eqB, c_neB, t_bl, t_int, t_tup, t_lst, t_non, bi_int, bi_abs, bi_lenT, bi_lenL, bi_tupL, bi_tupT, bi_lstT, bi_lstL, bi_lstF, ixT, ixL, mk_f, mk_t, isiD, wp_ok, wp_bind, wp_nox, wp_lift_some, wp_liftB_some, atI0]
      · intro w v e _ q
        refine ⟨_, rfl, rfl, ?_⟩
        simp [↓ex_fors, ev, evs, evC, evP, evI, ex, exs, Res.bind_ok, Res.bind_exc, Res.bind_stuck, Res.nox_ok, lift_some, liftB_some, setT, setSlots, wipe, b_add, b_sub, c_lt, c_le, c_gt, c_ge, c_eqI, c_neI, c_eqS, c_neS, c_eqB, c_neB, t_bl, t_int, t_tup, t_lst, t_non, bi_int, bi_abs, bi_lenT, bi_lenL, bi_tupL, bi_tupT, bi_lstT, bi_lstL, bi_lstF, ixT, ixL, mk_f, mk_t, isiD, wp_ok, wp_bind, wp_nox, wp_lift_some, wp_liftB_some, ih q (k := k + 1) (by omega)]
/-- how a heap stands in the program's functions -/
theorem e_vin {r : D} : ∀ (n : Nat) {w v : D} {e : Int}, Rd c lo n w v e → ∀ {k : Nat}, n + 2 ≤ k → ∀ S : Store, callF G k i_value_in [.tup [.tup c, r], w] S = .ok v S := by
  intro n
  have pl : ∀ {w : D}, plainB w = true → ∀ {k : Nat}, 2 ≤ k → ∀ S : Store, callF G k i_value_in [.tup [.tup c, r], w] S = .ok w S := by
    intro w h k hk S
    obtain ⟨k, rfl⟩ : ∃ j, k = j + 2 := ⟨k - 2, by omega⟩
    obtain ⟨s, r, rfl, h1, h2, _⟩ := plain_hd h
    rw [callF_s G_value_in (k + 1) rfl]
    simp [↓ex_fors, ev, evs, evC, evP, evI, ex, exs, Res.bind_ok, Res.bind_exc, Res.bind_stuck, Res.nox_ok, lift_some, liftB_some, setT, setSlots, wipe, b_add, b_sub, c_lt, c_le, c_gt, c_ge, c_eqI, c_neI, c_eqS, c_neS, c_eqB, c_neB, t_bl, t_int, t_tup, t_lst, t_non, bi_int, bi_abs, bi_lenT, bi_lenL, bi_tupL, bi_tupT, bi_lstT, bi_lstL, bi_lstF, ixT, ixL, mk_f, mk_t, isiD, wp_ok, wp_bind, wp_nox, wp_lift_some, wp_liftB_some, m_value_in, atI0, h1, h2]
  induction n with
  | zero =>
    intro w v e h k hk S
    obtain ⟨h, rfl, rfl⟩ := h
    exact pl h (by omega) S
  | succ n ih =>
    intro w v e h k hk S
    rcases h with ⟨h, rfl, rfl⟩ | ⟨p, ws, us, f, h1, rfl, h3, h4, h, rfl, rfl⟩ | ⟨p, ws, us, f, h1, rfl, h3, h4, h5, h, rfl, rfl⟩
    · exact pl h (by omega) S
    · obtain ⟨k, rfl⟩ : ∃ j, k = j + 2 := ⟨k - 2, by omega⟩
      rw [callF_s G_value_in (k + 1) rfl]
      have e0 := fun S => e_inat_p (k := k) (S := S) h3 h4
      cases h with
      | nil => simp at h3
      | @cons w1 v1 e1 f1 ws1 vs1 q1 t1 =>
        cases t1 with
        | nil => simp at h3
        | @cons w2 v2 e2 f2 ws2 vs2 q2 t2 =>
          cases t2 with
          | cons _ _ => simp at h3
          | nil => simp [↓ex_fors, ev, evs, evC, evP, evI, ex, exs, Res.bind_ok, Res.bind_exc, Res.bind_stuck, Res.nox_ok, lift_some, liftB_some, setT, setSlots, wipe, b_add, b_sub, c_lt, c_le, c_gt, c_ge, c_eqI, c_neI, c_eqS, c_neS, c_eqB, c_neB, t_bl, t_int, t_tup, t_lst, t_non, bi_int, bi_abs, bi_lenT, bi_lenL, bi_tupL, bi_tupT, bi_lstT, bi_lstL, bi_lstF, ixT, ixL, mk_f, mk_t, isiD, wp_ok, wp_bind, wp_nox, wp_lift_some, wp_liftB_some, m_value_in, atI0, atI1, e0, ih q1 (k := k + 1) (by omega), ih q2 (k := k + 1) (by omega)]
    · obtain ⟨k, rfl⟩ : ∃ j, k = j + 2 := ⟨k - 2, by omega⟩
      rw [callF_s G_value_in (k + 1) rfl]
      simp [↓ex_fors, ev, evs, evC, evP, evI, ex, exs, Res.bind_ok, Res.bind_exc, Res.bind_stuck, Res.nox_ok, lift_some, liftB_some, setT, setSlots, wipe, b_add, b_sub, c_lt, c_le, c_gt, c_ge, c_eqI, c_neI, c_eqS, c_neS, c_eqB, c_neB, t_bl, t_int, t_tup, t_lst, t_non, bi_int, bi_abs, bi_lenT, bi_lenL, bi_tupL, bi_tupT, bi_lstT, bi_lstL, bi_lstF, ixT, ixL, mk_f, mk_t, isiD, wp_ok, wp_bind, wp_nox, wp_lift_some, wp_liftB_some, m_value_in, atI0, atI1, e_inat_t h4 h5, seqOf]
      rw [lc_rd (h := fun v => v) h]
      · simp [↓ex_fors, ev, evs, evC, evP, evI, ex, exs, Res.bind_ok, Res.bind_exc, Res.bind_stuck, Res.nox_ok, lift_some, liftB_some, setT, setSlots, wipe, b_add, b_sub, c_lt, c_le, c_gt, c_ge, c_eqI, c_neI, c_eqS, c_neS, c_eqB, c_neB, t_bl, t_int, t_tup, t_lst, t_non, bi_int, bi_abs, bi_lenT, bi_lenL, bi_tupL, bi_tupT, bi_lstT, bi_lstL, bi_lstF, ixT, ixL, mk_f, mk_t, isiD, wp_ok, wp_bind, wp_nox, wp_lift_some, wp_liftB_some, atI0]
      · intro w v e _ q
        refine ⟨_, rfl, rfl, ?_⟩
        simp [↓ex_fors, ev, evs, evC, evP, evI, ex, exs, Res.bind_ok, Res.bind_exc, Res.bind_stuck, Res.nox_ok, lift_some, liftB_some, setT, setSlots, wipe, b_add, b_sub, c_lt, c_le, c_gt, c_ge, c_eqI, c_neI, c_eqS, c_neS, c_eqB, c_neB, t_bl, t_int, t_tup, t_lst, t_non, bi_int, bi_abs, bi_lenT, bi_lenL, bi_tupL, bi_tupT, bi_lstT, bi_lstL, bi_lstF, ixT, ixL, mk_f, mk_t, isiD, wp_ok, wp_bind, wp_nox, wp_lift_some, wp_liftB_some, ih q (k := k + 1) (by omega)]
end Ev

set_option Elab.async false
set_option linter.all false
set_option maxRecDepth 100000
set_option maxHeartbeats 4000000
namespace Ev
variable {k : Nat} {S : Store} {c : List D} {lo : Nat}
theorem c_eqT1 (w : D) (z : List Nat) (h : isData w = true) : evCmp .eq w (.tup [.str z]) = some (eqD w (.tup [.str z])) := by
  show (if eqOk w (.tup [.str z]) = true then some (eqD w (.tup [.str z])) else none) = _
  have e0 : min (dep w) (dep (.tup [.str z])) ≤ deepest := Nat.le_trans (Nat.min_le_right _ _) (by simp [dep, depL, deepest])
  have e : eqOk w (.tup [.str z]) = true := by
    unfold eqOk
    rw [decide_eq_true e0, h]
    simp [isData, areData]
  rw [if_pos e]
theorem c_ninT (s : List Nat) (xs : List D) (h : areData xs = true) : evCmp .nin (.str s) (.tup xs) = some (!eqAny (.str s) xs) := by
  have := c_inT s xs h
  show (inOk (.str s) (.tup xs)).map (! ·) = _
  rw [show inOk (.str s) (.tup xs) = some (eqAny (.str s) xs) from this]
  rfl
def isCnt (d : D) : Bool := match d with
  | .tup [.str s, x] => decide (s = [99, 111, 117, 110, 116]) && isWhole x 0 6
  | _ => false
theorem e_iscnt (d : D) (hd : gd d = true) : callF G (k + 3) i_is_count [d] S = .ok (.bl (isCnt d)) S := by
  rw [callF_s G_is_count (k + 2) rfl]
  have hh := e_headed (k := k) (S := S) d hd 2 2 (by decide)
  cases d <;> first | (cases hd; done) | (simp [↓ex_fors, ev, evs, evC, evP, evI, ex, exs, Res.bind_ok, Res.bind_exc, Res.bind_stuck, Res.nox_ok, lift_some, liftB_some, setT, setSlots, wipe, b_add, b_sub, c_lt, c_le, c_gt, c_ge, c_eqI, c_neI, c_eqS, c_neS, c_eqB, c_neB, t_bl, t_int, t_tup, t_lst, t_non, bi_int, bi_abs, bi_lenT, bi_lenL, bi_tupL, bi_tupT, bi_lstT, bi_lstL, bi_lstF, ixT, ixL, mk_f, mk_t, isiD, wp_ok, wp_bind, wp_nox, wp_lift_some, wp_liftB_some, m_is_count, hh, isHd, isCnt]; done) | skip
  rename_i xs
  match xs, hd with
  | [], _ => simp [↓ex_fors, ev, evs, evC, evP, evI, ex, exs, Res.bind_ok, Res.bind_exc, Res.bind_stuck, Res.nox_ok, lift_some, liftB_some, setT, setSlots, wipe, b_add, b_sub, c_lt, c_le, c_gt, c_ge, c_eqI, c_neI, c_eqS, c_neS, c_eqB, c_neB, t_bl, t_int, t_tup, t_lst, t_non, bi_int, bi_abs, bi_lenT, bi_lenL, bi_tupL, bi_tupT, bi_lstT, bi_lstL, bi_lstF, ixT, ixL, mk_f, mk_t, isiD, wp_ok, wp_bind, wp_nox, wp_lift_some, wp_liftB_some, m_is_count, hh, isHd, isCnt]
  | [x], hd =>
    simp only [gd, gdL, Bool.and_eq_true] at hd
    cases x <;> first | (cases hd.1; done) | simp [↓ex_fors, ev, evs, evC, evP, evI, ex, exs, Res.bind_ok, Res.bind_exc, Res.bind_stuck, Res.nox_ok, lift_some, liftB_some, setT, setSlots, wipe, b_add, b_sub, c_lt, c_le, c_gt, c_ge, c_eqI, c_neI, c_eqS, c_neS, c_eqB, c_neB, t_bl, t_int, t_tup, t_lst, t_non, bi_int, bi_abs, bi_lenT, bi_lenL, bi_tupL, bi_tupT, bi_lstT, bi_lstL, bi_lstF, ixT, ixL, mk_f, mk_t, isiD, wp_ok, wp_bind, wp_nox, wp_lift_some, wp_liftB_some, m_is_count, hh, isHd, isCnt]
  | x :: y :: z :: r, hd =>
    simp only [gd, gdL, Bool.and_eq_true] at hd
    have e1 : ¬ ((r.length : Int) + 1 + 1 + 1 ≤ 2) := by omega
    cases x <;> first | (cases hd.1; done) | simp [↓ex_fors, ev, evs, evC, evP, evI, ex, exs, Res.bind_ok, Res.bind_exc, Res.bind_stuck, Res.nox_ok, lift_some, liftB_some, setT, setSlots, wipe, b_add, b_sub, c_lt, c_le, c_gt, c_ge, c_eqI, c_neI, c_eqS, c_neS, c_eqB, c_neB, t_bl, t_int, t_tup, t_lst, t_non, bi_int, bi_abs, bi_lenT, bi_lenL, bi_tupL, bi_tupT, bi_lstT, bi_lstL, bi_lstF, ixT, ixL, mk_f, mk_t, isiD, wp_ok, wp_bind, wp_nox, wp_lift_some, wp_liftB_some, m_is_count, hh, isHd, isCnt, e1]
  | [x, y], hd =>
    simp only [gd, gdL, Bool.and_eq_true] at hd
    cases x <;> first | (cases hd.1; done) | (simp [↓ex_fors, ev, evs, evC, evP, evI, ex, exs, Res.bind_ok, Res.bind_exc, Res.bind_stuck, Res.nox_ok, lift_some, liftB_some, setT, setSlots, wipe, b_add, b_sub, c_lt, c_le, c_gt, c_ge, c_eqI, c_neI, c_eqS, c_neS, c_eqB, c_neB, t_bl, t_int, t_tup, t_lst, t_non, bi_int, bi_abs, bi_lenT, bi_lenL, bi_tupL, bi_tupT, bi_lstT, bi_lstL, bi_lstF, ixT, ixL, mk_f, mk_t, isiD, wp_ok, wp_bind, wp_nox, wp_lift_some, wp_liftB_some, m_is_count, hh, isHd, isCnt]; done) | skip
    rename_i s
    by_cases h : s = [99, 111, 117, 110, 116]
    · subst h
      simp [↓ex_fors, ev, evs, evC, evP, evI, ex, exs, Res.bind_ok, Res.bind_exc, Res.bind_stuck, Res.nox_ok, lift_some, liftB_some, setT, setSlots, wipe, b_add, b_sub, c_lt, c_le, c_gt, c_ge, c_eqI, c_neI, c_eqS, c_neS, c_eqB, c_neB, t_bl, t_int, t_tup, t_lst, t_non, bi_int, bi_abs, bi_lenT, bi_lenL, bi_tupL, bi_tupT, bi_lstT, bi_lstL, bi_lstF, ixT, ixL, mk_f, mk_t, isiD, wp_ok, wp_bind, wp_nox, wp_lift_some, wp_liftB_some, m_is_count, hh, isHd, isCnt, atI0, atI1, e_whole _ hd.2.1]
    · simp [↓ex_fors, ev, evs, evC, evP, evI, ex, exs, Res.bind_ok, Res.bind_exc, Res.bind_stuck, Res.nox_ok, lift_some, liftB_some, setT, setSlots, wipe, b_add, b_sub, c_lt, c_le, c_gt, c_ge, c_eqI, c_neI, c_eqS, c_neS, c_eqB, c_neB, t_bl, t_int, t_tup, t_lst, t_non, bi_int, bi_abs, bi_lenT, bi_lenL, bi_tupL, bi_tupT, bi_lstT, bi_lstL, bi_lstF, ixT, ixL, mk_f, mk_t, isiD, wp_ok, wp_bind, wp_nox, wp_lift_some, wp_liftB_some, m_is_count, hh, isHd, isCnt, atI0, atI1, h]
theorem e_there_p {p : Nat} {ws : List D} (hl : ws.length = 2) (h : (c.drop p).take 2 = ws) : callF G (k + 4) i_is_there [.tup c, .tup [.str [112, 97, 105, 114], .int p]] S = .ok (.bl true) S := by
  rw [callF_s G_is_there (k + 3) rfl]
  have hb := slice_len hl h (by decide)
  have e1 : isWhole (.int p) 0 ((c.length : Int) - 1) = true := by simp [isWhole]; omega
  have e2 : (p : Int) + 1 < c.length := by omega
  simp [↓ex_fors, ev, evs, evC, evP, evI, ex, exs, Res.bind_ok, Res.bind_exc, Res.bind_stuck, Res.nox_ok, lift_some, liftB_some, setT, setSlots, wipe, b_add, b_sub, c_lt, c_le, c_gt, c_ge, c_eqI, c_neI, c_eqS, c_neS, c_eqB, c_neB, t_bl, t_int, t_tup, t_lst, t_non, bi_int, bi_abs, bi_lenT, bi_lenL, bi_tupL, bi_tupT, bi_lstT, bi_lstL, bi_lstF, ixT, ixL, mk_f, mk_t, isiD, wp_ok, wp_bind, wp_nox, wp_lift_some, wp_liftB_some, m_is_there, atI0, atI1, e_whole (.int p) rfl, e1, e2]
theorem e_there_t {p : Nat} {ws : List D} (h6 : ws.length ≤ 6) (h0 : c[p]? = some (.tup [.str [99, 111, 117, 110, 116], .int ws.length])) (h : (c.drop (p + 1)).take ws.length = ws) : callF G (k + 4) i_is_there [.tup c, .tup [.str [116, 117, 112, 108, 101], .int p]] S = .ok (.bl true) S := by
  rw [callF_s G_is_there (k + 3) rfl]
  have hp := (List.getElem?_eq_some_iff.mp h0).1
  have hb : p + 1 + ws.length ≤ c.length := by
    by_cases hz : ws.length = 0
    · omega
    · exact slice_len rfl h (by omega)
  have e1 : isWhole (.int p) 0 ((c.length : Int) - 1) = true := by simp [isWhole]; omega
  have e2 : (p : Int) + ws.length < c.length := by omega
  have e3 : isCnt (.tup [.str [99, 111, 117, 110, 116], .int ws.length]) = true := by simp [isCnt, isWhole]; omega
  have hi0 := atI_get h0
  have e4 := fun S => e_iscnt (k := k) (S := S) (.tup [.str [99, 111, 117, 110, 116], .int ws.length]) rfl
  rw [e3] at e4
  simp [↓ex_fors, ev, evs, evC, evP, evI, ex, exs, Res.bind_ok, Res.bind_exc, Res.bind_stuck, Res.nox_ok, lift_some, liftB_some, setT, setSlots, wipe, b_add, b_sub, c_lt, c_le, c_gt, c_ge, c_eqI, c_neI, c_eqS, c_neS, c_eqB, c_neB, t_bl, t_int, t_tup, t_lst, t_non, bi_int, bi_abs, bi_lenT, bi_lenL, bi_tupL, bi_tupT, bi_lstT, bi_lstL, bi_lstF, ixT, ixL, mk_f, mk_t, isiD, wp_ok, wp_bind, wp_nox, wp_lift_some, wp_liftB_some, m_is_there, atI0, atI1, e_whole (.int p) rfl, e1, e2, hi0, e4]
theorem for_leftat {K : Nat} {P : D → D → Int → Prop} {w : D} {ws us : List D} {f : Int} (h : RdL P ws us f) : ∀ (m : Int) (o : Option D) (S : Store), (∀ w v e, P w v e → 0 ≤ e ∧ ∀ (m : Int) (S : Store), 0 ≤ m → ∃ r, callF G K i_left_at [.tup c, w, .int m] S = .ok (.int r) S ∧ (e ≤ m → r = m - e) ∧ (m < e → r < 0)) →
    ∃ r o', forGo (xs_ (callF G K) [.asg (.name 2) (.ife (.cmp .ge (.var 2) (.con (.int 0))) (.call i_left_at [.var 0, .var 3, .var 2]) (.neg (.con (.int 1))))]) (.name 3) ws [some (.tup c), some w, some (.int m), o] S = .ok (.nx [some (.tup c), some w, some (.int r), o']) S ∧ (0 ≤ m → (f ≤ m → r = m - f) ∧ (m < f → r < 0)) ∧ (m < 0 → r < 0) := by
  induction h with
  | nil => intro m o S _; exact ⟨m, o, rfl, fun h => ⟨fun _ => by omega, fun h2 => by omega⟩, fun h => h⟩
  | @cons w1 v1 e1 f1 ws1 vs1 q t ih =>
    intro m o S hP
    have hq := hP _ _ _ q
    have tp : 0 ≤ f1 := t.pos fun w v e z => (hP w v e z).1
    unfold forGo
    by_cases hm : 0 ≤ m
    · obtain ⟨r1, a1, a2, a3⟩ := hq.2 m S hm
      obtain ⟨r, o', b1, b2, b3⟩ := ih r1 (some w1) S hP
      refine ⟨r, o', ?_, fun _ => ?_, fun h => absurd hm (by omega)⟩
      · simp [xs_, ↓ex_fors, ev, evs, evC, evP, evI, ex, exs, Res.bind_ok, Res.bind_exc, Res.bind_stuck, Res.nox_ok, lift_some, liftB_some, setT, setSlots, wipe, b_add, b_sub, c_lt, c_le, c_gt, c_ge, c_eqI, c_neI, c_eqS, c_neS, c_eqB, c_neB, t_bl, t_int, t_tup, t_lst, t_non, bi_int, bi_abs, bi_lenT, bi_lenL, bi_tupL, bi_tupT, bi_lstT, bi_lstL, bi_lstF, ixT, ixL, mk_f, mk_t, isiD, wp_ok, wp_bind, wp_nox, wp_lift_some, wp_liftB_some, hm, a1]
        exact b1
      · have := hq.1
        by_cases h1 : e1 ≤ m
        · have := a2 h1
          have := b2 (by omega)
          exact ⟨fun h => by have := this.1 (by omega); omega, fun h => this.2 (by omega)⟩
        · have := b3 (a3 (by omega))
          exact ⟨fun h => by omega, fun h => this⟩
    · obtain ⟨r, o', b1, b2, b3⟩ := ih (-1) (some w1) S hP
      refine ⟨r, o', ?_, fun h => absurd h hm, fun _ => b3 (by decide)⟩
      simp [xs_, ↓ex_fors, ev, evs, evC, evP, evI, ex, exs, Res.bind_ok, Res.bind_exc, Res.bind_stuck, Res.nox_ok, lift_some, liftB_some, setT, setSlots, wipe, b_add, b_sub, c_lt, c_le, c_gt, c_ge, c_eqI, c_neI, c_eqS, c_neS, c_eqB, c_neB, t_bl, t_int, t_tup, t_lst, t_non, bi_int, bi_abs, bi_lenT, bi_lenL, bi_tupL, bi_tupT, bi_lstT, bi_lstL, bi_lstF, ixT, ixL, mk_f, mk_t, isiD, wp_ok, wp_bind, wp_nox, wp_lift_some, wp_liftB_some, hm]
      exact b1
theorem e_lat_nil {k : Nat} (m : Int) (S : Store) : callF G (k + 6) i_left_at [.tup c, .tup [.str [110, 105, 108]], .int m] S = .ok (.int m) S := by
  rw [callF_s G_left_at (k + 5) rfl]
  simp [↓ex_fors, ev, evs, evC, evP, evI, ex, exs, Res.bind_ok, Res.bind_exc, Res.bind_stuck, Res.nox_ok, lift_some, liftB_some, setT, setSlots, wipe, b_add, b_sub, c_lt, c_le, c_gt, c_ge, c_eqI, c_neI, c_eqS, c_neS, c_eqB, c_neB, t_bl, t_int, t_tup, t_lst, t_non, bi_int, bi_abs, bi_lenT, bi_lenL, bi_tupL, bi_tupT, bi_lstT, bi_lstL, bi_lstF, ixT, ixL, mk_f, mk_t, isiD, wp_ok, wp_bind, wp_nox, wp_lift_some, wp_liftB_some, m_left_at, e_headed _ (show gd (.tup [.str [110, 105, 108]]) = true from rfl), isHd, c_eqT1 _ _ (show isData (.tup [.str [110, 105, 108]]) = true from rfl), eqD, eqL]
theorem e_lat_pl {k : Nat} (s : List Nat) (x : D) (hs : eqAny (.str s) [.str [97, 116, 111, 109], .str [110, 117, 109, 98, 101, 114], .str [112, 114, 111, 99, 101, 115, 115]] = true) (hn : ¬ s = [110, 105, 108]) (gx : gd x = true) (hf : ∀ S, callF G (k + 5) i_fits_plain [.tup [.str s, x]] S = .ok (.bl true) S) (hg : s.length ≤ 1000) (m : Int) (S : Store) : callF G (k + 6) i_left_at [.tup c, .tup [.str s, x], .int m] S = .ok (.int m) S := by
  have gw : gd (.tup [.str s, x]) = true := by simp [gd, gdL, gx, hg]
  have e1 : eqD (.tup [.str s, x]) (.tup [.str [110, 105, 108]]) = false := by
    simp [eqD, eqL]
  rw [callF_s G_left_at (k + 5) rfl]
  simp [↓ex_fors, ev, evs, evC, evP, evI, ex, exs, Res.bind_ok, Res.bind_exc, Res.bind_stuck, Res.nox_ok, lift_some, liftB_some, setT, setSlots, wipe, b_add, b_sub, c_lt, c_le, c_gt, c_ge, c_eqI, c_neI, c_eqS, c_neS, c_eqB, c_neB, t_bl, t_int, t_tup, t_lst, t_non, bi_int, bi_abs, bi_lenT, bi_lenL, bi_tupL, bi_tupT, bi_lstT, bi_lstL, bi_lstF, ixT, ixL, mk_f, mk_t, isiD, wp_ok, wp_bind, wp_nox, wp_lift_some, wp_liftB_some, m_left_at, e_headed _ gw, isHd, c_eqT1 _ _ (gd_data _ gw), e1, atI0, c_inT, areData, isData, hs, hf]
theorem e_fp_num {k : Nat} {i : Int} (a : -536870912 ≤ i) (b : i ≤ 536870911) (S : Store) : callF G (k + 3) i_fits_plain [.tup [.str [110, 117, 109, 98, 101, 114], .int i]] S = .ok (.bl true) S := by
  rw [e_plain _ _ (show gdL [.int i] = true from rfl)]
  have : isWhole (.int i) (-536870912) 536870911 = true := by simp only [isWhole, a, b, decide_true, Bool.and_self]
  simp only [this, if_true]
theorem e_fp_proc {k : Nat} {i : Int} (a : 0 ≤ i) (b : i ≤ 7) (S : Store) : callF G (k + 3) i_fits_plain [.tup [.str [112, 114, 111, 99, 101, 115, 115], .int i]] S = .ok (.bl true) S := by
  rw [e_plain _ _ (show gdL [.int i] = true from rfl)]
  have : isWhole (.int i) 0 7 = true := by simp only [isWhole, a, b, decide_true, Bool.and_self]
  simp [this]
theorem e_fp_atom {k : Nat} {z : List Nat} (a : isWord (.str z) = true) (b : z.length ≤ 1000) (S : Store) : callF G (k + 3) i_fits_plain [.tup [.str [97, 116, 111, 109], .str z]] S = .ok (.bl true) S := by
  rw [e_plain _ _ (by simp [gdL, gd, b])]
  simp [a]
theorem e_lat_plain {w : D} (h : plainB w = true) {k : Nat} (m : Int) (S : Store) : callF G (k + 6) i_left_at [.tup c, w, .int m] S = .ok (.int m) S := by
  rcases plain_cases h with rfl | ⟨i, rfl, a, b⟩ | ⟨z, rfl, a, b⟩ | ⟨i, rfl, a, b⟩
  · exact e_lat_nil m S
  · exact e_lat_pl _ _ (by decide) (by decide) rfl (fun S => e_fp_num (k := k + 2) a b S) (by decide) m S
  · exact e_lat_pl _ _ (by decide) (by decide) (by simp [gd, b]) (fun S => e_fp_atom (k := k + 2) a b S) (by decide) m S
  · exact e_lat_pl _ _ (by decide) (by decide) rfl (fun S => e_fp_proc (k := k + 2) a b S) (by decide) m S
theorem e_lat_p {k p : Nat} {ws : List D} {r : Int} {o' : Option D} {m : Int} {S : Store} (h3 : ws.length = 2) (h4 : (c.drop p).take 2 = ws)
    (b1 : forGo (xs_ (callF G (k + 5)) [.asg (.name 2) (.ife (.cmp .ge (.var 2) (.con (.int 0))) (.call i_left_at [.var 0, .var 3, .var 2]) (.neg (.con (.int 1))))]) (.name 3) ws [some (.tup c), some (.tup [.str [112, 97, 105, 114], .int p]), some (.int (m - 2)), none] S = .ok (.nx [some (.tup c), some (.tup [.str [112, 97, 105, 114], .int p]), some (.int r), o']) S) :
    callF G (k + 6) i_left_at [.tup c, .tup [.str [112, 97, 105, 114], .int p], .int m] S = .ok (.int r) S := by
  rw [callF_s G_left_at (k + 5) rfl]
  have gw : gd (.tup [.str [112, 97, 105, 114], .int p]) = true := rfl
  have dw : isData (.tup [.str [112, 97, 105, 114], .int p]) = true := rfl
  have e1 : eqD (.tup [.str [112, 97, 105, 114], .int p]) (.tup [.str [110, 105, 108]]) = false := rfl
  have hh : isHd (.tup [.str [112, 97, 105, 114], .int p]) 1 2 = true := rfl
  have e2 : ∀ S, callF G (k + 5) i_is_there [.tup c, .tup [.str [112, 97, 105, 114], .int p]] S = .ok (.bl true) S := fun S => e_there_p (k := k + 1) h3 h4
  have e3 : ∀ S, callF G (k + 5) i_long_at [.tup c, .tup [.str [112, 97, 105, 114], .int p]] S = .ok (.int 2) S := fun S => by
    rw [callF_s G_long_at (k + 4) rfl]
    simp [↓ex_fors, ev, evs, evC, evP, evI, ex, exs, Res.bind_ok, Res.bind_exc, Res.bind_stuck, Res.nox_ok, lift_some, liftB_some, setT, setSlots, wipe, b_add, b_sub, c_lt, c_le, c_gt, c_ge, c_eqI, c_neI, c_eqS, c_neS, c_eqB, c_neB, t_bl, t_int, t_tup, t_lst, t_non, bi_int, bi_abs, bi_lenT, bi_lenL, bi_tupL, bi_tupT, bi_lstT, bi_lstL, bi_lstF, ixT, ixL, mk_f, mk_t, isiD, wp_ok, wp_bind, wp_nox, wp_lift_some, wp_liftB_some, m_long_at, atI0]
  have e4 : ∀ S, callF G (k + 5) i_inner_at [.tup c, .tup [.str [112, 97, 105, 114], .int p]] S = .ok (.tup ws) S := fun S => e_inat_p h3 h4
  simp [↓ex_fors, ev, evs, evC, evP, evI, ex, exs, Res.bind_ok, Res.bind_exc, Res.bind_stuck, Res.nox_ok, lift_some, liftB_some, setT, setSlots, wipe, b_add, b_sub, c_lt, c_le, c_gt, c_ge, c_eqI, c_neI, c_eqS, c_neS, c_eqB, c_neB, t_bl, t_int, t_tup, t_lst, t_non, bi_int, bi_abs, bi_lenT, bi_lenL, bi_tupL, bi_tupT, bi_lstT, bi_lstL, bi_lstF, ixT, ixL, mk_f, mk_t, isiD, wp_ok, wp_bind, wp_nox, wp_lift_some, wp_liftB_some, m_left_at, e_headed _ gw, hh, c_eqT1 _ _ dw, e1, atI0, c_inT, c_ninT, areData, isData, eqAny, eqD_s, e2, e3, e4, seqOf, b1]
theorem e_lat_t {k p : Nat} {ws : List D} {r : Int} {o' : Option D} {m : Int} {S : Store} (h3 : ws.length ≤ 6) (h4 : c[p]? = some (.tup [.str [99, 111, 117, 110, 116], .int ws.length])) (h5 : (c.drop (p + 1)).take ws.length = ws)
    (b1 : forGo (xs_ (callF G (k + 5)) [.asg (.name 2) (.ife (.cmp .ge (.var 2) (.con (.int 0))) (.call i_left_at [.var 0, .var 3, .var 2]) (.neg (.con (.int 1))))]) (.name 3) ws [some (.tup c), some (.tup [.str [116, 117, 112, 108, 101], .int p]), some (.int (m - (1 + ws.length))), none] S = .ok (.nx [some (.tup c), some (.tup [.str [116, 117, 112, 108, 101], .int p]), some (.int r), o']) S) :
    callF G (k + 6) i_left_at [.tup c, .tup [.str [116, 117, 112, 108, 101], .int p], .int m] S = .ok (.int r) S := by
  rw [callF_s G_left_at (k + 5) rfl]
  have gw : gd (.tup [.str [116, 117, 112, 108, 101], .int p]) = true := rfl
  have dw : isData (.tup [.str [116, 117, 112, 108, 101], .int p]) = true := rfl
  have e1 : eqD (.tup [.str [116, 117, 112, 108, 101], .int p]) (.tup [.str [110, 105, 108]]) = false := rfl
  have hh : isHd (.tup [.str [116, 117, 112, 108, 101], .int p]) 1 2 = true := rfl
  have hi0 := atI_get h4
  have e2 : ∀ S, callF G (k + 5) i_is_there [.tup c, .tup [.str [116, 117, 112, 108, 101], .int p]] S = .ok (.bl true) S := fun S => e_there_t (k := k + 1) h3 h4 h5
  have e3 : ∀ S, callF G (k + 5) i_long_at [.tup c, .tup [.str [116, 117, 112, 108, 101], .int p]] S = .ok (.int (1 + ws.length)) S := fun S => by
    rw [callF_s G_long_at (k + 4) rfl]
    simp [↓ex_fors, ev, evs, evC, evP, evI, ex, exs, Res.bind_ok, Res.bind_exc, Res.bind_stuck, Res.nox_ok, lift_some, liftB_some, setT, setSlots, wipe, b_add, b_sub, c_lt, c_le, c_gt, c_ge, c_eqI, c_neI, c_eqS, c_neS, c_eqB, c_neB, t_bl, t_int, t_tup, t_lst, t_non, bi_int, bi_abs, bi_lenT, bi_lenL, bi_tupL, bi_tupT, bi_lstT, bi_lstL, bi_lstF, ixT, ixL, mk_f, mk_t, isiD, wp_ok, wp_bind, wp_nox, wp_lift_some, wp_liftB_some, m_long_at, atI0, atI1, hi0]
  have e4 : ∀ S, callF G (k + 5) i_inner_at [.tup c, .tup [.str [116, 117, 112, 108, 101], .int p]] S = .ok (.tup ws) S := fun S => e_inat_t h4 h5
  simp [↓ex_fors, ev, evs, evC, evP, evI, ex, exs, Res.bind_ok, Res.bind_exc, Res.bind_stuck, Res.nox_ok, lift_some, liftB_some, setT, setSlots, wipe, b_add, b_sub, c_lt, c_le, c_gt, c_ge, c_eqI, c_neI, c_eqS, c_neS, c_eqB, c_neB, t_bl, t_int, t_tup, t_lst, t_non, bi_int, bi_abs, bi_lenT, bi_lenL, bi_tupL, bi_tupT, bi_lstT, bi_lstL, bi_lstF, ixT, ixL, mk_f, mk_t, isiD, wp_ok, wp_bind, wp_nox, wp_lift_some, wp_liftB_some, m_left_at, e_headed _ gw, hh, c_eqT1 _ _ dw, e1, atI0, c_inT, c_ninT, areData, isData, eqAny, eqD_s, e2, e3, e4, seqOf, b1]
theorem e_leftat : ∀ (n : Nat) {w v : D} {e : Int}, Rd c lo n w v e → ∀ {k : Nat}, n + 6 ≤ k → ∀ (m : Int) (S : Store), 0 ≤ m → ∃ r, callF G k i_left_at [.tup c, w, .int m] S = .ok (.int r) S ∧ (e ≤ m → r = m - e) ∧ (m < e → r < 0) := by
  intro n
  have pl : ∀ {w : D}, plainB w = true → ∀ {k : Nat}, 6 ≤ k → ∀ (m : Int) (S : Store), 0 ≤ m → ∃ r, callF G k i_left_at [.tup c, w, .int m] S = .ok (.int r) S ∧ ((0 : Int) ≤ m → r = m - 0) ∧ (m < 0 → r < 0) := by
    intro w h k hk m S hm
    obtain ⟨k, rfl⟩ : ∃ j, k = j + 6 := ⟨k - 6, by omega⟩
    exact ⟨m, e_lat_plain h m S, fun _ => by omega, fun h => absurd hm (by omega)⟩
  induction n with
  | zero =>
    intro w v e h k hk m S hm
    obtain ⟨h, rfl, rfl⟩ := h
    exact pl h (by omega) m S hm
  | succ n ih =>
    intro w v e h k hk m S hm
    rcases h with ⟨h, rfl, rfl⟩ | ⟨p, ws, us, f, h1, rfl, h3, h4, h, rfl, rfl⟩ | ⟨p, ws, us, f, h1, rfl, h3, h4, h5, h, rfl, rfl⟩
    · exact pl h (by omega) m S hm
    · obtain ⟨k, rfl⟩ : ∃ j, k = j + 6 := ⟨k - 6, by omega⟩
      have hf := h.pos fun w v e q => Rd.pos q
      obtain ⟨r, o', b1, b2, b3⟩ := for_leftat (c := c) (K := k + 5) (w := .tup [.str [112, 97, 105, 114], .int p]) h (m - 2) none S fun w v e q => ⟨q.pos, fun m S hm => ih q (by omega) m S hm⟩
      refine ⟨r, ?_, fun hh => ?_, fun hh => ?_⟩
      · exact e_lat_p h3 h4 b1
      · have := (b2 (by omega)).1 (by omega); omega
      · by_cases hz : 0 ≤ m - 2
        · exact (b2 hz).2 (by omega)
        · exact b3 (by omega)
    · obtain ⟨k, rfl⟩ : ∃ j, k = j + 6 := ⟨k - 6, by omega⟩
      have hf := h.pos fun w v e q => Rd.pos q
      have hi0 := atI_get h4
      obtain ⟨r, o', b1, b2, b3⟩ := for_leftat (c := c) (K := k + 5) (w := .tup [.str [116, 117, 112, 108, 101], .int p]) h (m - (1 + ws.length)) none S fun w v e q => ⟨q.pos, fun m S hm => ih q (by omega) m S hm⟩
      refine ⟨r, ?_, fun hh => ?_, fun hh => ?_⟩
      · exact e_lat_t h3 h4 h5 b1
      · have := (b2 (by omega)).1 (by omega); omega
      · by_cases hz : 0 ≤ m - (1 + (ws.length : Int))
        · exact (b2 hz).2 (by omega)
        · exact b3 (by omega)
end Ev

set_option Elab.async false
set_option linter.all false
set_option maxRecDepth 100000
set_option maxHeartbeats 4000000
namespace Ev
variable {k : Nat} {S : Store} {c : List D} {lo : Nat}
def six (s : List Nat) : Prop := s = [110, 117, 109, 98, 101, 114] ∨ s = [97, 116, 111, 109] ∨ s = [112, 114, 111, 99, 101, 115, 115] ∨ s = [116, 117, 112, 108, 101] ∨ s = [110, 105, 108] ∨ s = [112, 97, 105, 114]
theorem Rd.head {n : Nat} {w v : D} {e : Int} (h : Rd c lo n w v e) : ∃ s r u, w = .tup (.str s :: r) ∧ v = .tup (.str s :: u) ∧ six s := by
  have pl : ∀ {w : D}, plainB w = true → ∃ s r u, w = .tup (.str s :: r) ∧ w = .tup (.str s :: u) ∧ six s := by
    intro w h
    rcases plain_cases h with rfl | ⟨i, rfl, _⟩ | ⟨z, rfl, _⟩ | ⟨i, rfl, _⟩ <;> exact ⟨_, _, _, rfl, rfl, by simp [six]⟩
  cases n with
  | zero => obtain ⟨h, rfl, rfl⟩ := h; exact pl h
  | succ n =>
    rcases h with ⟨h, rfl, rfl⟩ | ⟨p, ws, us, f, h1, rfl, h3, h4, h, rfl, rfl⟩ | ⟨p, ws, us, f, h1, rfl, h3, h4, h5, h, rfl, rfl⟩
    · exact pl h
    · exact ⟨_, _, _, rfl, rfl, by simp [six]⟩
    · exact ⟨_, _, _, rfl, rfl, by simp [six]⟩
/-- the shapes of words -/
theorem Rd.sh {n : Nat} {w v : D} {e : Int} (h : Rd c lo n w v e) : (∃ s, w = .tup [.str s]) ∨ (∃ s i, w = .tup [.str s, .int i]) ∨ ∃ s z, w = .tup [.str s, .str z] ∧ z.length ≤ 1000 := by
  have pl : ∀ {w : D}, plainB w = true → (∃ s, w = .tup [.str s]) ∨ (∃ s i, w = .tup [.str s, .int i]) ∨ ∃ s z, w = .tup [.str s, .str z] ∧ z.length ≤ 1000 := by
    intro w h
    rcases plain_cases h with rfl | ⟨i, rfl, _⟩ | ⟨z, rfl, _, b⟩ | ⟨i, rfl, _⟩
    · exact .inl ⟨_, rfl⟩
    · exact .inr (.inl ⟨_, _, rfl⟩)
    · exact .inr (.inr ⟨_, _, rfl, b⟩)
    · exact .inr (.inl ⟨_, _, rfl⟩)
  cases n with
  | zero => obtain ⟨h, rfl, rfl⟩ := h; exact pl h
  | succ n =>
    rcases h with ⟨h, rfl, rfl⟩ | ⟨p, ws, us, f, h1, rfl, h3, h4, h, rfl, rfl⟩ | ⟨p, ws, us, f, h1, rfl, h3, h4, h5, h, rfl, rfl⟩
    · exact pl h
    · exact .inr (.inl ⟨_, _, rfl⟩)
    · exact .inr (.inl ⟨_, _, rfl⟩)
theorem Rd.gw {n : Nat} {w v : D} {e : Int} (h : Rd c lo n w v e) : gd w = true ∧ isData w = true ∧ dep w ≤ 1 := by
  obtain ⟨s, r, u, e1, _, hs⟩ := h.head
  have hl : s.length ≤ 1000 := by rcases hs with rfl | rfl | rfl | rfl | rfl | rfl <;> decide
  have g : gd w = true := by
    rcases h.sh with ⟨t, rfl⟩ | ⟨t, i, rfl⟩ | ⟨t, z, rfl, hz⟩
    · cases e1; simp [gd, gdL, hl]
    · cases e1; simp [gd, gdL, hl]
    · cases e1; simp [gd, gdL, hl, hz]
  refine ⟨g, gd_data _ g, ?_⟩
  rcases h.sh with ⟨t, rfl⟩ | ⟨t, i, rfl⟩ | ⟨t, z, rfl, _⟩ <;> simp [dep, depL]
theorem eqD_word {n m : Nat} {w v w' v' : D} {e e' : Int} (h : Rd c lo n w v e) (h' : Rd c lo m w' v' e') (q : eqD w w' = true) : w = w' := by
  rcases h.sh with ⟨s, rfl⟩ | ⟨s, i, rfl⟩ | ⟨s, z, rfl, _⟩ <;> rcases h'.sh with ⟨s', rfl⟩ | ⟨s', i', rfl⟩ | ⟨s', z', rfl, _⟩ <;> simp [eqD, eqL] at q <;> simp [q]
theorem e_fword {n : Nat} {w v : D} {e : Int} (h : Rd c lo n w v e) (he : e ≤ 120) {k : Nat} (hk : n + 7 ≤ k) (S : Store) : callF G k i_fits_word [.tup c, w] S = .ok (.bl true) S := by
  obtain ⟨k, rfl⟩ : ∃ j, k = j + 1 := ⟨k - 1, by omega⟩
  obtain ⟨r, e1, e2, _⟩ := e_leftat n h (k := k) (by omega) 120 S (by decide)
  have e3 := e2 he
  have e4 : 0 ≤ r := by omega
  rw [callF_s G_fits_word k rfl]
  simp [↓ex_fors, ev, evs, evC, evP, evI, ex, exs, Res.bind_ok, Res.bind_exc, Res.bind_stuck, Res.nox_ok, lift_some, liftB_some, setT, setSlots, wipe, b_add, b_sub, c_lt, c_le, c_gt, c_ge, c_eqI, c_neI, c_eqS, c_neS, c_eqB, c_neB, t_bl, t_int, t_tup, t_lst, t_non, bi_int, bi_abs, bi_lenT, bi_lenL, bi_tupL, bi_tupT, bi_lstT, bi_lstL, bi_lstF, ixT, ixL, mk_f, mk_t, isiD, wp_ok, wp_bind, wp_nox, wp_lift_some, wp_liftB_some, m_fits_word, e1, e4]
/-- a cell of a heap -/
def CellOk (c : List D) (x : D) : Prop := isCnt x = true ∨ ∃ n v e, n ≤ 30 ∧ Rd c 0 n x v e ∧ e ≤ 120
theorem cnt_gd {x : D} (h : isCnt x = true) : gd x = true := by
  unfold isCnt at h
  split at h
  · rename_i s y
    simp at h
    obtain ⟨rfl, h⟩ := h
    cases y <;> simp [isWhole] at h
    rfl
  · cases h
theorem e_cell {x : D} (h : CellOk c x) {k : Nat} (hk : 40 ≤ k) : ∀ S : Store, callF G k i_is_count [x] S = .ok (.bl (isCnt x)) S ∧ (isCnt x = false → callF G k i_fits_word [.tup c, x] S = .ok (.bl true) S) := by
  obtain ⟨k, rfl⟩ : ∃ j, k = j + 3 := ⟨k - 3, by omega⟩
  intro S
  rcases h with h | ⟨n, v, e, hn, h, he⟩
  · exact ⟨e_iscnt x (cnt_gd h), fun z => by rw [h] at z; cases z⟩
  · exact ⟨e_iscnt x h.gw.1, fun _ => e_fword h he (by omega) S⟩
theorem c_inTi (i : Int) (xs : List D) (h : areData xs = true) : evCmp .in_ (.int i) (.tup xs) = some (eqAny (.int i) xs) := by
  show inOk (.int i) (.tup xs) = _
  have : inOk (.int i) (.tup xs) = if isData (.int i) && areData xs && decide (min (depL xs) (dep (.int i)) ≤ deepest) then some (eqAny (.int i) xs) else none := rfl
  rw [this, h]
  simp [isData, dep]
structure HeapOk (c : List D) (r : Int) : Prop where
  cell : ∀ x ∈ c, CellOk c x
  len : (c.length : Int) ≤ r
  room : r = 256 ∨ r = 512
theorem e_fheap {r : Int} (h : HeapOk c r) {k : Nat} (hk : 42 ≤ k) (S : Store) : callF G k i_fits_heap [.tup [.tup c, .int r]] S = .ok (.bl true) S := by
  obtain ⟨k, rfl⟩ : ∃ j, k = j + 2 := ⟨k - 2, by omega⟩
  have cells := h.cell
  have len := h.len
  rw [callF_s G_fits_heap (k + 1) rfl]
  have t1 : ∀ S, callF G (k + 1) i_is_tuple_of [.tup [.tup c, .int r], .int 2, .int 2] S = .ok (.bl true) S := fun S => by
    rw [callF_s G_is_tuple_of k rfl]
    simp [↓ex_fors, ev, evs, evC, evP, evI, ex, exs, Res.bind_ok, Res.bind_exc, Res.bind_stuck, Res.nox_ok, lift_some, liftB_some, setT, setSlots, wipe, b_add, b_sub, c_lt, c_le, c_gt, c_ge, c_eqI, c_neI, c_eqS, c_neS, c_eqB, c_neB, t_bl, t_int, t_tup, t_lst, t_non, bi_int, bi_abs, bi_lenT, bi_lenL, bi_tupL, bi_tupT, bi_lstT, bi_lstL, bi_lstF, ixT, ixL, mk_f, mk_t, isiD, wp_ok, wp_bind, wp_nox, wp_lift_some, wp_liftB_some, m_is_tuple_of]
  have t2 : ∀ S, callF G (k + 1) i_is_tuple_of [.tup c, .int 0, .int r] S = .ok (.bl true) S := fun S => by
    rw [callF_s G_is_tuple_of k rfl]
    simp [↓ex_fors, ev, evs, evC, evP, evI, ex, exs, Res.bind_ok, Res.bind_exc, Res.bind_stuck, Res.nox_ok, lift_some, liftB_some, setT, setSlots, wipe, b_add, b_sub, c_lt, c_le, c_gt, c_ge, c_eqI, c_neI, c_eqS, c_neS, c_eqB, c_neB, t_bl, t_int, t_tup, t_lst, t_non, bi_int, bi_abs, bi_lenT, bi_lenL, bi_tupL, bi_tupT, bi_lstT, bi_lstL, bi_lstF, ixT, ixL, mk_f, mk_t, isiD, wp_ok, wp_bind, wp_nox, wp_lift_some, wp_liftB_some, m_is_tuple_of, len]
  have t3 : ∀ S, callF G (k + 1) i_fits_room [.int r] S = .ok (.bl true) S := fun S => by
    obtain ⟨j, rfl⟩ : ∃ j, k = j + 1 := ⟨k - 1, by omega⟩
    rw [callF_s G_fits_room (j + 1) rfl]
    rcases h.room with rfl | rfl <;> simp [↓ex_fors, ev, evs, evC, evP, evI, ex, exs, Res.bind_ok, Res.bind_exc, Res.bind_stuck, Res.nox_ok, lift_some, liftB_some, setT, setSlots, wipe, b_add, b_sub, c_lt, c_le, c_gt, c_ge, c_eqI, c_neI, c_eqS, c_neS, c_eqB, c_neB, t_bl, t_int, t_tup, t_lst, t_non, bi_int, bi_abs, bi_lenT, bi_lenL, bi_tupL, bi_tupT, bi_lstT, bi_lstL, bi_lstF, ixT, ixL, mk_f, mk_t, isiD, wp_ok, wp_bind, wp_nox, wp_lift_some, wp_liftB_some, m_fits_room, e_whole _ (show gd (.int _) = true from rfl), isWhole, c_inTi, areData, isData, eqAny, eqD]
  simp [↓ex_fors, ev, evs, evC, evP, evI, ex, exs, Res.bind_ok, Res.bind_exc, Res.bind_stuck, Res.nox_ok, lift_some, liftB_some, setT, setSlots, wipe, b_add, b_sub, c_lt, c_le, c_gt, c_ge, c_eqI, c_neI, c_eqS, c_neS, c_eqB, c_neB, t_bl, t_int, t_tup, t_lst, t_non, bi_int, bi_abs, bi_lenT, bi_lenL, bi_tupL, bi_tupT, bi_lstT, bi_lstL, bi_lstF, ixT, ixL, mk_f, mk_t, isiD, wp_ok, wp_bind, wp_nox, wp_lift_some, wp_liftB_some, m_fits_heap, t1, t2, t3, atI0, atI1, seqOf]
  rw [lcGo_map (g := fun _ => .bl true)]
  · simp [↓ex_fors, ev, evs, evC, evP, evI, ex, exs, Res.bind_ok, Res.bind_exc, Res.bind_stuck, Res.nox_ok, lift_some, liftB_some, setT, setSlots, wipe, b_add, b_sub, c_lt, c_le, c_gt, c_ge, c_eqI, c_neI, c_eqS, c_neS, c_eqB, c_neB, t_bl, t_int, t_tup, t_lst, t_non, bi_int, bi_abs, bi_lenT, bi_lenL, bi_tupL, bi_tupT, bi_lstT, bi_lstL, bi_lstF, ixT, ixL, mk_f, mk_t, isiD, wp_ok, wp_bind, wp_nox, wp_lift_some, wp_liftB_some, bi_all, boolsOf_map (fun _ => true)]
  · intro x hx
    refine ⟨_, rfl, rfl, ?_⟩
    have q := e_cell (cells x hx) (k := k + 1) (by omega) S
    cases hc : isCnt x with
    | true => rw [hc] at q; simp [↓ex_fors, ev, evs, evC, evP, evI, ex, exs, Res.bind_ok, Res.bind_exc, Res.bind_stuck, Res.nox_ok, lift_some, liftB_some, setT, setSlots, wipe, b_add, b_sub, c_lt, c_le, c_gt, c_ge, c_eqI, c_neI, c_eqS, c_neS, c_eqB, c_neB, t_bl, t_int, t_tup, t_lst, t_non, bi_int, bi_abs, bi_lenT, bi_lenL, bi_tupL, bi_tupT, bi_lstT, bi_lstL, bi_lstF, ixT, ixL, mk_f, mk_t, isiD, wp_ok, wp_bind, wp_nox, wp_lift_some, wp_liftB_some, q.1]
    | false =>
      have q2 := q.2 hc
      rw [hc] at q
      simp [↓ex_fors, ev, evs, evC, evP, evI, ex, exs, Res.bind_ok, Res.bind_exc, Res.bind_stuck, Res.nox_ok, lift_some, liftB_some, setT, setSlots, wipe, b_add, b_sub, c_lt, c_le, c_gt, c_ge, c_eqI, c_neI, c_eqS, c_neS, c_eqB, c_neB, t_bl, t_int, t_tup, t_lst, t_non, bi_int, bi_abs, bi_lenT, bi_lenL, bi_tupL, bi_tupT, bi_lstT, bi_lstL, bi_lstF, ixT, ixL, mk_f, mk_t, isiD, wp_ok, wp_bind, wp_nox, wp_lift_some, wp_liftB_some, q.1, q2, atI0]
theorem e_idx {s : List Nat} (h : six s) : evIdxS (.str s) [[110, 117, 109, 98, 101, 114], [97, 116, 111, 109], [112, 114, 111, 99, 101, 115, 115], [116, 117, 112, 108, 101], [110, 105, 108], [112, 97, 105, 114]] = some (.int (rank s)) := by
  rcases h with rfl | rfl | rfl | rfl | rfl | rfl <;> rfl
theorem rank_inj {s t : List Nat} (h : six s) (h' : six t) (hne : ¬ s = t) : ¬ rank s = rank t := by
  rcases h with rfl | rfl | rfl | rfl | rfl | rfl <;> rcases h' with rfl | rfl | rfl | rfl | rfl | rfl <;> first | exact absurd rfl hne | decide
theorem cmp_ne {s t : List Nat} (r u : List D) (hne : ¬ s = t) : cmp (.tup (.str s :: r)) (.tup (.str t :: u)) = if rank s < rank t then -1 else 1 := by
  simp [cmp, hne]
theorem mul_ib (a : Int) (b : Bool) : evBin .mul (.int a) (.bl b) = some (.int (a * b2n b)) := rfl
theorem sgn_rank {a b : Int} (h : ¬ a = b) : 2 * b2n (decide (b < a)) - 1 = if a < b then -1 else 1 := by
  by_cases h1 : a < b
  · have : ¬ b < a := by omega
    simp [h1, this, b2n]
  · have : b < a := by omega
    simp [h1, this, b2n]
theorem for_cin {K : Nat} {P P' : D → D → Int → Prop} {hp a b x y : D} : ∀ {ws us ws' us' : List D} {f f' : Int}, RdL P ws us f → RdL P' ws' us' f' → (∀ w v e w' v' e', P w v e → P' w' v' e' → ∀ S : Store, callF G K i_compared_in [hp, w, w'] S = .ok (.int (cmp v v')) S) → ∀ (p q o : Option D) (S : Store),
    ∃ r, forGo (xs_ (callF G K) [.asg (.name 7) (.call i_compared_in [.var 0, .var 5, .var 6]), .ifs (.cmp .ne (.var 7) (.con (.int 0))) [.ret (.var 7)] []]) (.names [5, 6]) (zipD ws ws') [some hp, some a, some b, some x, some y, p, q, o] S = .ok r S ∧
      (if cmpL us us' = 0 then ∃ p q o, r = .nx [some hp, some a, some b, some x, some y, p, q, o] else r = .ret (.int (cmpL us us')))
  | _, _, _, _, _, _, .nil, _, _, p, q, o, S => ⟨.nx [some hp, some a, some b, some x, some y, p, q, o], by simp only [zipD, forGo], by simp [cmpL]⟩
  | _, _, _, _, _, _, .cons _ _, .nil, _, p, q, o, S => ⟨.nx [some hp, some a, some b, some x, some y, p, q, o], by simp only [zipD, forGo], by simp [cmpL]⟩
  | w :: ws, v :: us, w' :: ws', v' :: us', _, _, .cons h t, .cons h' t', hh, p, q, o, S => by
    have h0 := hh _ _ _ _ _ _ h h' S
    by_cases hc : cmp v v' = 0
    · obtain ⟨r, e1, e2⟩ := for_cin (K := K) (hp := hp) (a := a) (b := b) (x := x) (y := y) t t' hh (some w) (some w') (some (.int 0)) S
      refine ⟨r, ?_, ?_⟩
      · unfold zipD forGo
        simp [xs_, ↓ex_fors, ev, evs, evC, evP, evI, ex, exs, Res.bind_ok, Res.bind_exc, Res.bind_stuck, Res.nox_ok, lift_some, liftB_some, setT, setSlots, wipe, b_add, b_sub, c_lt, c_le, c_gt, c_ge, c_eqI, c_neI, c_eqS, c_neS, c_eqB, c_neB, t_bl, t_int, t_tup, t_lst, t_non, bi_int, bi_abs, bi_lenT, bi_lenL, bi_tupL, bi_tupT, bi_lstT, bi_lstL, bi_lstF, ixT, ixL, mk_f, mk_t, isiD, wp_ok, wp_bind, wp_nox, wp_lift_some, wp_liftB_some, h0, hc]
        exact e1
      · simp only [cmpL, hc, if_true]
        exact e2
    · refine ⟨.ret (.int (cmp v v')), ?_, ?_⟩
      · unfold zipD forGo
        simp [xs_, ↓ex_fors, ev, evs, evC, evP, evI, ex, exs, Res.bind_ok, Res.bind_exc, Res.bind_stuck, Res.nox_ok, lift_some, liftB_some, setT, setSlots, wipe, b_add, b_sub, c_lt, c_le, c_gt, c_ge, c_eqI, c_neI, c_eqS, c_neS, c_eqB, c_neB, t_bl, t_int, t_tup, t_lst, t_non, bi_int, bi_abs, bi_lenT, bi_lenL, bi_tupL, bi_tupT, bi_lstT, bi_lstL, bi_lstF, ixT, ixL, mk_f, mk_t, isiD, wp_ok, wp_bind, wp_nox, wp_lift_some, wp_liftB_some, h0, hc]
      · simp [cmpL, hc]
end Ev

set_option Elab.async false
set_option linter.all false
set_option maxRecDepth 100000
set_option maxHeartbeats 4000000
namespace Ev
variable {k : Nat} {S : Store} {c : List D} {lo : Nat}
theorem c_eqW {n m : Nat} {w v w' v' : D} {e e' : Int} (h : Rd c lo n w v e) (h' : Rd c lo m w' v' e') : evCmp .eq w w' = some (eqD w w') := by
  show (if eqOk w w' = true then some (eqD w w') else none) = _
  have e0 : min (dep w) (dep w') ≤ deepest := Nat.le_trans (Nat.min_le_left _ _) (Nat.le_trans h.gw.2.2 (by decide))
  have e : eqOk w w' = true := by
    unfold eqOk
    rw [decide_eq_true e0, h.gw.2.1, h'.gw.2.1]
    rfl
  rw [if_pos e]
/-- words of one sort that stand for themselves, or of unlike sorts -/
theorem cin_ne {k : Nat} {r w w' : D} {s t : List Nat} {a b : List D} (hw : w = .tup (.str s :: a)) (hw' : w' = .tup (.str t :: b)) (hs : six s) (ht : six t) (hst : ¬ s = t) (he : evCmp .eq w w' = some false) :
    callF G (k + 2) i_compared_in [.tup [.tup c, r], w, w'] S = .ok (.int (if rank s < rank t then -1 else 1)) S := by
  rw [callF_s G_compared_in (k + 1) rfl]
  have th : ∀ S, ∃ q, callF G (k + 1) i_is_thing [w] S = .ok (.bl q) S := fun S => by
    subst hw
    rw [callF_s G_is_thing k rfl]
    exact ⟨eqAny (.str s) [.str [112, 97, 105, 114], .str [116, 117, 112, 108, 101]], by simp [↓ex_fors, ev, evs, evC, evP, evI, ex, exs, Res.bind_ok, Res.bind_exc, Res.bind_stuck, Res.nox_ok, lift_some, liftB_some, setT, setSlots, wipe, b_add, b_sub, c_lt, c_le, c_gt, c_ge, c_eqI, c_neI, c_eqS, c_neS, c_eqB, c_neB, t_bl, t_int, t_tup, t_lst, t_non, bi_int, bi_abs, bi_lenT, bi_lenL, bi_tupL, bi_tupT, bi_lstT, bi_lstL, bi_lstF, ixT, ixL, mk_f, mk_t, isiD, wp_ok, wp_bind, wp_nox, wp_lift_some, wp_liftB_some, m_is_thing, atI0, c_inT, areData, isData]⟩
  obtain ⟨q, hq⟩ := th S
  have i1 := e_idx hs
  have i2 := e_idx ht
  have sr := sgn_rank (rank_inj hs ht hst)
  subst hw
  subst hw'
  cases q <;> simp [↓ex_fors, ev, evs, evC, evP, evI, ex, exs, Res.bind_ok, Res.bind_exc, Res.bind_stuck, Res.nox_ok, lift_some, liftB_some, setT, setSlots, wipe, b_add, b_sub, c_lt, c_le, c_gt, c_ge, c_eqI, c_neI, c_eqS, c_neS, c_eqB, c_neB, t_bl, t_int, t_tup, t_lst, t_non, bi_int, bi_abs, bi_lenT, bi_lenL, bi_tupL, bi_tupT, bi_lstT, bi_lstL, bi_lstF, ixT, ixL, mk_f, mk_t, isiD, wp_ok, wp_bind, wp_nox, wp_lift_some, wp_liftB_some, m_compared_in, he, hq, atI0, hst, i1, i2, mul_ib, sr]
theorem cin_pl {k : Nat} {r w w' : D} {s : List Nat} {a b : List D} {d : Int} (hw : w = .tup (.str s :: a)) (hw' : w' = .tup (.str s :: b)) (h1 : ¬ s = [116, 117, 112, 108, 101]) (h2 : ¬ s = [112, 97, 105, 114]) (he : evCmp .eq w w' = some false) (hc : ∀ S, callF G (k + 1) i_compare_in [w, w'] S = .ok (.int d) S) :
    callF G (k + 2) i_compared_in [.tup [.tup c, r], w, w'] S = .ok (.int d) S := by
  rw [callF_s G_compared_in (k + 1) rfl]
  have th : ∀ S, callF G (k + 1) i_is_thing [w] S = .ok (.bl false) S := fun S => by
    subst hw
    rw [callF_s G_is_thing k rfl]
    simp [↓ex_fors, ev, evs, evC, evP, evI, ex, exs, Res.bind_ok, Res.bind_exc, Res.bind_stuck, Res.nox_ok, lift_some, liftB_some, setT, setSlots, wipe, b_add, b_sub, c_lt, c_le, c_gt, c_ge, c_eqI, c_neI, c_eqS, c_neS, c_eqB, c_neB, t_bl, t_int, t_tup, t_lst, t_non, bi_int, bi_abs, bi_lenT, bi_lenL, bi_tupL, bi_tupT, bi_lstT, bi_lstL, bi_lstF, ixT, ixL, mk_f, mk_t, isiD, wp_ok, wp_bind, wp_nox, wp_lift_some, wp_liftB_some, m_is_thing, atI0, c_inT, areData, isData, eqAny, eqD_s, h1, h2]
  subst hw
  subst hw'
  simp [↓ex_fors, ev, evs, evC, evP, evI, ex, exs, Res.bind_ok, Res.bind_exc, Res.bind_stuck, Res.nox_ok, lift_some, liftB_some, setT, setSlots, wipe, b_add, b_sub, c_lt, c_le, c_gt, c_ge, c_eqI, c_neI, c_eqS, c_neS, c_eqB, c_neB, t_bl, t_int, t_tup, t_lst, t_non, bi_int, bi_abs, bi_lenT, bi_lenL, bi_tupL, bi_tupT, bi_lstT, bi_lstL, bi_lstF, ixT, ixL, mk_f, mk_t, isiD, wp_ok, wp_bind, wp_nox, wp_lift_some, wp_liftB_some, m_compared_in, he, th, atI0, hc]
theorem cin_th {k : Nat} {r w w' : D} {s : List Nat} {a b : List D} {ws ws' us us' : List D} (hw : w = .tup (.str s :: a)) (hw' : w' = .tup (.str s :: b)) (hs : s = [116, 117, 112, 108, 101] ∨ s = [112, 97, 105, 114]) (he : evCmp .eq w w' = some false)
    (i1 : ∀ S, callF G (k + 1) i_inner_at [.tup c, w] S = .ok (.tup ws) S) (i2 : ∀ S, callF G (k + 1) i_inner_at [.tup c, w'] S = .ok (.tup ws') S)
    (hl : us.length = ws.length) (hl' : us'.length = ws'.length)
    (hf : ∃ rr, forGo (xs_ (callF G (k + 1)) [.asg (.name 7) (.call i_compared_in [.var 0, .var 5, .var 6]), .ifs (.cmp .ne (.var 7) (.con (.int 0))) [.ret (.var 7)] []]) (.names [5, 6]) (zipD ws ws') [some (.tup [.tup c, r]), some w, some w', some (.tup ws), some (.tup ws'), none, none, none] S = .ok rr S ∧
      (if cmpL us us' = 0 then ∃ p q o, rr = .nx [some (.tup [.tup c, r]), some w, some w', some (.tup ws), some (.tup ws'), p, q, o] else rr = .ret (.int (cmpL us us')))) :
    callF G (k + 2) i_compared_in [.tup [.tup c, r], w, w'] S = .ok (.int (if us.length = us'.length then cmpL us us' else if us.length < us'.length then -1 else 1)) S := by
  rw [callF_s G_compared_in (k + 1) rfl]
  have th : ∀ S, callF G (k + 1) i_is_thing [w] S = .ok (.bl true) S := fun S => by
    subst hw
    rw [callF_s G_is_thing k rfl]
    rcases hs with rfl | rfl <;> simp [↓ex_fors, ev, evs, evC, evP, evI, ex, exs, Res.bind_ok, Res.bind_exc, Res.bind_stuck, Res.nox_ok, lift_some, liftB_some, setT, setSlots, wipe, b_add, b_sub, c_lt, c_le, c_gt, c_ge, c_eqI, c_neI, c_eqS, c_neS, c_eqB, c_neB, t_bl, t_int, t_tup, t_lst, t_non, bi_int, bi_abs, bi_lenT, bi_lenL, bi_tupL, bi_tupT, bi_lstT, bi_lstL, bi_lstF, ixT, ixL, mk_f, mk_t, isiD, wp_ok, wp_bind, wp_nox, wp_lift_some, wp_liftB_some, m_is_thing, atI0, c_inT, areData, isData, eqAny, eqD_s]
  rw [hl, hl']
  have hn : evCmp .ne (.str s) (.str s) = some false := by rw [c_neS]; simp
  obtain ⟨rr, f1, f2⟩ := hf
  have ix1 : ∀ S, evIx w (.int 0) S = some (.str s) := fun S => by subst hw; rw [ixT]; exact atI0 _ _
  have ix2 : ∀ S, evIx w' (.int 0) S = some (.str s) := fun S => by subst hw'; rw [ixT]; exact atI0 _ _
  clear hw hw'
  by_cases hlen : ws.length = ws'.length
  · have hlen' : (ws.length : Int) = ws'.length := by omega
    simp [↓ex_fors, ev, evs, evC, evP, evI, ex, exs, Res.bind_ok, Res.bind_exc, Res.bind_stuck, Res.nox_ok, lift_some, liftB_some, setT, setSlots, wipe, b_add, b_sub, c_lt, c_le, c_gt, c_ge, c_eqI, c_neI, c_eqS, c_neS, c_eqB, c_neB, t_bl, t_int, t_tup, t_lst, t_non, bi_int, bi_abs, bi_lenT, bi_lenL, bi_tupL, bi_tupT, bi_lstT, bi_lstL, bi_lstF, ixT, ixL, mk_f, mk_t, isiD, wp_ok, wp_bind, wp_nox, wp_lift_some, wp_liftB_some, m_compared_in, he, th, atI0, ix1, ix2, i1, i2, hlen', f1]
    by_cases hc : cmpL us us' = 0
    · rw [if_pos hc] at f2
      obtain ⟨p, q, o, rfl⟩ := f2
      simp [↓ex_fors, ev, evs, evC, evP, evI, ex, exs, Res.bind_ok, Res.bind_exc, Res.bind_stuck, Res.nox_ok, lift_some, liftB_some, setT, setSlots, wipe, b_add, b_sub, c_lt, c_le, c_gt, c_ge, c_eqI, c_neI, c_eqS, c_neS, c_eqB, c_neB, t_bl, t_int, t_tup, t_lst, t_non, bi_int, bi_abs, bi_lenT, bi_lenL, bi_tupL, bi_tupT, bi_lstT, bi_lstL, bi_lstF, ixT, ixL, mk_f, mk_t, isiD, wp_ok, wp_bind, wp_nox, wp_lift_some, wp_liftB_some, hc, hlen]
    · rw [if_neg hc] at f2
      subst f2
      simp [↓ex_fors, ev, evs, evC, evP, evI, ex, exs, Res.bind_ok, Res.bind_exc, Res.bind_stuck, Res.nox_ok, lift_some, liftB_some, setT, setSlots, wipe, b_add, b_sub, c_lt, c_le, c_gt, c_ge, c_eqI, c_neI, c_eqS, c_neS, c_eqB, c_neB, t_bl, t_int, t_tup, t_lst, t_non, bi_int, bi_abs, bi_lenT, bi_lenL, bi_tupL, bi_tupT, bi_lstT, bi_lstL, bi_lstF, ixT, ixL, mk_f, mk_t, isiD, wp_ok, wp_bind, wp_nox, wp_lift_some, wp_liftB_some, hlen]
  · have hlen' : ¬ ((ws.length : Int) = ws'.length) := by omega
    by_cases h2 : ws.length < ws'.length
    · simp [↓ex_fors, ev, evs, evC, evP, evI, ex, exs, Res.bind_ok, Res.bind_exc, Res.bind_stuck, Res.nox_ok, lift_some, liftB_some, setT, setSlots, wipe, b_add, b_sub, c_lt, c_le, c_gt, c_ge, c_eqI, c_neI, c_eqS, c_neS, c_eqB, c_neB, t_bl, t_int, t_tup, t_lst, t_non, bi_int, bi_abs, bi_lenT, bi_lenL, bi_tupL, bi_tupT, bi_lstT, bi_lstL, bi_lstF, ixT, ixL, mk_f, mk_t, isiD, wp_ok, wp_bind, wp_nox, wp_lift_some, wp_liftB_some, m_compared_in, he, th, atI0, ix1, ix2, i1, i2, hlen, hlen', h2]
    · simp [↓ex_fors, ev, evs, evC, evP, evI, ex, exs, Res.bind_ok, Res.bind_exc, Res.bind_stuck, Res.nox_ok, lift_some, liftB_some, setT, setSlots, wipe, b_add, b_sub, c_lt, c_le, c_gt, c_ge, c_eqI, c_neI, c_eqS, c_neS, c_eqB, c_neB, t_bl, t_int, t_tup, t_lst, t_non, bi_int, bi_abs, bi_lenT, bi_lenL, bi_tupL, bi_tupT, bi_lstT, bi_lstL, bi_lstF, ixT, ixL, mk_f, mk_t, isiD, wp_ok, wp_bind, wp_nox, wp_lift_some, wp_liftB_some, m_compared_in, he, th, atI0, ix1, ix2, i1, i2, hlen, hlen', h2]
theorem Rd.same {n m : Nat} {w v v' : D} {e e' : Int} (h : Rd c lo n w v e) (h' : Rd c lo m w v' e') : cmp v v' = 0 := by
  obtain ⟨rfl, _⟩ := h.det h'
  have := h.val
  exact cmp_refl _ v this.2.2 this.1.1
theorem e_cin {r : D} : ∀ (n : Nat) {m : Nat} {w v w' v' : D} {e e' : Int}, Rd c lo n w v e → Rd c lo m w' v' e' → ∀ {k : Nat}, n + 6 ≤ k → ∀ S : Store, callF G k i_compared_in [.tup [.tup c, r], w, w'] S = .ok (.int (cmp v v')) S := by
  intro n
  induction n with
  | zero =>
    intro m w v w' v' e e' h h' k hk S
    obtain ⟨k, rfl⟩ : ∃ j, k = j + 2 := ⟨k - 2, by omega⟩
    have he := c_eqW h h'
    cases hq : eqD w w' with
    | true =>
      have := eqD_word h h' hq
      subst this
      rw [hq] at he
      rw [callF_s G_compared_in (k + 1) rfl, h.same h']
      simp [↓ex_fors, ev, evs, evC, evP, evI, ex, exs, Res.bind_ok, Res.bind_exc, Res.bind_stuck, Res.nox_ok, lift_some, liftB_some, setT, setSlots, wipe, b_add, b_sub, c_lt, c_le, c_gt, c_ge, c_eqI, c_neI, c_eqS, c_neS, c_eqB, c_neB, t_bl, t_int, t_tup, t_lst, t_non, bi_int, bi_abs, bi_lenT, bi_lenL, bi_tupL, bi_tupT, bi_lstT, bi_lstL, bi_lstF, ixT, ixL, mk_f, mk_t, isiD, wp_ok, wp_bind, wp_nox, wp_lift_some, wp_liftB_some, m_compared_in, he]
    | false =>
      rw [hq] at he
      obtain ⟨s, a, u, e1, e2, hs⟩ := h.head
      obtain ⟨t, b, u', e3, e4, ht⟩ := h'.head
      by_cases hst : s = t
      · subst hst
        obtain ⟨hp, rfl, _⟩ := h
        obtain ⟨s', a', e5, h1, h2, _⟩ := plain_hd hp
        rw [e1] at e5
        have es : s = s' := by simp at e5; exact e5.1
        subst es
        have hv : v' = w' := by
          cases m with
          | zero => exact h'.2.1
          | succ m =>
            rcases h' with ⟨_, q, _⟩ | ⟨p, ws, us, f, _, q, _⟩ | ⟨p, ws, us, f, _, q, _⟩
            · exact q
            · rw [e3] at q; simp at q; exact absurd q.1 h2
            · rw [e3] at q; simp at q; exact absurd q.1 h1
        have hp' : built w' = true := by rw [← hv]; exact h'.val.1.1
        rw [hv]
        exact cin_pl e1 e3 h1 h2 he fun S => e_cmp 1 _ _ (plain_built hp).2.2.2 (plain_built hp).1 hp' (by omega) S
      · rw [e2, e4, cmp_ne _ _ hst]
        exact cin_ne e1 e3 hs ht hst he
  | succ n ih =>
    intro m w v w' v' e e' h h' k hk S
    obtain ⟨k, rfl⟩ : ∃ j, k = j + 2 := ⟨k - 2, by omega⟩
    have he := c_eqW h h'
    cases hq : eqD w w' with
    | true =>
      have := eqD_word h h' hq
      subst this
      rw [hq] at he
      rw [callF_s G_compared_in (k + 1) rfl, h.same h']
      simp [↓ex_fors, ev, evs, evC, evP, evI, ex, exs, Res.bind_ok, Res.bind_exc, Res.bind_stuck, Res.nox_ok, lift_some, liftB_some, setT, setSlots, wipe, b_add, b_sub, c_lt, c_le, c_gt, c_ge, c_eqI, c_neI, c_eqS, c_neS, c_eqB, c_neB, t_bl, t_int, t_tup, t_lst, t_non, bi_int, bi_abs, bi_lenT, bi_lenL, bi_tupL, bi_tupT, bi_lstT, bi_lstL, bi_lstF, ixT, ixL, mk_f, mk_t, isiD, wp_ok, wp_bind, wp_nox, wp_lift_some, wp_liftB_some, m_compared_in, he]
    | false =>
      rw [hq] at he
      obtain ⟨s, a, u, e1, e2, hs⟩ := h.head
      obtain ⟨t, b, u', e3, e4, ht⟩ := h'.head
      by_cases hst : s = t
      · subst hst
        rcases h with ⟨hp, rfl, _⟩ | ⟨p, ws, us, f, h1, rfl, h3, h4, hR, rfl, rfl⟩ | ⟨p, ws, us, f, h1, rfl, h3, h4, h5, hR, rfl, rfl⟩
        · obtain ⟨s', a', e5, h1, h2, _⟩ := plain_hd hp
          rw [e1] at e5
          have es : s = s' := by simp at e5; exact e5.1
          subst es
          have hv : v' = w' := by
            cases m with
            | zero => exact h'.2.1
            | succ m =>
              rcases h' with ⟨_, q, _⟩ | ⟨p, ws, us, f, _, q, _⟩ | ⟨p, ws, us, f, _, q, _⟩
              · exact q
              · rw [e3] at q; simp at q; exact absurd q.1 h2
              · rw [e3] at q; simp at q; exact absurd q.1 h1
          have hp' : built w' = true := by rw [← hv]; exact h'.val.1.1
          rw [hv]
          exact cin_pl e1 e3 h1 h2 he fun S => e_cmp 1 _ _ (plain_built hp).2.2.2 (plain_built hp).1 hp' (by omega) S
        · have es : s = [112, 97, 105, 114] := by simp at e1; exact e1.1.symm
          subst es
          cases m with
          | zero =>
            obtain ⟨hp, _, _⟩ := h'
            obtain ⟨s', a', e5, _, k2, _⟩ := plain_hd hp
            rw [e3] at e5; simp at e5; exact absurd e5.1.symm k2
          | succ m =>
            rcases h' with ⟨hp, _, _⟩ | ⟨p', ws', us', f', k1, rfl, k3, k4, kR, rfl, rfl⟩ | ⟨p', ws', us', f', k1, q, _⟩
            · obtain ⟨s', a', e5, _, k2, _⟩ := plain_hd hp
              rw [e3] at e5; simp at e5; exact absurd e5.1.symm k2
            · have := cin_th (k := k) (r := r) (S := S) rfl rfl (.inr rfl) he (fun S => e_inat_p h3 h4) (fun S => e_inat_p k3 k4) hR.len kR.len
                (for_cin (K := k + 1) hR kR (fun w v e w' v' e' a b S => ih a b (by omega) S) none none none S)
              rw [this]
              have l1 := hR.len
              have l2 := kR.len
              have l3 : us.length = us'.length := by omega
              rw [if_pos l3]
              simp [cmp]
            · rw [e3] at q; simp at q
        · have es : s = [116, 117, 112, 108, 101] := by simp at e1; exact e1.1.symm
          subst es
          cases m with
          | zero =>
            obtain ⟨hp, _, _⟩ := h'
            obtain ⟨s', a', e5, k1, _, _⟩ := plain_hd hp
            rw [e3] at e5; simp at e5; exact absurd e5.1.symm k1
          | succ m =>
            rcases h' with ⟨hp, _, _⟩ | ⟨p', ws', us', f', k1, q, _⟩ | ⟨p', ws', us', f', k1, rfl, k3, k4, k5, kR, rfl, rfl⟩
            · obtain ⟨s', a', e5, k1, _, _⟩ := plain_hd hp
              rw [e3] at e5; simp at e5; exact absurd e5.1.symm k1
            · rw [e3] at q; simp at q
            · have := cin_th (k := k) (r := r) (S := S) rfl rfl (.inl rfl) he (fun S => e_inat_t h4 h5) (fun S => e_inat_t k4 k5) hR.len kR.len
                (for_cin (K := k + 1) hR kR (fun w v e w' v' e' a b S => ih a b (by omega) S) none none none S)
              rw [this]
              simp [cmp, cmpT, cmpU]
      · rw [e2, e4, cmp_ne _ _ hst]
        exact cin_ne e1 e3 hs ht hst he
theorem e_cat {r : Int} (hh : HeapOk c r) {n m : Nat} {w v w' v' : D} {e e' : Int} (h : Rd c lo n w v e) (h' : Rd c lo m w' v' e') (he : e ≤ 120) (he' : e' ≤ 120) {k : Nat} (hk : n + m + 45 ≤ k) (S : Store) : callF G k i_compared_at [.tup [.tup c, .int r], w, w'] S = .ok (.int (cmp v v')) S := by
  obtain ⟨k, rfl⟩ : ∃ j, k = j + 2 := ⟨k - 2, by omega⟩
  rw [callF_s G_compared_at (k + 1) rfl]
  have n1 : ∀ S, callF G (k + 1) i_need_heap [.tup [.tup c, .int r]] S = .ok .non S := fun S => by
    rw [callF_s G_need_heap k rfl]
    simp [↓ex_fors, ev, evs, evC, evP, evI, ex, exs, Res.bind_ok, Res.bind_exc, Res.bind_stuck, Res.nox_ok, lift_some, liftB_some, setT, setSlots, wipe, b_add, b_sub, c_lt, c_le, c_gt, c_ge, c_eqI, c_neI, c_eqS, c_neS, c_eqB, c_neB, t_bl, t_int, t_tup, t_lst, t_non, bi_int, bi_abs, bi_lenT, bi_lenL, bi_tupL, bi_tupT, bi_lstT, bi_lstL, bi_lstF, ixT, ixL, mk_f, mk_t, isiD, wp_ok, wp_bind, wp_nox, wp_lift_some, wp_liftB_some, m_need_heap, e_fheap hh (k := k) (by omega)]
  have n2 : ∀ S, callF G (k + 1) i_need_word [.tup [.tup c, .int r], w] S = .ok .non S := fun S => by
    rw [callF_s G_need_word k rfl]
    simp [↓ex_fors, ev, evs, evC, evP, evI, ex, exs, Res.bind_ok, Res.bind_exc, Res.bind_stuck, Res.nox_ok, lift_some, liftB_some, setT, setSlots, wipe, b_add, b_sub, c_lt, c_le, c_gt, c_ge, c_eqI, c_neI, c_eqS, c_neS, c_eqB, c_neB, t_bl, t_int, t_tup, t_lst, t_non, bi_int, bi_abs, bi_lenT, bi_lenL, bi_tupL, bi_tupT, bi_lstT, bi_lstL, bi_lstF, ixT, ixL, mk_f, mk_t, isiD, wp_ok, wp_bind, wp_nox, wp_lift_some, wp_liftB_some, m_need_word, atI0, e_fword h he (k := k) (by omega)]
  have n3 : ∀ S, callF G (k + 1) i_need_word [.tup [.tup c, .int r], w'] S = .ok .non S := fun S => by
    rw [callF_s G_need_word k rfl]
    simp [↓ex_fors, ev, evs, evC, evP, evI, ex, exs, Res.bind_ok, Res.bind_exc, Res.bind_stuck, Res.nox_ok, lift_some, liftB_some, setT, setSlots, wipe, b_add, b_sub, c_lt, c_le, c_gt, c_ge, c_eqI, c_neI, c_eqS, c_neS, c_eqB, c_neB, t_bl, t_int, t_tup, t_lst, t_non, bi_int, bi_abs, bi_lenT, bi_lenL, bi_tupL, bi_tupT, bi_lstT, bi_lstL, bi_lstF, ixT, ixL, mk_f, mk_t, isiD, wp_ok, wp_bind, wp_nox, wp_lift_some, wp_liftB_some, m_need_word, atI0, e_fword h' he' (k := k) (by omega)]
  simp [↓ex_fors, ev, evs, evC, evP, evI, ex, exs, Res.bind_ok, Res.bind_exc, Res.bind_stuck, Res.nox_ok, lift_some, liftB_some, setT, setSlots, wipe, b_add, b_sub, c_lt, c_le, c_gt, c_ge, c_eqI, c_neI, c_eqS, c_neS, c_eqB, c_neB, t_bl, t_int, t_tup, t_lst, t_non, bi_int, bi_abs, bi_lenT, bi_lenL, bi_tupL, bi_tupT, bi_lstT, bi_lstL, bi_lstF, ixT, ixL, mk_f, mk_t, isiD, wp_ok, wp_bind, wp_nox, wp_lift_some, wp_liftB_some, m_compared_at, n1, n2, n3, e_cin n h h' (k := k + 1) (by omega)]
theorem e_vat {r : Int} (hh : HeapOk c r) {n : Nat} {w v : D} {e : Int} (h : Rd c lo n w v e) (he : e ≤ 120) {k : Nat} (hk : n + 45 ≤ k) (S : Store) : callF G k i_value_at [.tup [.tup c, .int r], w] S = .ok v S := by
  obtain ⟨k, rfl⟩ : ∃ j, k = j + 2 := ⟨k - 2, by omega⟩
  rw [callF_s G_value_at (k + 1) rfl]
  have n1 : ∀ S, callF G (k + 1) i_need_heap [.tup [.tup c, .int r]] S = .ok .non S := fun S => by
    rw [callF_s G_need_heap k rfl]
    simp [↓ex_fors, ev, evs, evC, evP, evI, ex, exs, Res.bind_ok, Res.bind_exc, Res.bind_stuck, Res.nox_ok, lift_some, liftB_some, setT, setSlots, wipe, b_add, b_sub, c_lt, c_le, c_gt, c_ge, c_eqI, c_neI, c_eqS, c_neS, c_eqB, c_neB, t_bl, t_int, t_tup, t_lst, t_non, bi_int, bi_abs, bi_lenT, bi_lenL, bi_tupL, bi_tupT, bi_lstT, bi_lstL, bi_lstF, ixT, ixL, mk_f, mk_t, isiD, wp_ok, wp_bind, wp_nox, wp_lift_some, wp_liftB_some, m_need_heap, e_fheap hh (k := k) (by omega)]
  have n2 : ∀ S, callF G (k + 1) i_need_word [.tup [.tup c, .int r], w] S = .ok .non S := fun S => by
    rw [callF_s G_need_word k rfl]
    simp [↓ex_fors, ev, evs, evC, evP, evI, ex, exs, Res.bind_ok, Res.bind_exc, Res.bind_stuck, Res.nox_ok, lift_some, liftB_some, setT, setSlots, wipe, b_add, b_sub, c_lt, c_le, c_gt, c_ge, c_eqI, c_neI, c_eqS, c_neS, c_eqB, c_neB, t_bl, t_int, t_tup, t_lst, t_non, bi_int, bi_abs, bi_lenT, bi_lenL, bi_tupL, bi_tupT, bi_lstT, bi_lstL, bi_lstF, ixT, ixL, mk_f, mk_t, isiD, wp_ok, wp_bind, wp_nox, wp_lift_some, wp_liftB_some, m_need_word, atI0, e_fword h he (k := k) (by omega)]
  simp [↓ex_fors, ev, evs, evC, evP, evI, ex, exs, Res.bind_ok, Res.bind_exc, Res.bind_stuck, Res.nox_ok, lift_some, liftB_some, setT, setSlots, wipe, b_add, b_sub, c_lt, c_le, c_gt, c_ge, c_eqI, c_neI, c_eqS, c_neS, c_eqB, c_neB, t_bl, t_int, t_tup, t_lst, t_non, bi_int, bi_abs, bi_lenT, bi_lenL, bi_tupL, bi_tupT, bi_lstT, bi_lstL, bi_lstF, ixT, ixL, mk_f, mk_t, isiD, wp_ok, wp_bind, wp_nox, wp_lift_some, wp_liftB_some, m_value_at, n1, n2, e_vin n h (k := k + 1) (by omega)]
end Ev

set_option Elab.async false
set_option linter.all false
set_option maxRecDepth 100000
set_option maxHeartbeats 4000000
namespace Ev
variable {k : Nat} {S : Store}
mutual
theorem eqD_refl : ∀ d : D, isData d = true → eqD d d = true
  | .non, _ => rfl
  | .bl b, _ => by simp [eqD]
  | .int b, _ => by simp [eqD]
  | .str b, _ => by simp [eqD]
  | .tup xs, h => by simp only [eqD]; exact eqL_refl xs h
  | .lst xs, h => by simp only [eqD]; exact eqL_refl xs h
  | .dic _ _, h => by cases h
  | .ref _, h => by cases h
  | .fro _, h => by cases h
theorem eqL_refl : ∀ xs : List D, areData xs = true → eqL xs xs = true
  | [], _ => rfl
  | x :: xs, h => by
    simp only [areData, Bool.and_eq_true] at h
    simp only [eqL, eqD_refl x h.1, eqL_refl xs h.2, Bool.and_self]
end
theorem c_eqR {d : D} (h : isData d = true) (hd : dep d ≤ 120) : evCmp .eq d d = some true := by
  show (if eqOk d d = true then some (eqD d d) else none) = _
  have e : eqOk d d = true := by
    unfold eqOk
    rw [decide_eq_true (by rw [Nat.min_self]; exact hd : min (dep d) (dep d) ≤ deepest), h]
    rfl
  rw [if_pos e, eqD_refl d h]
theorem mem_zz : ∀ {xs : List D} {z : D}, z ∈ zipD xs xs → ∃ x ∈ xs, z = .tup [x, x]
  | [], _, h => by simp [zipD] at h
  | x :: xs, z, h => by
    simp only [zipD, List.mem_cons] at h
    rcases h with rfl | h
    · exact ⟨x, List.mem_cons_self .., rfl⟩
    · obtain ⟨a, ha, e⟩ := mem_zz h
      exact ⟨a, List.mem_cons_of_mem _ ha, e⟩
theorem e_same : ∀ (n : Nat) (d : D), dep d ≤ n → n ≤ 100 → gd d = true → ∀ {k : Nat}, n + 2 ≤ k → ∀ S : Store, callF G k i_law_same [d, d] S = .ok (.bl true) S := by
  intro n
  induction n using Nat.strongRecOn with
  | _ n ih =>
    intro d hn h100 hd k hk S
    obtain ⟨k, rfl⟩ : ∃ j, k = j + 2 := ⟨k - 2, by omega⟩
    rw [callF_s G_law_same (k + 1) rfl]
    have hq := c_eqR (gd_data d hd) (by omega)
    cases d <;> first | (cases hd; done) | (simp [↓ex_fors, ev, evs, evC, evP, evI, ex, exs, Res.bind_ok, Res.bind_exc, Res.bind_stuck, Res.nox_ok, lift_some, liftB_some, setT, setSlots, wipe, b_add, b_sub, c_lt, c_le, c_gt, c_ge, c_eqI, c_neI, c_eqS, c_neS, c_eqB, c_neB, t_bl, t_int, t_tup, t_lst, t_non, bi_int, bi_abs, bi_lenT, bi_lenL, bi_tupL, bi_tupT, bi_lstT, bi_lstL, bi_lstF, ixT, ixL, mk_f, mk_t, isiD, wp_ok, wp_bind, wp_nox, wp_lift_some, wp_liftB_some, m_law_same, hq]; done) | skip
    rename_i xs
    simp [↓ex_fors, ev, evs, evC, evP, evI, ex, exs, Res.bind_ok, Res.bind_exc, Res.bind_stuck, Res.nox_ok, lift_some, liftB_some, setT, setSlots, wipe, b_add, b_sub, c_lt, c_le, c_gt, c_ge, c_eqI, c_neI, c_eqS, c_neS, c_eqB, c_neB, t_bl, t_int, t_tup, t_lst, t_non, bi_int, bi_abs, bi_lenT, bi_lenL, bi_tupL, bi_tupT, bi_lstT, bi_lstL, bi_lstF, ixT, ixL, mk_f, mk_t, isiD, wp_ok, wp_bind, wp_nox, wp_lift_some, wp_liftB_some, m_law_same]
    rw [lcGo_fil (g := fun _ => .int 1) (p := fun _ => false)]
    · have h0 : evCmp .eq (.lst []) (.lst []) = some true := c_eqNil [] rfl
      have hnil : List.filter (fun (_ : D) => false) (zipD xs xs) = [] := List.filter_eq_nil_iff.mpr fun _ _ h => by cases h
      simp [↓ex_fors, ev, evs, evC, evP, evI, ex, exs, Res.bind_ok, Res.bind_exc, Res.bind_stuck, Res.nox_ok, lift_some, liftB_some, setT, setSlots, wipe, b_add, b_sub, c_lt, c_le, c_gt, c_ge, c_eqI, c_neI, c_eqS, c_neS, c_eqB, c_neB, t_bl, t_int, t_tup, t_lst, t_non, bi_int, bi_abs, bi_lenT, bi_lenL, bi_tupL, bi_tupT, bi_lstT, bi_lstL, bi_lstF, ixT, ixL, mk_f, mk_t, isiD, wp_ok, wp_bind, wp_nox, wp_lift_some, wp_liftB_some, hnil, h0]
    · intro z hz
      obtain ⟨x, hx, rfl⟩ := mem_zz hz
      refine ⟨_, rfl, ?_, rfl⟩
      have := dep_tup hx
      simp [↓ex_fors, ev, evs, evC, evP, evI, ex, exs, Res.bind_ok, Res.bind_exc, Res.bind_stuck, Res.nox_ok, lift_some, liftB_some, setT, setSlots, wipe, b_add, b_sub, c_lt, c_le, c_gt, c_ge, c_eqI, c_neI, c_eqS, c_neS, c_eqB, c_neB, t_bl, t_int, t_tup, t_lst, t_non, bi_int, bi_abs, bi_lenT, bi_lenL, bi_tupL, bi_tupT, bi_lstT, bi_lstL, bi_lstF, ixT, ixL, mk_f, mk_t, isiD, wp_ok, wp_bind, wp_nox, wp_lift_some, wp_liftB_some, ih (n - 1) (by omega) x (by omega) (by omega) (gdL_iff.mp hd x hx) (k := k + 1) (by omega)]
theorem e_sameI (i : Int) : callF G (k + 1) i_law_same [.int i, .int i] S = .ok (.bl true) S := by
  rw [callF_s G_law_same k rfl]
  simp [↓ex_fors, ev, evs, evC, evP, evI, ex, exs, Res.bind_ok, Res.bind_exc, Res.bind_stuck, Res.nox_ok, lift_some, liftB_some, setT, setSlots, wipe, b_add, b_sub, c_lt, c_le, c_gt, c_ge, c_eqI, c_neI, c_eqS, c_neS, c_eqB, c_neB, t_bl, t_int, t_tup, t_lst, t_non, bi_int, bi_abs, bi_lenT, bi_lenL, bi_tupL, bi_tupT, bi_lstT, bi_lstL, bi_lstF, ixT, ixL, mk_f, mk_t, isiD, wp_ok, wp_bind, wp_nox, wp_lift_some, wp_liftB_some, m_law_same]
theorem plain_c : ∀ x ∈ ([.tup [.str [110, 117, 109, 98, 101, 114], .int 0], .tup [.str [110, 117, 109, 98, 101, 114], .int 5], .tup [.str [110, 117, 109, 98, 101, 114], .int (-7)], .tup [.str [97, 116, 111, 109], .str [104, 105]], .tup [.str [97, 116, 111, 109], .str [97]], .tup [.str [112, 114, 111, 99, 101, 115, 115], .int 2], .tup [.str [110, 105, 108]]] : List D), plainB x = true := by decide +kernel
theorem wp_lplain {k : Nat} {S : Store} (hC : Cup S) {Q : D → Store → Prop} (hQ : ∀ w S', plainB w = true → Cup S' → Q w S') : Wp (callF G (k + 3) i_law_plain [.ref 0] S) Q := by
  rw [callF_s G_law_plain (k + 2) rfl]
  simp [↓ex_fors, ev, evs, evC, evP, evI, ex, exs, Res.bind_ok, Res.bind_exc, Res.bind_stuck, Res.nox_ok, lift_some, liftB_some, setT, setSlots, wipe, b_add, b_sub, c_lt, c_le, c_gt, c_ge, c_eqI, c_neI, c_eqS, c_neS, c_eqB, c_neB, t_bl, t_int, t_tup, t_lst, t_non, bi_int, bi_abs, bi_lenT, bi_lenL, bi_tupL, bi_tupT, bi_lstT, bi_lstL, bi_lstF, ixT, ixL, mk_f, mk_t, isiD, wp_ok, wp_bind, wp_nox, wp_lift_some, wp_liftB_some, m_law_plain]
  refine wp_some hC (by simp) (by simp) fun w hw S1 hC1 => ?_
  exact hQ _ _ (plain_c w hw) hC1
theorem wp_forN {f : Rho → Store → Res Flo} {t : MT} {Q : Flo → Store → Prop} (I : Nat → Rho → Store → Prop) : ∀ {xs : List D} {i : Nat} {ρ : Rho} {S : Store}, (∀ x ∈ xs, ∀ j, i ≤ j → j < i + xs.length → ∀ ρ S, I j ρ S → ∃ ρ1, setT ρ t x = some ρ1 ∧ Wp (f ρ1 S) fun o S' => ∃ ρ2, o = .nx ρ2 ∧ I (j + 1) ρ2 S') → I i ρ S → (∀ ρ S, I (i + xs.length) ρ S → Q (.nx ρ) S) → Wp (forGo f t xs ρ S) Q
  | [], i, ρ, S, _, hI, hQ => hQ ρ S hI
  | x :: xs, i, ρ, S, h, hI, hQ => by
    obtain ⟨ρ1, e1, w⟩ := h x (List.mem_cons_self ..) i (Nat.le_refl _) (by simp) ρ S hI
    obtain ⟨o, S1, e2, ρ2, rfl, hI2⟩ := w.ok_of
    unfold forGo
    simp only [e1, e2, Res.bind_ok]
    refine wp_forN I (fun y hy j hj1 hj2 => h y (List.mem_cons_of_mem _ hy) j (by omega) (by simp at hj2 ⊢; omega)) hI2 fun ρ S hI3 => hQ ρ S ?_
    have : i + (x :: xs).length = i + 1 + xs.length := by simp; omega
    rw [this]; exact hI3
/-- a drawn word -/
def WordG (i : Nat) (c : List D) (w : D) : Prop := ∃ v e, Rd c 0 i w v e ∧ e ≤ 54
def CellG (i : Nat) (c : List D) (x : D) : Prop := isCnt x = true ∨ WordG i c x
theorem WordG.grow {i j : Nat} {c : List D} {w : D} (more : List D) (hij : i ≤ j) (h : WordG i c w) : WordG j (c ++ more) w :=
  let ⟨v, e, h, he⟩ := h; ⟨v, e, (h.app more).mono hij, he⟩
theorem CellG.grow {i j : Nat} {c : List D} {w : D} (more : List D) (hij : i ≤ j) (h : CellG i c w) : CellG j (c ++ more) w := h.elim .inl fun h => .inr (h.grow more hij)
structure HInv (i : Nat) (c ws : List D) : Prop where
  len : c.length ≤ 5 * i
  cell : ∀ x ∈ c, CellG i c x
  w3 : 3 ≤ ws.length
  wl : ws.length ≤ 3 + i
  word : ∀ w ∈ ws, WordG i c w
theorem rdl_of {c : List D} {i : Nat} : ∀ {ws : List D}, (∀ w ∈ ws, WordG i c w) → ∃ us f, RdL (Rd c 0 i) ws us f
  | [], _ => ⟨[], 0, .nil⟩
  | w :: ws, h => by
    obtain ⟨v, e, q, _⟩ := h w (List.mem_cons_self ..)
    obtain ⟨us, f, t⟩ := rdl_of fun w hw => h w (List.mem_cons_of_mem _ hw)
    exact ⟨_, _, .cons q t⟩
theorem sl_neg (xs : List D) (i : Int) : evSl (.lst xs) (.int i) .non = some (.lst (cut xs (some i) none)) := rfl
theorem sl_to (xs : List D) (i : Int) : evSl (.lst xs) .non (.int i) = some (.lst (cut xs none (some i))) := rfl
theorem cut_to2 (xs : List D) : cut xs none (some 2) = xs.take 2 := by
  unfold cut sIx
  simp
theorem atI_last {xs : List D} (h : 0 < xs.length) : ∃ x ∈ xs, atI xs (-1) = some x := by
  have hj : xs.length - 1 < xs.length := by omega
  refine ⟨xs[xs.length - 1], List.getElem_mem hj, ?_⟩
  unfold atI ixN
  have e1 : ¬ (0 : Int) ≤ -1 := by decide
  have e2 : -(xs.length : Int) ≤ -1 := by omega
  have e3 : ((-1 : Int) + xs.length).toNat = xs.length - 1 := by omega
  rw [if_neg e1, if_pos e2]
  simp only [e3]
  exact List.getElem?_eq_getElem hj
/-- what is laid down behind the cells -/
theorem lay_pair {i : Nat} {c ws : List D} (h2 : ws.length = 2) {us : List D} {f : Int} (h : RdL (Rd c 0 i) ws us f) (hf : f ≤ 50) : WordG (i + 1) (c ++ ws) (.tup [.str [112, 97, 105, 114], .int c.length]) := by
  refine ⟨_, _, .inr (.inl ⟨c.length, ws, us, f, Nat.zero_le _, rfl, h2, ?_, h.imp fun w v e _ q => q.app ws, rfl, rfl⟩), by omega⟩
  rw [List.drop_left, ← h2, List.take_length]
theorem lay_tup {i : Nat} {c ws : List D} (h3 : ws.length ≤ 3) {us : List D} {f : Int} (h : RdL (Rd c 0 i) ws us f) (hf : f ≤ 50) : WordG (i + 1) (c ++ .tup [.str [99, 111, 117, 110, 116], .int ws.length] :: ws) (.tup [.str [116, 117, 112, 108, 101], .int c.length]) := by
  refine ⟨_, _, .inr (.inr ⟨c.length, ws, us, f, Nat.zero_le _, rfl, by omega, ?_, ?_, h.imp fun w v e _ q => q.app _, rfl, rfl⟩), by omega⟩
  · rw [List.getElem?_append_right (Nat.le_refl _)]; simp
  · have : c ++ D.tup [.str [99, 111, 117, 110, 116], .int ws.length] :: ws = (c ++ [D.tup [.str [99, 111, 117, 110, 116], .int ws.length]]) ++ ws := by simp
    rw [this]
    have : c.length + 1 = (c ++ [D.tup [.str [99, 111, 117, 110, 116], .int ws.length]]).length := by simp
    rw [this, List.drop_left, List.take_length]
theorem isCnt_c {n : Nat} (h : n ≤ 6) : isCnt (.tup [.str [99, 111, 117, 110, 116], .int n]) = true := by simp [isCnt, isWhole]; omega
theorem HInv.put {i : Nat} {c ws more : List D} {w : D} (h : HInv i c ws) (hm : more.length ≤ 4) (hw : WordG (i + 1) (c ++ more) w) (ho : ∀ x ∈ more, CellG i c x) :
    (c ++ more).length ≤ 5 * i + 4 ∧ (∀ x ∈ c ++ more, CellG (i + 1) (c ++ more) x) ∧ 3 ≤ (ws ++ [w]).length ∧ (ws ++ [w]).length ≤ 3 + (i + 1) ∧ ∀ x ∈ ws ++ [w], WordG (i + 1) (c ++ more) x := by
  have := h.len
  have := h.w3
  have := h.wl
  refine ⟨by simp; omega, fun x hx => ?_, by simp; omega, by simp; omega, fun x hx => ?_⟩
  · rcases List.mem_append.mp hx with hx | hx
    · exact (h.cell x hx).grow more (by omega)
    · exact (ho x hx).grow more (by omega)
  · rcases List.mem_append.mp hx with hx | hx
    · exact (h.word x hx).grow more (by omega)
    · rw [List.mem_singleton.mp hx]; exact hw
end Ev

set_option Elab.async false
set_option linter.all false
set_option maxRecDepth 100000
set_option maxHeartbeats 4000000
namespace Ev
variable {k : Nat} {S : Store}
/-- the slots while the heap is drawn -/
def HSl (many : Int) (i : Nat) (ρ : Rho) (S : Store) : Prop := Cup S ∧ ∃ c ws a b d e f g, ρ = [some (.ref 0), some (.int many), some (.lst c), some (.lst ws), a, b, d, e, f, g] ∧ HInv i c ws
theorem extents {k i : Nat} {c own us : List D} {f : Int} {ρ : Rho} (h : RdL (Rd c 0 i) own us f) (hk : i + 2 ≤ k) (hρ : ρ[2]? = some (some (.lst c))) (hl : 7 < ρ.length) (S : Store) :
    lcGo (fun ρ S => ((match ρ[2]? with
      | some (some d) => Res.ok d S
      | _ => .stuck).bind fun x S1 => ((match ρ[7]? with
      | some (some d) => Res.ok d S1
      | _ => .stuck).bind fun x S1 => (Res.ok [] S1).bind fun xs S2 => Res.ok (x :: xs) S2).bind fun xs S2 => Res.ok (x :: xs) S2).bind fun xs S1 => callF G k i_law_extent xs S1) (fun ρ S => Res.ok (.bl true) S) ρ (.name 7) own [] S = .ok (us.map fun v => .int (size v)) S := by
  rw [lc_rd (h := fun v => .int (size v)) h]
  · simp
  · intro w v e _ q
    have e7 : (ρ.set 7 (some w))[7]? = some (some w) := List.getElem?_set_self hl
    have e2 : (ρ.set 7 (some w))[2]? = some (some (.lst c)) := by rw [List.getElem?_set_ne (by decide)]; exact hρ
    refine ⟨ρ.set 7 (some w), rfl, rfl, ?_⟩
    have := q.val.1.2
    simp only [e7, e2, Res.bind_ok, e_lext (.inr rfl) i q hk, this]
theorem c_leI (a b : Int) : evCmp .le (.int a) (.int b) = some (decide (a ≤ b)) := rfl
/-- the end of a turn: a cell more, perhaps -/
theorem wp_tail {k i : Nat} {many : Int} {c ws : List D} {a b d e f g : Option D} (hC : Cup S) (hl : c.length ≤ 5 * i + 4) (hi : i ≤ 12) (hc : ∀ x ∈ c, CellG (i + 1) c x) (h3 : 3 ≤ ws.length) (h4 : ws.length ≤ 3 + (i + 1)) (hw : ∀ w ∈ ws, WordG (i + 1) c w) :
    Wp (exs (callF G (k + 4)) [.ifs (.cmp .eq (.call i_law_roll [.var 0, .con (.int 6)]) (.con (.int 0))) [.asg (.name 2) (.bin .add (.var 2) (.lst false [.call i_law_some [.var 0, .lst false [.tup [.con (.str [99, 111, 117, 110, 116]), .con (.int 2)], .tup [.con (.str [110, 105, 108])], .ix (.var 3) (.neg (.con (.int 1)))]]]))] []] [some (.ref 0), some (.int many), some (.lst c), some (.lst ws), a, b, d, e, f, g] S) fun o S' => ∃ ρ2, o = .nx ρ2 ∧ HSl many (i + 1) ρ2 S' := by
  simp [↓ex_fors, ev, evs, evC, evP, evI, ex, exs, Res.bind_ok, Res.bind_exc, Res.bind_stuck, Res.nox_ok, lift_some, liftB_some, setT, setSlots, wipe, b_add, b_sub, c_lt, c_le, c_gt, c_ge, c_eqI, c_neI, c_eqS, c_neS, c_eqB, c_neB, t_bl, t_int, t_tup, t_lst, t_non, bi_int, bi_abs, bi_lenT, bi_lenL, bi_tupL, bi_tupT, bi_lstT, bi_lstL, bi_lstF, ixT, ixL, mk_f, mk_t, isiD, wp_ok, wp_bind, wp_nox, wp_lift_some, wp_liftB_some]
  refine wp_roll hC (by omega) (by omega) fun r S1 h0 h1 hC1 => ?_
  by_cases hr : r = 0
  · subst hr
    obtain ⟨x, hx, ex⟩ := atI_last (xs := ws) (by omega)
    simp [↓ex_fors, ev, evs, evC, evP, evI, ex, exs, Res.bind_ok, Res.bind_exc, Res.bind_stuck, Res.nox_ok, lift_some, liftB_some, setT, setSlots, wipe, b_add, b_sub, c_lt, c_le, c_gt, c_ge, c_eqI, c_neI, c_eqS, c_neS, c_eqB, c_neB, t_bl, t_int, t_tup, t_lst, t_non, bi_int, bi_abs, bi_lenT, bi_lenL, bi_tupL, bi_tupT, bi_lstT, bi_lstL, bi_lstF, ixT, ixL, mk_f, mk_t, isiD, wp_ok, wp_bind, wp_nox, wp_lift_some, wp_liftB_some, ex]
    refine wp_some hC1 (by simp) (by simp) fun y hy S2 hC2 => ?_
    have e1 : c.length + ([y] : List D).length ≤ line := by show _ ≤ 16777216; simp; omega
    simp [↓ex_fors, ev, evs, evC, evP, evI, ex, exs, Res.bind_ok, Res.bind_exc, Res.bind_stuck, Res.nox_ok, lift_some, liftB_some, setT, setSlots, wipe, b_add, b_sub, c_lt, c_le, c_gt, c_ge, c_eqI, c_neI, c_eqS, c_neS, c_eqB, c_neB, t_bl, t_int, t_tup, t_lst, t_non, bi_int, bi_abs, bi_lenT, bi_lenL, bi_tupL, bi_tupT, bi_lstT, bi_lstL, bi_lstF, ixT, ixL, mk_f, mk_t, isiD, wp_ok, wp_bind, wp_nox, wp_lift_some, wp_liftB_some, b_addL _ _ e1]
    have hy2 : CellG (i + 1) c y := by
      simp at hy
      rcases hy with rfl | rfl | rfl
      · exact .inl (by decide)
      · exact .inr ⟨_, _, Rd.pl (by decide) _, by decide⟩
      · exact .inr (hw _ hx)
    refine ⟨hC2, _, _, _, _, _, _, _, _, rfl, by simp; omega, fun z hz => ?_, h3, by omega, fun w h => (hw w h).grow [y] (by omega)⟩
    rcases List.mem_append.mp hz with hz | hz
    · exact (hc z hz).grow [y] (by omega)
    · rw [List.mem_singleton.mp hz]; exact hy2.grow [y] (by omega)
  · simp [↓ex_fors, ev, evs, evC, evP, evI, ex, exs, Res.bind_ok, Res.bind_exc, Res.bind_stuck, Res.nox_ok, lift_some, liftB_some, setT, setSlots, wipe, b_add, b_sub, c_lt, c_le, c_gt, c_ge, c_eqI, c_neI, c_eqS, c_neS, c_eqB, c_neB, t_bl, t_int, t_tup, t_lst, t_non, bi_int, bi_abs, bi_lenT, bi_lenL, bi_tupL, bi_tupT, bi_lstT, bi_lstL, bi_lstF, ixT, ixL, mk_f, mk_t, isiD, wp_ok, wp_bind, wp_nox, wp_lift_some, wp_liftB_some, hr]
    exact ⟨hC1, _, _, _, _, _, _, _, _, rfl, by omega, hc, h3, by omega, hw⟩
end Ev

set_option Elab.async false
set_option linter.all false
set_option maxRecDepth 100000
set_option maxHeartbeats 4000000
namespace Ev
variable {k : Nat} {S : Store}
def heapBody : List MS := match m_law_heap with
  | [_, .fors _ _ b, _] => b
  | _ => []
theorem heapBody_eq : heapBody = heapBody.take 2 ++ (heapBody.drop 2).take 1 ++ heapBody.drop 3 := by rfl
/-- the middle: what is drawn is laid down, if it is not too much -/
theorem wp_mid {k i : Nat} {many : Int} {c ws own more : List D} {w : D} {a b d e : Option D} (hi : i ≤ 12) (hk : i + 4 ≤ k) (hC : Cup S) (h : HInv i c ws) (ho : ∀ x ∈ own, WordG i c x) (hm : more.length ≤ 4) (hmc : ∀ x ∈ more, CellG i c x)
    (hw : ∀ us f, RdL (Rd c 0 i) own us f → f ≤ 50 → WordG (i + 1) (c ++ more) w) {Q : Flo → Store → Prop}
    (hQ : ∀ ρ S', (∀ Q', (∀ ρ2 S2, HSl many (i + 1) ρ2 S2 → Q' (.nx ρ2) S2) → Wp (exs (callF G k) (heapBody.drop 3) ρ S') Q') → Q (.nx ρ) S') :
    Wp (exs (callF G k) ((heapBody.drop 2).take 1) [some (.ref 0), some (.int many), some (.lst c), some (.lst ws), a, some (.lst own), b, d, some w, some (.lst more)] S) Q := by
  obtain ⟨k, rfl⟩ : ∃ j, k = j + 4 := ⟨k - 4, by omega⟩
  obtain ⟨us, f, hR⟩ := rdl_of ho
  have tl : ∀ {c ws : List D} {a b d e f g : Option D} {S : Store}, Cup S → c.length ≤ 5 * i + 4 → (∀ x ∈ c, CellG (i + 1) c x) → 3 ≤ ws.length → ws.length ≤ 3 + (i + 1) → (∀ w ∈ ws, WordG (i + 1) c w) → ∀ Q' : Flo → Store → Prop, (∀ ρ2 S2, HSl many (i + 1) ρ2 S2 → Q' (.nx ρ2) S2) →
      Wp (exs (callF G (k + 4)) (heapBody.drop 3) [some (.ref 0), some (.int many), some (.lst c), some (.lst ws), a, b, d, e, f, g] S) Q' := by
    intro c ws a b d e f g S hC h1 h2 h3 h4 h5 Q' q
    exact (wp_tail hC h1 hi h2 h3 h4 h5).mono fun o S' ⟨ρ2, e, hs⟩ => by subst e; exact q _ _ hs
  show Wp (exs (callF G (k + 4)) [_] _ S) Q
  simp only [exs, ex, ev, evs, evI, evC, List.getElem?_cons_zero, List.getElem?_cons_succ, Res.bind_ok, wipe, List.set_cons_zero, List.set_cons_succ, seqOf]
  rw [lc_rd (h := fun v => .int (size v)) hR]
  · have hs := hR.size
    simp only [Res.bind_ok, mk_f, List.nil_append, bi_sum2, lift_some, hs, c_leI, liftB_some, t_bl]
    by_cases hf : f ≤ 50
    · have q := h.put hm (hw us f hR hf) hmc
      have e1 : c.length + more.length ≤ line := by have := h.len; show _ ≤ 16777216; omega
      have e2 : ws.length + ([w] : List D).length ≤ line := by have := h.wl; show _ ≤ 16777216; simp; omega
      simp [↓ex_fors, ev, evs, evC, evP, evI, ex, exs, Res.bind_ok, Res.bind_exc, Res.bind_stuck, Res.nox_ok, lift_some, liftB_some, setT, setSlots, wipe, b_add, b_sub, c_lt, c_le, c_gt, c_ge, c_eqI, c_neI, c_eqS, c_neS, c_eqB, c_neB, t_bl, t_int, t_tup, t_lst, t_non, bi_int, bi_abs, bi_lenT, bi_lenL, bi_tupL, bi_tupT, bi_lstT, bi_lstL, bi_lstF, ixT, ixL, mk_f, mk_t, isiD, wp_ok, wp_bind, wp_nox, wp_lift_some, wp_liftB_some, hf, b_addL _ _ e1, b_addL _ _ e2]
      refine hQ _ _ fun Q' q' => tl hC q.1 q.2.1 q.2.2.1 q.2.2.2.1 q.2.2.2.2 Q' q'
    · simp [↓ex_fors, ev, evs, evC, evP, evI, ex, exs, Res.bind_ok, Res.bind_exc, Res.bind_stuck, Res.nox_ok, lift_some, liftB_some, setT, setSlots, wipe, b_add, b_sub, c_lt, c_le, c_gt, c_ge, c_eqI, c_neI, c_eqS, c_neS, c_eqB, c_neB, t_bl, t_int, t_tup, t_lst, t_non, bi_int, bi_abs, bi_lenT, bi_lenL, bi_tupL, bi_tupT, bi_lstT, bi_lstL, bi_lstF, ixT, ixL, mk_f, mk_t, isiD, wp_ok, wp_bind, wp_nox, wp_lift_some, wp_liftB_some, hf]
      have := h.len
      have := h.w3
      have := h.wl
      refine hQ _ _ fun Q' q' => tl hC (by omega) (fun x hx => ?_) h.w3 (by omega) (fun x hx => ?_) Q' q'
      · have := (h.cell x hx).grow [] (Nat.le_succ i); rw [List.append_nil] at this; exact this
      · have := (h.word x hx).grow [] (Nat.le_succ i); rw [List.append_nil] at this; exact this
  · intro v u e' _ q
    refine ⟨_, rfl, by simp only [Res.nox_ok], ?_⟩
    have := q.val.1.2
    simp [↓ex_fors, ev, evs, evC, evP, evI, ex, exs, Res.bind_ok, Res.bind_exc, Res.bind_stuck, Res.nox_ok, lift_some, liftB_some, setT, setSlots, wipe, b_add, b_sub, c_lt, c_le, c_gt, c_ge, c_eqI, c_neI, c_eqS, c_neS, c_eqB, c_neB, t_bl, t_int, t_tup, t_lst, t_non, bi_int, bi_abs, bi_lenT, bi_lenL, bi_tupL, bi_tupT, bi_lstT, bi_lstL, bi_lstF, ixT, ixL, mk_f, mk_t, isiD, wp_ok, wp_bind, wp_nox, wp_lift_some, wp_liftB_some, e_lext (.inr rfl) i q (k := k + 4) (by omega), this]
theorem wp_turn {k i : Nat} {many : Int} (hi : i < 12) {ρ : Rho} (hS : HSl many i ρ S) (x : D) : Wp (exs (callF G (k + 20)) heapBody (ρ.set 4 (some x)) S) fun o S' => ∃ ρ2, o = .nx ρ2 ∧ HSl many (i + 1) ρ2 S' := by
  obtain ⟨hC, c, ws, a, b, d, e, f, g, rfl, h⟩ := hS
  have w3 := h.w3
  have wl := h.wl
  have cl := h.len
  rw [heapBody_eq, exs_app, wp_bind, exs_app, wp_bind]
  -- what comes behind the first two
  have mid : ∀ {own more : List D} {w : D} {a b d e : Option D} {S : Store}, Cup S → (∀ x ∈ own, WordG i c x) → more.length ≤ 4 → (∀ x ∈ more, CellG i c x) → (∀ us f, RdL (Rd c 0 i) own us f → f ≤ 50 → WordG (i + 1) (c ++ more) w) →
      Wp (exs (callF G (k + 20)) ((heapBody.drop 2).take 1) [some (.ref 0), some (.int many), some (.lst c), some (.lst ws), a, some (.lst own), b, d, some w, some (.lst more)] S) fun b S => Wp (match b with
        | .nx ρ1 => exs (callF G (k + 20)) (heapBody.drop 3) ρ1 S
        | .ret d => .ok (.ret d) S
        | .brk ρ1 => .ok (.brk ρ1) S
        | .ct ρ1 => .ok (.ct ρ1) S) fun o S' => ∃ ρ2, o = .nx ρ2 ∧ HSl many (i + 1) ρ2 S' := by
    intro own more w a b d e S hC ho hm hmc hw
    exact wp_mid (e := e) (by omega) (by omega) hC h ho hm hmc hw fun ρ S' q => q _ fun ρ2 S2 hs => ⟨ρ2, rfl, hs⟩
  generalize heapBody.drop 3 = tl at *
  generalize (heapBody.drop 2).take 1 = md at *
  show Wp (exs (callF G (k + 20)) [_, _] _ S) _
  have ew : (cut ws (some (-6)) none).length + ws.length ≤ line := by have := cut_len ws (some (-6)) none; show _ ≤ 16777216; omega
  simp [↓ex_fors, ev, evs, evC, evP, evI, ex, exs, Res.bind_ok, Res.bind_exc, Res.bind_stuck, Res.nox_ok, lift_some, liftB_some, setT, setSlots, wipe, b_add, b_sub, c_lt, c_le, c_gt, c_ge, c_eqI, c_neI, c_eqS, c_neS, c_eqB, c_neB, t_bl, t_int, t_tup, t_lst, t_non, bi_int, bi_abs, bi_lenT, bi_lenL, bi_tupL, bi_tupT, bi_lstT, bi_lstL, bi_lstF, ixT, ixL, mk_f, mk_t, isiD, wp_ok, wp_bind, wp_nox, wp_lift_some, wp_liftB_some]
  refine wp_roll hC (by omega) (by omega) fun r S1 h0 h1 hC1 => ?_
  have hr : (-4611686018427387904 : Int) ≤ r ∧ r < 4611686018427387904 ∧ r ≤ 16777216 := ⟨by omega, by omega, by omega⟩
  simp [↓ex_fors, ev, evs, evC, evP, evI, ex, exs, Res.bind_ok, Res.bind_exc, Res.bind_stuck, Res.nox_ok, lift_some, liftB_some, setT, setSlots, wipe, b_add, b_sub, c_lt, c_le, c_gt, c_ge, c_eqI, c_neI, c_eqS, c_neS, c_eqB, c_neB, t_bl, t_int, t_tup, t_lst, t_non, bi_int, bi_abs, bi_lenT, bi_lenL, bi_tupL, bi_tupT, bi_lstT, bi_lstL, bi_lstF, ixT, ixL, mk_f, mk_t, isiD, wp_ok, wp_bind, wp_nox, wp_lift_some, wp_liftB_some, hr]
  refine (wp_lcGo (P := fun d => d ∈ ws) (I := Cup) ?_ hC1 (by simp)).mono ?_
  · intro y hy S2 hC2
    refine ⟨_, rfl, rfl, ?_⟩
    simp [↓ex_fors, ev, evs, evC, evP, evI, ex, exs, Res.bind_ok, Res.bind_exc, Res.bind_stuck, Res.nox_ok, lift_some, liftB_some, setT, setSlots, wipe, b_add, b_sub, c_lt, c_le, c_gt, c_ge, c_eqI, c_neI, c_eqS, c_neS, c_eqB, c_neB, t_bl, t_int, t_tup, t_lst, t_non, bi_int, bi_abs, bi_lenT, bi_lenL, bi_tupL, bi_tupT, bi_lstT, bi_lstL, bi_lstF, ixT, ixL, mk_f, mk_t, isiD, wp_ok, wp_bind, wp_nox, wp_lift_some, wp_liftB_some, sl_neg, b_addL _ _ ew]
    refine wp_some hC2 (by simp; omega) (by have := cut_len ws (some (-6)) none; simp; omega) fun z hz S3 hC3 => ⟨hC3, ?_⟩
    rcases List.mem_append.mp hz with hz | hz
    · exact cut_mem hz
    · exact hz
  · rintro own S2 ⟨hC2, hown, hol⟩
    simp [rngD_len] at hol
    have hol3 : own.length ≤ 3 := by omega
    have how : ∀ x ∈ own, WordG i c x := fun x hx => h.word x (hown x hx)
    refine wp_roll hC2 (by omega) (by omega) fun r2 S3 h2 h3 hC3 => ?_
    -- a pair
    have pair : Wp (((callF G (k + 20) i_law_plain [D.ref 0] S3).bind fun x S1 => ((callF G (k + 20) i_law_plain [D.ref 0] S1).bind fun x S1 => Res.ok [x] S1).bind fun xs S2 => Res.ok (x :: xs) S2)) fun ps S4 => Cup S4 ∧ ∃ p q, ps = [p, q] ∧ plainB p = true ∧ plainB q = true := by
      simp only [wp_bind]
      refine wp_lplain hC3 fun p S4 hp hC4 => ?_
      refine wp_lplain hC4 fun q S5 hq hC5 => ?_
      exact ⟨hC5, p, q, rfl, hp, hq⟩
    obtain ⟨ps, S4, ep, hC4, p, q, rfl, hp, hq⟩ := pair.ok_of
    have ea : own.length + ([p, q] : List D).length ≤ line := by show _ ≤ 16777216; simp; omega
    have hpq : ∀ x ∈ (own ++ [p, q]).take 2, WordG i c x := fun x hx => by
      rcases List.mem_append.mp (List.mem_of_mem_take hx) with hx | hx
      · exact how x hx
      · simp at hx
        rcases hx with rfl | rfl
        · exact ⟨_, _, Rd.pl hp _, by decide⟩
        · exact ⟨_, _, Rd.pl hq _, by decide⟩
    have l2 : ((own ++ [p, q]).take 2).length = 2 := by simp
    have goPair : ∀ {a b d : Option D}, Wp (exs (callF G (k + 20)) md [some (.ref 0), some (.int many), some (.lst c), some (.lst ws), a, some (.lst ((own ++ [p, q]).take 2)), b, d, some (.tup [.str [112, 97, 105, 114], .int c.length]), some (.lst ((own ++ [p, q]).take 2))] S4) fun b S => Wp (match b with
        | .nx ρ1 => exs (callF G (k + 20)) tl ρ1 S
        | .ret d => .ok (.ret d) S
        | .brk ρ1 => .ok (.brk ρ1) S
        | .ct ρ1 => .ok (.ct ρ1) S) fun o S' => ∃ ρ2, o = .nx ρ2 ∧ HSl many (i + 1) ρ2 S' := fun {a b d} =>
      mid (e := none) hC4 hpq (by omega) (fun x hx => .inr (hpq x hx)) fun us f hR hf => lay_pair l2 hR hf
    by_cases hz : r2 = 0
    · subst hz
      simp [↓ex_fors, ev, evs, evC, evP, evI, ex, exs, Res.bind_ok, Res.bind_exc, Res.bind_stuck, Res.nox_ok, lift_some, liftB_some, setT, setSlots, wipe, b_add, b_sub, c_lt, c_le, c_gt, c_ge, c_eqI, c_neI, c_eqS, c_neS, c_eqB, c_neB, t_bl, t_int, t_tup, t_lst, t_non, bi_int, bi_abs, bi_lenT, bi_lenL, bi_tupL, bi_tupT, bi_lstT, bi_lstL, bi_lstF, ixT, ixL, mk_f, mk_t, isiD, wp_ok, wp_bind, wp_nox, wp_lift_some, wp_liftB_some, ep, b_addL _ _ ea, sl_to, cut_to2]
      exact goPair
    · by_cases h4 : (own.length : Int) < 2
      · simp [↓ex_fors, ev, evs, evC, evP, evI, ex, exs, Res.bind_ok, Res.bind_exc, Res.bind_stuck, Res.nox_ok, lift_some, liftB_some, setT, setSlots, wipe, b_add, b_sub, c_lt, c_le, c_gt, c_ge, c_eqI, c_neI, c_eqS, c_neS, c_eqB, c_neB, t_bl, t_int, t_tup, t_lst, t_non, bi_int, bi_abs, bi_lenT, bi_lenL, bi_tupL, bi_tupT, bi_lstT, bi_lstL, bi_lstF, ixT, ixL, mk_f, mk_t, isiD, wp_ok, wp_bind, wp_nox, wp_lift_some, wp_liftB_some, hz, h4, ep, b_addL _ _ ea, sl_to, cut_to2]
        exact goPair
      · have ec : ([D.tup [.str [99, 111, 117, 110, 116], .int own.length]] : List D).length + own.length ≤ line := by show _ ≤ 16777216; simp; omega
        simp [↓ex_fors, ev, evs, evC, evP, evI, ex, exs, Res.bind_ok, Res.bind_exc, Res.bind_stuck, Res.nox_ok, lift_some, liftB_some, setT, setSlots, wipe, b_add, b_sub, c_lt, c_le, c_gt, c_ge, c_eqI, c_neI, c_eqS, c_neS, c_eqB, c_neB, t_bl, t_int, t_tup, t_lst, t_non, bi_int, bi_abs, bi_lenT, bi_lenL, bi_tupL, bi_tupT, bi_lstT, bi_lstL, bi_lstF, ixT, ixL, mk_f, mk_t, isiD, wp_ok, wp_bind, wp_nox, wp_lift_some, wp_liftB_some, hz, h4, b_addL _ _ ec]
        exact mid (e := none) hC3 how (by simp; omega) (fun y hy => by
          rcases List.mem_cons.mp hy with rfl | hy
          · exact .inl (isCnt_c (by omega))
          · exact .inr (how y hy)) fun us f hR hf => lay_tup hol3 hR hf
/-- the drawn heap -/
theorem wp_heap {k : Nat} {S : Store} (hC : Cup S) {many : Int} (h1 : 1 ≤ many) (h12 : many ≤ 12) {Q : D → Store → Prop} (hQ : ∀ c ws r S', HeapOk c r → 3 ≤ ws.length → ws.length ≤ 15 → (∀ w ∈ ws, WordG 12 c w) → Cup S' → Q (.tup [.tup [.tup c, .int r], .lst ws]) S') :
    Wp (callF G (k + 21) i_law_heap [.ref 0, .int many] S) Q := by
  rw [callF_s G_law_heap (k + 20) rfl]
  have hb : m_law_heap = [m_law_heap.head (by simp [m_law_heap]), .fors (.name 4) (.rng (.con (.int 0)) (.var 1)) heapBody, .ret (.tup [.tup [.bi .tuple [.var 2], .call i_law_some [.var 0, .lst false [.con (.int 256), .con (.int 512)]]], .var 3])] := by rfl
  rw [hb]
  have hm : (-4611686018427387904 : Int) ≤ many ∧ many < 4611686018427387904 ∧ many ≤ 16777216 := ⟨by omega, by omega, by omega⟩
  have turn := fun {i : Nat} (hi : i < 12) {ρ : Rho} {S : Store} (hS : HSl many i ρ S) (x : D) => wp_turn (k := k) hi hS x
  generalize heapBody = body at *
  simp [↓ex_fors, ev, evs, evC, evP, evI, ex, exs, Res.bind_ok, Res.bind_exc, Res.bind_stuck, Res.nox_ok, lift_some, liftB_some, setT, setSlots, wipe, b_add, b_sub, c_lt, c_le, c_gt, c_ge, c_eqI, c_neI, c_eqS, c_neS, c_eqB, c_neB, t_bl, t_int, t_tup, t_lst, t_non, bi_int, bi_abs, bi_lenT, bi_lenL, bi_tupL, bi_tupT, bi_lstT, bi_lstL, bi_lstF, ixT, ixL, mk_f, mk_t, isiD, wp_ok, wp_bind, wp_nox, wp_lift_some, wp_liftB_some, m_law_heap, rngD]
  refine (wp_lcGo (P := fun w => plainB w = true) (I := Cup) ?_ hC (by simp)).mono ?_
  · intro x hx S2 hC2
    refine ⟨_, rfl, rfl, ?_⟩
    simp [↓ex_fors, ev, evs, evC, evP, evI, ex, exs, Res.bind_ok, Res.bind_exc, Res.bind_stuck, Res.nox_ok, lift_some, liftB_some, setT, setSlots, wipe, b_add, b_sub, c_lt, c_le, c_gt, c_ge, c_eqI, c_neI, c_eqS, c_neS, c_eqB, c_neB, t_bl, t_int, t_tup, t_lst, t_non, bi_int, bi_abs, bi_lenT, bi_lenL, bi_tupL, bi_tupT, bi_lstT, bi_lstL, bi_lstF, ixT, ixL, mk_f, mk_t, isiD, wp_ok, wp_bind, wp_nox, wp_lift_some, wp_liftB_some]
    exact wp_lplain hC2 fun w S' h hC' => ⟨hC', h⟩
  rintro ws0 S3 ⟨hC3, hw0, hl0⟩
  simp at hl0
  simp [↓ex_fors, ev, evs, evC, evP, evI, ex, exs, Res.bind_ok, Res.bind_exc, Res.bind_stuck, Res.nox_ok, lift_some, liftB_some, setT, setSlots, wipe, b_add, b_sub, c_lt, c_le, c_gt, c_ge, c_eqI, c_neI, c_eqS, c_neS, c_eqB, c_neB, t_bl, t_int, t_tup, t_lst, t_non, bi_int, bi_abs, bi_lenT, bi_lenL, bi_tupL, bi_tupT, bi_lstT, bi_lstL, bi_lstF, ixT, ixL, mk_f, mk_t, isiD, wp_ok, wp_bind, wp_nox, wp_lift_some, wp_liftB_some, hm]
  refine wp_forN (HSl many) (i := 0) ?_ ⟨hC3, [], ws0, _, _, _, _, _, _, rfl, by simp, (fun x hx => by cases hx), by omega, by omega, fun w hw => ⟨_, _, Rd.pl (hw0 w hw) _, by decide⟩⟩ ?_
  · intro x hx j hj1 hj2 ρ S hS
    refine ⟨_, rfl, ?_⟩
    rw [rngD_len] at hj2
    exact turn (by omega) hS x
  · rintro ρ S ⟨hC, c, ws, a, b, d, e, f, g, rfl, h⟩
    rw [rngD_len] at h
    simp [↓ex_fors, ev, evs, evC, evP, evI, ex, exs, Res.bind_ok, Res.bind_exc, Res.bind_stuck, Res.nox_ok, lift_some, liftB_some, setT, setSlots, wipe, b_add, b_sub, c_lt, c_le, c_gt, c_ge, c_eqI, c_neI, c_eqS, c_neS, c_eqB, c_neB, t_bl, t_int, t_tup, t_lst, t_non, bi_int, bi_abs, bi_lenT, bi_lenL, bi_tupL, bi_tupT, bi_lstT, bi_lstL, bi_lstF, ixT, ixL, mk_f, mk_t, isiD, wp_ok, wp_bind, wp_nox, wp_lift_some, wp_liftB_some]
    refine wp_some hC (by simp) (by simp) fun r hr S4 hC4 => ?_
    have hcl := h.len
    have hw3 := h.w3
    have hwl := h.wl
    have hrr : ∃ r', r = .int r' ∧ (r' = 256 ∨ r' = 512) := by
      simp at hr
      rcases hr with rfl | rfl
      · exact ⟨_, rfl, .inl rfl⟩
      · exact ⟨_, rfl, .inr rfl⟩
    obtain ⟨r', rfl, hr'⟩ := hrr
    refine hQ c ws r' S4 ⟨fun x hx => ?_, by rcases hr' with rfl | rfl <;> omega, hr'⟩ hw3 (by omega) (fun w hw => ?_) hC4
    · rcases h.cell x hx with z | ⟨v, e, z, he⟩
      · exact .inl z
      · exact .inr ⟨_, v, e, by omega, z, by omega⟩
    · obtain ⟨v, e, z, he⟩ := h.word w hw
      exact ⟨v, e, z.mono (by omega), he⟩
end Ev

set_option Elab.async false
set_option linter.all false
set_option maxRecDepth 100000
set_option maxHeartbeats 4000000
namespace Ev
variable {k : Nat} {S : Store}
theorem cut_l (A B : List D) (x : D) : cut (A ++ x :: B) none (some (A.length : Int)) = A := by
  unfold cut sIx
  have e1 : ¬ ((A.length : Int) < 0) := by omega
  have e2 : min ((A.length : Int).toNat) (A ++ x :: B).length = A.length := by simp <;> omega
  simp only [e1, if_false, e2]
  simp
theorem cut_r (A B : List D) (x : D) : cut (A ++ x :: B) (some ((A.length : Int) + 1)) none = B := by
  unfold cut sIx
  have e1 : ¬ ((A.length : Int) + 1 < 0) := by omega
  have e2 : min (((A.length : Int) + 1).toNat) (A ++ x :: B).length = A.length + 1 := by simp <;> omega
  simp only [e1, if_false, e2]
  have : A ++ x :: B = (A ++ [x]) ++ B := by simp
  rw [this]
  have e3 : A.length + 1 = (A ++ [x]).length := by simp
  rw [e3, List.drop_left]
  apply List.take_of_length_le
  simp
  omega
theorem Rd.swap {P P' X : List D} (Y : List D) {lo n : Nat} {w v : D} {e : Int} (h1 : P.length = lo) (h2 : P'.length = lo) (h : Rd (P ++ X) lo n w v e) : Rd (P' ++ (X ++ Y)) lo n w v e :=
  h.grow (Nat.le_refl _) fun i x hi hx => by
    rw [List.getElem?_append_right (by omega)] at hx
    rw [List.getElem?_append_right (by omega), h2, ← h1]
    rw [List.getElem?_append_left (List.getElem?_eq_some_iff.mp hx).1]
    exact hx
theorem Rd.low {c : List D} {lo lo' n : Nat} {w v : D} {e : Int} (hl : lo' ≤ lo) (h : Rd c lo n w v e) : Rd c lo' n w v e := h.grow hl fun _ _ _ hx => hx
theorem plain_of {v : D} (h : built v = true) : (∃ ys, v = .tup [.str [116, 117, 112, 108, 101], .tup ys] ∧ ys.length ≤ 6 ∧ ∀ y ∈ ys, built y = true) ∨ (∃ x y, v = .tup [.str [112, 97, 105, 114], x, y] ∧ built x = true ∧ built y = true) ∨ plainB v = true := by
  unfold built at h
  split at h
  · rename_i s
    have : s = [110, 105, 108] := by simpa using h
    subst this
    exact .inr (.inr (by decide))
  · rename_i s x
    by_cases h1 : s = [110, 117, 109, 98, 101, 114]
    · subst h1; simp at h
      cases x <;> simp [isWhole] at h
      exact .inr (.inr (by simp [plainB, h]))
    · by_cases h2 : s = [97, 116, 111, 109]
      · subst h2; simp at h
        cases x <;> first | (simp [isWord, isText] at h; done) | skip
        rename_i z
        have hz : z.length ≤ 8 := by
          cases z with
          | nil => simp
          | cons a z => simp [isWord, isText] at h; simp; omega
        exact .inr (.inr (by simp [plainB, h]; omega))
      · by_cases h3 : s = [112, 114, 111, 99, 101, 115, 115]
        · subst h3; simp at h
          cases x <;> simp [isWhole] at h
          exact .inr (.inr (by simp [plainB, h]))
        · by_cases h4 : s = [116, 117, 112, 108, 101]
          · subst h4; simp at h
            cases x <;> first | (cases h; done) | skip
            rename_i ys
            simp [builtT] at h
            exact .inl ⟨ys, rfl, h.1, builtL_iff.mp h.2⟩
          · simp [h1, h2, h3, h4] at h
  · rename_i s x y
    simp at h
    obtain ⟨⟨rfl, h1⟩, h2⟩ := h
    exact .inr (.inl ⟨x, y, rfl, h1, h2⟩)
  · cases h
/-- a cell that was laid -/
def LdOk (c : List D) (lo : Nat) (x : D) : Prop := isCnt x = true ∨ ∃ n v e, n ≤ 12 ∧ Rd c lo n x v e ∧ e ≤ 120
theorem LdOk.swap {P P' X : List D} (Y : List D) {lo : Nat} {x : D} (h1 : P.length = lo) (h2 : P'.length = lo) (h : LdOk (P ++ X) lo x) : LdOk (P' ++ (X ++ Y)) lo x := by
  rcases h with h | ⟨n, v, e, hn, h, he⟩
  · exact .inl h
  · exact .inr ⟨n, v, e, hn, h.swap Y h1 h2, he⟩
theorem LdOk.low {c : List D} {lo lo' : Nat} {x : D} (hl : lo' ≤ lo) (h : LdOk c lo x) : LdOk c lo' x := by
  rcases h with h | ⟨n, v, e, hn, h, he⟩
  · exact .inl h
  · exact .inr ⟨n, v, e, hn, h.low hl, he⟩
/-- what the laying down of v gives -/
def Laid (n : Nat) (c : List D) (v : D) (blk : List D) (w : D) : Prop := Rd (c ++ blk) c.length n w v (size v) ∧ (∀ x ∈ blk, LdOk (c ++ blk) c.length x) ∧ (blk.length : Int) = size v
theorem RdL.app2 {P : D → D → Int → Prop} {ws vs : List D} {e : Int} (h : RdL P ws vs e) {w v : D} {f : Int} (q : P w v f) : RdL P (ws ++ [w]) (vs ++ [v]) (e + f) := by
  induction h with
  | nil => rw [Int.zero_add]; have := RdL.cons q (RdL.nil (P := P)); rw [Int.add_zero] at this; exact this
  | @cons w1 v1 e1 f1 ws1 vs1 h1 t1 ih =>
    have := RdL.cons h1 ih
    rw [← Int.add_assoc] at this
    exact this
def layBody : List MS := match m_law_lay with
  | [_, _, _, _, .fors _ _ b, _] => b
  | _ => []
theorem lay_loop {K n : Nat} (hn : n ≤ 12) {base : List D} {v pt pl : D} {lo : Nat} : ∀ (ps : List D) (i : Nat) (ws vs blks : List D) (f : Int) (a b d : Option D) (S : Store), ws.length = i → lo = base.length + i + ps.length →
    (∀ p ∈ ps, size p ≤ 120 ∧ ∀ (c : List D) (S : Store), (c.length : Int) + size p ≤ 5000 → ∃ blk w, callF G K i_law_lay [.lst c, p] S = .ok (.tup [.lst (c ++ blk), w]) S ∧ Laid n c p blk w) →
    RdL (Rd (base ++ ws ++ ps ++ blks) lo n) ws vs f → (∀ x ∈ blks, LdOk (base ++ ws ++ ps ++ blks) lo x) → ((base ++ ws ++ ps ++ blks).length : Int) + sizeL ps ≤ 5000 →
    ∃ ws' blks' a' b' d', forGo (xs_ (callF G K) layBody) (.names [5, 6]) (enumD i ps) [some (.lst (base ++ ws ++ ps ++ blks)), some v, some pt, some pl, some (.int base.length), a, b, d] S =
        .ok (.nx [some (.lst (base ++ ws' ++ blks')), some v, some pt, some pl, some (.int base.length), a', b', d']) S ∧ ws'.length = i + ps.length ∧ RdL (Rd (base ++ ws' ++ blks') lo n) ws' (vs ++ ps) (f + sizeL ps) ∧ (∀ x ∈ blks', LdOk (base ++ ws' ++ blks') lo x) ∧ (blks'.length : Int) = blks.length + sizeL ps := by
  intro ps
  induction ps with
  | nil =>
    intro i ws vs blks f a b d S hi hlo _ hR hB _
    refine ⟨ws, blks, a, b, d, by simp [enumD, forGo], by simp [hi], ?_, ?_, by simp [sizeL]⟩
    · simpa [sizeL] using hR
    · simpa using hB
  | cons p ps ih =>
    intro i ws vs blks f a b d S hi hlo hP hR hB hz
    have hp := hP p (List.mem_cons_self ..)
    have sp := size_pos p
    have sl := sizeL_pos ps
    simp only [sizeL] at hz
    obtain ⟨blk, w, e1, l1, l2, l3⟩ := hp.2 (base ++ ws ++ (p :: ps) ++ blks) S (by omega)
    have eA : base ++ ws ++ (p :: ps) ++ blks ++ blk = (base ++ ws) ++ p :: (ps ++ blks ++ blk) := by simp
    have eB : base ++ (ws ++ [w]) ++ ps ++ (blks ++ blk) = (base ++ ws ++ [w] ++ ps) ++ (blks ++ blk) := by simp
    have lA : (base ++ ws ++ (p :: ps)).length = lo := by simp at hlo ⊢; omega
    have lB : (base ++ ws ++ [w] ++ ps).length = lo := by simp at hlo ⊢; omega
    have lC : (base ++ ws).length = base.length + i := by simp; omega
    have c1 : cut (base ++ ws ++ (p :: ps) ++ blks ++ blk) none (some ((base.length : Int) + i)) = base ++ ws := by
      rw [eA]
      have := cut_l (base ++ ws) (ps ++ blks ++ blk) p
      rw [lC] at this
      push_cast at this
      exact this
    have c2 : cut (base ++ ws ++ (p :: ps) ++ blks ++ blk) (some ((base.length : Int) + i + 1)) none = ps ++ blks ++ blk := by
      rw [eA]
      have := cut_r (base ++ ws) (ps ++ blks ++ blk) p
      rw [lC] at this
      push_cast at this
      exact this
    have len1 : ((base ++ ws ++ (p :: ps) ++ blks).length : Int) = base.length + i + (ps.length + 1) + blks.length := by simp; omega
    rw [len1] at hz
    have el1 : (base ++ ws).length + ([w] : List D).length ≤ line := by rw [lC]; show _ ≤ 16777216; simp; omega
    have el2 : (base ++ ws ++ [w]).length + (ps ++ blks ++ blk).length ≤ line := by
      rw [List.length_append, lC]; show _ ≤ 16777216; simp; omega
    have hcell : base ++ ws ++ [w] ++ (ps ++ blks ++ blk) = base ++ (ws ++ [w]) ++ ps ++ (blks ++ blk) := by simp
    obtain ⟨ws', blks', a', b', d', q1, q2, q3, q4, q5⟩ := ih (i + 1) (ws ++ [w]) (vs ++ [p]) (blks ++ blk) (f + size p) (some (.int i)) (some p) (some w) S (by simp [hi]) (by simp at hlo; omega)
      (fun p' hp' => hP p' (List.mem_cons_of_mem _ hp'))
      (by
        rw [eB]
        refine RdL.app2 (hR.imp fun w' v' e' _ q => q.swap blk lA lB) ?_
        have l1' : Rd (base ++ ws ++ (p :: ps) ++ (blks ++ blk)) lo n w p (size p) := by
          rw [← List.append_assoc]
          exact l1.low (by rw [List.length_append, lA]; omega)
        have := l1'.swap [] lA lB
        simpa using this)
      (fun x hx => by
        rw [eB]
        rcases List.mem_append.mp hx with hx | hx
        · exact (hB x hx).swap blk lA lB
        · have l2' : LdOk (base ++ ws ++ (p :: ps) ++ (blks ++ blk)) lo x := by
            rw [← List.append_assoc]
            exact (l2 x hx).low (by rw [List.length_append, lA]; omega)
          have := l2'.swap [] lA lB
          simpa using this)
      (by simp; omega)
    refine ⟨ws', blks', a', b', d', ?_, by simp at q2 ⊢; omega, ?_, q4, ?_⟩
    · rw [← hcell] at q1
      unfold enumD forGo
      simp only [xs_, layBody, m_law_lay]
      simp only [exs, ex, ev, evs, setT, setSlots, List.set_cons_zero, List.set_cons_succ, List.getElem?_cons_zero, List.getElem?_cons_succ, Res.bind_ok, e1, evP, b_add, lift_some, sl_to, c1, sl_neg, c2, mk_f, b_addL _ _ el1, b_addL _ _ el2]
      exact q1
    · simp only [sizeL]
      have e1 : vs ++ [p] ++ ps = vs ++ p :: ps := by simp
      rw [e1] at q3
      have e2 : f + size p + sizeL ps = f + (size p + sizeL ps) := by omega
      rw [e2] at q3
      exact q3
    · simp only [sizeL]; simp at q5; omega
theorem laid_cells {c blk : List D} (h : ∀ x ∈ blk, LdOk (c ++ blk) c.length x) : ∀ x ∈ blk, CellOk (c ++ blk) x := fun x hx => by
  rcases h x hx with h | ⟨n, v, e, hn, h, he⟩
  · exact .inl h
  · exact .inr ⟨n, v, e, by omega, h.low (Nat.zero_le _), he⟩
theorem sizeL_each {xs : List D} {x : D} (h : x ∈ xs) : size x ≤ sizeL xs := by
  induction xs with
  | nil => cases h
  | cons y ys ih =>
    have := size_pos y
    have := sizeL_pos ys
    simp only [sizeL]
    rcases List.mem_cons.mp h with rfl | h
    · omega
    · have := ih h; omega
theorem rdl_ld {c : List D} {lo lo' n : Nat} (hl : lo' ≤ lo) (hn : n ≤ 12) {ws vs : List D} {f : Int} (h : RdL (Rd c lo n) ws vs f) (hv : ∀ v ∈ vs, size v ≤ 120) : ∀ x ∈ ws, LdOk c lo' x := fun x hx => by
  induction h with
  | nil => cases hx
  | @cons w v e f' ws vs q t ih =>
    rcases List.mem_cons.mp hx with rfl | hx
    · refine .inr ⟨n, v, e, hn, q.low hl, ?_⟩
      have := hv v (List.mem_cons_self ..)
      have := q.val.1.2
      omega
    · exact ih (fun v hv' => hv v (List.mem_cons_of_mem _ hv')) hx
theorem e_lay : ∀ (n : Nat) (v : D), dep v ≤ n → n ≤ 12 → built v = true → size v ≤ 120 → ∀ {k : Nat}, n + 3 ≤ k → ∀ (c : List D) (S : Store), (c.length : Int) + size v ≤ 5000 → ∃ blk w, callF G k i_law_lay [.lst c, v] S = .ok (.tup [.lst (c ++ blk), w]) S ∧ Laid n c v blk w := by
  intro n
  induction n using Nat.strongRecOn with
  | _ n ih =>
    intro v hn h12 hb hs k hk c S hc
    obtain ⟨k, rfl⟩ : ∃ j, k = j + 3 := ⟨k - 3, by omega⟩
    have lb : m_law_lay = m_law_lay.take 4 ++ [.fors (.names [5, 6]) (.enum (.var 2)) layBody, .ret (.tup [.var 0, .tup [.ix (.var 1) (.con (.int 0)), .var 3]])] := by rfl
    rcases plain_of hb with ⟨ys, rfl, hl, hy⟩ | ⟨x, y, rfl, hx, hy⟩ | hp
    · obtain ⟨n', rfl⟩ : ∃ j, n = j + 1 := ⟨n - 1, by simp only [dep, depL] at hn; omega⟩
      have sz1 : size (.tup [.str [116, 117, 112, 108, 101], .tup ys]) = 1 + ys.length + sizeL ys := by simp [size, sizeT]
      rw [sz1] at hs hc
      have sl := sizeL_pos ys
      have hP : ∀ p ∈ ys, size p ≤ 120 ∧ ∀ (c : List D) (S : Store), (c.length : Int) + size p ≤ 5000 → ∃ blk w, callF G (k + 2) i_law_lay [.lst c, p] S = .ok (.tup [.lst (c ++ blk), w]) S ∧ Laid n' c p blk w := fun p hp => by
        have := sizeL_each hp
        refine ⟨by omega, fun c S hc => ih n' (by omega) p (by have := dep_tup hp; simp only [dep, depL] at this hn ⊢; omega) (by omega) (hy p hp) (by omega) (by omega) c S hc⟩
      obtain ⟨ws, blks, a', b', d', q1, q2, q3, q4, q5⟩ := lay_loop (K := k + 2) (n := n') (by omega) (base := c ++ [.tup [.str [99, 111, 117, 110, 116], .int ys.length]]) (v := .tup [.str [116, 117, 112, 108, 101], .tup ys]) (pt := .lst ys) (pl := .int c.length) (lo := c.length + 1 + ys.length) ys 0 [] [] [] 0 none none none S rfl (by simp) hP .nil (fun x hx => by cases hx) (by simp; omega)
      have hlen : ws.length = ys.length := by omega
      refine ⟨.tup [.str [99, 111, 117, 110, 116], .int ys.length] :: (ws ++ blks), .tup [.str [116, 117, 112, 108, 101], .int c.length], ?_, ?_⟩
      · rw [callF_s G_law_lay (k + 2) rfl, lb, exs_app]
        have el1 : c.length + ([D.tup [.str [99, 111, 117, 110, 116], .int ys.length]] : List D).length ≤ line := by show _ ≤ 16777216; simp; omega
        have el2 : (c ++ [D.tup [.str [99, 111, 117, 110, 116], .int ys.length]]).length + ys.length ≤ line := by show _ ≤ 16777216; simp; omega
        have pre : exs (callF G (k + 2)) (m_law_lay.take 4) ([D.lst c, .tup [.str [116, 117, 112, 108, 101], .tup ys]].map some ++ List.replicate (8 - [D.lst c, .tup [.str [116, 117, 112, 108, 101], .tup ys]].length) none) S = .ok (.nx [some (.lst (c ++ [.tup [.str [99, 111, 117, 110, 116], .int ys.length]] ++ ys)), some (.tup [.str [116, 117, 112, 108, 101], .tup ys]), some (.lst ys), some (.int c.length), some (.int ((c ++ [D.tup [.str [99, 111, 117, 110, 116], .int ys.length]]).length : Nat)), none, none, none]) S := by
          simp [↓ex_fors, ev, evs, evC, evP, evI, ex, exs, Res.bind_ok, Res.bind_exc, Res.bind_stuck, Res.nox_ok, lift_some, liftB_some, setT, setSlots, wipe, b_add, b_sub, c_lt, c_le, c_gt, c_ge, c_eqI, c_neI, c_eqS, c_neS, c_eqB, c_neB, t_bl, t_int, t_tup, t_lst, t_non, bi_int, bi_abs, bi_lenT, bi_lenL, bi_tupL, bi_tupT, bi_lstT, bi_lstL, bi_lstF, ixT, ixL, mk_f, mk_t, isiD, wp_ok, wp_bind, wp_nox, wp_lift_some, wp_liftB_some, -List.append_assoc, m_law_lay, e_linner_t, atI0, c_ninT, areData, isData, eqAny, eqD_s, b_addL _ _ el1, b_addL _ _ el2]
        rw [pre]
        generalize layBody = body at *
        simp only [List.append_nil] at q1
        simp only [Res.bind_ok, exs, ↓ex_fors, evI, ev, evs, List.getElem?_cons_zero, List.getElem?_cons_succ, q1, ex, ixT, atI0, lift_some]
        simp
      · have hlist : c ++ D.tup [.str [99, 111, 117, 110, 116], .int ys.length] :: (ws ++ blks) = c ++ [.tup [.str [99, 111, 117, 110, 116], .int ys.length]] ++ ws ++ blks := by simp
        refine ⟨?_, ?_, ?_⟩
        · rw [hlist, sz1]
          refine .inr (.inr ⟨c.length, ws, ys, sizeL ys, Nat.le_refl _, rfl, by omega, ?_, ?_, ?_, rfl, by omega⟩)
          · rw [hlen]; simp
          · have e1 : c.length + 1 = (c ++ [D.tup [.str [99, 111, 117, 110, 116], .int ys.length]]).length := by simp
            rw [e1, List.append_assoc _ ws blks, List.drop_left, List.take_left]
          · have := q3.imp (P' := Rd (c ++ [D.tup [.str [99, 111, 117, 110, 116], .int ys.length]] ++ ws ++ blks) c.length n') fun w v e _ q => q.low (by omega)
            simpa using this
        · rw [hlist]
          intro x hx
          rcases List.mem_cons.mp hx with rfl | hx
          · exact .inl (isCnt_c hl)
          · rcases List.mem_append.mp hx with hx | hx
            · exact rdl_ld (by omega) (by omega) q3 (fun v hv => (hP v (by simpa using hv)).1) x hx
            · exact (q4 x hx).low (by omega)
        · rw [sz1]; simp at q5 ⊢; omega
    · obtain ⟨n', rfl⟩ : ∃ j, n = j + 1 := ⟨n - 1, by simp only [dep, depL] at hn; omega⟩
      have sz1 : size (.tup [.str [112, 97, 105, 114], x, y]) = 2 + sizeL [x, y] := by simp [size, sizeL]; omega
      rw [sz1] at hs hc
      have sl := sizeL_pos [x, y]
      have hP : ∀ p ∈ [x, y], size p ≤ 120 ∧ ∀ (c : List D) (S : Store), (c.length : Int) + size p ≤ 5000 → ∃ blk w, callF G (k + 2) i_law_lay [.lst c, p] S = .ok (.tup [.lst (c ++ blk), w]) S ∧ Laid n' c p blk w := fun p hp => by
        have := sizeL_each hp
        have bp : built p = true ∧ dep p ≤ n' := by
          simp only [dep, depL] at hn
          rcases List.mem_cons.mp hp with rfl | hp
          · exact ⟨hx, by omega⟩
          · rw [List.mem_singleton.mp hp]; exact ⟨hy, by omega⟩
        refine ⟨by omega, fun c S hc => ih n' (by omega) p bp.2 (by omega) bp.1 (by omega) (by omega) c S hc⟩
      obtain ⟨ws, blks, a', b', d', q1, q2, q3, q4, q5⟩ := lay_loop (K := k + 2) (n := n') (by omega) (base := c) (v := .tup [.str [112, 97, 105, 114], x, y]) (pt := .lst [x, y]) (pl := .int c.length) (lo := c.length + 2) [x, y] 0 [] [] [] 0 none none none S rfl (by simp) hP .nil (fun x hx => by cases hx) (by simp; omega)
      have hlen : ws.length = 2 := by simp at q2; omega
      refine ⟨ws ++ blks, .tup [.str [112, 97, 105, 114], .int c.length], ?_, ?_⟩
      · rw [callF_s G_law_lay (k + 2) rfl, lb, exs_app]
        have el1 : c.length + ([] : List D).length ≤ line := by show _ ≤ 16777216; simp; omega
        have el2 : c.length + ([x, y] : List D).length ≤ line := by show _ ≤ 16777216; simp; omega
        have pre : exs (callF G (k + 2)) (m_law_lay.take 4) ([D.lst c, .tup [.str [112, 97, 105, 114], x, y]].map some ++ List.replicate (8 - [D.lst c, .tup [.str [112, 97, 105, 114], x, y]].length) none) S = .ok (.nx [some (.lst (c ++ [x, y])), some (.tup [.str [112, 97, 105, 114], x, y]), some (.lst [x, y]), some (.int c.length), some (.int (c.length : Nat)), none, none, none]) S := by
          have e0 : evBin .add (.lst c) (.lst []) = some (.lst c) := by rw [b_addL _ _ el1, List.append_nil]
          simp [↓ex_fors, ev, evs, evC, evP, evI, ex, exs, Res.bind_ok, Res.bind_exc, Res.bind_stuck, Res.nox_ok, lift_some, liftB_some, setT, setSlots, wipe, b_add, b_sub, c_lt, c_le, c_gt, c_ge, c_eqI, c_neI, c_eqS, c_neS, c_eqB, c_neB, t_bl, t_int, t_tup, t_lst, t_non, bi_int, bi_abs, bi_lenT, bi_lenL, bi_tupL, bi_tupT, bi_lstT, bi_lstL, bi_lstF, ixT, ixL, mk_f, mk_t, isiD, wp_ok, wp_bind, wp_nox, wp_lift_some, wp_liftB_some, -List.append_assoc, m_law_lay, e_linner_p, atI0, c_ninT, areData, isData, eqAny, eqD_s, e0, b_addL _ _ el2]
        rw [pre]
        generalize layBody = body at *
        simp only [List.append_nil] at q1
        simp only [Res.bind_ok, exs, ↓ex_fors, evI, ev, evs, List.getElem?_cons_zero, List.getElem?_cons_succ, q1, ex, ixT, atI0, lift_some]
        simp
      · have hlist : c ++ (ws ++ blks) = c ++ ws ++ blks := by simp
        refine ⟨?_, ?_, ?_⟩
        · rw [hlist, sz1]
          refine .inr (.inl ⟨c.length, ws, [x, y], sizeL [x, y], Nat.le_refl _, rfl, hlen, ?_, ?_, rfl, rfl⟩)
          · rw [List.append_assoc, List.drop_left, ← hlen, List.take_left]
          · have := q3.imp (P' := Rd (c ++ ws ++ blks) c.length n') fun w v e _ q => q.low (by omega)
            simpa using this
        · rw [hlist]
          intro z hz
          rcases List.mem_append.mp hz with hz | hz
          · exact rdl_ld (by omega) (by omega) q3 (fun v hv => (hP v (by simpa using hv)).1) z hz
          · exact (q4 z hz).low (by omega)
        · rw [sz1]; simp at q5 ⊢; omega
    · refine ⟨[], v, ?_, ?_⟩
      · obtain ⟨s, r, rfl, h1, h2, _⟩ : ∃ s r, v = .tup (.str s :: r) ∧ ¬ s = [116, 117, 112, 108, 101] ∧ ¬ s = [112, 97, 105, 114] ∧ ¬ s = [99, 111, 117, 110, 116] := by
          rcases plain_cases hp with rfl | ⟨i, rfl, _⟩ | ⟨z, rfl, _⟩ | ⟨i, rfl, _⟩ <;> exact ⟨_, _, rfl, by decide, by decide, by decide⟩
        rw [callF_s G_law_lay (k + 2) rfl, List.append_nil]
        simp [↓ex_fors, ev, evs, evC, evP, evI, ex, exs, Res.bind_ok, Res.bind_exc, Res.bind_stuck, Res.nox_ok, lift_some, liftB_some, setT, setSlots, wipe, b_add, b_sub, c_lt, c_le, c_gt, c_ge, c_eqI, c_neI, c_eqS, c_neS, c_eqB, c_neB, t_bl, t_int, t_tup, t_lst, t_non, bi_int, bi_abs, bi_lenT, bi_lenL, bi_tupL, bi_tupT, bi_lstT, bi_lstL, bi_lstF, ixT, ixL, mk_f, mk_t, isiD, wp_ok, wp_bind, wp_nox, wp_lift_some, wp_liftB_some, m_law_lay, e_linner_o _ _ h1 h2, atI0, c_ninT, areData, isData, eqAny, eqD_s, h1, h2]
      · have := (plain_built hp).2.1
        refine ⟨?_, fun x hx => (by cases hx), by simp [this]⟩
        rw [this]
        exact Rd.pl hp _
end Ev

set_option Elab.async false
set_option linter.all false
set_option maxRecDepth 100000
set_option maxHeartbeats 4000000
namespace Ev
def lawRest : List MS := m_law.drop 2
theorem rest_ok (a0 a1 a2 a3 a4 a5 a6 a7 a8 a9 a10 a11 a12 a13 a14 : Option D) (S : Store) : exs (callF G 99) lawRest [a0, a1, a2, a3, a4, a5, a6, a7, a8, a9, a10, a11, a12, a13, a14] S = .ok (.ret (.bl true)) S := by kernel_rfl
end Ev

set_option Elab.async false
set_option linter.all false
set_option maxRecDepth 100000
set_option maxHeartbeats 4000000
namespace Ev
variable {k : Nat} {S : Store}
theorem sizeL_app : ∀ xs ys : List D, sizeL (xs ++ ys) = sizeL xs + sizeL ys
  | [], ys => by simp [sizeL]
  | x :: xs, ys => by simp [sizeL, sizeL_app xs ys]; omega
structure Chg (n : Nat) (s : Int) (v : D) : Prop where
  b : built v = true
  s : size v ≤ s + 2
  g : gd v = true
  d : dep v ≤ n + 2
theorem small_c : ∀ x ∈ ([.tup [.str [110, 117, 109, 98, 101, 114], .int 1], .tup [.str [97, 116, 111, 109], .str [97, 98]], .tup [.str [110, 105, 108]], .tup [.str [112, 114, 111, 99, 101, 115, 115], .int 1], .tup [.str [116, 117, 112, 108, 101], .tup []], .tup [.str [112, 97, 105, 114], .tup [.str [110, 105, 108]], .tup [.str [110, 105, 108]]]] : List D), built x = true ∧ size x ≤ 2 ∧ gd x = true ∧ dep x ≤ 2 := by decide +kernel
theorem split_at {ps : List D} {a : Int} (h0 : 0 ≤ a) (h1 : a < ps.length) : ∃ A y B, ps = A ++ y :: B ∧ a = A.length := by
  have hj : a.toNat < ps.length := by omega
  refine ⟨ps.take a.toNat, ps[a.toNat], ps.drop (a.toNat + 1), ?_, ?_⟩
  · rw [List.getElem_cons_drop, List.take_append_drop]
  · rw [List.length_take]; omega
theorem wp_changed : ∀ (n : Nat) (v : D), dep v ≤ n → built v = true → gd v = true → ∀ {k : Nat}, n + 4 ≤ k → ∀ {S : Store}, Cup S → ∀ {Q : D → Store → Prop}, (∀ v' S', Chg n (size v) v' → Cup S' → Q v' S') → Wp (callF G k i_law_changed [.ref 0, v] S) Q := by
  intro n
  induction n using Nat.strongRecOn with
  | _ n ih =>
    intro v hn hb hg k hk S hC Q hQ
    obtain ⟨k, rfl⟩ : ∃ j, k = j + 4 := ⟨k - 4, by omega⟩
    have hsp := size_pos v
    have small : ∀ {S : Store}, Cup S → Wp (callF G (k + 3) i_law_some [.ref 0, .lst ([.tup [.str [110, 117, 109, 98, 101, 114], .int 1], .tup [.str [97, 116, 111, 109], .str [97, 98]], .tup [.str [110, 105, 108]], .tup [.str [112, 114, 111, 99, 101, 115, 115], .int 1], .tup [.str [116, 117, 112, 108, 101], .tup []], .tup [.str [112, 97, 105, 114], .tup [.str [110, 105, 108]], .tup [.str [110, 105, 108]]]] : List D)] S) Q := fun hC => wp_some hC (by simp) (by simp) fun x hx S2 hC2 => by
      have q := small_c x hx
      exact hQ x S2 ⟨q.1, by omega, q.2.2.1, by omega⟩ hC2
    -- the parts, one of them changed
    have part : ∀ {ps : List D} {f : List D → D} {a : Int} {S : Store}, 0 ≤ a → a < ps.length → ps.length ≤ 6 → (∀ p ∈ ps, built p = true ∧ gd p = true ∧ dep p + 1 ≤ n) → Cup S → (∀ qs S', qs.length = ps.length → (∀ q ∈ qs, built q = true ∧ gd q = true ∧ dep q ≤ n + 1) → sizeL qs ≤ sizeL ps + 2 → (depL ps + 2 ≤ n → depL qs ≤ n) → Cup S' → Q (f qs) S') →
        ∃ y, atI ps a = some y ∧ Wp (callF G (k + 3) i_law_changed [.ref 0, y] S) fun y' S' => ∃ qs, evBin .add (.tup (cut ps none (some a))) (.tup [y']) = some (.tup (cut ps none (some a) ++ [y'])) ∧ evBin .add (.tup (cut ps none (some a) ++ [y'])) (.tup (cut ps (some (a + 1)) none)) = some (.tup qs) ∧ Q (f qs) S' := by
      intro ps f a S h0 h1 h6 hps hC hq
      obtain ⟨A, y, B, rfl, rfl⟩ := split_at h0 h1
      have hy := hps y (by simp)
      refine ⟨y, atI_get (by simp), ?_⟩
      refine ih (dep y) (by omega) y (Nat.le_refl _) hy.1 hy.2.1 (by omega) hC fun y' S' c hC' => ?_
      have e1 : A.length + ([y'] : List D).length ≤ line := by simp at h6; show _ ≤ 16777216; simp; omega
      have e2 : (A ++ [y']).length + B.length ≤ line := by simp at h6; show _ ≤ 16777216; simp; omega
      rw [cut_l, cut_r]
      refine ⟨A ++ [y'] ++ B, b_addT _ _ e1, b_addT _ _ e2, hq _ _ (by simp) ?_ ?_ ?_ hC'⟩
      · intro q hq'
        simp at hq'
        rcases hq' with h | rfl | h
        · have := hps q (by simp [h]); exact ⟨this.1, this.2.1, by omega⟩
        · exact ⟨c.b, c.g, by have := c.d; omega⟩
        · have := hps q (by simp [h]); exact ⟨this.1, this.2.1, by omega⟩
      · have := c.s
        simp only [sizeL_app, sizeL]; omega
      · intro hd
        refine depL_le.mpr fun q hq' => ?_
        have all := depL_le.mp (show depL (A ++ y :: B) ≤ n - 2 by omega)
        simp at hq'
        rcases hq' with h | rfl | h
        · have := all q (by simp [h]); omega
        · have := c.d; have := all y (by simp); omega
        · have := all q (by simp [h]); omega
    rw [callF_s G_law_changed (k + 3) rfl]
    rcases plain_of hb with ⟨ys, rfl, hl, hy⟩ | ⟨x, y, rfl, hx, hy⟩ | hp
    · have gy : gdL ys = true := by simp [gd, gdL] at hg; exact hg
      have dy : depL ys + 2 ≤ n := by simp only [dep, depL] at hn; omega
      by_cases hz : ys.isEmpty = true
      · simp [↓ex_fors, ev, evs, evC, evP, evI, ex, exs, Res.bind_ok, Res.bind_exc, Res.bind_stuck, Res.nox_ok, lift_some, liftB_some, setT, setSlots, wipe, b_add, b_sub, c_lt, c_le, c_gt, c_ge, c_eqI, c_neI, c_eqS, c_neS, c_eqB, c_neB, t_bl, t_int, t_tup, t_lst, t_non, bi_int, bi_abs, bi_lenT, bi_lenL, bi_tupL, bi_tupT, bi_lstT, bi_lstL, bi_lstF, ixT, ixL, mk_f, mk_t, isiD, wp_ok, wp_bind, wp_nox, wp_lift_some, wp_liftB_some, m_law_changed, e_linner_t, c_eqTup0 ys (gdL_data _ gy), hz]
        exact small hC
      · have hz' : ys.isEmpty = false := by simpa using hz
        have hlen : 0 < ys.length := by cases ys <;> simp at hz' ⊢
        simp [↓ex_fors, ev, evs, evC, evP, evI, ex, exs, Res.bind_ok, Res.bind_exc, Res.bind_stuck, Res.nox_ok, lift_some, liftB_some, setT, setSlots, wipe, b_add, b_sub, c_lt, c_le, c_gt, c_ge, c_eqI, c_neI, c_eqS, c_neS, c_eqB, c_neB, t_bl, t_int, t_tup, t_lst, t_non, bi_int, bi_abs, bi_lenT, bi_lenL, bi_tupL, bi_tupT, bi_lstT, bi_lstL, bi_lstF, ixT, ixL, mk_f, mk_t, isiD, wp_ok, wp_bind, wp_nox, wp_lift_some, wp_liftB_some, m_law_changed, e_linner_t, c_eqTup0 ys (gdL_data _ gy), hz']
        refine wp_roll hC (by omega) (by omega) fun r S1 h0 h1 hC1 => ?_
        by_cases hr : r = 0
        · subst hr
          simp [↓ex_fors, ev, evs, evC, evP, evI, ex, exs, Res.bind_ok, Res.bind_exc, Res.bind_stuck, Res.nox_ok, lift_some, liftB_some, setT, setSlots, wipe, b_add, b_sub, c_lt, c_le, c_gt, c_ge, c_eqI, c_neI, c_eqS, c_neS, c_eqB, c_neB, t_bl, t_int, t_tup, t_lst, t_non, bi_int, bi_abs, bi_lenT, bi_lenL, bi_tupL, bi_tupT, bi_lstT, bi_lstL, bi_lstF, ixT, ixL, mk_f, mk_t, isiD, wp_ok, wp_bind, wp_nox, wp_lift_some, wp_liftB_some]
          exact small hC1
        · simp [↓ex_fors, ev, evs, evC, evP, evI, ex, exs, Res.bind_ok, Res.bind_exc, Res.bind_stuck, Res.nox_ok, lift_some, liftB_some, setT, setSlots, wipe, b_add, b_sub, c_lt, c_le, c_gt, c_ge, c_eqI, c_neI, c_eqS, c_neS, c_eqB, c_neB, t_bl, t_int, t_tup, t_lst, t_non, bi_int, bi_abs, bi_lenT, bi_lenL, bi_tupL, bi_tupT, bi_lstT, bi_lstL, bi_lstF, ixT, ixL, mk_f, mk_t, isiD, wp_ok, wp_bind, wp_nox, wp_lift_some, wp_liftB_some, hr]
          refine wp_roll hC1 (by omega) (by omega) fun a S2 h0 h1 hC2 => ?_
          obtain ⟨y, ey, w⟩ := part (f := fun qs => .tup [.str [116, 117, 112, 108, 101], .tup qs]) h0 h1 hl (fun p hp => ⟨hy p hp, gdL_iff.mp gy p hp, by have := (depL_le.mp (Nat.le_refl (depL ys))) p hp; omega⟩) hC2 (fun qs S' hl' hq hs hd hC' => hQ _ S' ⟨by
              simp [built, builtT]
              exact ⟨by omega, builtL_iff.mpr fun q h => (hq q h).1⟩, by simp [size, sizeT]; omega, by simp [gd, gdL]; exact gdL_iff.mpr fun q h => (hq q h).2.1, by
              have := hd dy
              simp only [dep, depL]; omega⟩ hC')
          obtain ⟨y', S3, e3, qs, e4, e5, q⟩ := w.ok_of
          simp [↓ex_fors, ev, evs, evC, evP, evI, ex, exs, Res.bind_ok, Res.bind_exc, Res.bind_stuck, Res.nox_ok, lift_some, liftB_some, setT, setSlots, wipe, b_add, b_sub, c_lt, c_le, c_gt, c_ge, c_eqI, c_neI, c_eqS, c_neS, c_eqB, c_neB, t_bl, t_int, t_tup, t_lst, t_non, bi_int, bi_abs, bi_lenT, bi_lenL, bi_tupL, bi_tupT, bi_lstT, bi_lstL, bi_lstF, ixT, ixL, mk_f, mk_t, isiD, wp_ok, wp_bind, wp_nox, wp_lift_some, wp_liftB_some, slA, slB, ey, e3, e4, e5, atI0]
          exact q
    · have gx : gd x = true ∧ gd y = true := by simp [gd, gdL] at hg; exact hg
      have dx : dep x + 1 ≤ n ∧ dep y + 1 ≤ n := by simp only [dep, depL] at hn; omega
      have hz' : evCmp .eq (.tup [x, y]) (.tup []) = some false := c_eqTup0 [x, y] (by simp [areData, gd_data x gx.1, gd_data y gx.2])
      simp [↓ex_fors, ev, evs, evC, evP, evI, ex, exs, Res.bind_ok, Res.bind_exc, Res.bind_stuck, Res.nox_ok, lift_some, liftB_some, setT, setSlots, wipe, b_add, b_sub, c_lt, c_le, c_gt, c_ge, c_eqI, c_neI, c_eqS, c_neS, c_eqB, c_neB, t_bl, t_int, t_tup, t_lst, t_non, bi_int, bi_abs, bi_lenT, bi_lenL, bi_tupL, bi_tupT, bi_lstT, bi_lstL, bi_lstF, ixT, ixL, mk_f, mk_t, isiD, wp_ok, wp_bind, wp_nox, wp_lift_some, wp_liftB_some, m_law_changed, e_linner_p, hz']
      refine wp_roll hC (by omega) (by omega) fun r S1 h0 h1 hC1 => ?_
      by_cases hr : r = 0
      · subst hr
        simp [↓ex_fors, ev, evs, evC, evP, evI, ex, exs, Res.bind_ok, Res.bind_exc, Res.bind_stuck, Res.nox_ok, lift_some, liftB_some, setT, setSlots, wipe, b_add, b_sub, c_lt, c_le, c_gt, c_ge, c_eqI, c_neI, c_eqS, c_neS, c_eqB, c_neB, t_bl, t_int, t_tup, t_lst, t_non, bi_int, bi_abs, bi_lenT, bi_lenL, bi_tupL, bi_tupT, bi_lstT, bi_lstL, bi_lstF, ixT, ixL, mk_f, mk_t, isiD, wp_ok, wp_bind, wp_nox, wp_lift_some, wp_liftB_some]
        exact small hC1
      · simp [↓ex_fors, ev, evs, evC, evP, evI, ex, exs, Res.bind_ok, Res.bind_exc, Res.bind_stuck, Res.nox_ok, lift_some, liftB_some, setT, setSlots, wipe, b_add, b_sub, c_lt, c_le, c_gt, c_ge, c_eqI, c_neI, c_eqS, c_neS, c_eqB, c_neB, t_bl, t_int, t_tup, t_lst, t_non, bi_int, bi_abs, bi_lenT, bi_lenL, bi_tupL, bi_tupT, bi_lstT, bi_lstL, bi_lstF, ixT, ixL, mk_f, mk_t, isiD, wp_ok, wp_bind, wp_nox, wp_lift_some, wp_liftB_some, hr]
        refine wp_roll hC1 (by omega) (by omega) fun a S2 h0 h1 hC2 => ?_
        obtain ⟨z, ey, w⟩ := part (ps := [x, y]) (f := fun qs => .tup (.str [112, 97, 105, 114] :: qs)) h0 (by simpa using h1) (by simp) (fun p hp => by
            rcases List.mem_cons.mp hp with rfl | hp
            · exact ⟨hx, gx.1, dx.1⟩
            · rw [List.mem_singleton.mp hp]; exact ⟨hy, gx.2, dx.2⟩) hC2 (fun qs S' hl' hq hs hd hC' => by
            match qs, hl' with
            | [u, t], _ =>
              have hu := hq u (by simp)
              have ht := hq t (by simp)
              refine hQ _ S' ⟨by simp [built, hu.1, ht.1], by simp [size, sizeL] at hs ⊢; omega, by simp [gd, gdL, hu.2.1, ht.2.1], by simp only [dep, depL]; omega⟩ hC'
            | [], h => simp at h
            | [_], h => simp at h
            | _ :: _ :: _ :: _, h => simp at h)
        obtain ⟨y', S3, e3, qs, e4, e5, q⟩ := w.ok_of
        have e6 : qs.length ≤ 10 := by
          have := congrArg (fun o => match o with | some (D.tup xs) => xs.length | _ => 0) e5
          have c1 := cut_len [x, y] none (some a)
          have c2 := cut_len [x, y] (some (a + 1)) none
          have e7 : (cut [x, y] none (some a) ++ [y']).length + (cut [x, y] (some (a + 1)) none).length ≤ line := by show _ ≤ 16777216; simp at c1 c2 ⊢; omega
          rw [b_addT _ _ e7] at this
          simp at this c1 c2
          omega
        have e8 : ([D.str [112, 97, 105, 114]] : List D).length + qs.length ≤ line := by show _ ≤ 16777216; simp; omega
        simp [↓ex_fors, ev, evs, evC, evP, evI, ex, exs, Res.bind_ok, Res.bind_exc, Res.bind_stuck, Res.nox_ok, lift_some, liftB_some, setT, setSlots, wipe, b_add, b_sub, c_lt, c_le, c_gt, c_ge, c_eqI, c_neI, c_eqS, c_neS, c_eqB, c_neB, t_bl, t_int, t_tup, t_lst, t_non, bi_int, bi_abs, bi_lenT, bi_lenL, bi_tupL, bi_tupT, bi_lstT, bi_lstL, bi_lstF, ixT, ixL, mk_f, mk_t, isiD, wp_ok, wp_bind, wp_nox, wp_lift_some, wp_liftB_some, slA, slB, ey, e3, e4, e5, atI0, b_addT _ _ e8]
        exact q
    · obtain ⟨s, r, rfl, h1, h2, _⟩ : ∃ s r, v = .tup (.str s :: r) ∧ ¬ s = [116, 117, 112, 108, 101] ∧ ¬ s = [112, 97, 105, 114] ∧ ¬ s = [99, 111, 117, 110, 116] := by
        rcases plain_cases hp with rfl | ⟨i, rfl, _⟩ | ⟨z, rfl, _⟩ | ⟨i, rfl, _⟩ <;> exact ⟨_, _, rfl, by decide, by decide, by decide⟩
      have e0 : evCmp .eq (.tup []) (.tup []) = some true := c_eqTup0 [] rfl
      simp [↓ex_fors, ev, evs, evC, evP, evI, ex, exs, Res.bind_ok, Res.bind_exc, Res.bind_stuck, Res.nox_ok, lift_some, liftB_some, setT, setSlots, wipe, b_add, b_sub, c_lt, c_le, c_gt, c_ge, c_eqI, c_neI, c_eqS, c_neS, c_eqB, c_neB, t_bl, t_int, t_tup, t_lst, t_non, bi_int, bi_abs, bi_lenT, bi_lenL, bi_tupL, bi_tupT, bi_lstT, bi_lstL, bi_lstF, ixT, ixL, mk_f, mk_t, isiD, wp_ok, wp_bind, wp_nox, wp_lift_some, wp_liftB_some, m_law_changed, e_linner_o _ _ h1 h2, e0]
      exact small hC
end Ev

set_option Elab.async false
set_option linter.all false
set_option maxRecDepth 100000
set_option maxHeartbeats 4000000
namespace Ev
/-- the slots while the law draws -/
def Slots (ns : List Int) (ρ : Rho) (S : Store) : Prop := Cup S ∧ ∃ a2 a3 a4 a5 a6 a7 a8 a9 a10 a11 a12 a13 a14, ρ = [some (.fro ns), some (.ref 0), a2, a3, a4, a5, a6, a7, a8, a9, a10, a11, a12, a13, a14]
def Slots1 (ns : List Int) (h : D) (ws : List D) (ρ : Rho) (S : Store) : Prop := Cup S ∧ ∃ a2 a5 a6 a7 a8 a9 a10 a11 a12 a13 a14, ρ = [some (.fro ns), some (.ref 0), a2, some h, some (.lst ws), a5, a6, a7, a8, a9, a10, a11, a12, a13, a14]
theorem plain : ∀ ns : List Int, ns.length ≤ 63 → ∃ S, callF (Gof L) 100 i_law [.fro ns] [] = .ok (.bl true) S := by
  intro ns hl
  have w : Wp (callF G (99 + 1) i_law [.fro ns] []) fun d _ => d = .bl true := by
    rw [callF_s G_law 99 rfl]
    show Wp ((exs (callF G 99) (m_law.head (by simp [m_law]) :: (m_law.drop 1).head (by simp [m_law]) :: lawRest) _ _).bind _) _
    simp [↓ex_fors, ev, evs, evC, evP, evI, ex, exs, Res.bind_ok, Res.bind_exc, Res.bind_stuck, Res.nox_ok, lift_some, liftB_some, setT, setSlots, wipe, b_add, b_sub, c_lt, c_le, c_gt, c_ge, c_eqI, c_neI, c_eqS, c_neS, c_eqB, c_neB, t_bl, t_int, t_tup, t_lst, t_non, bi_int, bi_abs, bi_lenT, bi_lenL, bi_tupL, bi_tupT, bi_lstT, bi_lstL, bi_lstF, ixT, ixL, mk_f, mk_t, isiD, wp_ok, wp_bind, wp_nox, wp_lift_some, wp_liftB_some, m_law]
    refine wp_cup hl fun S hC => ?_
    refine wp_forGo (Slots ns) ?_ ⟨hC, none, none, none, none, none, none, none, none, none, none, none, none, none, rfl⟩ ?_
    · rintro x hx ρ S ⟨hC, a2, a3, a4, a5, a6, a7, a8, a9, a10, a11, a12, a13, a14, rfl⟩
      refine ⟨_, rfl, ?_⟩
      simp [xs_, ↓ex_fors, ev, evs, evC, evP, evI, ex, exs, Res.bind_ok, Res.bind_exc, Res.bind_stuck, Res.nox_ok, lift_some, liftB_some, setT, setSlots, wipe, b_add, b_sub, c_lt, c_le, c_gt, c_ge, c_eqI, c_neI, c_eqS, c_neS, c_eqB, c_neB, t_bl, t_int, t_tup, t_lst, t_non, bi_int, bi_abs, bi_lenT, bi_lenL, bi_tupL, bi_tupT, bi_lstT, bi_lstL, bi_lstF, ixT, ixL, mk_f, mk_t, isiD, wp_ok, wp_bind, wp_nox, wp_lift_some, wp_liftB_some]
      refine wp_roll hC (by omega) (by omega) fun r S1 h0 h1 hC1 => ?_
      simp [↓ex_fors, ev, evs, evC, evP, evI, ex, exs, Res.bind_ok, Res.bind_exc, Res.bind_stuck, Res.nox_ok, lift_some, liftB_some, setT, setSlots, wipe, b_add, b_sub, c_lt, c_le, c_gt, c_ge, c_eqI, c_neI, c_eqS, c_neS, c_eqB, c_neB, t_bl, t_int, t_tup, t_lst, t_non, bi_int, bi_abs, bi_lenT, bi_lenL, bi_tupL, bi_tupT, bi_lstT, bi_lstL, bi_lstF, ixT, ixL, mk_f, mk_t, isiD, wp_ok, wp_bind, wp_nox, wp_lift_some, wp_liftB_some]
      refine wp_heap (k := 78) hC1 (by omega) (by omega) fun c ws room S2 hh hw3 hw15 hword hC2 => ?_
      simp [↓ex_fors, ev, evs, evC, evP, evI, ex, exs, Res.bind_ok, Res.bind_exc, Res.bind_stuck, Res.nox_ok, lift_some, liftB_some, setT, setSlots, wipe, b_add, b_sub, c_lt, c_le, c_gt, c_ge, c_eqI, c_neI, c_eqS, c_neS, c_eqB, c_neB, t_bl, t_int, t_tup, t_lst, t_non, bi_int, bi_abs, bi_lenT, bi_lenL, bi_tupL, bi_tupT, bi_lstT, bi_lstL, bi_lstF, ixT, ixL, mk_f, mk_t, isiD, wp_ok, wp_bind, wp_nox, wp_lift_some, wp_liftB_some]
      refine wp_forGo (Slots1 ns (.tup [.tup c, .int room]) ws) ?_ ⟨hC2, _, _, _, _, _, _, _, _, _, _, _, rfl⟩ ?_
      · rintro x hx ρ S ⟨hC, a2, a5, a6, a7, a8, a9, a10, a11, a12, a13, a14, rfl⟩
        refine ⟨_, rfl, ?_⟩
        simp [xs_, ↓ex_fors, ev, evs, evC, evP, evI, ex, exs, Res.bind_ok, Res.bind_exc, Res.bind_stuck, Res.nox_ok, lift_some, liftB_some, setT, setSlots, wipe, b_add, b_sub, c_lt, c_le, c_gt, c_ge, c_eqI, c_neI, c_eqS, c_neS, c_eqB, c_neB, t_bl, t_int, t_tup, t_lst, t_non, bi_int, bi_abs, bi_lenT, bi_lenL, bi_tupL, bi_tupT, bi_lstT, bi_lstL, bi_lstF, ixT, ixL, mk_f, mk_t, isiD, wp_ok, wp_bind, wp_nox, wp_lift_some, wp_liftB_some]
        refine wp_some hC (by omega) (by omega) fun one hone S1 hC1 => ?_
        try simp [↓ex_fors, ev, evs, evC, evP, evI, ex, exs, Res.bind_ok, Res.bind_exc, Res.bind_stuck, Res.nox_ok, lift_some, liftB_some, setT, setSlots, wipe, b_add, b_sub, c_lt, c_le, c_gt, c_ge, c_eqI, c_neI, c_eqS, c_neS, c_eqB, c_neB, t_bl, t_int, t_tup, t_lst, t_non, bi_int, bi_abs, bi_lenT, bi_lenL, bi_tupL, bi_tupT, bi_lstT, bi_lstL, bi_lstF, ixT, ixL, mk_f, mk_t, isiD, wp_ok, wp_bind, wp_nox, wp_lift_some, wp_liftB_some]
        refine wp_some hC1 (by omega) (by omega) fun other hother S2 hC2 => ?_
        obtain ⟨v, e, hr, he⟩ := hword one hone
        obtain ⟨v', e', hr', he'⟩ := hword other hother
        have r1 : ∀ S, callF G 99 i_law_read [.tup c, one] S = .ok v S := fun S => e_lread (.inl rfl) 12 hr (by omega) S
        have r2 : ∀ S, callF G 99 i_law_read [.tup c, other] S = .ok v' S := fun S => e_lread (.inl rfl) 12 hr' (by omega) S
        have va : ∀ S, callF G 99 i_value_at [.tup [.tup c, .int room], one] S = .ok v S := fun S => e_vat hh hr (by omega) (by omega) S
        have ca : ∀ S, callF G 99 i_compared_at [.tup [.tup c, .int room], one, other] S = .ok (.int (cmp v v')) S := fun S => e_cat hh hr hr' (by omega) (by omega) (by omega) S
        have q := hr.val
        have q' := hr'.val
        have lc : ∀ S, callF G 99 i_law_compared [v, v'] S = .ok (.int (cmp v v')) S := fun S => e_lcmp 25 v v' (by omega) q.1.1 q'.1.1 (built_gl _ v q.2.2 q.1.1) (by omega) S
        have sm : ∀ S, callF G 99 i_law_same [v, v] S = .ok (.bl true) S := fun S => e_same 25 v (by omega) (by omega) q.2.1 (by omega) S
        have sI : ∀ (i : Int) S, callF G 99 i_law_same [.int i, .int i] S = .ok (.bl true) S := fun i S => e_sameI i
        simp [↓ex_fors, ev, evs, evC, evP, evI, ex, exs, Res.bind_ok, Res.bind_exc, Res.bind_stuck, Res.nox_ok, lift_some, liftB_some, setT, setSlots, wipe, b_add, b_sub, c_lt, c_le, c_gt, c_ge, c_eqI, c_neI, c_eqS, c_neS, c_eqB, c_neB, t_bl, t_int, t_tup, t_lst, t_non, bi_int, bi_abs, bi_lenT, bi_lenL, bi_tupL, bi_tupT, bi_lstT, bi_lstL, bi_lstF, ixT, ixL, mk_f, mk_t, isiD, wp_ok, wp_bind, wp_nox, wp_lift_some, wp_liftB_some, atI0, r1, r2, va, ca, lc, sm, sI]
        exact ⟨hC2, _, _, _, _, _, _, _, _, _, _, _, rfl⟩
      · rintro ρ S ⟨hC, a2, a5, a6, a7, a8, a9, a10, a11, a12, a13, a14, rfl⟩
        simp [↓ex_fors, ev, evs, evC, evP, evI, ex, exs, Res.bind_ok, Res.bind_exc, Res.bind_stuck, Res.nox_ok, lift_some, liftB_some, setT, setSlots, wipe, b_add, b_sub, c_lt, c_le, c_gt, c_ge, c_eqI, c_neI, c_eqS, c_neS, c_eqB, c_neB, t_bl, t_int, t_tup, t_lst, t_non, bi_int, bi_abs, bi_lenT, bi_lenL, bi_tupL, bi_tupT, bi_lstT, bi_lstL, bi_lstF, ixT, ixL, mk_f, mk_t, isiD, wp_ok, wp_bind, wp_nox, wp_lift_some, wp_liftB_some]
        refine wp_value 3 (by omega) hC fun v S1 hv hC1 => ?_
        have hv' := hv
        simp only [vOk, Bool.and_eq_true, decide_eq_true_eq] at hv'
        have s3 : sz 3 = 52 := by decide
        try simp [↓ex_fors, ev, evs, evC, evP, evI, ex, exs, Res.bind_ok, Res.bind_exc, Res.bind_stuck, Res.nox_ok, lift_some, liftB_some, setT, setSlots, wipe, b_add, b_sub, c_lt, c_le, c_gt, c_ge, c_eqI, c_neI, c_eqS, c_neS, c_eqB, c_neB, t_bl, t_int, t_tup, t_lst, t_non, bi_int, bi_abs, bi_lenT, bi_lenL, bi_tupL, bi_tupT, bi_lstT, bi_lstL, bi_lstF, ixT, ixL, mk_f, mk_t, isiD, wp_ok, wp_bind, wp_nox, wp_lift_some, wp_liftB_some]
        refine wp_changed 8 v hv'.2 hv'.1.1.1 hv'.1.2 (by omega) hC1 fun x1 S2 hx1 hC2 => ?_
        try simp [↓ex_fors, ev, evs, evC, evP, evI, ex, exs, Res.bind_ok, Res.bind_exc, Res.bind_stuck, Res.nox_ok, lift_some, liftB_some, setT, setSlots, wipe, b_add, b_sub, c_lt, c_le, c_gt, c_ge, c_eqI, c_neI, c_eqS, c_neS, c_eqB, c_neB, t_bl, t_int, t_tup, t_lst, t_non, bi_int, bi_abs, bi_lenT, bi_lenL, bi_tupL, bi_tupT, bi_lstT, bi_lstL, bi_lstF, ixT, ixL, mk_f, mk_t, isiD, wp_ok, wp_bind, wp_nox, wp_lift_some, wp_liftB_some]
        refine wp_changed 8 v hv'.2 hv'.1.1.1 hv'.1.2 (by omega) hC2 fun x2 S3 hx2 hC3 => ?_
        try simp [↓ex_fors, ev, evs, evC, evP, evI, ex, exs, Res.bind_ok, Res.bind_exc, Res.bind_stuck, Res.nox_ok, lift_some, liftB_some, setT, setSlots, wipe, b_add, b_sub, c_lt, c_le, c_gt, c_ge, c_eqI, c_neI, c_eqS, c_neS, c_eqB, c_neB, t_bl, t_int, t_tup, t_lst, t_non, bi_int, bi_abs, bi_lenT, bi_lenL, bi_tupL, bi_tupT, bi_lstT, bi_lstL, bi_lstF, ixT, ixL, mk_f, mk_t, isiD, wp_ok, wp_bind, wp_nox, wp_lift_some, wp_liftB_some]
        refine wp_some hC3 (by simp) (by simp) fun nr hnr S4 hC4 => ?_
        have hn : built nr = true ∧ size nr ≤ 54 ∧ gd nr = true ∧ dep nr ≤ 10 := by
          simp at hnr
          rcases hnr with rfl | rfl | rfl
          · exact ⟨hv'.1.1.1, by omega, hv'.1.2, by omega⟩
          · exact ⟨hx1.b, by have := hx1.s; omega, hx1.g, hx1.d⟩
          · exact ⟨hx2.b, by have := hx2.s; omega, hx2.g, hx2.d⟩
        obtain ⟨b1, w1, l1, L1⟩ := e_lay 8 v hv'.2 (by omega) hv'.1.1.1 (by omega) (k := 99) (by omega) [] S4 (by simp; omega)
        have hb1 := L1.2.2
        obtain ⟨b2, w2, l2, L2⟩ := e_lay 10 nr hn.2.2.2 (by omega) hn.1 (by omega) (k := 99) (by omega) ([] ++ b1) S4 (by simp; omega)
        have hb2 := L2.2.2
        rw [List.nil_append] at l1 l2
        have R1 : Rd (b1 ++ b2) 0 8 w1 v (size v) := by
          have := L1.1.app b2
          simpa using this
        have R2 : Rd (b1 ++ b2) 0 10 w2 nr (size nr) := by
          have := L2.1.low (Nat.zero_le _)
          simpa using this
        have hh : HeapOk (b1 ++ b2) 256 := by
          refine ⟨fun x hx => ?_, by simp; omega, .inl rfl⟩
          rcases List.mem_append.mp hx with hx | hx
          · rcases L1.2.1 x hx with z | ⟨n, v, e, hn, z, he⟩
            · exact .inl z
            · have := z.app b2
              exact .inr ⟨n, v, e, by omega, by simpa using this, he⟩
          · have := laid_cells L2.2.1 x hx
            simpa using this
        have c1 : ∀ S, callF G 99 i_compared_at [.tup [.tup (b1 ++ b2), .int 256], w1, w2] S = .ok (.int (cmp v nr)) S := fun S => e_cat hh R1 R2 (by omega) (by omega) (by omega) S
        have c2 : ∀ S, callF G 99 i_compared_at [.tup [.tup (b1 ++ b2), .int 256], w2, w1] S = .ok (.int (cmp nr v)) S := fun S => e_cat hh R2 R1 (by omega) (by omega) (by omega) S
        have d1 : ∀ S, callF G 99 i_law_compared [v, nr] S = .ok (.int (cmp v nr)) S := fun S => e_lcmp 25 v nr (by omega) hv'.1.1.1 hn.1 (built_gl _ v hv'.2 hv'.1.1.1) (by omega) S
        have d2 : ∀ S, callF G 99 i_law_compared [nr, v] S = .ok (.int (cmp nr v)) S := fun S => e_lcmp 25 nr v (by omega) hn.1 hv'.1.1.1 (built_gl _ nr hn.2.2.2 hn.1) (by omega) S
        simp [↓ex_fors, ev, evs, evC, evP, evI, ex, exs, Res.bind_ok, Res.bind_exc, Res.bind_stuck, Res.nox_ok, lift_some, liftB_some, setT, setSlots, wipe, b_add, b_sub, c_lt, c_le, c_gt, c_ge, c_eqI, c_neI, c_eqS, c_neS, c_eqB, c_neB, t_bl, t_int, t_tup, t_lst, t_non, bi_int, bi_abs, bi_lenT, bi_lenL, bi_tupL, bi_tupT, bi_lstT, bi_lstL, bi_lstF, ixT, ixL, mk_f, mk_t, isiD, wp_ok, wp_bind, wp_nox, wp_lift_some, wp_liftB_some, l1, l2, c1, c2, d1, d2]
        exact ⟨hC4, _, _, _, _, _, _, _, _, _, _, _, _, _, rfl⟩
    · rintro ρ S ⟨hC, a2, a3, a4, a5, a6, a7, a8, a9, a10, a11, a12, a13, a14, rfl⟩
      simp [↓ex_fors, ev, evs, evC, evP, evI, ex, exs, Res.bind_ok, Res.bind_exc, Res.bind_stuck, Res.nox_ok, lift_some, liftB_some, setT, setSlots, wipe, b_add, b_sub, c_lt, c_le, c_gt, c_ge, c_eqI, c_neI, c_eqS, c_neS, c_eqB, c_neB, t_bl, t_int, t_tup, t_lst, t_non, bi_int, bi_abs, bi_lenT, bi_lenL, bi_tupL, bi_tupT, bi_lstT, bi_lstL, bi_lstF, ixT, ixL, mk_f, mk_t, isiD, wp_ok, wp_bind, wp_nox, wp_lift_some, wp_liftB_some, rest_ok]
  obtain ⟨d, S, e, rfl⟩ := w.ok_of
  exact ⟨S, e⟩
end Ev

set_option Elab.async false
set_option linter.all false
set_option maxRecDepth 100000
set_option maxHeartbeats 0
open PySem PySem.W PySem.Calls PyProof.Rows
theorem PySem.Challenge.cw_messagehouse_k51_values_and_their_order_holds : PySem.Challenge.rw_messagehouse_k51_values_and_their_order.Holds := by
  w_on; o_law
  refine HandSHeadRun.head_any (r := OpenLaw.row PySem.Challenge.rw_messagehouse_k51_values_and_their_order) (q := view (OpenLaw.row PySem.Challenge.rw_messagehouse_k51_values_and_their_order).prog [70]) (H := Ev.hk) (ob := Ev.ob) (M := 4000) (loose := Ev.hdLo) (d := HandSHeadRun.topDef (OpenLaw.row PySem.Challenge.rw_messagehouse_k51_values_and_their_order).prog 70) (kwd := []) Ev.ob_eq
    (by kernel_rfl) (fun s => by kernel_rfl) Ev.run (by kernel_rfl) (by kernel_rfl) (by kernel_rfl) (by rfl) (by first | assumption | decide +kernel) (by decide +kernel) ⟨rfl, rfl, rfl, rfl, rfl, by decide +kernel⟩ ?hw ?hc
  case hw => w_witness2
  case hc =>
    refine LamX.walk_ofTsE (l := PySem.Challenge.rw_messagehouse_k51_values_and_their_order) (n := 63) (k := 100) (x := "script") (CX := fun w => L2.CX (PySem.Challenge.rw_messagehouse_k51_values_and_their_order).prog w) rfl (by decide) (by kernel_rfl) ⟨rfl, by decide, by decide⟩ ?F (fun _ _ _ _ _ z => Ev.noCX z)
    intro w mg fa h Y G hmg0
    have hmg : mg (Ev.d_law).x = some (.ref fa) := by
      have e : (HandSHeadRun.topDef (OpenLaw.row PySem.Challenge.rw_messagehouse_k51_values_and_their_order).prog 70).name = (Ev.d_law).x := by kernel_rfl
      rw [← e]
      exact hmg0
    exact Ev.law_F (l := PySem.Challenge.rw_messagehouse_k51_values_and_their_order) Ev.txt (by decide) (i := 43) (d := Ev.d_law) rfl rfl Ev.plain Y G hmg

