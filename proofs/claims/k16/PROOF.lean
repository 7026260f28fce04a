import PyProof.Rows.All
import Wide.All
import OpenK.AllK
import Wide.FinOn
import KE.KStateDown
import Lean
import HandS.ForMost
import HandS.Exc
import PyProof.NeData
import PyProof.NeKinds
import HandS.TupAny
import HandS.TupMul
import HandS.Style
import HandS.IsInst
import HandS.ExcOwn
import KE.GoesMore
import KE.GoesEnum
import HandS.WordsExc
import HandS.Defaults
import HandS.Head0
import HandS.Head1
import HandS.Head2
import HandS.HeadEnd
import HandS.HeadHook1
import HandS.HeadHook2
import HandS.HeadHook4
import PySem.Challenge.RW_cutlist_k16_whole_the_fewest_hang_togeth
set_option Elab.async false
set_option linter.all false
/-! The pure machine: data, terms, evaluation. -/
namespace Pm
open PySem

/-- data: no addresses; ref j is the j-th object of the pure heap -/
inductive D where
  | non | bl (b : Bool) | int (i : Int) | str (s : Str) | tup (xs : List D) | lst (xs : List D) | scr (ns : List Int) | ref (j : Nat)

/-- what an expression gives: data, or a new list that nobody else holds -/
inductive R where
  | v (d : D) | o (xs : List D)
def R.d : R → D
  | .v d => d
  | .o xs => .lst xs

/-- a name of the frame: unset, data, a list of its own, an exception caught -/
inductive Slot where
  | un | v (d : D) | o (xs : List D) | x (c : Nat) (p : D)
def R.slot : R → Slot
  | .v d => .v d
  | .o xs => .o xs

/-- an object of the pure heap -/
inductive Ob where
  | lst (xs : List D) | ins (c : Nat) (fs : List (Str × R))

inductive Res (α : Type) where
  | ok (a : α) (σ : List Slot) (h : List Ob)
  | exc (c : Nat) (p : D) (σ : List Slot) (h : List Ob)
  | stuck
def Res.bind {α β : Type} (m : Res α) (f : α → List Slot → List Ob → Res β) : Res β :=
  match m with
  | .ok a σ h => f a σ h
  | .exc c p σ h => .exc c p σ h
  | .stuck => .stuck
@[simp] theorem Res.bind_ok {α β : Type} (a : α) (σ : List Slot) (h : List Ob) (f : α → List Slot → List Ob → Res β) : (Res.ok a σ h).bind f = f a σ h := rfl
@[simp] theorem Res.bind_exc {α β : Type} (c : Nat) (p : D) (σ : List Slot) (h : List Ob) (f : α → List Slot → List Ob → Res β) : (Res.exc c p σ h).bind f = .exc c p σ h := rfl
@[simp] theorem Res.bind_stuck {α β : Type} (f : α → List Slot → List Ob → Res β) : (Res.stuck).bind f = .stuck := rfl

/-- what a call gives -/
inductive CRes where
  | ok (r : R) (h : List Ob)
  | exc (c : Nat) (p : D) (h : List Ob)
  | stuck
abbrev Calls := Nat → List D → List Ob → CRes

inductive Flow where
  | nx | rt (r : R) | bk | ct

inductive BOp where
  | add | sub | mul | fdiv | mod | pow
inductive COp where
  | eq | ne | lt | le | gt | ge | isn | isnn | isb | isnb | mem | nmem
inductive Ty where
  | int | bool | tuple | str | list
inductive F1 where
  | len | abs | sum | max | min | list | tuple | int | str | all | sset | sorted | sortK | lrange
inductive F2 where
  | max | min

mutual
inductive E where
  | con (d : D)
  | glo (x : Str) (d : D)
  | var (i : Nat)
  | bor (i : Nat)
  | tup (es : Es)
  | lst (es : Es)
  | bin (op : BOp) (a b : E)
  | neg (a : E)
  | cmp (op : COp) (a b : E)
  | cmp2 (op op' : COp) (a b c : E)
  | and (a b : E)
  | or (a b : E)
  | not (a : E)
  | ite (c a b : E)
  | idx (a b : E)
  | sli (a : E) (lo hi : Eo)
  | rev (a : E)
  | fn1 (f : F1) (a : E)
  | fn2 (f : F2) (a b : E)
  | isi (a : E) (t : Ty)
  | isx (i : Nat) (c : Nat)
  | xfl (i : Nat) (f : Str)
  | cal (f : Nat) (es : Es)
  | new (c f : Nat) (es : Es)
  | met (m : Str) (o : E) (es : Es)
  | fld (o : E) (f : Str)
  | fln (i : Nat) (f : Str)
  | pop (i : Nat)
  | popA (i : Nat) (a : E)
  | popF (i : Nat) (f : Str)
  | com (i : Nat) (elt : E) (it : I)
  | comf (i : Nat) (elt : E) (it : I) (c : E)
  | prom (e : E)
  | join (sep : Str) (a : E)
  | split (a : E) (sep : Str)
  | tabin (t : List (Str × Int)) (a : E)
  | tabget (t : List (Str × Int)) (a : E)
inductive Es where
  | nil | cons (e : E) (es : Es)
inductive Eo where
  | no | so (e : E)
inductive I where
  | seq (e : E) | rng1 (a : E) | rng2 (a b : E) | rng3 (a b c : E) | enu (e : E)
end

mutual
inductive S where
  | set (i : Nat) (e : E)
  | setT (is : List Nat) (e : E)
  | par2 (i j : Nat) (a b : E)
  | sti (i : Nat) (k e : E)
  | stf (i : Nat) (f : Str) (e : E)
  | app (i : Nat) (e : E)
  | ext (i : Nat) (e : E)
  | appF (i : Nat) (f : Str) (e : E)
  | ex (e : E)
  | ret (e : E)
  | retN
  | retM (i : Nat)
  | iff (c : E) (a b : Ss)
  | whl (c : E) (b : Ss)
  | for1 (i : Nat) (it : I) (b : Ss)
  | forT (is : List Nat) (it : I) (b : Ss)
  | brk | cnt | pass | nev
  | rai (c : Nat) (e : E)
  | tryE (b : Ss) (c : Nat) (s : Ss)
  | tryA (b : Ss) (c : Nat) (i : Nat) (s : Ss)
inductive Ss where
  | nil | cons (s : S) (r : Ss)
end

/-! ### values -/
def eq0 : D → D → Option Bool
  | .ref _, _ => none
  | _, .ref _ => none
  | .tup _, .tup _ => none
  | .lst _, .lst _ => none
  | .scr _, _ => none
  | _, .scr _ => none
  | .non, .non => some true
  | .bl a, .bl b => some (a == b)
  | .bl a, .int j => some ((if a then 1 else 0) == j)
  | .int i, .bl b => some (i == (if b then 1 else 0))
  | .int i, .int j => some (i == j)
  | .str x, .str y => some (decide (x = y))
  | _, _ => some false
def eqL (f : D → D → Option Bool) : List D → List D → Option Bool
  | [], [] => some true
  | x :: xs, y :: ys => match f x y, eqL f xs ys with
    | some a, some b => some (a && b)
    | _, _ => none
  | [], _ :: _ => some false
  | _ :: _, [] => some false
def eqF : Nat → D → D → Option Bool
  | 0, a, b => eq0 a b
  | n + 1, .tup xs, .tup ys => eqL (eqF n) xs ys
  | n + 1, .lst xs, .lst ys => eqL (eqF n) xs ys
  | _ + 1, a, b => eq0 a b
/-- the depth that an equality may have -/
abbrev F60 : Nat := 60
def flatD : D → Bool
  | .non => true
  | .bl _ => true
  | .int _ => true
  | .str _ => true
  | _ => false
/-- in, of flat things -/
def inL (x : D) (xs : List D) : Option Bool := if flatD x && xs.all flatD then some (xs.any fun y => (eq0 y x).getD false) else none

/-- places of a sequence: an index -/
def ixD (xs : List D) (i : Int) : Option D := if 0 ≤ i then xs[i.toNat]? else if -(xs.length : Int) ≤ i then xs[(i + xs.length).toNat]? else none
/-- a slice's end -/
def sIx (n d : Nat) : Option Int → Nat
  | none => d
  | some i => if i < 0 then (i + n).toNat else min i.toNat n
def cutL {α : Type} (xs : List α) (lo hi : Option Int) : List α := (xs.drop (sIx xs.length 0 lo)).take (sIx xs.length xs.length hi - sIx xs.length 0 lo)

def two64 : Int := 18446744073709551616
def binop : BOp → D → D → Option R
  | .add, .int i, .int j => some (.v (.int (i + j)))
  | .add, .str x, .str y => if x.length + y.length ≤ sizeLine then some (.v (.str (x ++ y))) else none
  | .add, .lst xs, .lst ys => if xs.length + ys.length ≤ sizeLine then some (.o (xs ++ ys)) else none
  | .add, .tup xs, .tup ys => if xs.length + ys.length ≤ sizeLine then some (.v (.tup (xs ++ ys))) else none
  | .sub, .int i, .int j => some (.v (.int (i - j)))
  | .mul, .int i, .int j => if (-two64 < i ∧ i < two64) ∨ (-two64 < j ∧ j < two64) then some (.v (.int (i * j))) else none
  | .mul, .lst xs, .int k => if -9223372036854775808 ≤ k ∧ k < 9223372036854775808 ∧ xs.length * k.toNat ≤ sizeLine then some (.o (List.replicate k.toNat xs).flatten) else none
  | .mul, .tup xs, .int k => if xs ≠ [] ∧ 2 ≤ k ∧ k ≤ 1000 ∧ xs.length ≤ 1000 then some (.v (.tup (List.replicate k.toNat xs).flatten)) else none
  | .fdiv, .int i, .int j => if 0 < j ∧ j < 1073741824 then some (.v (.int (i / j))) else none
  | .mod, .int i, .int j => if 0 < j then some (.v (.int (i % j))) else none
  | .pow, .int i, .int j => if 0 ≤ j ∧ j ≤ 1000 ∧ -1000 ≤ i ∧ i ≤ 1000 then some (.v (.int (i ^ j.toNat))) else none
  | _, _, _ => none
def isNon : D → Bool
  | .non => true
  | _ => false
def cmpop : COp → D → D → Option Bool
  | .eq, a, b => eqF F60 a b
  | .ne, a, b => (eqF F60 a b).map (!·)
  | .lt, .int i, .int j => some (decide (i < j))
  | .le, .int i, .int j => some (decide (i ≤ j))
  | .gt, .int i, .int j => some (decide (j < i))
  | .ge, .int i, .int j => some (decide (j ≤ i))
  | .isn, a, .non => some (isNon a)
  | .isnn, a, .non => some (!isNon a)
  | .isb, .bl a, .bl b => some (a == b)
  | .isnb, .bl a, .bl b => some (!(a == b))
  | .mem, a, .lst xs => inL a xs
  | .mem, a, .tup xs => inL a xs
  | .nmem, a, .lst xs => (inL a xs).map (!·)
  | .nmem, a, .tup xs => (inL a xs).map (!·)
  | _, _, _ => none
def index : D → D → Option D
  | .lst xs, .int i => ixD xs i
  | .tup xs, .int i => ixD xs i
  | _, _ => none
def slice : D → Option Int → Option Int → Option R
  | .lst xs, lo, hi => some (.o (cutL xs lo hi))
  | .tup xs, lo, hi => some (.v (.tup (cutL xs lo hi)))
  | _, _, _ => none
def revD : D → Option R
  | .lst xs => some (.o xs.reverse)
  | _ => none
def isTy : Ty → D → Bool
  | .int, .int _ => true
  | .int, .bl _ => true
  | .bool, .bl _ => true
  | .tuple, .tup _ => true
  | .str, .str _ => true
  | .list, .lst _ => true
  | _, _ => false
def knownTy : D → Bool
  | .scr _ => false
  | .ref _ => false
  | _ => true
/-- all ints -/
def intsD : List D → Option (List Int)
  | [] => some []
  | .int i :: r => (intsD r).map (i :: ·)
  | _ :: _ => none
def boolsD : List D → Option (List Bool)
  | [] => some []
  | .bl b :: r => (boolsD r).map (b :: ·)
  | _ :: _ => none
def strsD : List D → Option (List Str)
  | [] => some []
  | .str b :: r => (strsD r).map (b :: ·)
  | _ :: _ => none
def maxL : Int → List Int → Int
  | a, [] => a
  | a, b :: r => maxL (if b > a then b else a) r
def minL : Int → List Int → Int
  | a, [] => a
  | a, b :: r => minL (if b < a then b else a) r
def insI (a : Int) : List Int → List Int
  | [] => [a]
  | b :: r => if a ≤ b then a :: b :: r else b :: insI a r
def sortI : List Int → List Int
  | [] => []
  | a :: r => insI a (sortI r)
def dedup : List Int → List Int
  | [] => []
  | a :: r => if a ∈ r then dedup r else a :: dedup r
def rangeL (lo hi : Int) : List D := (List.range (hi - lo).toNat).map fun (k : Nat) => .int (lo + k)
def small62 (i : Int) : Bool := decide (-4611686018427387904 ≤ i) && decide (i < 4611686018427387904)
def fn1 : F1 → D → Option R
  | .len, .lst xs => some (.v (.int xs.length))
  | .len, .tup xs => some (.v (.int xs.length))
  | .len, .str s => if s.length ≤ sizeLine then some (.v (.int s.length)) else none
  | .abs, .int i => some (.v (.int (if i < 0 then -i else i)))
  | .sum, .lst xs => (intsD xs).map fun ns => .v (.int ns.sum)
  | .max, .lst xs => match intsD xs with
    | some (a :: r) => some (.v (.int (maxL a r)))
    | _ => none
  | .min, .lst xs => match intsD xs with
    | some (a :: r) => some (.v (.int (minL a r)))
    | _ => none
  | .all, .lst xs => (boolsD xs).map fun bs => .v (.bl (bs.all id))
  | .list, .lst xs => some (.o xs)
  | .list, .tup xs => some (.o xs)
  | .tuple, .lst xs => some (.v (.tup xs))
  | .tuple, .tup xs => some (.v (.tup xs))
  | .int, .bl b => some (.v (.int (if b then 1 else 0)))
  | .int, .int i => some (.v (.int i))
  | .int, .str s => if s.length ≤ 640 then (intText? s).map fun n => .v (.int n) else none
  | .str, .int i => if i.natAbs.log2 < 1920 then some (.v (.str (Str.ofString (toString i)))) else none
  | .str, .str s => some (.v (.str s))
  | .lrange, .int n => if small62 n && decide (n.toNat ≤ sizeLine) then some (.o (rangeL 0 n)) else none
  | .sset, .lst xs => (intsD xs).map fun ns => .o ((sortI (dedup ns)).map D.int)
  | _, _ => none
def fn2 : F2 → D → D → Option R
  | .max, .int i, .int j => some (.v (.int (if j > i then j else i)))
  | .min, .int i, .int j => some (.v (.int (if j < i then j else i)))
  | _, _, _ => none
def truth : D → Option Bool
  | .bl b => some b
  | _ => none

/-! ### operands: the value, or the name whose list is looked at when the operation is done -/
inductive Opd where
  | r (r : R) | s (i : Nat)
def opd (e : E) (m : List Slot → List Ob → Res R) (σ : List Slot) (h : List Ob) : Res Opd :=
  match e with
  | .bor i => match σ[i]? with
    | some (.v _) => .ok (.s i) σ h
    | some (.o _) => .ok (.s i) σ h
    | _ => .stuck
  | _ => (m σ h).bind fun r σ h => .ok (.r r) σ h
def derefD (h : List Ob) : D → Option D
  | .ref j => match h[j]? with
    | some (.lst xs) => some (.lst xs)
    | _ => none
  | d => some d
def cont (σ : List Slot) (h : List Ob) : Opd → Option D
  | .r (.v d) => derefD h d
  | .r (.o xs) => some (.lst xs)
  | .s i => match σ[i]? with
    | some (.v d) => derefD h d
    | some (.o xs) => some (.lst xs)
    | _ => none
/-- a field stored: in its place, or behind all -/
def putR (f : Str) (r : R) : List (Str × R) → List (Str × R)
  | [] => [(f, r)]
  | p :: fs => if p.1 = f then (f, r) :: fs else p :: putR f r fs
/-- a place to store at -/
def ixN (n : Nat) (i : Int) : Option Nat := if 0 ≤ i then (if i < n then some i.toNat else none) else if -(n : Int) ≤ i then some (i + n).toNat else none
def retR (o : Option R) (σ : List Slot) (h : List Ob) : Res R :=
  match o with
  | some r => .ok r σ h
  | none => .stuck
/-- a name that holds a list -/
def lstSlot (σ : List Slot) (h : List Ob) (i : Nat) : Bool := match cont σ h (.s i) with
  | some (.lst _) => true
  | _ => false
def retB (o : Option Bool) (σ : List Slot) (h : List Ob) : Res R :=
  match o with
  | some b => .ok (.v (.bl b)) σ h
  | none => .stuck
def asB (m : Res R) : Res Bool := m.bind fun r σ h => match r with
  | .v (.bl b) => .ok b σ h
  | _ => .stuck
/-- an optional end of a slice -/
def asI (m : Res R) : Res (Option Int) := m.bind fun r σ h => match r with
  | .v (.int i) => .ok (some i) σ h
  | _ => .stuck
/-- a comprehension's loop -/
def comL (i : Nat) (f : List Slot → List Ob → Res (Option D)) : List D → List D → List Slot → List Ob → Res (List D)
  | [], acc, σ, h => .ok acc σ h
  | d :: ds, acc, σ, h => (f (σ.set i (.v d)) h).bind fun o σ h => match o with
    | some x => if acc.length < sizeLine then comL i f ds (acc ++ [x]) σ h else .stuck
    | none => comL i f ds acc σ h
/-- a name that a comprehension may borrow -/
def plainSlot : Option Slot → Option Slot
  | some .un => some .un
  | some (.v d) => some (.v d)
  | _ => none
def noexc {α : Type} : Res α → Res α
  | .exc _ _ _ _ => .stuck
  | m => m
def ofC (c : CRes) (σ : List Slot) : Res R :=
  match c with
  | .ok r h => .ok r σ h
  | .exc c p h => .exc c p σ h
  | .stuck => .stuck

/-- classes: a method's def; which exception is under which; an exception's field -/
structure Cf where
  M : Nat → Str → Option Nat
  sub : Nat → Nat → Bool
  fl : Nat → Option Str
variable (Γ : Calls) (C : Cf)
mutual
def evE : E → List Slot → List Ob → Res R
  | .con d, σ, h => .ok (.v d) σ h
  | .glo _ d, σ, h => .ok (.v d) σ h
  | .var i, σ, h => match σ[i]? with
    | some (.v d) => .ok (.v d) σ h
    | some (.o xs) => .ok (.v (.lst xs)) (σ.set i (.v (.lst xs))) h
    | _ => .stuck
  | .bor _, _, _ => .stuck
  | .tup es, σ, h => (evA es σ h).bind fun ds σ h => if ds.length ≤ sizeLine then .ok (.v (.tup ds)) σ h else .stuck
  | .lst es, σ, h => (evA es σ h).bind fun ds σ h => if ds.length ≤ sizeLine then .ok (.o ds) σ h else .stuck
  | .bin op a b, σ, h => (opd a (evE a) σ h).bind fun x σ h => (opd b (evE b) σ h).bind fun y σ h =>
    match cont σ h x, cont σ h y with
    | some c, some d => retR (binop op c d) σ h
    | _, _ => .stuck
  | .neg a, σ, h => (evE a σ h).bind fun r σ h => match r with
    | .v (.int i) => .ok (.v (.int (-i))) σ h
    | _ => .stuck
  | .cmp op a b, σ, h => (opd a (evE a) σ h).bind fun x σ h => (opd b (evE b) σ h).bind fun y σ h =>
    match cont σ h x, cont σ h y with
    | some c, some d => retB (cmpop op c d) σ h
    | _, _ => .stuck
  | .cmp2 op op' a b c, σ, h => (opd a (evE a) σ h).bind fun x σ h => (opd b (evE b) σ h).bind fun y σ h =>
    match cont σ h x, cont σ h y with
    | some u, some v => match cmpop op u v with
      | some true => (opd c (evE c) σ h).bind fun z σ h => match cont σ h y, cont σ h z with
        | some v, some w => retB (cmpop op' v w) σ h
        | _, _ => .stuck
      | some false => .ok (.v (.bl false)) σ h
      | none => .stuck
    | _, _ => .stuck
  | .and a b, σ, h => (asB (evE a σ h)).bind fun k σ h => if k then (asB (evE b σ h)).bind fun k σ h => .ok (.v (.bl k)) σ h else .ok (.v (.bl false)) σ h
  | .or a b, σ, h => (asB (evE a σ h)).bind fun k σ h => if k then .ok (.v (.bl true)) σ h else (asB (evE b σ h)).bind fun k σ h => .ok (.v (.bl k)) σ h
  | .not a, σ, h => (asB (evE a σ h)).bind fun k σ h => .ok (.v (.bl (!k))) σ h
  | .ite c a b, σ, h => (asB (evE c σ h)).bind fun k σ h => if k then evE a σ h else evE b σ h
  | .idx a b, σ, h => (opd a (evE a) σ h).bind fun x σ h => (opd b (evE b) σ h).bind fun y σ h =>
    match cont σ h x, cont σ h y with
    | some c, some d => retR ((index c d).map .v) σ h
    | _, _ => .stuck
  | .sli a lo hi, σ, h => (opd a (evE a) σ h).bind fun x σ h => (evO lo σ h).bind fun l σ h => (evO hi σ h).bind fun u σ h =>
    match cont σ h x with
    | some c => retR (slice c l u) σ h
    | none => .stuck
  | .rev a, σ, h => (opd a (evE a) σ h).bind fun x σ h => match cont σ h x with
    | some c => retR (revD c) σ h
    | none => .stuck
  | .fn1 f a, σ, h => (opd a (evE a) σ h).bind fun x σ h => match cont σ h x with
    | some c => retR (fn1 f c) σ h
    | none => .stuck
  | .fn2 f a b, σ, h => (evE a σ h).bind fun x σ h => (evE b σ h).bind fun y σ h => retR (fn2 f x.d y.d) σ h
  | .isi a t, σ, h => (opd a (evE a) σ h).bind fun x σ h => match cont σ h x with
    | some c => if knownTy c then .ok (.v (.bl (isTy t c))) σ h else .stuck
    | none => .stuck
  | .cal f es, σ, h => (evA es σ h).bind fun ds σ h => ofC (Γ f ds h) σ
  | .new c f es, σ, h => (evA es σ h).bind fun ds σ h => match Γ f (.ref h.length :: ds) (h ++ [.ins c []]) with
    | .ok (.v .non) h' => .ok (.v (.ref h.length)) σ h'
    | .ok _ _ => .stuck
    | .exc c p h' => .exc c p σ h'
    | .stuck => .stuck
  | .met m o es, σ, h => (evE o σ h).bind fun r σ h => match r with
    | .v (.ref j) => match h[j]? with
      | some (.ins c fs) => if (fs.lookup m).isNone then (evA es σ h).bind fun ds σ h => match C.M c m with
          | some f => ofC (Γ f (.ref j :: ds) h) σ
          | none => .stuck
        else .stuck
      | _ => .stuck
    | _ => .stuck
  | .fld o f, σ, h => (evE o σ h).bind fun r σ h => match r with
    | .v (.ref j) => match h[j]? with
      | some (.ins _ fs) => match fs.lookup f with
        | some (.v d) => .ok (.v d) σ h
        | _ => .stuck
      | _ => .stuck
    | _ => .stuck
  | .fln i f, σ, h => match σ[i]? with
    | some (.v (.ref j)) => match h[j]? with
      | some (.ins _ fs) => match fs.lookup f with
        | some (.o xs) => .ok (.v (.bl xs.isEmpty)) σ h
        | _ => .stuck
      | _ => .stuck
    | _ => .stuck
  | .isx i c, σ, h => match σ[i]? with
    | some (.x c' _) => .ok (.v (.bl (C.sub c' c))) σ h
    | _ => .stuck
  | .xfl i f, σ, h => match σ[i]? with
    | some (.x c p) => if C.fl c = some f then .ok (.v p) σ h else .stuck
    | _ => .stuck
  | .pop i, σ, h => match σ[i]? with
    | some (.o xs) => match xs.getLast? with
      | some d => .ok (.v d) (σ.set i (.o xs.dropLast)) h
      | none => .stuck
    | some (.v (.ref j)) => match h[j]? with
      | some (.lst xs) => match xs.getLast? with
        | some d => .ok (.v d) σ (h.set j (.lst xs.dropLast))
        | none => .stuck
      | _ => .stuck
    | _ => .stuck
  | .popA i a, σ, h => if lstSlot σ h i then (evE a σ h).bind fun r σ h => match r with
    | .v (.int k) => match σ[i]? with
      | some (.o xs) => if 0 ≤ k ∧ k < xs.length ∧ xs.length ≤ sizeLine then match xs[k.toNat]? with
          | some d => .ok (.v d) (σ.set i (.o (xs.eraseIdx k.toNat))) h
          | none => .stuck
        else .stuck
      | some (.v (.ref j)) => match h[j]? with
        | some (.lst xs) => if 0 ≤ k ∧ k < xs.length ∧ xs.length ≤ sizeLine then match xs[k.toNat]? with
            | some d => .ok (.v d) σ (h.set j (.lst (xs.eraseIdx k.toNat)))
            | none => .stuck
          else .stuck
        | _ => .stuck
      | _ => .stuck
    | _ => .stuck
    else .stuck
  | .popF i f, σ, h => match σ[i]? with
    | some (.v (.ref j)) => match h[j]? with
      | some (.ins c fs) => match fs.lookup f with
        | some (.o xs) => match xs.getLast? with
          | some d => .ok (.v d) σ (h.set j (.ins c (putR f (.o xs.dropLast) fs)))
          | none => .stuck
        | _ => .stuck
      | _ => .stuck
    | _ => .stuck
  | .com i elt it, σ, h => (evI it σ h).bind fun ds σ h => match plainSlot σ[i]? with
    | some s => (noexc (comL i (fun σ h => (evE elt σ h).bind fun r σ h => .ok (some r.d) σ h) ds [] σ h)).bind fun xs σ' h' => .ok (.o xs) (σ'.set i s) h'
    | none => .stuck
  | .comf i elt it c, σ, h => (evI it σ h).bind fun ds σ h => match plainSlot σ[i]? with
    | some s => (noexc (comL i (fun σ h => (asB (evE c σ h)).bind fun k σ h => if k then (evE elt σ h).bind fun r σ h => .ok (some r.d) σ h else .ok none σ h) ds [] σ h)).bind fun xs σ' h' => .ok (.o xs) (σ'.set i s) h'
    | none => .stuck
  | .prom e, σ, h => (evE e σ h).bind fun r σ h => match r with
    | .o xs => .ok (.v (.ref h.length)) σ (h ++ [.lst xs])
    | _ => .stuck
  | .join sep a, σ, h => (opd a (evE a) σ h).bind fun x σ h => match cont σ h x with
    | some (.lst xs) => match strsD xs with
      | some ys => if (ys.map Str.length).sum + ys.length * sep.length ≤ 16777216 then .ok (.v (.str (Txt.join sep ys))) σ h else .stuck
      | none => .stuck
    | _ => .stuck
  | .split a sep, σ, h => (evE a σ h).bind fun r σ h => match r with
    | .v (.str x) => if sep.length ≠ 0 ∧ x.length + 2 ≤ sizeLine then .ok (.o ((Txt.split x sep).map D.str)) σ h else .stuck
    | _ => .stuck
  | .tabin t a, σ, h => (evE a σ h).bind fun r σ h => match r with
    | .v (.str x) => .ok (.v (.bl (t.lookup x).isSome)) σ h
    | _ => .stuck
  | .tabget t a, σ, h => (evE a σ h).bind fun r σ h => match r with
    | .v (.str x) => match t.lookup x with
      | some i => .ok (.v (.int i)) σ h
      | none => .stuck
    | _ => .stuck
/-- arguments: their data -/
def evA : Es → List Slot → List Ob → Res (List D)
  | .nil, σ, h => .ok [] σ h
  | .cons e es, σ, h => (evE e σ h).bind fun r σ h => (evA es σ h).bind fun ds σ h => .ok (r.d :: ds) σ h
def evO : Eo → List Slot → List Ob → Res (Option Int)
  | .no, σ, h => .ok none σ h
  | .so e, σ, h => asI (evE e σ h)
/-- what a for walks -/
def evI : I → List Slot → List Ob → Res (List D)
  | .seq e, σ, h => (evE e σ h).bind fun r σ h => match r.d with
    | .lst xs => .ok xs σ h
    | .tup xs => .ok xs σ h
    | .scr ns => .ok (ns.map D.int) σ h
    | _ => .stuck
  | .rng1 a, σ, h => (evE a σ h).bind fun r σ h => match r with
    | .v (.int j) => if small62 j then .ok (rangeL 0 j) σ h else .stuck
    | _ => .stuck
  | .rng2 a b, σ, h => (evE a σ h).bind fun r σ h => (evE b σ h).bind fun q σ h => match r, q with
    | .v (.int i), .v (.int j) => if small62 i && small62 j then .ok (rangeL i j) σ h else .stuck
    | _, _ => .stuck
  | .rng3 _ _ _, _, _ => .stuck
  | .enu e, σ, h => (evE e σ h).bind fun r σ h => match r.d with
    | .lst xs => .ok (xs.zipIdx.map fun p => .tup [.int p.2, p.1]) σ h
    | .tup xs => .ok (xs.zipIdx.map fun p => .tup [.int p.2, p.1]) σ h
    | _ => .stuck
end

/-! ### statements -/
def bindS (is : List Nat) (ds : List D) (σ : List Slot) : Option (List Slot) :=
  match is, ds with
  | [], [] => some σ
  | i :: is, d :: ds => bindS is ds (σ.set i (.v d))
  | _, _ => none
/-- a for's loop: what each item's turn gives -/
def forL (f : D → List Slot → List Ob → Res Flow) : List D → List Slot → List Ob → Res Flow
  | [], σ, h => .ok .nx σ h
  | d :: ds, σ, h => (f d σ h).bind fun fl σ h => match fl with
    | .nx => forL f ds σ h
    | .ct => forL f ds σ h
    | .bk => .ok .nx σ h
    | .rt r => .ok (.rt r) σ h
/-- a while of at most n turns -/
def whlN (c : List Slot → List Ob → Res Bool) (b : List Slot → List Ob → Res Flow) : Nat → List Slot → List Ob → Option (Res Flow)
  | 0, _, _ => none
  | n + 1, σ, h => match c σ h with
    | .ok true σ h => match b σ h with
      | .ok .nx σ h => whlN c b n σ h
      | .ok .ct σ h => whlN c b n σ h
      | .ok .bk σ h => some (.ok .nx σ h)
      | .ok (.rt r) σ h => some (.ok (.rt r) σ h)
      | .exc k p σ h => some (.exc k p σ h)
      | .stuck => some .stuck
    | .ok false σ h => some (.ok .nx σ h)
    | .exc k p σ h => some (.exc k p σ h)
    | .stuck => some .stuck
open Classical in
noncomputable def whl (c : List Slot → List Ob → Res Bool) (b : List Slot → List Ob → Res Flow) (σ : List Slot) (h : List Ob) : Res Flow :=
  if e : ∃ n r, whlN c b n σ h = some r then (Classical.choose_spec e).choose else .stuck

variable (Γ : Calls) (C : Cf)
mutual
noncomputable def exS : S → List Slot → List Ob → Res Flow
  | .set i e, σ, h => (evE Γ C e σ h).bind fun r σ h => .ok .nx (σ.set i r.slot) h
  | .setT is e, σ, h => (evE Γ C e σ h).bind fun r σ h => match r with
    | .v (.tup ds) => match bindS is ds σ with
      | some σ => .ok .nx σ h
      | none => .stuck
    | _ => .stuck
  | .par2 i j a b, σ, h => (evE Γ C a σ h).bind fun x σ h => (evE Γ C b σ h).bind fun y σ h => .ok .nx ((σ.set i (.v x.d)).set j (.v y.d)) h
  | .sti i k e, σ, h => (evE Γ C e σ h).bind fun r σ h => if lstSlot σ h i then (evE Γ C k σ h).bind fun q σ h => match q with
    | .v (.int z) => match σ[i]? with
      | some (.o xs) => match ixN xs.length z with
        | some n => .ok .nx (σ.set i (.o (xs.set n r.d))) h
        | none => .stuck
      | some (.v (.ref j)) => match h[j]? with
        | some (.lst xs) => match ixN xs.length z with
          | some n => .ok .nx σ (h.set j (.lst (xs.set n r.d)))
          | none => .stuck
        | _ => .stuck
      | _ => .stuck
    | _ => .stuck
    else .stuck
  | .stf i f e, σ, h => (evE Γ C e σ h).bind fun r σ h => match σ[i]? with
    | some (.v (.ref j)) => match h[j]? with
      | some (.ins c fs) => if fs.length < 100 then .ok .nx σ (h.set j (.ins c (putR f r fs))) else .stuck
      | _ => .stuck
    | _ => .stuck
  | .app i e, σ, h => if lstSlot σ h i then (evE Γ C e σ h).bind fun r σ h => match σ[i]? with
    | some (.o xs) => if xs.length < sizeLine then .ok .nx (σ.set i (.o (xs ++ [r.d]))) h else .stuck
    | some (.v (.ref j)) => match h[j]? with
      | some (.lst xs) => if xs.length < sizeLine then .ok .nx σ (h.set j (.lst (xs ++ [r.d]))) else .stuck
      | _ => .stuck
    | _ => .stuck
    else .stuck
  | .ext i e, σ, h => if lstSlot σ h i then (evE Γ C e σ h).bind fun r σ h => match r.d, σ[i]? with
    | .lst ys, some (.o xs) => if xs.length + ys.length ≤ sizeLine then .ok .nx (σ.set i (.o (xs ++ ys))) h else .stuck
    | _, _ => .stuck
    else .stuck
  | .appF i f e, σ, h => (evE Γ C e σ h).bind fun r σ h => match σ[i]? with
    | some (.v (.ref j)) => match h[j]? with
      | some (.ins c fs) => match fs.lookup f with
        | some (.o xs) => if xs.length < sizeLine then .ok .nx σ (h.set j (.ins c (putR f (.o (xs ++ [r.d])) fs))) else .stuck
        | _ => .stuck
      | _ => .stuck
    | _ => .stuck
  | .ex e, σ, h => (evE Γ C e σ h).bind fun _ σ h => .ok .nx σ h
  | .ret e, σ, h => (evE Γ C e σ h).bind fun r σ h => .ok (.rt r) σ h
  | .retN, σ, h => .ok (.rt (.v .non)) σ h
  | .retM i, σ, h => match σ[i]? with
    | some (.o xs) => .ok (.rt (.o xs)) σ h
    | some (.v d) => .ok (.rt (.v d)) σ h
    | _ => .stuck
  | .iff c a b, σ, h => (asB (evE Γ C c σ h)).bind fun k σ h => if k then exB a σ h else exB b σ h
  | .whl c b, σ, h => whl (fun σ h => asB (evE Γ C c σ h)) (exB b) σ h
  | .for1 i it b, σ, h => (evI Γ C it σ h).bind fun ds σ h => forL (fun d σ h => exB b (σ.set i (.v d)) h) ds σ h
  | .forT is it b, σ, h => (evI Γ C it σ h).bind fun ds σ h => forL (fun d σ h => match d with
      | .tup xs => match bindS is xs σ with
        | some σ => exB b σ h
        | none => .stuck
      | _ => .stuck) ds σ h
  | .brk, σ, h => .ok .bk σ h
  | .cnt, σ, h => .ok .ct σ h
  | .pass, σ, h => .ok .nx σ h
  | .nev, _, _ => .stuck
  | .rai c e, σ, h => (evE Γ C e σ h).bind fun r σ h => .exc c r.d σ h
  | .tryE b c s, σ, h => match exB b σ h with
    | .exc k p σ h => if C.sub k c then exB s σ h else .exc k p σ h
    | m => m
  | .tryA b c i s, σ, h => match exB b σ h with
    | .exc k p σ h => if C.sub k c then match exB s (σ.set i (.x k p)) h with
        | .ok f σ h => .ok f (σ.set i .un) h
        | .exc _ _ _ _ => .stuck
        | .stuck => .stuck
      else .exc k p σ h
    | m => m
noncomputable def exB : Ss → List Slot → List Ob → Res Flow
  | .nil, σ, h => .ok .nx σ h
  | .cons s r, σ, h => (exS s σ h).bind fun f σ h => match f with
    | .nx => exB r σ h
    | _ => .ok f σ h
end

/-- a def: how many parameters, how many names, its body -/
structure Fd where
  np : Nat
  ns : Nat
  body : Ss
noncomputable def runF (Γ : Calls) (C : Cf) (fd : Fd) (ds : List D) (h : List Ob) : CRes :=
  if ds.length = fd.np then
    match exB Γ C fd.body (ds.map Slot.v ++ List.replicate (fd.ns - fd.np) .un) h with
    | .ok .nx _ h => .ok (.v .non) h
    | .ok (.rt r) _ h => .ok r h
    | .ok _ _ _ => .stuck
    | .exc c p _ h => .exc c p h
    | .stuck => .stuck
  else .stuck
/-- the defs by level: a call goes one level down -/
noncomputable def callN (T : Nat → Option Fd) (C : Cf) : Nat → Calls
  | 0 => fun _ _ _ => .stuck
  | n + 1 => fun f ds h => match T f with
    | some fd => runF (callN T C n) C fd ds h
    | none => .stuck
end Pm

set_option Elab.async false
set_option linter.all false
set_option maxRecDepth 100000
/-! The pure machine: how its data stand in the abstract heap. -/
namespace Pm
open PySem PySem.Spec PyProof.Rows L2

/-- what an address is for us: free (nobody changes it), frozen (data lean on it), a list of the i-th name's own, an object of the pure heap, a list that an object's field owns -/
inductive Tag where
  | free | froz | slot (i : Nat) | obj (j : Nat) | fld (j : Nat) (f : Str)
  deriving DecidableEq
structure Gh where
  tag : Addr → Tag
  rho : List Addr

/-- the script: a list that nobody writes -/
def SqS (K : PySem.W.Frag) (H : Hp) (a : Addr) (xs : List V) : Prop := (∃ o, H a = some (.frz o (.lst xs))) ∨
  ∃ (o : Obj) (its : Array Value) (n : Nat), K.lookup a = some o ∧ o.cls = .type "list" ∧ o.dict = none ∧ o.data = .seq its n ∧ its.size ≤ sizeLine ∧ Vals xs its.toList
theorem SqS.seq {K : PySem.W.Frag} {H : Hp} {a : Addr} {xs : List V} (h : SqS K H a xs) : SqL K H a xs := by
  rcases h with ⟨o, h⟩ | h
  · exact .inl (.inr ⟨o, h⟩)
  · exact .inr h
section
variable (K : PySem.W.Frag) (g : Gh) (H : Hp)
mutual
inductive RD : V → D → Prop
  | non : RD .non .non
  | bl (b : Bool) : RD (.bl b) (.bl b)
  | int (i : Int) : RD (.int i) (.int i)
  | str (x : Str) : RD (.str x) (.str x)
  | tup {a : Addr} {vs : List V} {ds : List D} : SqT K H a vs → RDs vs ds → RD (.ref a) (.tup ds)
  | lst {a : Addr} {vs : List V} {ds : List D} : H a = some (.lst vs) → g.tag a = .froz → RDs vs ds → RD (.ref a) (.lst ds)
  | scr {a : Addr} {ns : List Int} : SqS K H a (ns.map V.int) → RD (.ref a) (.scr ns)
  | ref {a : Addr} {j : Nat} : g.rho[j]? = some a → RD (.ref a) (.ref j)
inductive RDs : List V → List D → Prop
  | nil : RDs [] []
  | cons {v : V} {vs : List V} {d : D} {ds : List D} : RD v d → RDs vs ds → RDs (v :: vs) (d :: ds)
end
end

/-- a step within a frame: what is free or frozen stands, objects stay objects -/
structure Stp (H : Hp) (g : Gh) (H' : Hp) (g' : Gh) : Prop where
  rho : g.rho <+: g'.rho
  there : ∀ a o, H a = some o → ∃ o', H' a = some o'
  stay : ∀ a o, H a = some o → g.tag a = .free ∨ g.tag a = .froz → g'.tag a = g.tag a ∧ H' a = some o
  objs : ∀ a j, g.tag a = .obj j → g'.tag a = .obj j
  flds : ∀ a j f, g.tag a = .fld j f → g'.tag a = .fld j f
  tups : ∀ a xs, H a = some (.tup xs) → H' a = some (.tup xs)
  frzs : ∀ a o u, H a = some (.frz o u) → H' a = some (.frz o u)
  nons : ∀ a, H a = none → g.tag a = .free

/-- what data lean on -/
structure Stw (H : Hp) (g : Gh) (H' : Hp) (g' : Gh) : Prop where
  rho : g.rho <+: g'.rho
  froz : ∀ a xs, H a = some (.lst xs) → g.tag a = .froz → g'.tag a = .froz ∧ H' a = some (.lst xs)
  tups : ∀ a xs, H a = some (.tup xs) → H' a = some (.tup xs)
  frzs : ∀ a o u, H a = some (.frz o u) → H' a = some (.frz o u)
theorem Stp.w {H H' : Hp} {g g' : Gh} (s : Stp H g H' g') : Stw H g H' g' := ⟨s.rho, fun a xs e z => by
  obtain ⟨e1, e2⟩ := s.stay a _ e (.inr z)
  exact ⟨e1.trans z, e2⟩, s.tups, s.frzs⟩
theorem Stw.trans {H H' H'' : Hp} {g g' g'' : Gh} (s : Stw H g H' g') (t : Stw H' g' H'' g'') : Stw H g H'' g'' := ⟨s.rho.trans t.rho, fun a xs e z => by
  obtain ⟨e1, e2⟩ := s.froz a xs e z
  exact t.froz a xs e2 e1, fun a xs e => t.tups a xs (s.tups a xs e), fun a o u e => t.frzs a o u (s.frzs a o u e)⟩
def nob : Tag → Bool
  | .obj _ => false
  | .fld _ _ => false
  | _ => true
/-- a step of a whole frame, for its caller -/
structure FrS (H : Hp) (g : Gh) (H' : Hp) (g' : Gh) : Prop where
  rho : g.rho <+: g'.rho
  there : ∀ a o, H a = some o → ∃ o', H' a = some o'
  tag : ∀ a o, H a = some o → g'.tag a = g.tag a
  keep : ∀ a o, H a = some o → nob (g.tag a) = true → H' a = some o

section
variable {K : PySem.W.Frag} {g g' g'' : Gh} {H H' H'' : Hp}
theorem Stp.trans (s : Stp H g H' g') (t : Stp H' g' H'' g'') : Stp H g H'' g'' where
  rho := s.rho.trans t.rho
  there := fun a o e => by
    obtain ⟨o', e'⟩ := s.there a o e
    exact t.there a o' e'
  stay := fun a o e h => by
    obtain ⟨e1, e2⟩ := s.stay a o e h
    obtain ⟨e3, e4⟩ := t.stay a o e2 (by rw [e1]; exact h)
    exact ⟨e3.trans e1, e4⟩
  objs := fun a j e => t.objs a j (s.objs a j e)
  flds := fun a j f e => t.flds a j f (s.flds a j f e)
  tups := fun a xs e => t.tups a xs (s.tups a xs e)
  frzs := fun a o u e => t.frzs a o u (s.frzs a o u e)
  nons := s.nons
theorem Stp.refl (n : ∀ a, H a = none → g.tag a = .free) : Stp H g H g := ⟨List.prefix_refl _, fun _ o e => ⟨o, e⟩, fun _ _ e _ => ⟨rfl, e⟩, fun _ _ e => e, fun _ _ _ e => e, fun _ _ e => e, fun _ _ _ e => e, n⟩
theorem FrS.refl : FrS H g H g := ⟨List.prefix_refl _, fun _ o e => ⟨o, e⟩, fun _ _ _ => rfl, fun _ _ e _ => e⟩
theorem FrS.trans (s : FrS H g H' g') (t : FrS H' g' H'' g'') : FrS H g H'' g'' where
  rho := s.rho.trans t.rho
  there := fun a o e => by
    obtain ⟨o', e'⟩ := s.there a o e
    exact t.there a o' e'
  tag := fun a o e => by
    obtain ⟨o', e'⟩ := s.there a o e
    exact (t.tag a o' e').trans (s.tag a o e)
  keep := fun a o e h => t.keep a o (s.keep a o e h) (by rw [s.tag a o e]; exact h)

theorem pre_get {α : Type} {l l' : List α} (p : l <+: l') {i : Nat} {x : α} (e : l[i]? = some x) : l'[i]? = some x := by
  obtain ⟨r, rfl⟩ := p
  have hi : i < l.length := (List.getElem?_eq_some_iff.mp e).1
  rw [List.getElem?_append_left hi]
  exact e
theorem seqT_keep {a : Addr} {xs : List V} (t : ∀ xs, H a = some (.tup xs) → H' a = some (.tup xs)) (f : ∀ o u, H a = some (.frz o u) → H' a = some (.frz o u)) (h : SqT K H a xs) : SqT K H' a xs := by
  rcases h with (h | ⟨o, h⟩) | h
  · exact .inl (.inl (t _ h))
  · exact .inl (.inr ⟨o, f _ _ h⟩)
  · exact .inr h
mutual
theorem RD.monoW (s : Stw H g H' g') : ∀ {d : D} {v : V}, RD K g H v d → RD K g' H' v d
  | .non, _, h => by cases h; exact .non
  | .bl _, _, h => by cases h; exact .bl _
  | .int _, _, h => by cases h; exact .int _
  | .str _, _, h => by cases h; exact .str _
  | .tup ds, _, h => by
    cases h with
    | tup h1 h2 => exact .tup (seqT_keep (s.tups _) (s.frzs _) h1) (RDs.monoW s h2)
  | .lst ds, _, h => by
    cases h with
    | lst h1 h2 h3 =>
      obtain ⟨e1, e2⟩ := s.froz _ _ h1 h2
      exact .lst e2 e1 (RDs.monoW s h3)
  | .scr ns, _, h => by
    cases h with
    | scr h1 =>
      rcases h1 with ⟨o, h1⟩ | h1
      · exact .scr (.inl ⟨o, s.frzs _ _ _ h1⟩)
      · exact .scr (.inr h1)
  | .ref _, _, h => by
    cases h with
    | ref h1 => exact .ref (pre_get s.rho h1)
theorem RDs.monoW (s : Stw H g H' g') : ∀ {ds : List D} {vs : List V}, RDs K g H vs ds → RDs K g' H' vs ds
  | [], _, h => by cases h; exact .nil
  | _ :: _, _, h => by
    cases h with
    | cons h1 h2 => exact .cons (RD.monoW s h1) (RDs.monoW s h2)
end
theorem RD.mono (s : Stp H g H' g') {d : D} {v : V} (h : RD K g H v d) : RD K g' H' v d := h.monoW s.w
theorem RDs.mono (s : Stp H g H' g') {d : List D} {v : List V} (h : RDs K g H v d) : RDs K g' H' v d := RDs.monoW s.w h
end

/-! ### the pure heap, the frame -/
/-- what the classes are: addresses by number; the field of an exception's class -/
structure Cls0 where
  adr : Nat → Addr
  fld : Nat → Option Str

def FR (K : PySem.W.Frag) (g : Gh) (H : Hp) (j : Nat) (f : Str) (v : V) : R → Prop
  | .v d => RD K g H v d
  | .o xs => ∃ b vs, v = .ref b ∧ H b = some (.lst vs) ∧ g.tag b = .fld j f ∧ RDs K g H vs xs
inductive FsR (K : PySem.W.Frag) (g : Gh) (H : Hp) (j : Nat) : List (Str × V) → List (Str × R) → Prop
  | nil : FsR K g H j [] []
  | cons {f : Str} {v : V} {r : R} {fv : List (Str × V)} {fs : List (Str × R)} : FR K g H j f v r → FsR K g H j fv fs → FsR K g H j ((f, v) :: fv) ((f, r) :: fs)
def ObR (K : PySem.W.Frag) (cs : Cls0) (g : Gh) (H : Hp) (j : Nat) (a : Addr) : Ob → Prop
  | .lst xs => ∃ vs, H a = some (.lst vs) ∧ RDs K g H vs xs
  | .ins c fs => ∃ dx fv, H a = some (.ins (cs.adr c) dx fv) ∧ FsR K g H j fv fs

structure HSim (K : PySem.W.Frag) (cs : Cls0) (H : Hp) (g : Gh) (h : List Ob) : Prop where
  len : g.rho.length = h.length
  ob : ∀ j o, h[j]? = some o → ∃ a, g.rho[j]? = some a ∧ g.tag a = .obj j ∧ ObR K cs g H j a o
  nofr : ∀ a, H a = none → g.tag a = .free
  shp : ∀ a o, H a = some o → (∀ xs, o ≠ .lst xs) → (∀ C dx fs, o ≠ .ins C dx fs) → g.tag a = .free

def SltR (K : PySem.W.Frag) (cs : Cls0) (H0 : Hp) (σr : List (Option V)) (g : Gh) (H : Hp) (i : Nat) : Slot → Prop
  | .un => True
  | .v d => ∃ v, σr[i]? = some (some v) ∧ RD K g H v d
  | .o xs => ∃ a vs, σr[i]? = some (some (.ref a)) ∧ H a = some (.lst vs) ∧ g.tag a = .slot i ∧ H0 a = none ∧ RDs K g H vs xs
  | .x c p => True

structure Sim (K : PySem.W.Frag) (cs : Cls0) (H0 : Hp) (g0 : Gh) (σr : List (Option V)) (H : Hp) (g : Gh) (σ : List Slot) (h : List Ob) : Prop where
  hs : HSim K cs H g h
  fr : FrS H0 g0 H g
  len : σr.length = σ.length
  sl : ∀ i s, σ[i]? = some s → SltR K cs H0 σr g H i s

/-- what a result is: data, or a new list (not there at Hb) that nobody else holds -/
def RR (K : PySem.W.Frag) (Hb H : Hp) (g : Gh) (v : V) : R → Prop
  | .v d => RD K g H v d
  | .o xs => ∃ a vs, v = .ref a ∧ Hb a = none ∧ H a = some (.lst vs) ∧ g.tag a = .free ∧ RDs K g H vs xs

section
variable {K : PySem.W.Frag} {cs : Cls0} {g g' g'' g0 : Gh} {H H' H'' H0 Hb : Hp} {σr : List (Option V)} {σ : List Slot} {h h' : List Ob}
theorem HSim.stp (s : HSim K cs H g h) (t : FrS H g H' g') : Stp H g H' g' where
  rho := t.rho
  there := t.there
  stay := fun a o e z => ⟨t.tag a o e, t.keep a o e (by rcases z with z | z <;> rw [z] <;> rfl)⟩
  objs := fun a j e => by
    cases q : H a with
    | none =>
      rw [s.nofr a q] at e
      cases e
    | some o => exact (t.tag a o q).trans e
  flds := fun a j f e => by
    cases q : H a with
    | none =>
      rw [s.nofr a q] at e
      cases e
    | some o => exact (t.tag a o q).trans e
  tups := fun a xs e => t.keep a _ e (by rw [s.shp a _ e (by intro _ z; cases z) (by intro _ _ _ z; cases z)]; rfl)
  frzs := fun a o u e => t.keep a _ e (by rw [s.shp a _ e (by intro _ z; cases z) (by intro _ _ _ z; cases z)]; rfl)
  nons := s.nofr
theorem RR.mono {v : V} {r : R} (t : Stp H g H' g') (x : RR K Hb H g v r) : RR K Hb H' g' v r := by
  cases r with
  | v d => exact RD.mono t x
  | o xs =>
    obtain ⟨a, vs, e, e0, e1, e2, r⟩ := x
    obtain ⟨z1, z2⟩ := t.stay a _ e1 (.inl e2)
    exact ⟨a, vs, e, e0, z2, z1.trans e2, RDs.mono t r⟩
theorem RR.base {v : V} {r : R} (t : ∀ a o, H0 a = some o → ∃ o', Hb a = some o') (x : RR K Hb H g v r) : RR K H0 H g v r := by
  cases r with
  | v d => exact x
  | o xs =>
    obtain ⟨a, vs, e, e0, e1, e2, r⟩ := x
    refine ⟨a, vs, e, ?_, e1, e2, r⟩
    cases q : H0 a with
    | none => rfl
    | some o =>
      obtain ⟨o', z⟩ := t a o q
      rw [e0] at z
      cases z
/-- behind a callee's frame -/
theorem Sim.call (s : Sim K cs H0 g0 σr H g σ h) (t : FrS H g H' g') (s' : HSim K cs H' g' h') : Sim K cs H0 g0 σr H' g' σ h' where
  hs := s'
  fr := s.fr.trans t
  len := s.len
  sl := fun i x e => by
    have st := s.hs.stp t
    have q := s.sl i x e
    cases x with
    | un => trivial
    | v d =>
      obtain ⟨v, e1, r⟩ := q
      exact ⟨v, e1, r.mono st⟩
    | o xs =>
      obtain ⟨a, vs, e1, e2, e3, e4, r⟩ := q
      exact ⟨a, vs, e1, t.keep a _ e2 (by rw [e3]; rfl), (t.tag a _ e2).trans e3, e4, RDs.mono st r⟩
    | x c p => trivial
end

section
variable {K : PySem.W.Frag} {cs : Cls0} {g g' g'' g0 : Gh} {H H' H'' H0 Hb : Hp} {σr : List (Option V)} {σ : List Slot} {h h' : List Ob} {a p : Addr} {o : HO}
theorem FR.mono {j : Nat} {f : Str} {v : V} {r : R} (t : Stp H g H' g') (k : ∀ b vs, H b = some (.lst vs) → g.tag b = .fld j f → H' b = some (.lst vs)) (x : FR K g H j f v r) : FR K g' H' j f v r := by
  cases r with
  | v d => exact RD.mono t x
  | o xs =>
    obtain ⟨b, vs, e, e1, e2, r⟩ := x
    exact ⟨b, vs, e, k b vs e1 e2, t.flds b j f e2, RDs.mono t r⟩
theorem FsR.mono {j : Nat} {fv : List (Str × V)} {fs : List (Str × R)} (t : Stp H g H' g') (k : ∀ b vs f, H b = some (.lst vs) → g.tag b = .fld j f → H' b = some (.lst vs)) (x : FsR K g H j fv fs) : FsR K g' H' j fv fs := by
  induction x with
  | nil => exact .nil
  | cons x _ ih => exact .cons (x.mono t fun b vs => k b vs _) ih
theorem ObR.mono {j : Nat} {ob : Ob} (t : Stp H g H' g') (k1 : ∀ o, H a = some o → H' a = some o) (k : ∀ b vs f, H b = some (.lst vs) → g.tag b = .fld j f → H' b = some (.lst vs)) (x : ObR K cs g H j a ob) : ObR K cs g' H' j a ob := by
  cases ob with
  | lst xs =>
    obtain ⟨vs, e, r⟩ := x
    exact ⟨vs, k1 _ e, RDs.mono t r⟩
  | ins c fs =>
    obtain ⟨dx, fv, e, r⟩ := x
    exact ⟨dx, fv, k1 _ e, r.mono t k⟩
/-- nothing of the pure heap's objects is touched -/
theorem HSim.keep (s : HSim K cs H g h) (t : Stp H g H' g') (hr : g'.rho = g.rho) (k : ∀ a o, H a = some o → nob (g.tag a) = false → H' a = some o) (nofr : ∀ a, H' a = none → g'.tag a = .free)
    (shp : ∀ a o, H' a = some o → (∀ xs, o ≠ .lst xs) → (∀ C dx fs, o ≠ .ins C dx fs) → g'.tag a = .free) : HSim K cs H' g' h where
  len := by rw [hr]; exact s.len
  ob := fun j ob e => by
    obtain ⟨a, e1, e2, x⟩ := s.ob j ob e
    exact ⟨a, by rw [hr]; exact e1, t.objs a j e2, x.mono t (fun o z => k a o z (by rw [e2]; rfl)) fun b vs f z q => k b _ z (by rw [q]; rfl)⟩
  nofr := nofr
  shp := shp
theorem Stp.new (s : HSim K cs H g h) (hp : H p = none) : Stp H g (upd H p o) g where
  rho := List.prefix_refl _
  there := fun a o e => ⟨o, by rw [upd_ne (ne_of_none e hp)]; exact e⟩
  stay := fun a o e _ => ⟨rfl, by rw [upd_ne (ne_of_none e hp)]; exact e⟩
  objs := fun _ _ e => e
  flds := fun _ _ _ e => e
  tups := fun a xs e => by rw [upd_ne (ne_of_none e hp)]; exact e
  frzs := fun a o u e => by rw [upd_ne (ne_of_none e hp)]; exact e
  nons := s.nofr
/-- a new thing is laid -/
theorem HSim.new (s : HSim K cs H g h) (hp : H p = none) : HSim K cs (upd H p o) g h :=
  s.keep (Stp.new s hp) rfl (fun a o e _ => by rw [upd_ne (ne_of_none e hp)]; exact e) (fun a e => by
    by_cases z : a = p
    · subst z; exact s.nofr _ hp
    · rw [upd_ne z] at e; exact s.nofr _ e) fun a o e h1 h2 => by
    by_cases z : a = p
    · subst z; exact s.nofr _ hp
    · rw [upd_ne z] at e; exact s.shp _ _ e h1 h2
theorem FrS.new (hp : H p = none) : FrS H g (upd H p o) g where
  rho := List.prefix_refl _
  there := fun a o e => ⟨o, by rw [upd_ne (ne_of_none e hp)]; exact e⟩
  tag := fun _ _ _ => rfl
  keep := fun a o e _ => by rw [upd_ne (ne_of_none e hp)]; exact e
theorem Sim.new (s : Sim K cs H0 g0 σr H g σ h) (hp : H p = none) : Sim K cs H0 g0 σr (upd H p o) g σ h := s.call (FrS.new hp) (s.hs.new hp)
theorem Sim.fresh0 (s : Sim K cs H0 g0 σr H g σ h) (hp : H p = none) : H0 p = none := by
  cases q : H0 p with
  | none => rfl
  | some o =>
    obtain ⟨o', z⟩ := s.fr.there p o q
    rw [hp] at z
    cases z

def Gh.set (g : Gh) (a : Addr) (t : Tag) : Gh := ⟨fun b => if b = a then t else g.tag b, g.rho⟩
theorem Gh.set_same {t : Tag} : (g.set a t).tag a = t := if_pos rfl
theorem Gh.set_ne {t : Tag} {b : Addr} (hb : b ≠ a) : (g.set a t).tag b = g.tag b := if_neg hb
/-- a list that nobody else holds is tagged anew: the base Hb did not have it -/
theorem Stp.retag {t : Tag} {gb : Gh} (st : Stp Hb gb H g) (hb : Hb a = none) (ho : nob (g.tag a) = true) : Stp Hb gb H (g.set a t) where
  rho := st.rho
  there := st.there
  stay := fun b o e z => by
    have hne : b ≠ a := fun q => by subst q; rw [hb] at e; cases e
    rw [Gh.set_ne hne]
    exact st.stay b o e z
  objs := fun b j e => by
    have hne : b ≠ a := fun q => by
      subst q
      have z := st.objs b j e
      rw [z] at ho
      cases ho
    rw [Gh.set_ne hne]
    exact st.objs b j e
  flds := fun b j f e => by
    have hne : b ≠ a := fun q => by
      subst q
      have z := st.flds b j f e
      rw [z] at ho
      cases ho
    rw [Gh.set_ne hne]
    exact st.flds b j f e
  tups := st.tups
  frzs := st.frzs
  nons := st.nons
/-- retagging keeps what leans on frozen and objects: what is needed of the old tag is that it is free (or the slot's own) -/
theorem RD.retag {t : Tag} (ht : g.tag a ≠ .froz) : ∀ {d : D} {v : V}, RD K g H v d → RD K (g.set a t) H v d := by
  have key : ∀ (d : D) (v : V), RD K g H v d → RD K (g.set a t) H v d := by
    intro d v x
    refine RD.rec (K := K) (g := g) (H := H) (motive_1 := fun v d _ => RD K (g.set a t) H v d) (motive_2 := fun vs ds _ => RDs K (g.set a t) H vs ds) ?_ ?_ ?_ ?_ ?_ ?_ ?_ ?_ ?_ ?_ x
    · exact .non
    · exact fun b => .bl b
    · exact fun i => .int i
    · exact fun z => .str z
    · exact fun h1 _ ih => .tup h1 ih
    · intro b vs ds h1 h2 _ ih
      refine .lst h1 ?_ ih
      rw [Gh.set_ne (fun e => ht (by rw [← e]; exact h2))]
      exact h2
    · exact fun h1 => .scr h1
    · exact fun h1 => .ref h1
    · exact .nil
    · exact fun _ _ h1 h2 => .cons h1 h2
  exact fun {d v} => key d v
theorem RDs.retag {t : Tag} (ht : g.tag a ≠ .froz) : ∀ {ds : List D} {vs : List V}, RDs K g H vs ds → RDs K (g.set a t) H vs ds
  | [], _, h => by cases h; exact .nil
  | _ :: _, _, h => by
    cases h with
    | cons h1 h2 => exact .cons (RD.retag ht h1) (RDs.retag ht h2)
theorem FsR.retag {t : Tag} {j : Nat} {fv : List (Str × V)} {fs : List (Str × R)} (ht : g.tag a ≠ .froz) (ho : nob (g.tag a) = true) (x : FsR K g H j fv fs) : FsR K (g.set a t) H j fv fs := by
  induction x with
  | nil => exact .nil
  | cons x _ ih =>
    refine .cons ?_ ih
    rename_i r _ _ _
    cases r with
    | v d => exact RD.retag ht x
    | o xs =>
      obtain ⟨b, vs, e, e1, e2, r⟩ := x
      refine ⟨b, vs, e, e1, ?_, RDs.retag ht r⟩
      rw [Gh.set_ne]
      · exact e2
      · intro z
        rw [← z, e2] at ho
        cases ho
theorem HSim.retag {t : Tag} {vs : List V} (s : HSim K cs H g h) (ht : g.tag a ≠ .froz) (ho : nob (g.tag a) = true) (e : H a = some (.lst vs)) (hn : nob t = true) : HSim K cs H (g.set a t) h where
  len := s.len
  ob := fun j ob z => by
    obtain ⟨b, e1, e2, x⟩ := s.ob j ob z
    refine ⟨b, e1, ?_, ?_⟩
    · rw [Gh.set_ne]
      · exact e2
      · intro q
        rw [← q, e2] at ho
        cases ho
    · cases ob with
      | lst xs =>
        obtain ⟨vs, q, r⟩ := x
        exact ⟨vs, q, RDs.retag ht r⟩
      | ins c fs =>
        obtain ⟨dx, fv, q, r⟩ := x
        exact ⟨dx, fv, q, r.retag ht ho⟩
  nofr := fun b z => by
    rw [Gh.set_ne (fun q => by rw [q, e] at z; cases z)]
    exact s.nofr b z
  shp := fun b o z h1 h2 => by
    rw [Gh.set_ne (fun q => by rw [q, e] at z; cases z; exact h1 _ rfl)]
    exact s.shp b o z h1 h2
theorem FrS.retag {t : Tag} (s : FrS H0 g0 H g) (e : H0 a = none) : FrS H0 g0 H (g.set a t) where
  rho := s.rho
  there := s.there
  tag := fun b o z => by
    rw [Gh.set_ne (fun q => by rw [q, e] at z; cases z)]
    exact s.tag b o z
  keep := s.keep
/-- a free list is tagged -/
theorem Sim.retag {t : Tag} {vs : List V} (s : Sim K cs H0 g0 σr H g σ h) (ht : g.tag a = .free) (e : H a = some (.lst vs)) (e0 : H0 a = none) (hn : nob t = true) : Sim K cs H0 g0 σr H (g.set a t) σ h where
  hs := s.hs.retag (by rw [ht]; intro z; cases z) (by rw [ht]; rfl) e hn
  fr := s.fr.retag e0
  len := s.len
  sl := fun i x z => by
    have ht' : g.tag a ≠ .froz := by rw [ht]; intro z; cases z
    have q := s.sl i x z
    cases x with
    | un => trivial
    | v d =>
      obtain ⟨v, e1, r⟩ := q
      exact ⟨v, e1, r.retag ht'⟩
    | o xs =>
      obtain ⟨b, us, e1, e2, e3, e4, r⟩ := q
      refine ⟨b, us, e1, e2, ?_, e4, RDs.retag ht' r⟩
      rw [Gh.set_ne (fun q => by rw [q, ht] at e3; cases e3)]
      exact e3
    | x c p => trivial
/-- a result becomes data -/
theorem Sim.freeze {gb : Gh} {v : V} {r : R} (s : Sim K cs H0 g0 σr H g σ h) (st : Stp Hb gb H g) (x : RR K Hb H g v r) (e0 : ∀ a, Hb a = none → H0 a = none) :
    ∃ g', Sim K cs H0 g0 σr H g' σ h ∧ Stp Hb gb H g' ∧ RD K g' H v r.d ∧ (∀ b, Hb b ≠ none → g'.tag b = g.tag b) := by
  cases r with
  | v d => exact ⟨g, s, st, x, fun _ _ => rfl⟩
  | o xs =>
    obtain ⟨a, vs, e, eb, e1, e2, r⟩ := x
    subst e
    refine ⟨g.set a .froz, s.retag e2 e1 (e0 a eb) rfl, st.retag eb (by rw [e2]; rfl), .lst e1 Gh.set_same (RDs.retag (by rw [e2]; intro z; cases z) r), fun b hb => Gh.set_ne fun q => hb (by rw [q]; exact eb)⟩
/-- a name gets a result -/
theorem Sim.bind {v : V} {r : R} {i : Nat} (s : Sim K cs H0 g0 σr H g σ h) (x : RR K H0 H g v r) (hi : i < σ.length) : ∃ g', Sim K cs H0 g0 (σr.set i (some v)) H g' (σ.set i r.slot) h := by
  have hir : i < σr.length := by rw [s.len]; exact hi
  have other : ∀ {g' : Gh} {k : Nat} {z : Slot}, k ≠ i → SltR K cs H0 σr g' H k z → SltR K cs H0 (σr.set i (some v)) g' H k z := fun {g' k z} hk q => by
    cases z with
    | un => trivial
    | v d =>
      obtain ⟨u, e1, r⟩ := q
      exact ⟨u, by rw [List.getElem?_set_ne (Ne.symm hk)]; exact e1, r⟩
    | o xs =>
      obtain ⟨b, us, e1, e2⟩ := q
      exact ⟨b, us, by rw [List.getElem?_set_ne (Ne.symm hk)]; exact e1, e2⟩
    | x c p => trivial
  cases r with
  | v d =>
    refine ⟨g, s.hs, s.fr, by simpa using s.len, fun k z e => ?_⟩
    by_cases hk : k = i
    · subst hk
      rw [List.getElem?_set_self hi] at e
      cases e
      exact ⟨v, List.getElem?_set_self hir, x⟩
    · rw [List.getElem?_set_ne (Ne.symm hk)] at e
      exact other hk (s.sl k z e)
  | o xs =>
    obtain ⟨a, vs, e, eb, e1, e2, r⟩ := x
    subst e
    have s' := s.retag (t := .slot i) e2 e1 eb rfl
    refine ⟨g.set a (.slot i), s'.hs, s'.fr, by simpa using s.len, fun k z e => ?_⟩
    by_cases hk : k = i
    · subst hk
      rw [List.getElem?_set_self hi] at e
      cases e
      exact ⟨a, vs, List.getElem?_set_self hir, e1, Gh.set_same, eb, RDs.retag (by rw [e2]; intro z; cases z) r⟩
    · rw [List.getElem?_set_ne (Ne.symm hk)] at e
      exact other hk (s'.sl k z e)
/-- a name's own list becomes data -/
theorem Sim.unown {i : Nat} {xs : List D} {gb : Gh} (s : Sim K cs H0 g0 σr H g σ h) (st : Stp Hb gb H g) (hi : σ[i]? = some (.o xs)) :
    ∃ g' v, Sim K cs H0 g0 σr H g' (σ.set i (.v (.lst xs))) h ∧ Stp Hb gb H g' ∧ σr[i]? = some (some v) ∧ RD K g' H v (.lst xs) := by
  have hlt : i < σ.length := (List.getElem?_eq_some_iff.mp hi).1
  obtain ⟨a, vs, e1, e2, e3, e4, r⟩ := s.sl i _ hi
  have ht : g.tag a ≠ .froz := by rw [e3]; intro z; cases z
  have rd : RD K (g.set a .froz) H (.ref a) (.lst xs) := .lst e2 Gh.set_same (RDs.retag ht r)
  refine ⟨g.set a .froz, .ref a, ⟨s.hs.retag ht (by rw [e3]; rfl) e2 rfl, s.fr.retag e4, by simpa using s.len, fun k z e => ?_⟩, ?_, e1, rd⟩
  · by_cases hk : k = i
    · subst hk
      rw [List.getElem?_set_self hlt] at e
      cases e
      exact ⟨_, e1, rd⟩
    · rw [List.getElem?_set_ne (Ne.symm hk)] at e
      have q := s.sl k z e
      cases z with
      | un => trivial
      | v d =>
        obtain ⟨u, e1, r⟩ := q
        exact ⟨u, e1, r.retag ht⟩
      | o ys =>
        obtain ⟨b, us, f1, f2, f3, f4, r'⟩ := q
        refine ⟨b, us, f1, f2, ?_, f4, RDs.retag ht r'⟩
        rw [Gh.set_ne (fun q => by rw [q, e3] at f3; cases f3; exact hk rfl)]
        exact f3
      | x c p => trivial
  · refine ⟨st.rho, st.there, fun b o e z => ?_, fun b j e => ?_, fun b j f e => ?_, st.tups, st.frzs, st.nons⟩
    · have hne : b ≠ a := fun q => by
        subst q
        have w := (st.stay b o e z).1
        rw [e3] at w
        rw [← w] at z
        rcases z with z | z <;> cases z
      rw [Gh.set_ne hne]
      exact st.stay b o e z
    · rw [Gh.set_ne (fun q => by subst q; rw [st.objs b j e] at e3; cases e3)]
      exact st.objs b j e
    · rw [Gh.set_ne (fun q => by subst q; rw [st.flds b j f e] at e3; cases e3)]
      exact st.flds b j f e

/-! ### writes -/
theorem Stp.upd {gb : Gh} (st : Stp Hb gb H g) {vs : List V} {o' : HO} (e : H a = some o) (hk : (∃ xs, o = .lst xs) ∨ ∃ C dx fs, o = .ins C dx fs) (ht : g.tag a ≠ .free) (hz : g.tag a ≠ .froz) : Stp Hb gb (L2.upd H a o') g where
  rho := st.rho
  there := fun b u q => by
    by_cases hb : b = a
    · exact ⟨o', by rw [hb]; exact upd_same⟩
    · obtain ⟨u', z⟩ := st.there b u q
      exact ⟨u', by rw [upd_ne hb]; exact z⟩
  stay := fun b u q z => by
    have hb : b ≠ a := fun w => by
      subst w
      have w := (st.stay b u q z).1
      rw [← w] at z
      rcases z with z | z
      · exact ht z
      · exact hz z
    rw [upd_ne hb]
    exact st.stay b u q z
  objs := st.objs
  flds := st.flds
  tups := fun b xs q => by
    have z := st.tups b xs q
    have hb : b ≠ a := fun w => by
      subst w
      rw [e] at z
      rcases hk with ⟨ys, rfl⟩ | ⟨C, dx, fs, rfl⟩ <;> cases z
    rw [upd_ne hb]
    exact z
  frzs := fun b o u q => by
    have z := st.frzs b o u q
    have hb : b ≠ a := fun w => by
      subst w
      rw [e] at z
      rcases hk with ⟨ys, rfl⟩ | ⟨C, dx, fs, rfl⟩ <;> cases z
    rw [upd_ne hb]
    exact z
  nons := st.nons
theorem FrS.upd {o' : HO} (s : FrS H0 g0 H g) (h0 : H0 a = none ∨ nob (g0.tag a) = false) (e : H a = some o) : FrS H0 g0 (L2.upd H a o') g where
  rho := s.rho
  there := fun b u q => by
    by_cases hb : b = a
    · exact ⟨o', by rw [hb]; exact upd_same⟩
    · obtain ⟨u', z⟩ := s.there b u q
      exact ⟨u', by rw [upd_ne hb]; exact z⟩
  tag := s.tag
  keep := fun b u q z => by
    have hb : b ≠ a := fun w => by
      subst w
      rcases h0 with h0 | h0
      · rw [h0] at q; cases q
      · rw [h0] at z; cases z
    rw [upd_ne hb]
    exact s.keep b u q z
/-- a name's own list is written -/
theorem Sim.mutS {i : Nat} {xs : List D} (s : Sim K cs H0 g0 σr H g σ h) (hi : σ[i]? = some (.o xs)) :
    ∃ a vs, σr[i]? = some (some (.ref a)) ∧ H a = some (.lst vs) ∧ RDs K g H vs xs ∧
      ∀ vs' xs', RDs K g H vs' xs' → Sim K cs H0 g0 σr (L2.upd H a (.lst vs')) g (σ.set i (.o xs')) h ∧ ∀ Hb gb, Stp Hb gb H g → Stp Hb gb (L2.upd H a (.lst vs')) g := by
  have hlt : i < σ.length := (List.getElem?_eq_some_iff.mp hi).1
  obtain ⟨a, vs, e1, e2, e3, e4, r⟩ := s.sl i _ hi
  refine ⟨a, vs, e1, e2, r, fun vs' xs' r' => ?_⟩
  have ht : g.tag a ≠ .free := by rw [e3]; intro z; cases z
  have hz : g.tag a ≠ .froz := by rw [e3]; intro z; cases z
  have stp : ∀ Hb gb, Stp Hb gb H g → Stp Hb gb (L2.upd H a (.lst vs')) g := fun Hb gb st => st.upd (vs := vs) e2 (.inl ⟨_, rfl⟩) ht hz
  have st := stp H g (Stp.refl s.hs.nofr)
  refine ⟨⟨s.hs.keep st rfl (fun b o q z => ?_) (fun b q => ?_) (fun b o q z1 z2 => ?_), s.fr.upd (.inl e4) e2, by simpa using s.len, fun k z e => ?_⟩, stp⟩
  · rw [upd_ne (fun w => by rw [w, e3] at z; cases z)]
    exact q
  · by_cases hb : b = a
    · rw [hb, upd_same] at q; cases q
    · rw [upd_ne hb] at q
      exact s.hs.nofr b q
  · by_cases hb : b = a
    · subst hb
      rw [upd_same] at q
      cases q
      exact absurd rfl (z1 _)
    · rw [upd_ne hb] at q
      exact s.hs.shp b o q z1 z2
  · by_cases hk : k = i
    · subst hk
      rw [List.getElem?_set_self hlt] at e
      cases e
      exact ⟨a, vs', e1, upd_same, e3, e4, RDs.mono st r'⟩
    · rw [List.getElem?_set_ne (Ne.symm hk)] at e
      have q := s.sl k z e
      cases z with
      | un => trivial
      | v d =>
        obtain ⟨u, f1, r⟩ := q
        exact ⟨u, f1, RD.mono st r⟩
      | o ys =>
        obtain ⟨b, us, f1, f2, f3, f4, r2⟩ := q
        refine ⟨b, us, f1, ?_, f3, f4, RDs.mono st r2⟩
        rw [upd_ne (fun w => by rw [w, e3] at f3; cases f3; exact hk rfl)]
        exact f2
      | x c p => trivial
/-- an object of the pure heap is written -/
theorem Sim.mutO {j : Nat} {ob : Ob} (s : Sim K cs H0 g0 σr H g σ h) (hj : h[j]? = some ob) :
    ∃ a, g.rho[j]? = some a ∧ ObR K cs g H j a ob ∧
      ∀ o' ob', ((∃ xs, o' = .lst xs) ∨ ∃ C dx fs, o' = .ins C dx fs) → ObR K cs g (L2.upd H a o') j a ob' → Sim K cs H0 g0 σr (L2.upd H a o') g σ (h.set j ob') ∧ ∀ Hb gb, Stp Hb gb H g → Stp Hb gb (L2.upd H a o') g := by
  obtain ⟨a, e1, e2, x⟩ := s.hs.ob j ob hj
  refine ⟨a, e1, x, fun o' ob' ko x' => ?_⟩
  obtain ⟨o, eo, hk⟩ : ∃ o, H a = some o ∧ ((∃ xs, o = .lst xs) ∨ ∃ C dx fs, o = .ins C dx fs) := by
    cases ob with
    | lst xs =>
      obtain ⟨vs, e, _⟩ := x
      exact ⟨_, e, .inl ⟨_, rfl⟩⟩
    | ins c fs =>
      obtain ⟨dx, fv, e, _⟩ := x
      exact ⟨_, e, .inr ⟨_, _, _, rfl⟩⟩
  have ht : g.tag a ≠ .free := by rw [e2]; intro z; cases z
  have hz : g.tag a ≠ .froz := by rw [e2]; intro z; cases z
  have stp : ∀ Hb gb, Stp Hb gb H g → Stp Hb gb (L2.upd H a o') g := fun Hb gb st => st.upd (vs := []) eo hk ht hz
  have st := stp H g (Stp.refl s.hs.nofr)
  have h0 : H0 a = none ∨ nob (g0.tag a) = false := by
    cases q : H0 a with
    | none => exact .inl rfl
    | some u =>
      refine .inr ?_
      rw [← s.fr.tag a u q, e2]
      rfl
  refine ⟨⟨⟨by rw [List.length_set]; exact s.hs.len, fun k z e => ?_, fun b q => ?_, fun b u q z1 z2 => ?_⟩, s.fr.upd h0 eo, s.len, fun k z e => ?_⟩, stp⟩
  · by_cases hk' : k = j
    · subst hk'
      rw [List.getElem?_set_self (List.getElem?_eq_some_iff.mp hj).1] at e
      cases e
      exact ⟨a, e1, e2, x'⟩
    · rw [List.getElem?_set_ne (Ne.symm hk')] at e
      obtain ⟨b, f1, f2, y⟩ := s.hs.ob k z e
      have hne : b ≠ a := fun w => by
        rw [w, e2] at f2
        cases f2
        exact hk' rfl
      exact ⟨b, f1, f2, y.mono st (fun o w => by rw [upd_ne hne]; exact w) fun c vs f w1 w2 => by
        rw [upd_ne (fun w => by rw [w, e2] at w2; cases w2)]
        exact w1⟩
  · by_cases hb : b = a
    · rw [hb, upd_same] at q; cases q
    · rw [upd_ne hb] at q
      exact s.hs.nofr b q
  · by_cases hb : b = a
    · subst hb
      rw [upd_same] at q
      cases q
      rcases ko with ⟨xs, rfl⟩ | ⟨C, dx, fs, rfl⟩
      · exact absurd rfl (z1 _)
      · exact absurd rfl (z2 _ _ _)
    · rw [upd_ne hb] at q
      exact s.hs.shp b u q z1 z2
  · have q := s.sl k z e
    cases z with
    | un => trivial
    | v d =>
      obtain ⟨u, f1, r⟩ := q
      exact ⟨u, f1, RD.mono st r⟩
    | o ys =>
      obtain ⟨b, us, f1, f2, f3, f4, r2⟩ := q
      refine ⟨b, us, f1, ?_, f3, f4, RDs.mono st r2⟩
      rw [upd_ne (fun w => by rw [w, e2] at f3; cases f3)]
      exact f2
    | x c p => trivial
/-- a new list, that nobody else holds, becomes an object of the pure heap -/
theorem Sim.prom {v : V} {xs : List D} {gb : Gh} (s : Sim K cs H0 g0 σr H g σ h) (st : Stp Hb gb H g) (x : RR K Hb H g v (.o xs)) (e0 : ∀ a, Hb a = none → H0 a = none) :
    ∃ g', Sim K cs H0 g0 σr H g' σ (h ++ [.lst xs]) ∧ Stp Hb gb H g' ∧ RD K g' H v (.ref h.length) := by
  obtain ⟨a, vs, rfl, eb, e1, e2, r⟩ := x
  have ht : g.tag a ≠ .froz := by rw [e2]; intro z; cases z
  have ho : nob (g.tag a) = true := by rw [e2]; rfl
  have stu : Stp H (g.set a (.obj h.length)) H ⟨(g.set a (.obj h.length)).tag, g.rho ++ [a]⟩ := ⟨⟨[a], rfl⟩, fun _ o e => ⟨o, e⟩, fun _ _ e _ => ⟨rfl, e⟩, fun _ _ e => e, fun _ _ _ e => e, fun _ _ e => e, fun _ _ _ e => e, fun b e => by
    rw [Gh.set_ne (fun q => by rw [q, e1] at e; cases e)]
    exact s.hs.nofr b e⟩
  have up : ∀ {d : D} {v : V}, RD K (g.set a (.obj h.length)) H v d → RD K ⟨(g.set a (.obj h.length)).tag, g.rho ++ [a]⟩ H v d := fun {d v} q =>
    RD.mono (K := K) (g := g.set a (.obj h.length)) (H := H) (H' := H) (g' := ⟨(g.set a (.obj h.length)).tag, g.rho ++ [a]⟩) stu q
  have ups : ∀ {d : List D} {v : List V}, RDs K (g.set a (.obj h.length)) H v d → RDs K ⟨(g.set a (.obj h.length)).tag, g.rho ++ [a]⟩ H v d := fun {d v} q =>
    RDs.mono (K := K) (g := g.set a (.obj h.length)) (H := H) (H' := H) (g' := ⟨(g.set a (.obj h.length)).tag, g.rho ++ [a]⟩) stu q
  have st1 := st.retag (t := .obj h.length) eb ho
  have hlen : (g.rho ++ [a])[h.length]? = some a := by
    rw [← s.hs.len, List.getElem?_append_right (Nat.le_refl _)]
    simp
  refine ⟨⟨(g.set a (.obj h.length)).tag, g.rho ++ [a]⟩, ⟨⟨by simp [s.hs.len], fun j ob e => ?_, fun b q => ?_, fun b u q z1 z2 => ?_⟩, ?_, s.len, fun k z e => ?_⟩, ?_, .ref hlen⟩
  · by_cases hj : j < h.length
    · rw [List.getElem?_append_left hj] at e
      obtain ⟨b, f1, f2, y⟩ := s.hs.ob j ob e
      refine ⟨b, by rw [List.getElem?_append_left (by rw [s.hs.len]; exact hj)]; exact f1, ?_, ?_⟩
      · show (g.set a _).tag b = _
        rw [Gh.set_ne (fun q => by rw [q, e2] at f2; cases f2)]
        exact f2
      · cases ob with
        | lst ys =>
          obtain ⟨us, q, r⟩ := y
          exact ⟨us, q, ups (RDs.retag ht r)⟩
        | ins c fs =>
          obtain ⟨dx, fv, q, r⟩ := y
          refine ⟨dx, fv, q, ?_⟩
          have r1 := r.retag (t := .obj h.length) ht ho
          clear r q e
          induction r1 with
          | nil => exact .nil
          | cons x _ ih =>
            refine .cons ?_ ih
            rename_i r _ _ _
            cases r with
            | v d => exact up x
            | o xs =>
              obtain ⟨b, vs, e, e1, e2, r⟩ := x
              exact ⟨b, vs, e, e1, e2, ups r⟩
    · have hj' : j = h.length := by
        have := (List.getElem?_eq_some_iff.mp e).1
        simp at this
        omega
      subst hj'
      rw [List.getElem?_append_right (Nat.le_refl _)] at e
      simp at e
      subst e
      exact ⟨a, hlen, Gh.set_same, vs, e1, ups (RDs.retag ht r)⟩
  · show (g.set a _).tag b = _
    rw [Gh.set_ne (fun w => by rw [w, e1] at q; cases q)]
    exact s.hs.nofr b q
  · show (g.set a _).tag b = _
    rw [Gh.set_ne (fun w => by rw [w, e1] at q; cases q; exact z1 _ rfl)]
    exact s.hs.shp b u q z1 z2
  · have f := s.fr.retag (t := .obj h.length) (e0 a eb)
    exact ⟨f.rho.trans ⟨[a], rfl⟩, f.there, f.tag, f.keep⟩
  · have q := s.sl k z e
    cases z with
    | un => trivial
    | v d =>
      obtain ⟨u, f1, r⟩ := q
      exact ⟨u, f1, up (r.retag ht)⟩
    | o ys =>
      obtain ⟨b, us, f1, f2, f3, f4, r2⟩ := q
      refine ⟨b, us, f1, f2, ?_, f4, ups (RDs.retag ht r2)⟩
      show (g.set a _).tag b = _
      rw [Gh.set_ne (fun w => by rw [w, e2] at f3; cases f3)]
      exact f3
    | x c p => trivial
  · exact ⟨st1.rho.trans ⟨[a], rfl⟩, st1.there, st1.stay, st1.objs, st1.flds, st1.tups, st1.frzs, st1.nons⟩
/-- a free list (nobody else holds it) is written -/
theorem Stw.free {o' : HO} (ht : g.tag a = .free) {vs : List V} (e : H a = some (.lst vs)) : Stw H g (L2.upd H a o') g where
  rho := List.prefix_refl _
  froz := fun b xs q z => by
    rw [upd_ne (fun w => by rw [w, ht] at z; cases z)]
    exact ⟨z, q⟩
  tups := fun b xs q => by rw [upd_ne (fun w => by rw [w, e] at q; cases q)]; exact q
  frzs := fun b o u q => by rw [upd_ne (fun w => by rw [w, e] at q; cases q)]; exact q
theorem Stp.updNew {gb : Gh} {o' : HO} {vs : List V} (st : Stp Hb gb H g) (hb : Hb a = none) (e : H a = some (.lst vs)) : Stp Hb gb (L2.upd H a o') g where
  rho := st.rho
  there := fun b u q => by
    have hne : b ≠ a := ne_of_none q hb
    obtain ⟨u', z⟩ := st.there b u q
    exact ⟨u', by rw [upd_ne hne]; exact z⟩
  stay := fun b u q z => by
    have hne : b ≠ a := ne_of_none q hb
    rw [upd_ne hne]
    exact st.stay b u q z
  objs := st.objs
  flds := st.flds
  tups := fun b xs q => by
    rw [upd_ne (ne_of_none q hb)]
    exact st.tups b xs q
  frzs := fun b o u q => by
    rw [upd_ne (ne_of_none q hb)]
    exact st.frzs b o u q
  nons := st.nons
theorem Sim.mutFree {vs vs' : List V} (s : Sim K cs H0 g0 σr H g σ h) (e : H a = some (.lst vs)) (ht : g.tag a = .free) (h0 : H0 a = none) : Sim K cs H0 g0 σr (L2.upd H a (.lst vs')) g σ h := by
  have w : Stw H g (L2.upd H a (.lst vs')) g := Stw.free ht e
  have same : ∀ b o, H b = some o → g.tag b ≠ .free → L2.upd H a (.lst vs') b = some o := fun b o q z => by
    rw [upd_ne (fun y => z (by rw [y]; exact ht))]
    exact q
  refine ⟨⟨s.hs.len, fun j ob q => ?_, fun b q => ?_, fun b o q z1 z2 => ?_⟩, ⟨s.fr.rho, fun b u q => ?_, s.fr.tag, fun b u q z => ?_⟩, s.len, fun i x q => ?_⟩
  · obtain ⟨b, e1, e2, x⟩ := s.hs.ob j ob q
    refine ⟨b, e1, e2, ?_⟩
    have nf : g.tag b ≠ .free := by rw [e2]; intro z; cases z
    cases ob with
    | lst xs =>
      obtain ⟨us, f1, r⟩ := x
      exact ⟨us, same b _ f1 nf, RDs.monoW w r⟩
    | ins c fs =>
      obtain ⟨dx, fv, f1, r⟩ := x
      refine ⟨dx, fv, same b _ f1 nf, ?_⟩
      clear f1 q
      induction r with
      | nil => exact .nil
      | cons x _ ih =>
        refine .cons ?_ ih
        rename_i r _ _ _
        cases r with
        | v d => exact RD.monoW w x
        | o xs =>
          obtain ⟨b', us, y1, y2, y3, y4⟩ := x
          exact ⟨b', us, y1, same b' _ y2 (by rw [y3]; intro z; cases z), y3, RDs.monoW w y4⟩
  · by_cases hb : b = a
    · rw [hb, upd_same] at q; cases q
    · rw [upd_ne hb] at q
      exact s.hs.nofr b q
  · by_cases hb : b = a
    · rw [hb]; exact ht
    · rw [upd_ne hb] at q
      exact s.hs.shp b o q z1 z2
  · by_cases hb : b = a
    · exact ⟨_, by rw [hb]; exact upd_same⟩
    · obtain ⟨u', z⟩ := s.fr.there b u q
      exact ⟨u', by rw [upd_ne hb]; exact z⟩
  · rw [upd_ne (ne_of_none q h0)]
    exact s.fr.keep b u q z
  · have y := s.sl i x q
    cases x with
    | un => trivial
    | v d =>
      obtain ⟨v, e1, r⟩ := y
      exact ⟨v, e1, RD.monoW w r⟩
    | o xs =>
      obtain ⟨b, us, e1, e2, e3, e4, r⟩ := y
      exact ⟨b, us, e1, same b _ e2 (by rw [e3]; intro z; cases z), e3, e4, RDs.monoW w r⟩
    | x c p => trivial
end
end Pm

set_option Elab.async false
set_option linter.all false
set_option maxRecDepth 100000
set_option maxHeartbeats 4000000
/-! The pure machine: == and != of data. -/
namespace Pm
open PySem PySem.Spec PyProof.Rows L2

/-- the content of an operand: data, or a list that is looked at now -/
def CR (K : PySem.W.Frag) (g : Gh) (H : Hp) (v : V) (c : D) : Prop := RD K g H v c ∨ ∃ a vs xs, v = .ref a ∧ c = .lst xs ∧ H a = some (.lst vs) ∧ RDs K g H vs xs

theorem eqL_spec {f : D → D → Option Bool} : ∀ {xs ys : List D} {b : Bool}, eqL f xs ys = some b →
    ∃ e : Nat → Bool, (∀ j x y, xs[j]? = some x → ys[j]? = some y → f x y = some (e j)) ∧ b = ((List.range (min xs.length ys.length)).all e && xs.length == ys.length)
  | [], [], b, h => by
    cases h
    exact ⟨fun _ => true, fun j x y e => by simp at e, rfl⟩
  | [], _ :: _, b, h => by
    cases h
    exact ⟨fun _ => true, fun j x y e => by simp at e, by simp⟩
  | _ :: _, [], b, h => by
    cases h
    exact ⟨fun _ => true, fun j x y _ e => by simp at e, by simp⟩
  | x :: xs, y :: ys, b, h => by
    unfold eqL at h
    cases h1 : f x y with
    | none => rw [h1] at h; simp at h
    | some a =>
      rw [h1] at h
      cases h2 : eqL f xs ys with
      | none => rw [h2] at h; simp at h
      | some c =>
        rw [h2] at h
        simp at h
        obtain ⟨e, he, hb⟩ := eqL_spec h2
        refine ⟨fun j => match j with | 0 => a | j + 1 => e j, fun j x' y' e1 e2 => ?_, ?_⟩
        · cases j with
          | zero =>
            simp at e1 e2
            subst e1 e2
            exact h1
          | succ j =>
            simp at e1 e2
            exact he j x' y' e1 e2
        · rw [← h, hb]
          have e3 : min (x :: xs).length (y :: ys).length = min xs.length ys.length + 1 := by simp
          rw [e3, List.range_succ_eq_map, List.all_cons, List.all_map]
          simp [Function.comp_def, Bool.and_assoc]

section
variable {X : Cx} {pins : List (Addr × Obj)} {σ : L2.St} {H : Hp} {s : Shared} {g : Gh}
theorem RDs.len {K : PySem.W.Frag} : ∀ {ds : List D} {vs : List V}, RDs K g H vs ds → vs.length = ds.length
  | [], _, h => by cases h; rfl
  | _ :: _, _, h => by
    cases h with
    | cons _ h2 => simp [RDs.len h2]
theorem RDs.get {K : PySem.W.Frag} : ∀ {ds : List D} {vs : List V} {i : Nat} {d : D}, RDs K g H vs ds → ds[i]? = some d → ∃ v, vs[i]? = some v ∧ RD K g H v d
  | [], _, _, _, _, e => by simp at e
  | _ :: _, _, 0, _, h, e => by
    cases h with
    | cons h1 _ =>
      simp at e
      subst e
      exact ⟨_, rfl, h1⟩
  | _ :: _, _, i + 1, _, h, e => by
    cases h with
    | cons _ h2 =>
      obtain ⟨v, e1, r⟩ := RDs.get h2 (by simpa using e)
      exact ⟨v, by simpa using e1, r⟩
/-- what is seen of a value, by its data -/
inductive Seen (X : Cx) (g : Gh) (H : Hp) (s : Shared) : Value → D → Prop
  | non : Seen X g H s .none .non
  | bl (b : Bool) : Seen X g H s (.bool b) (.bl b)
  | int (i : Int) (t : Tok) : Seen X g H s (.int i t) (.int i)
  | str (x : Str) (t : Tok) : Seen X g H s (.str x t) (.str x)
  | tup {a : Addr} {its : List Value} {vs : List V} {ds : List D} : s.heap.IsTuple a its.toArray → Vals vs its → RDs X.K g H vs ds → Seen X g H s (.ref a) (.tup ds)
  | lst {a : Addr} {its : List Value} {vs : List V} {ds : List D} : s.heap.IsList a its.toArray → Vals vs its → RDs X.K g H vs ds → Seen X g H s (.ref a) (.lst ds)
  | oth {v : Value} {d : D} : (∀ c, eq0 d c = none) → (∀ c, eq0 c d = none) → (∀ xs, d ≠ .tup xs) → (∀ xs, d ≠ .lst xs) → Seen X g H s v d
theorem eq0_scr_r {ns : List Int} : ∀ c : D, eq0 c (.scr ns) = none := fun c => by cases c <;> rfl
theorem eq0_ref_r {j : Nat} : ∀ c : D, eq0 c (.ref j) = none := fun c => by cases c <;> rfl
theorem eq0_scr_l {ns : List Int} : ∀ c : D, eq0 (.scr ns) c = none := fun c => by cases c <;> rfl
theorem eq0_ref_l {j : Nat} : ∀ c : D, eq0 (.ref j) c = none := fun c => by cases c <;> rfl
theorem seen_of (I : Inv X pins σ H s) {v : V} {u : Value} {c : D} (r : RelV v u) (x : CR X.K g H v c) : Seen X g H s u c := by
  rcases x with x | ⟨a, vs, xs, rfl, rfl, e, rs⟩
  · cases x with
    | non => cases r; exact .non
    | bl b => cases r; exact .bl b
    | int i => obtain ⟨t, rfl⟩ := r; exact .int i t
    | str x => obtain ⟨t, rfl⟩ := r; exact .str x t
    | tup h1 h2 =>
      cases r
      obtain ⟨its, rv, p, _⟩ := I.tuple h1
      exact .tup p rv h2
    | lst h1 _ h3 =>
      cases r
      obtain ⟨its, rv, p, _⟩ := I.list (SqL.of h1)
      exact .lst p.isList rv h3
    | scr _ => exact .oth eq0_scr_l eq0_scr_r (fun _ z => by cases z) (fun _ z => by cases z)
    | ref _ => exact .oth eq0_ref_l eq0_ref_r (fun _ z => by cases z) (fun _ z => by cases z)
  · cases r
    obtain ⟨its, rv, p, _⟩ := I.list (SqL.of e)
    exact .lst p.isList rv rs
theorem vals_get {vs : List V} {its : List Value} {ds : List D} (rv : Vals vs its) (rs : RDs X.K g H vs ds) {j : Nat} (hj : j < its.toArray.size) : ∃ v d, vs[j]? = some v ∧ ds[j]? = some d ∧ RelV v its.toArray[j] ∧ RD X.K g H v d := by
  have h1 : j < ds.length := by
    rw [← rs.len, rv.length]
    simpa using hj
  obtain ⟨v, e1, r1⟩ := rs.get (List.getElem?_eq_getElem h1)
  obtain ⟨u, e2, r2⟩ := rv.get e1
  refine ⟨v, ds[j], e1, List.getElem?_eq_getElem h1, ?_, r1⟩
  have e3 : its.toArray[j] = u := by
    have e4 := (List.getElem?_eq_some_iff.mp e2).2
    simpa using e4
  rw [e3]
  exact r2

/-- data are told by their value -/
theorem RD.inj (I : Inv X pins σ H s) : ∀ {d : D} {v : V} {e : D}, RD X.K g H v d → RD X.K g H v e → (∀ n b, eqF n d e = some b → b = true) := by
  have key : ∀ (v : V) (d : D), RD X.K g H v d → ∀ e, RD X.K g H v e → ∀ n b, eqF n d e = some b → b = true := by
    intro v d x
    refine RD.rec (K := X.K) (g := g) (H := H) (motive_1 := fun v d _ => ∀ e, RD X.K g H v e → ∀ n b, eqF n d e = some b → b = true)
      (motive_2 := fun vs ds _ => ∀ es, RDs X.K g H vs es → ∀ n b, eqL (eqF n) ds es = some b → b = true) ?_ ?_ ?_ ?_ ?_ ?_ ?_ ?_ ?_ ?_ x
    · intro e y n b h
      cases y
      cases n <;> (cases h; rfl)
    · intro k e y n b h
      cases y
      cases n <;> (simp [eqF, eq0] at h; first | exact h | exact h.symm)
    · intro k e y n b h
      cases y
      cases n <;> (simp [eqF, eq0] at h; first | exact h | exact h.symm)
    · intro k e y n b h
      cases y
      cases n <;> (simp [eqF, eq0] at h; first | exact h | exact h.symm)
    · intro a vs ds h1 h2 ih e y n b h
      cases y with
      | tup h3 h4 =>
        have ev := I.tuple_inj h1 h3
        subst ev
        cases n with
        | zero => simp [eqF, eq0] at h
        | succ n => exact ih _ h4 n b h
      | lst h3 _ _ =>
        obtain ⟨its, _, p, _⟩ := I.tuple h1
        obtain ⟨its', _, p', _⟩ := I.list (SqL.of h3)
        exact absurd rfl (SeqAt.ne_of_list_tuple p'.isList p)
      | scr h3 => cases n <;> simp [eqF, eq0] at h
      | ref h3 => cases n <;> simp [eqF, eq0] at h
    · intro a vs ds h1 h2 h3 ih e y n b h
      cases y with
      | tup h4 _ =>
        obtain ⟨its, _, p, _⟩ := I.tuple h4
        obtain ⟨its', _, p', _⟩ := I.list (SqL.of h1)
        exact absurd rfl (SeqAt.ne_of_list_tuple p'.isList p)
      | lst h4 _ h5 =>
        rw [h1] at h4
        cases h4
        cases n with
        | zero => simp [eqF, eq0] at h
        | succ n => exact ih _ h5 n b h
      | scr h3 => cases n <;> simp [eqF, eq0] at h
      | ref h3 => cases n <;> simp [eqF, eq0] at h
    · intro a ns h1 e y n b h
      cases n <;> (cases e <;> simp [eqF, eq0] at h)
    · intro a ns h1 e y n b h
      cases n <;> (cases e <;> simp [eqF, eq0] at h)
    · intro es y n b h
      cases y
      cases h
      rfl
    · intro v vs d ds h1 h2 ih1 ih2 es y n b h
      cases y with
      | cons y1 y2 =>
        rename_i d' ds'
        unfold eqL at h
        cases q1 : eqF n d d' with
        | none => rw [q1] at h; simp at h
        | some b1 =>
          rw [q1] at h
          cases q2 : eqL (eqF n) ds ds' with
          | none => rw [q2] at h; simp at h
          | some b2 =>
            rw [q2] at h
            simp at h
            rw [← h, ih1 _ y1 n _ q1, ih2 _ y2 n _ q2]
            rfl
  exact fun {d v e} x => key v d x e

theorem eqF_succ_tup {n : Nat} {xs ys : List D} : eqF (n + 1) (.tup xs) (.tup ys) = eqL (eqF n) xs ys := rfl
theorem eqF_succ_lst {n : Nat} {xs ys : List D} : eqF (n + 1) (.lst xs) (.lst ys) = eqL (eqF n) xs ys := rfl
theorem in1_units (A : Around) : A.in1.units = A.units + 1 := rfl

/-- what == and != give -/
theorem eq_ok (I : Inv X pins σ H s) : ∀ (n : Nat) (c d : D) (u u' : Value) (b : Bool), eqF n c d = some b → Seen X g H s u c → Seen X g H s u' d → ∀ A : Around, A.units + n < cLine → SeqAt.RcAt A s u u' b ∧ SeqAt.RcNeAt A s u u' (!b) := by
  have base : ∀ (c d : D) (u u' : Value) (b : Bool), eq0 c d = some b → Seen X g H s u c → Seen X g H s u' d → ∀ A : Around, A.units < cLine → SeqAt.RcAt A s u u' b ∧ SeqAt.RcNeAt A s u u' (!b) ∧ SeqAt.EqAt A s u u' b := by
    intro c d u u' b h x y A hu
    cases x with
    | non =>
      cases y with
      | non => cases h; exact ⟨.none_none, .none_none, .same _⟩
      | bl b => cases h; exact ⟨.none_bool _, .none_bool _, .none_bool _⟩
      | int i t => cases h; exact ⟨.none_int _ _, .none_int _ _, .none_int _ _⟩
      | str z t => cases h; exact ⟨.none_str _ _, .none_str _ _, .none_str _ _⟩
      | tup p _ _ => cases h; exact ⟨.none_tuple p hu, .none_tuple p hu, .none_tuple p hu⟩
      | lst p _ _ => cases h; exact ⟨.none_list p hu, .none_list p hu, .none_list p hu⟩
      | oth _ o _ _ => rw [o] at h; cases h
    | bl a =>
      cases y with
      | non => cases h; exact ⟨.bool_none _, .bool_none _, .bool_none _⟩
      | bl b => cases h; exact ⟨.bool_bool _ _, .bool_bool _ _, .bool_bool _ _⟩
      | int i t => cases h; exact ⟨.bool_int _ _ _, .bool_int _ _ _, .bool_int _ _ _⟩
      | str z t => cases h; exact ⟨.bool_str _ _ _, .bool_str _ _ _, .bool_str _ _ _⟩
      | tup p _ _ => cases h; exact ⟨.bool_tuple _ p hu, .bool_tuple _ p hu, .bool_tuple _ p hu⟩
      | lst p _ _ => cases h; exact ⟨.bool_list _ p hu, .bool_list _ p hu, .bool_list _ p hu⟩
      | oth _ o _ _ => rw [o] at h; cases h
    | int a t' =>
      cases y with
      | non => cases h; exact ⟨.int_none _ _, .int_none _ _, .int_none _ _⟩
      | bl b => cases h; exact ⟨.int_bool _ _ _, .int_bool _ _ _, .int_bool _ _ _⟩
      | int i t => cases h; exact ⟨.int_int _ _ _ _, .int_int _ _ _ _, .int_int _ _ _ _⟩
      | str z t => cases h; exact ⟨.int_str _ _ _ _, .int_str _ _ _ _, .int_str _ _ _ _⟩
      | tup p _ _ => cases h; exact ⟨.int_tuple _ _ p hu, .int_tuple _ _ p hu, .int_tuple _ _ p hu⟩
      | lst p _ _ => cases h; exact ⟨.int_list _ _ p hu, .int_list _ _ p hu, .int_list _ _ p hu⟩
      | oth _ o _ _ => rw [o] at h; cases h
    | str a t' =>
      cases y with
      | non => cases h; exact ⟨.str_none _ _, .str_none _ _, .str_none _ _⟩
      | bl b => cases h; exact ⟨.str_bool _ _ _, .str_bool _ _ _, .str_bool _ _ _⟩
      | int i t => cases h; exact ⟨.str_int _ _ _ _, .str_int _ _ _ _, .str_int _ _ _ _⟩
      | str z t =>
        have e : (decide (a = z)) = (a == z) := rfl
        cases h
        rw [e]
        exact ⟨.str_str _ _ _ _, .str_str _ _ _ _, .str_str _ _ _ _⟩
      | tup p _ _ => cases h; exact ⟨.str_tuple _ _ p hu, .str_tuple _ _ p hu, .str_tuple _ _ p hu⟩
      | lst p _ _ => cases h; exact ⟨.str_list _ _ p hu, .str_list _ _ p hu, .str_list _ _ p hu⟩
      | oth _ o _ _ => rw [o] at h; cases h
    | tup p _ _ =>
      cases y with
      | non => cases h; exact ⟨.tuple_none p hu, .tuple_none p hu, .tuple_none p hu⟩
      | bl b => cases h; exact ⟨.tuple_bool _ p hu, .tuple_bool _ p hu, .tuple_bool _ p hu⟩
      | int i t => cases h; exact ⟨.tuple_int _ _ p hu, .tuple_int _ _ p hu, .tuple_int _ _ p hu⟩
      | str z t => cases h; exact ⟨.tuple_str _ _ p hu, .tuple_str _ _ p hu, .tuple_str _ _ p hu⟩
      | tup p _ _ => cases h
      | lst p' _ _ => cases h; exact ⟨.tuple_list p p' hu, .tuple_list p p' hu, .tuple_list p p' hu⟩
      | oth _ o _ _ => rw [o] at h; cases h
    | lst p _ _ =>
      cases y with
      | non => cases h; exact ⟨.list_none p hu, .list_none p hu, .list_none p hu⟩
      | bl b => cases h; exact ⟨.list_bool _ p hu, .list_bool _ p hu, .list_bool _ p hu⟩
      | int i t => cases h; exact ⟨.list_int _ _ p hu, .list_int _ _ p hu, .list_int _ _ p hu⟩
      | str z t => cases h; exact ⟨.list_str _ _ p hu, .list_str _ _ p hu, .list_str _ _ p hu⟩
      | tup p' _ _ => cases h; exact ⟨.list_tuple p p' hu, .list_tuple p p' hu, .list_tuple p p' hu⟩
      | lst p' _ _ => cases h
      | oth _ o _ _ => rw [o] at h; cases h
    | oth o _ _ _ => rw [o] at h; cases h
  -- items' equality from the items' answers
  have item : ∀ (n : Nat), (∀ (c d : D) (u u' : Value) (b : Bool), eqF n c d = some b → Seen X g H s u c → Seen X g H s u' d → ∀ A : Around, A.units + n < cLine → SeqAt.RcAt A s u u' b ∧ SeqAt.RcNeAt A s u u' (!b)) →
      ∀ (c d : D) (v v' : V) (u u' : Value) (b : Bool), eqF n c d = some b → RD X.K g H v c → RD X.K g H v' d → RelV v u → RelV v' u' → ∀ A : Around, A.units + n < cLine → SeqAt.EqAt A s u u' b := by
    intro n ih c d v v' u u' b h r r' q q' A hu
    have x := seen_of (g := g) I q (.inl r)
    have y := seen_of (g := g) I q' (.inl r')
    have refs : ∀ {l l' : Addr}, v = .ref l → v' = .ref l' → SeqAt.EqAt A s u u' b := fun {l l'} e e' => by
      subst e e'
      cases q
      cases q'
      by_cases same : l = l'
      · subst same
        have ev := RD.inj I r r' n b h
        subst ev
        exact .same _
      · exact .of_refs same (ih c d _ _ b h x y A hu).1
    have hu0 : A.units < cLine := by omega
    have b3 : eq0 c d = some b → SeqAt.EqAt A s u u' b := fun z => (base c d u u' b z x y A hu0).2.2
    cases c with
    | tup xs =>
      cases d with
      | tup ys =>
        cases r
        cases r'
        exact refs rfl rfl
      | _ => cases n <;> exact b3 h
    | lst xs =>
      cases d with
      | lst ys =>
        cases r
        cases r'
        exact refs rfl rfl
      | _ => cases n <;> exact b3 h
    | _ => cases n <;> cases d <;> exact b3 h
  intro n
  induction n with
  | zero =>
    intro c d u u' b h x y A hu
    have z := base c d u u' b h x y A (by omega)
    exact ⟨z.1, z.2.1⟩
  | succ n ih =>
    intro c d u u' b h x y A hu
    have hu1 : A.in1.units + n < cLine := by rw [in1_units]; omega
    have hu0 : A.units < cLine := by omega
    have two : ∀ {xs ys : List D}, (c = .tup xs ∧ d = .tup ys → SeqAt.RcAt A s u u' b ∧ SeqAt.RcNeAt A s u u' (!b)) := fun {xs ys} ⟨ec, ed⟩ => by
      subst ec ed
      cases x with
      | oth _ _ o _ => exact absurd rfl (o _)
      | tup p rv rs =>
        cases y with
        | oth _ _ o _ => exact absurd rfl (o _)
        | tup p' rv' rs' =>
          obtain ⟨e, he, hb⟩ := eqL_spec h
          have items : ∀ j (h1 : j < _) (h2 : j < _), SeqAt.EqAt A.in1 s _ _ (e j) := fun j h1 h2 => by
            obtain ⟨v, d1, _, ed, rr, rd⟩ := vals_get rv rs h1
            obtain ⟨v', d2, _, ed', rr', rd'⟩ := vals_get rv' rs' h2
            exact item n ih d1 d2 v v' _ _ _ (he j d1 d2 ed ed') rd rd' rr rr' A.in1 hu1
          have sz1 := rv.length
          have sz2 := rv'.length
          have l1 := rs.len
          have l2 := rs'.len
          have e1 := SeqAt.RcAt.tuples p p' hu0 items
          have e2 := SeqAt.RcNeAt.tuples p p' hu0 items
          simp only [List.size_toArray] at e1 e2
          rw [← sz1, ← sz2, l1, l2, ← hb] at e1 e2
          exact ⟨e1, e2⟩
    have three : ∀ {xs ys : List D}, (c = .lst xs ∧ d = .lst ys → SeqAt.RcAt A s u u' b ∧ SeqAt.RcNeAt A s u u' (!b)) := fun {xs ys} ⟨ec, ed⟩ => by
      subst ec ed
      cases x with
      | oth _ _ _ o => exact absurd rfl (o _)
      | lst p rv rs =>
        cases y with
        | oth _ _ _ o => exact absurd rfl (o _)
        | lst p' rv' rs' =>
          rename_i a its vs a' its' vs'
          obtain ⟨e, he, hb⟩ := eqL_spec h
          have items : ∀ j (h1 : j < its.toArray.size) (h2 : j < its'.toArray.size), SeqAt.EqAt A.in1 s its.toArray[j] its'.toArray[j] (e j) := fun j h1 h2 => by
            obtain ⟨v, d1, _, ed, rr, rd⟩ := vals_get rv rs h1
            obtain ⟨v', d2, _, ed', rr', rd'⟩ := vals_get rv' rs' h2
            exact item n ih d1 d2 v v' _ _ _ (he j d1 d2 ed ed') rd rd' rr rr' A.in1 hu1
          have sz1 := rv.length
          have sz2 := rv'.length
          have l1 := rs.len
          have l2 := rs'.len
          by_cases hl : its.toArray.size = its'.toArray.size
          · have e1 := SeqAt.RcAt.lists p p' hl hu0 items
            have e2 := SeqAt.RcNeAt.lists p p' hl hu0 items
            have hb' : b = (List.range its.toArray.size).all e := by
              simp only [List.size_toArray] at hl ⊢
              have hl' : xs.length = ys.length := by omega
              rw [hb, ← hl', Nat.min_self, ← l1, sz1]
              simp
            rw [← hb'] at e1 e2
            exact ⟨e1, e2⟩
          · have hn : (its.toArray.size != its'.toArray.size) = true := by simpa using hl
            have e1 := SeqAt.RcAt.lists_lengths p p' hn hu0
            have e2 := SeqAt.RcNeAt.lists_lengths p p' hn hu0
            have hb' : b = false := by
              rw [hb]
              simp only [List.size_toArray] at hl
              have hl' : ¬ xs.length = ys.length := by omega
              simp [hl']
            subst hb'
            exact ⟨e1, e2⟩
    cases c with
    | tup xs =>
      cases d with
      | tup ys => exact two ⟨rfl, rfl⟩
      | _ => exact ⟨(base _ _ _ _ b h x y A hu0).1, (base _ _ _ _ b h x y A hu0).2.1⟩
    | lst xs =>
      cases d with
      | lst ys => exact three ⟨rfl, rfl⟩
      | _ => exact ⟨(base _ _ _ _ b h x y A hu0).1, (base _ _ _ _ b h x y A hu0).2.1⟩
    | _ => cases d <;> exact ⟨(base _ _ _ _ b h x y A hu0).1, (base _ _ _ _ b h x y A hu0).2.1⟩
end
end Pm

set_option Elab.async false
set_option linter.all false
set_option maxRecDepth 100000
set_option maxHeartbeats 4000000
/-! The pure machine: readings of expressions. -/
namespace Pm
open PySem PySem.Spec L2

theorem PE.imp {X : Cx} {e : Expr} {t t' : TE} (h : PE X e t) (i : ∀ σ H Q, t' σ H Q → t σ H Q) : PE X e t' := ⟨fun pins s σ H Q I q => h.run pins s σ H Q I (i _ _ _ q)⟩
theorem PT.imp {X : Cx} {e : Expr} {t t' : TT} (h : PT X e t) (i : ∀ σ H Q, t' σ H Q → t σ H Q) : PT X e t' := ⟨fun pins s σ H Q I q => h.run pins s σ H Q I (i _ _ _ q)⟩
theorem PA.imp {X : Cx} {e : List Expr} {t t' : TA} (h : PA X e t) (i : ∀ σ H Q, t' σ H Q → t σ H Q) : PA X e t' := ⟨fun pos pins s σ H Q I q => h.run pos pins s σ H Q I (i _ _ _ q)⟩
theorem PO.imp {X : Cx} {e : Option Expr} {t t' : TO} (h : PO X e t) (i : ∀ σ H Q, t' σ H Q → t σ H Q) : PO X e t' := ⟨fun pins s σ H Q I q => h.run pins s σ H Q I (i _ _ _ q)⟩

/-- the weakest readings of an operation on values -/
def rW (X : Cx) (f : Value → Value → Sem Value) : R2 := fun x y H Q => ∃ r, OpR X f r ∧ r x y H Q
theorem opW {X : Cx} {f : Value → Value → Sem Value} : OpR X f (rW X f) := fun pins s σ H x y v u Q I rx ry ⟨r, ok, q⟩ => ok pins s σ H x y v u Q I rx ry q
def iW (X : Cx) : R2 := fun x y H Q => ∃ r, IxR X r ∧ r x y H Q
theorem ixW {X : Cx} : IxR X (iW X) := fun value slice pins s σ H x y v u Q I rx ry ⟨r, ok, q⟩ hs => ok value slice pins s σ H x y v u Q I rx ry q hs
def sW (X : Cx) : V → Option Int → Option Int → Hp → VK → Prop := fun x lo hi H Q => ∃ r, SlR X r ∧ r x lo hi H Q
theorem slW {X : Cx} : SlR X (sW X) := fun pins s σ H x v vl vu lo hi sl Q I rx hs pl pu ⟨r, ok, q⟩ => ok pins s σ H x v vl vu lo hi sl Q I rx hs pl pu q
def cW (X : Cx) (f : Value) : List V → Hp → VK → Prop := fun xs H Q => ∃ r, CallR X f r ∧ r xs H Q
theorem callW {X : Cx} {f : Value} : CallR X f (cW X f) := fun pins s σ H xs us Q I r ⟨q, ok, z⟩ => ok pins s σ H xs us Q I r z

/-- an exception's class and payload -/
def XR (K : PySem.W.Frag) (cs : Cls0) (g : Gh) (H : Hp) (c : Nat) (p : D) (cl : Value) (d : Option Addr) : Prop :=
  cl = .ref (cs.adr c) ∧ match cs.fld c with
  | some f => ∃ dx v, d = some dx ∧ H dx = some (.xd [(f, v)]) ∧ RD K g H v p
  | none => True

section
variable (K : PySem.W.Frag) (cs : Cls0)
def Post {α : Type} (H0 : Hp) (g0 : Gh) (σr : L2.St) (H : Hp) (g : Gh) (W : WX) (m : Res α) (k : α → List Slot → List Ob → Hp → Gh → Prop) : Prop :=
  match m with
  | .ok a σ h => ∀ H' g', Sim K cs H0 g0 σr H' g' σ h → Stp H g H' g' → k a σ h H' g'
  | .exc c p σ h => ∀ H' g' cl d, Sim K cs H0 g0 σr H' g' σ h → Stp H g H' g' → XR K cs g' H' c p cl d → W cl d σr H'
  | .stuck => False
end
section
variable {K : PySem.W.Frag} {cs : Cls0} {α β : Type} {H0 H H1 : Hp} {g0 g g1 : Gh} {σr : L2.St} {W : WX}
theorem Post.bind {m : Res α} {f : α → List Slot → List Ob → Res β} {k : β → List Slot → List Ob → Hp → Gh → Prop} {k1 : α → List Slot → List Ob → Hp → Gh → Prop} (P : Post K cs H0 g0 σr H g W (m.bind f) k) (st : Stp H g H1 g1)
    (h : ∀ a σ2 h2 H2 g2, Sim K cs H0 g0 σr H2 g2 σ2 h2 → Stp H1 g1 H2 g2 → Stp H g H2 g2 → Post K cs H0 g0 σr H g W (f a σ2 h2) k → k1 a σ2 h2 H2 g2) : Post K cs H0 g0 σr H1 g1 W m k1 := by
  cases m with
  | ok a σ hh => exact fun H2 g2 S st2 => h a σ hh H2 g2 S st2 (st.trans st2) P
  | exc c p σ hh => exact fun H2 g2 cl d S st2 x => P H2 g2 cl d S (st.trans st2) x
  | stuck => exact P.elim
theorem Post.sub {m : Res α} {k k1 : α → List Slot → List Ob → Hp → Gh → Prop} (P : Post K cs H0 g0 σr H g W m k) (st : Stp H g H1 g1)
    (h : ∀ a σ2 h2 H2 g2, Sim K cs H0 g0 σr H2 g2 σ2 h2 → Stp H1 g1 H2 g2 → k a σ2 h2 H2 g2 → k1 a σ2 h2 H2 g2) : Post K cs H0 g0 σr H1 g1 W m k1 := by
  cases m with
  | ok a σ hh => exact fun H2 g2 S st2 => h a σ hh H2 g2 S st2 (P H2 g2 S (st.trans st2))
  | exc c p σ hh => exact fun H2 g2 cl d S st2 x => P H2 g2 cl d S (st.trans st2) x
  | stuck => exact P.elim
theorem Post.mono {m : Res α} {k k1 : α → List Slot → List Ob → Hp → Gh → Prop} (P : Post K cs H0 g0 σr H g W m k)
    (h : ∀ a σ2 h2 H2 g2, m = .ok a σ2 h2 → Sim K cs H0 g0 σr H2 g2 σ2 h2 → Stp H g H2 g2 → k a σ2 h2 H2 g2 → k1 a σ2 h2 H2 g2) : Post K cs H0 g0 σr H g W m k1 := by
  cases m with
  | ok a σ hh => exact fun H2 g2 S st2 => h a σ hh H2 g2 rfl S st2 (P H2 g2 S st2)
  | exc c p σ hh => exact P
  | stuck => exact P.elim
end

/-- what an operand is -/
def OR (K : PySem.W.Frag) (σr : L2.St) (Hb H : Hp) (g : Gh) (v : V) : Opd → Prop
  | .r r => RR K Hb H g v r
  | .s i => σr[i]? = some (some v)

section
variable {K : PySem.W.Frag} {cs : Cls0} {H0 H Hb H' : Hp} {g0 g gb g' : Gh} {σr : L2.St} {σ : List Slot} {h : List Ob} {v : V} {Q : VK}
theorem OR.mono {o : Opd} (t : Stp H g H' g') (x : OR K σr Hb H g v o) : OR K σr Hb H' g' v o := by
  cases o with
  | r r => exact RR.mono t x
  | s i => exact x
theorem OR.base {o : Opd} {Ha : Hp} (t : ∀ a o, Ha a = some o → ∃ o', Hb a = some o') (x : OR K σr Hb H g v o) : OR K σr Ha H g v o := by
  cases o with
  | r r => exact RR.base t x
  | s i => exact x
theorem CR.of_ref {j : Nat} {ob : Ob} {xs : List D} (S : Sim K cs H0 g0 σr H g σ h) (e : h[j]? = some (.lst xs)) (r : RD K g H v (.ref j)) : CR K g H v (.lst xs) := by
  obtain ⟨a, e1, e2, vs, e3, rs⟩ := S.hs.ob j _ e
  cases r with
  | ref q =>
    rw [e1] at q
    cases q
    exact .inr ⟨a, vs, xs, rfl, rfl, e3, rs⟩
theorem CR.deref {d c : D} (S : Sim K cs H0 g0 σr H g σ h) (e : derefD h d = some c) (r : RD K g H v d) : CR K g H v c := by
  cases d with
  | ref j =>
    cases q : h[j]? with
    | none => simp [derefD, q] at e
    | some ob =>
      cases ob with
      | lst xs =>
        simp only [derefD, q, Option.some.injEq] at e
        subst e
        exact CR.of_ref (ob := .lst xs) S q r
      | ins _ _ => simp [derefD, q] at e
  | _ => cases e; exact .inl r
theorem CR.of {o : Opd} {c : D} (S : Sim K cs H0 g0 σr H g σ h) (e : cont σ h o = some c) (x : OR K σr Hb H g v o) : CR K g H v c := by
  cases o with
  | r r =>
    cases r with
    | v d => exact CR.deref S e x
    | o xs =>
      cases e
      obtain ⟨a, vs, e1, _, e2, _, rs⟩ := x
      exact .inr ⟨a, vs, xs, e1, rfl, e2, rs⟩
  | s i =>
    cases q : σ[i]? with
    | none => simp [cont, q] at e
    | some sl =>
      simp only [cont, q] at e
      have z := S.sl i _ q
      have x' : σr[i]? = some (some v) := x
      cases sl with
      | un => cases e
      | v d =>
        obtain ⟨v', e1, r⟩ := z
        rw [x'] at e1
        cases e1
        exact CR.deref S e r
      | o xs =>
        cases e
        obtain ⟨a, vs, e1, e2, _, _, rs⟩ := z
        rw [x'] at e1
        cases e1
        exact .inr ⟨a, vs, xs, rfl, rfl, e2, rs⟩
      | x c p => cases e
theorem CR.int {i : Int} (x : CR K g H v (.int i)) : v = .int i := by
  rcases x with x | ⟨_, _, _, _, e, _⟩
  · cases x; rfl
  · cases e
theorem CR.bl {i : Bool} (x : CR K g H v (.bl i)) : v = .bl i := by
  rcases x with x | ⟨_, _, _, _, e, _⟩
  · cases x; rfl
  · cases e
theorem CR.non (x : CR K g H v .non) : v = .non := by
  rcases x with x | ⟨_, _, _, _, e, _⟩
  · cases x; rfl
  · cases e
theorem CR.str {i : Str} (x : CR K g H v (.str i)) : v = .str i := by
  rcases x with x | ⟨_, _, _, _, e, _⟩
  · cases x; rfl
  · cases e
theorem CR.tup {ds : List D} (x : CR K g H v (.tup ds)) : ∃ a vs, v = .ref a ∧ SqT K H a vs ∧ RDs K g H vs ds := by
  rcases x with x | ⟨_, _, _, _, e, _⟩
  · cases x with
    | tup h1 h2 => exact ⟨_, _, rfl, h1, h2⟩
  · cases e
theorem CR.lst {ds : List D} (x : CR K g H v (.lst ds)) : ∃ a vs, v = .ref a ∧ H a = some (.lst vs) ∧ RDs K g H vs ds := by
  rcases x with x | ⟨a, vs, xs, e1, e, e2, rs⟩
  · cases x with
    | lst h1 _ h2 => exact ⟨_, _, rfl, h1, h2⟩
  · cases e
    exact ⟨a, vs, e1, e2, rs⟩
/-- a new tuple, a new list -/
theorem new_tup {vs : List V} {ds : List D} (S : Sim K cs H0 g0 σr H g σ h) (st : Stp Hb gb H g) (rs : RDs K g H vs ds) (F : ∀ H' g', Sim K cs H0 g0 σr H' g' σ h → Stp Hb gb H' g' → ∀ w, RR K Hb H' g' w (.v (.tup ds)) → Q w H') :
    ∀ p, H p = none → Q (.ref p) (upd H p (.tup vs)) := fun p hp =>
  F _ g (S.new hp) (st.trans (Stp.new S.hs hp)) _ (RD.tup (SqT.of upd_same) (RDs.mono (Stp.new S.hs hp) rs))
theorem none_base (st : Stp Hb gb H g) {p : Addr} (hp : H p = none) : Hb p = none := by
  cases q : Hb p with
  | none => rfl
  | some o =>
    obtain ⟨o', z⟩ := st.there p o q
    rw [hp] at z
    cases z
theorem new_lst {vs : List V} {ds : List D} (S : Sim K cs H0 g0 σr H g σ h) (st : Stp Hb gb H g) (rs : RDs K g H vs ds) (F : ∀ H' g', Sim K cs H0 g0 σr H' g' σ h → Stp Hb gb H' g' → ∀ w, RR K Hb H' g' w (.o ds) → Q w H') :
    ∀ p, H p = none → Q (.ref p) (upd H p (.lst vs)) := fun p hp =>
  F _ g (S.new hp) (st.trans (Stp.new S.hs hp)) _ ⟨p, vs, rfl, none_base st hp, upd_same, S.hs.nofr p hp, RDs.mono (Stp.new S.hs hp) rs⟩
theorem RDs.append : ∀ {xs ys : List V} {ds es : List D}, RDs K g H xs ds → RDs K g H ys es → RDs K g H (xs ++ ys) (ds ++ es)
  | _, _, _, _, .nil, h => h
  | _, _, _, _, .cons h1 h2, h => .cons h1 (RDs.append h2 h)
theorem RDs.rep {xs : List V} {ds : List D} (r : RDs K g H xs ds) : ∀ k : Nat, RDs K g H (List.replicate k xs).flatten (List.replicate k ds).flatten
  | 0 => .nil
  | k + 1 => by
    rw [List.replicate_succ, List.replicate_succ, List.flatten_cons, List.flatten_cons]
    exact RDs.append r (RDs.rep r k)
theorem RDs.drop {xs : List V} {ds : List D} (r : RDs K g H xs ds) : ∀ k : Nat, RDs K g H (xs.drop k) (ds.drop k) := by
  intro k
  induction k generalizing xs ds with
  | zero => exact r
  | succ k ih =>
    cases r with
    | nil => exact .nil
    | cons _ h2 => exact ih h2
theorem RDs.take {xs : List V} {ds : List D} (r : RDs K g H xs ds) : ∀ k : Nat, RDs K g H (xs.take k) (ds.take k) := by
  intro k
  induction k generalizing xs ds with
  | zero => exact .nil
  | succ k ih =>
    cases r with
    | nil => exact .nil
    | cons h1 h2 => exact .cons h1 (ih h2)
theorem RDs.reverse {xs : List V} {ds : List D} (r : RDs K g H xs ds) : RDs K g H xs.reverse ds.reverse := by
  induction r using RDs.rec (motive_1 := fun _ _ _ => True) with
  | nil => exact .nil
  | cons h1 h2 _ ih =>
    rw [List.reverse_cons, List.reverse_cons]
    exact RDs.append ih (.cons h1 .nil)
  | _ => trivial
theorem RDs.set {xs : List V} {ds : List D} {d : D} (r : RDs K g H xs ds) (q : RD K g H v d) : ∀ k : Nat, RDs K g H (xs.set k v) (ds.set k d) := by
  intro k
  induction k generalizing xs ds with
  | zero =>
    cases r with
    | nil => exact .nil
    | cons h1 h2 => exact .cons q h2
  | succ k ih =>
    cases r with
    | nil => exact .nil
    | cons h1 h2 => exact .cons h1 (ih h2)
theorem RDs.eraseIdx {xs : List V} {ds : List D} (r : RDs K g H xs ds) : ∀ k : Nat, RDs K g H (xs.eraseIdx k) (ds.eraseIdx k) := by
  intro k
  induction k generalizing xs ds with
  | zero =>
    cases r with
    | nil => exact .nil
    | cons h1 h2 => exact h2
  | succ k ih =>
    cases r with
    | nil => exact .nil
    | cons h1 h2 => exact .cons h1 (ih h2)
theorem RDs.nil_iff {xs : List V} {ds : List D} (r : RDs K g H xs ds) : xs = [] ↔ ds = [] := by
  cases r with
  | nil => simp
  | cons _ _ => simp
theorem flatten_length_rep {α : Type} (xs : List α) (k : Nat) : ((List.replicate k xs).flatten).length = xs.length * k := by simp [Nat.mul_comm]
end

/-! ### operators -/
section
variable {X : Cx} {cs : Cls0} {H0 H Hb : Hp} {g0 g gb : Gh} {σr : L2.St} {σ : List Slot} {h : List Ob} {v u : V} {Q : VK} {c d : D} {r : R}
/-- the end of an operation: what is wanted of its result -/
abbrev Fin (K : PySem.W.Frag) (cs : Cls0) (H0 : Hp) (g0 : Gh) (σr : L2.St) (Hb : Hp) (gb : Gh) (σ : List Slot) (h : List Ob) (r : R) (Q : VK) : Prop :=
  ∀ H' g', Sim K cs H0 g0 σr H' g' σ h → Stp Hb gb H' g' → ∀ w, RR K Hb H' g' w r → Q w H'
theorem binop_ok {op : BOp} {o : Operator} (ho : o = match op with | .add => .Add | .sub => .Sub | .mul => .Mult | .fdiv => .FloorDiv | .mod => .Mod | .pow => .Pow) (e : binop op c d = some r)
    (S : Sim X.K cs H0 g0 σr H g σ h) (st : Stp Hb gb H g) (x : CR X.K g H v c) (y : CR X.K g H u d) (F : Fin X.K cs H0 g0 σr Hb gb σ h r Q) : rW X (binaryOp o) v u H Q := by
  unfold binop at e
  split at e
  · -- int + int
    rename_i i j
    cases e
    subst ho
    exact ⟨_, op_add, i, j, x.int, y.int, F H g S st _ (.int _)⟩
  · rename_i i j
    split at e
    · cases e
      subst ho
      rename_i hz
      exact ⟨_, op_add_str, i, j, x.str, y.str, hz, F H g S st _ (.str _)⟩
    · cases e
  · rename_i i j
    split at e
    · cases e
      subst ho
      rename_i hz
      obtain ⟨a, vs, rfl, e1, r1⟩ := x.lst
      obtain ⟨b, us, rfl, e2, r2⟩ := y.lst
      exact ⟨_, op_cat, a, b, vs, us, rfl, rfl, e1, e2, by rw [r1.len, r2.len]; exact hz, new_lst S st (r1.append r2) F⟩
    · cases e
  · rename_i i j
    split at e
    · cases e
      subst ho
      rename_i hz
      obtain ⟨a, vs, rfl, e1, r1⟩ := x.tup
      obtain ⟨b, us, rfl, e2, r2⟩ := y.tup
      refine ⟨_, op_catA, a, b, vs, us, rfl, rfl, e1, e2, by rw [r1.len, r2.len]; exact hz, fun z => ?_, fun _ z => ?_, fun _ _ => new_tup S st (r1.append r2) F⟩
      · subst z
        have z' := r1.nil_iff.mp rfl
        subst z'
        exact F H g S st _ (.tup e2 r2)
      · subst z
        have z' := r2.nil_iff.mp rfl
        subst z'
        rw [List.append_nil] at F
        exact F H g S st _ (.tup e1 r1)
    · cases e
  · rename_i i j
    cases e
    subst ho
    exact ⟨_, op_sub, i, j, x.int, y.int, F H g S st _ (.int _)⟩
  · rename_i i j
    split at e
    · cases e
      subst ho
      rename_i hz
      exact ⟨_, op_mul, i, j, x.int, y.int, hz, F H g S st _ (.int _)⟩
    · cases e
  · rename_i xs k
    split at e
    · cases e
      subst ho
      rename_i hz
      obtain ⟨z1, z2, z3⟩ := hz
      obtain ⟨a, vs, rfl, e1, r1⟩ := x.lst
      have e2 := y.int
      subst e2
      exact ⟨_, op_rep, a, k, vs, rfl, rfl, e1, z1, z2, by rw [r1.len]; exact z3, new_lst S st (r1.rep _) F⟩
    · cases e
  · rename_i xs k
    split at e
    · cases e
      subst ho
      rename_i hz
      obtain ⟨z1, z2, z3, z4⟩ := hz
      obtain ⟨a, vs, rfl, e1, r1⟩ := x.tup
      have e2 := y.int
      subst e2
      exact ⟨_, op_repT, a, k, vs, rfl, rfl, e1, fun w => z1 (r1.nil_iff.mp w), z2, z3, by rw [r1.len]; exact z4, new_tup S st (r1.rep _) F⟩
    · cases e
  · rename_i i j
    split at e
    · cases e
      subst ho
      rename_i hz
      exact ⟨_, op_fdiv, i, j, x.int, y.int, hz, F H g S st _ (.int _)⟩
    · cases e
  · rename_i i j
    split at e
    · cases e
      subst ho
      rename_i hz
      exact ⟨_, op_mod, i, j, x.int, y.int, hz, F H g S st _ (.int _)⟩
    · cases e
  · rename_i i j
    split at e
    · cases e
      subst ho
      rename_i hz
      obtain ⟨z1, z2, z3, z4⟩ := hz
      exact ⟨_, op_pow, i, j, x.int, y.int, ⟨z1, by omega, by omega⟩, F H g S st _ (.int _)⟩
    · cases e
  · cases e

/-! ### comparisons -/
def rEqX (K : PySem.W.Frag) (k : Bool) : R2 := fun x y H Q => ∃ g c d b, CR K g H x c ∧ CR K g H y d ∧ eqF F60 c d = some b ∧ Q (.bl (if k then b else !b)) H
theorem op_eqX (hu : X.A.units + F60 < cLine) : OpR X (compareOp .Eq) (rEqX X.K true) := by
  intro pins s σ H x y v u Q I rx ry ⟨g, c, d, b, hc, hd, e, q⟩
  have z := (eq_ok I F60 c d v u b e (seen_of I rx hc) (seen_of I ry hd) X.A hu).1
  exact z X.prog X.w X.xe _ ⟨.bl b, H, I, rfl, q⟩
theorem op_neX (hu : X.A.units + F60 < cLine) : OpR X (compareOp .NotEq) (rEqX X.K false) := by
  intro pins s σ H x y v u Q I rx ry ⟨g, c, d, b, hc, hd, e, q⟩
  have z := (eq_ok I F60 c d v u b e (seen_of I rx hc) (seen_of I ry hd) X.A hu).2
  exact z X.prog X.w X.xe _ ⟨.bl (!b), H, I, rfl, q⟩
theorem flat_of {K : PySem.W.Frag} {d : D} (f : flatD d = true) (x : RD K g H v d) : flatV v = true := by
  cases x <;> first | rfl | cases f
theorem eqV_of {K : PySem.W.Frag} {c d : D} (f : flatD c = true) (f' : flatD d = true) (x : RD K g H v c) (y : RD K g H u d) : eqV v u = (eq0 c d).getD false := by
  cases x <;> cases y <;> first | rfl | cases f | cases f'
theorem flats_of {K : PySem.W.Frag} : ∀ {ds : List D} {vs : List V}, ds.all flatD = true → RDs K g H vs ds → vs.all flatV = true
  | _, _, _, .nil => rfl
  | _, _, f, .cons h1 h2 => by
    rw [List.all_cons, Bool.and_eq_true] at f ⊢
    exact ⟨flat_of f.1 h1, flats_of f.2 h2⟩
theorem inV_of {K : PySem.W.Frag} {c : D} (fc : flatD c = true) (x : RD K g H u c) : ∀ {ds : List D} {vs : List V}, ds.all flatD = true → RDs K g H vs ds → inV u vs = ds.any fun y => (eq0 y c).getD false
  | _, _, _, .nil => rfl
  | _, _, f, .cons h1 h2 => by
    rw [List.all_cons, Bool.and_eq_true] at f
    have ih := inV_of fc x f.2 h2
    show (eqV _ u || _) = _
    rw [List.any_cons, eqV_of f.1 fc h1 x, ← ih]
    rfl
theorem CR.flat {K : PySem.W.Frag} {c : D} (f : flatD c = true) (x : CR K g H v c) : RD K g H v c := by
  rcases x with x | ⟨_, _, _, _, e, _⟩
  · exact x
  · subst e; cases f
theorem inL_ok {K : PySem.W.Frag} {neg b : Bool} {xs : List D} {p : Addr} {vs : List V} (e : inL c xs = some b) (x : CR K g H v c) (hp : SqL K H p vs ∨ SqT K H p vs) (rs : RDs K g H vs xs) (q : Q (.bl (if neg then !b else b)) H) : rIn K neg v (.ref p) H Q := by
  unfold inL at e
  split at e
  · rename_i f
    rw [Bool.and_eq_true] at f
    cases e
    have x' := x.flat f.1
    refine ⟨p, vs, rfl, hp, flat_of f.1 x', flats_of f.2 rs, ?_⟩
    rw [inV_of f.1 x' f.2 rs]
    exact q
  · cases e
theorem isNon_of {K : PySem.W.Frag} (x : CR K g H v c) : decide (v = V.non) = isNon c := by
  rcases x with x | ⟨_, _, _, e1, e, _⟩
  · cases x <;> first | rfl | simp [isNon]
  · subst e1 e; simp [isNon]
theorem cmpop_ok {op : COp} {o : CmpOp} {b : Bool} (hu : X.A.units + F60 < cLine)
    (ho : o = match op with | .eq => .Eq | .ne => .NotEq | .lt => .Lt | .le => .LtE | .gt => .Gt | .ge => .GtE | .isn => .Is | .isnn => .IsNot | .isb => .Is | .isnb => .IsNot | .mem => .In | .nmem => .NotIn)
    (e : cmpop op c d = some b) (x : CR X.K g H v c) (y : CR X.K g H u d) (q : Q (.bl b) H) : rW X (compareOp o) v u H Q := by
  unfold cmpop at e
  split at e
  · subst ho
    exact ⟨_, op_eqX hu, g, _, _, b, x, y, e, q⟩
  · subst ho
    cases z : eqF F60 c d with
    | none => rw [z] at e; cases e
    | some k =>
      rw [z] at e
      cases e
      exact ⟨_, op_neX hu, g, _, _, k, x, y, z, q⟩
  · subst ho; rename_i i j; cases e; exact ⟨_, op_lt, i, j, x.int, y.int, q⟩
  · subst ho; rename_i i j; cases e; exact ⟨_, op_le, i, j, x.int, y.int, q⟩
  · subst ho; rename_i i j; cases e; exact ⟨_, op_gt, i, j, x.int, y.int, q⟩
  · subst ho; rename_i i j; cases e; exact ⟨_, op_ge, i, j, x.int, y.int, q⟩
  · subst ho
    cases e
    refine ⟨_, op_isN, y.non, ?_⟩
    rw [isNon_of x]
    exact q
  · subst ho
    cases e
    refine ⟨_, op_notN, y.non, ?_⟩
    rw [isNon_of x]
    exact q
  · subst ho
    rename_i a b'
    cases e
    exact ⟨_, op_isBl, a, b', x.bl, y.bl, by rw [show decide (a = b') = (a == b') from rfl]; exact q⟩
  · subst ho
    rename_i a b'
    cases e
    exact ⟨_, op_notBl, a, b', x.bl, y.bl, by rw [show decide (a = b') = (a == b') from rfl]; exact q⟩
  · subst ho
    obtain ⟨a, vs, rfl, e1, r1⟩ := y.lst
    exact ⟨_, op_in_seq, inL_ok (neg := false) e x (.inl (SqL.of e1)) r1 q⟩
  · subst ho
    obtain ⟨a, vs, rfl, e1, r1⟩ := y.tup
    exact ⟨_, op_in_seq, inL_ok (neg := false) e x (.inr e1) r1 q⟩
  · subst ho
    rename_i xs
    obtain ⟨a', vs, rfl, e1, r1⟩ := y.lst
    cases z : inL c xs with
    | none => rw [z] at e; cases e
    | some k =>
      rw [z] at e
      cases e
      exact ⟨_, op_notIn_seq, inL_ok (neg := true) z x (.inl (SqL.of e1)) r1 q⟩
  · subst ho
    rename_i xs
    obtain ⟨a', vs, rfl, e1, r1⟩ := y.tup
    cases z : inL c xs with
    | none => rw [z] at e; cases e
    | some k =>
      rw [z] at e
      cases e
      exact ⟨_, op_notIn_seq, inL_ok (neg := true) z x (.inr e1) r1 q⟩
  · cases e

/-! ### items and slices -/
theorem ixD_at {K : PySem.W.Frag} {xs : List D} {vs : List V} {i : Int} (rs : RDs K g H vs xs) (e : ixD xs i = some d) : ∃ w, atI vs i = some w ∧ RD K g H w d := by
  unfold ixD at e
  have hl := rs.len
  split at e
  · rename_i h0
    have hlt := (List.getElem?_eq_some_iff.mp e).1
    obtain ⟨w, e1, r⟩ := rs.get e
    refine ⟨w, ?_, r⟩
    unfold atI L2.ixN
    rw [if_pos h0, if_pos (by omega)]
    exact e1
  · rename_i h0
    split at e
    · rename_i h1
      obtain ⟨w, e1, r⟩ := rs.get e
      refine ⟨w, ?_, r⟩
      unfold atI L2.ixN
      rw [if_neg h0, if_pos (by omega)]
      show vs[(i + (vs.length : Int)).toNat]? = _
      rw [hl]
      exact e1
    · cases e
theorem index_ok {w : D} (e : index c d = some w) (x : CR X.K g H v c) (y : CR X.K g H u d) (q : ∀ z, RD X.K g H z w → Q z H) : iW X v u H Q := by
  unfold index at e
  split at e
  · rename_i xs i
    obtain ⟨a, vs, rfl, e1, r1⟩ := x.lst
    obtain ⟨z, e2, r2⟩ := ixD_at r1 e
    exact ⟨_, ix_list, a, vs, i, z, rfl, y.int, SqL.of e1, e2, q z r2⟩
  · rename_i xs i
    obtain ⟨a, vs, rfl, e1, r1⟩ := x.tup
    obtain ⟨z, e2, r2⟩ := ixD_at r1 e
    exact ⟨_, ix_tup, a, vs, i, z, rfl, y.int, e1, e2, q z r2⟩
  · cases e
theorem sIx_eq (n d : Nat) (o : Option Int) : HT.sIx n d o = sIx n d o := by
  cases o with
  | none => rfl
  | some i =>
    unfold sIx HT.sIx
    first
      | rfl
      | (split <;> split <;> omega)
      | (simp only []; split <;> omega)
theorem cut_ok {K : PySem.W.Frag} {xs : List D} {vs : List V} {lo hi : Option Int} (rs : RDs K g H vs xs) : RDs K g H (cutV vs lo hi) (cutL xs lo hi) := by
  unfold cutV cutL
  rw [sIx_eq, sIx_eq, rs.len]
  exact (rs.drop _).take _
theorem slice_ok {lo hi : Option Int} (e : slice c lo hi = some r) (S : Sim X.K cs H0 g0 σr H g σ h) (st : Stp Hb gb H g) (x : CR X.K g H v c) (F : Fin X.K cs H0 g0 σr Hb gb σ h r Q) : sW X v lo hi H Q := by
  unfold slice at e
  split at e
  · cases e
    obtain ⟨a, vs, rfl, e1, r1⟩ := x.lst
    exact ⟨_, sl_list, a, vs, rfl, SqL.of e1, new_lst S st (cut_ok r1) F⟩
  · cases e
    rename_i xs
    obtain ⟨a, vs, rfl, e1, r1⟩ := x.tup
    refine ⟨_, sl_tupA, a, vs, rfl, e1, fun ⟨w1, w2⟩ => ?_, fun _ => new_tup S st (cut_ok r1) F⟩
    have whole : cutL xs lo hi = xs := by
      unfold cutL
      rw [sIx_eq, r1.len] at w1 w2
      rw [w1, w2]
      simp
    rw [whole] at F
    exact F H g S st _ (.tup e1 r1)
  · cases e
end
end Pm

set_option Elab.async false
set_option linter.all false
set_option maxRecDepth 100000
set_option maxHeartbeats 4000000
/-! The pure machine: built-in functions. -/
namespace Pm
open PySem PySem.Spec L2
section
variable {X : Cx} {cs : Cls0} {H0 H Hb : Hp} {g0 g gb : Gh} {σr : L2.St} {σ : List Slot} {h : List Ob} {v u : V} {Q : VK} {c d : D} {r : R}

theorem ints_vs {K : PySem.W.Frag} : ∀ {ds : List D} {vs : List V} {ns : List Int}, intsD ds = some ns → RDs K g H vs ds → vs = ns.map V.int
  | _, _, _, e, .nil => by cases e; rfl
  | _, _, _, e, .cons h1 h2 => by
    cases h1 with
    | int i =>
      rename_i vs' ds' 
      unfold intsD at e
      cases q : intsD _ with
      | none => rw [q] at e; cases e
      | some ms =>
        rw [q] at e
        cases e
        rw [ints_vs q h2]
        rfl
    | _ => cases e
theorem ints_rd {K : PySem.W.Frag} : ∀ {ns : List Int}, RDs K g H (ns.map V.int) (ns.map D.int)
  | [] => .nil
  | _ :: _ => .cons (.int _) ints_rd
theorem bools_vs {K : PySem.W.Frag} : ∀ {ds : List D} {vs : List V} {ns : List Bool}, boolsD ds = some ns → RDs K g H vs ds → vs = ns.map V.bl
  | _, _, _, e, .nil => by cases e; rfl
  | _, _, _, e, .cons h1 h2 => by
    cases h1 with
    | bl i =>
      unfold boolsD at e
      cases q : boolsD _ with
      | none => rw [q] at e; cases e
      | some ms =>
        rw [q] at e
        cases e
        rw [bools_vs q h2]
        rfl
    | _ => cases e
theorem maxL_mem : ∀ (r : List Int) (a : Int), maxL a r ∈ a :: r ∧ ∀ y ∈ a :: r, y ≤ maxL a r
  | [], a => by simp [maxL]
  | b :: r, a => by
    obtain ⟨h1, h2⟩ := maxL_mem r (if b > a then b else a)
    unfold maxL
    constructor
    · rcases List.mem_cons.mp h1 with e | e
      · rw [e]; split <;> simp
      · exact List.mem_cons_of_mem _ (List.mem_cons_of_mem _ e)
    · intro y hy
      have h3 := h2 _ List.mem_cons_self
      rcases List.mem_cons.mp hy with e | e
      · rw [e]
        revert h3
        generalize maxL (if b > a then b else a) r = M
        intro h3
        split at h3 <;> omega
      · rcases List.mem_cons.mp e with e | e
        · rw [e]
          revert h3
          generalize maxL (if b > a then b else a) r = M
          intro h3
          split at h3 <;> omega
        · exact h2 _ (List.mem_cons_of_mem _ e)
theorem minL_mem : ∀ (r : List Int) (a : Int), minL a r ∈ a :: r ∧ ∀ y ∈ a :: r, minL a r ≤ y
  | [], a => by simp [minL]
  | b :: r, a => by
    obtain ⟨h1, h2⟩ := minL_mem r (if b < a then b else a)
    unfold minL
    constructor
    · rcases List.mem_cons.mp h1 with e | e
      · rw [e]; split <;> simp
      · exact List.mem_cons_of_mem _ (List.mem_cons_of_mem _ e)
    · intro y hy
      have h3 := h2 _ List.mem_cons_self
      rcases List.mem_cons.mp hy with e | e
      · rw [e]
        revert h3
        generalize minL (if b < a then b else a) r = M
        intro h3
        split at h3 <;> omega
      · rcases List.mem_cons.mp e with e | e
        · rw [e]
          revert h3
          generalize minL (if b < a then b else a) r = M
          intro h3
          split at h3 <;> omega
        · exact h2 _ (List.mem_cons_of_mem _ e)

/-- the built-in that is called -/
def fval : F1 → Option (Str × Value)
  | .len => some ("len", .builtin "len")
  | .abs => some ("abs", .builtin "abs")
  | .sum => some ("sum", .builtin "sum")
  | .max => some ("max", .builtin "max")
  | .min => some ("min", .builtin "min")
  | .all => some ("all", .builtin "all")
  | .list => some ("list", .type "list")
  | .tuple => some ("tuple", .type "tuple")
  | .int => some ("int", .type "int")
  | .str => none
  | _ => none
theorem fn1_ok {f : F1} {nm : Str} {fv : Value} (hc : X.calm = true) (hf : fval f = some (nm, fv)) (e : fn1 f c = some r) (S : Sim X.K cs H0 g0 σr H g σ h) (st : Stp Hb gb H g) (x : CR X.K g H v c) (F : Fin X.K cs H0 g0 σr Hb gb σ h r Q) : cW X fv [v] H Q := by
  unfold fn1 at e
  split at e
  · cases e; cases hf
    obtain ⟨a, vs, rfl, e1, r1⟩ := x.lst
    refine ⟨_, call_len_seq, a, vs, rfl, .inl (SqL.of e1), ?_⟩
    rw [r1.len]
    exact F H g S st _ (.int _)
  · cases e; cases hf
    obtain ⟨a, vs, rfl, e1, r1⟩ := x.tup
    refine ⟨_, call_len_seq, a, vs, rfl, .inr e1, ?_⟩
    rw [r1.len]
    exact F H g S st _ (.int _)
  · split at e
    · cases e; cases hf
      rename_i hz
      exact ⟨_, call_len_str, _, by rw [x.str], hz, F H g S st _ (.int _)⟩
    · cases e
  · cases e; cases hf
    exact ⟨_, call_abs, _, by rw [x.int], F H g S st _ (.int _)⟩
  · cases hf
    rename_i xs
    cases q : intsD xs with
    | none => rw [q] at e; cases e
    | some ns =>
      rw [q] at e
      cases e
      obtain ⟨a, vs, rfl, e1, r1⟩ := x.lst
      have e2 := ints_vs q r1
      subst e2
      exact ⟨_, cr_sum hc, a, ns, rfl, SqL.of e1, F H g S st _ (.int _)⟩
  · cases hf
    rename_i xs
    split at e
    · rename_i a0 r0 q
      cases e
      obtain ⟨a, vs, rfl, e1, r1⟩ := x.lst
      have e2 := ints_vs q r1
      subst e2
      refine ⟨_, cr_max hc, a, _, rfl, SqL.of e1, by simp, fun m hm hle => ?_⟩
      obtain ⟨h1, h2⟩ := maxL_mem r0 a0
      have em : m = maxL a0 r0 := Int.le_antisymm (h2 m hm) (hle _ h1)
      rw [em]
      exact F H g S st _ (.int _)
    · cases e
  · cases hf
    rename_i xs
    split at e
    · rename_i a0 r0 q
      cases e
      obtain ⟨a, vs, rfl, e1, r1⟩ := x.lst
      have e2 := ints_vs q r1
      subst e2
      refine ⟨_, cr_min hc, a, _, rfl, SqL.of e1, by simp, fun m hm hle => ?_⟩
      obtain ⟨h1, h2⟩ := minL_mem r0 a0
      have em : m = minL a0 r0 := Int.le_antisymm (hle _ h1) (h2 m hm)
      rw [em]
      exact F H g S st _ (.int _)
    · cases e
  · cases hf
    rename_i xs
    cases q : boolsD xs with
    | none => rw [q] at e; cases e
    | some ns =>
      rw [q] at e
      cases e
      obtain ⟨a, vs, rfl, e1, r1⟩ := x.lst
      have e2 := bools_vs q r1
      subst e2
      exact ⟨_, cr_all hc, a, ns, rfl, SqL.of e1, F H g S st _ (.bl _)⟩
  · cases e; cases hf
    obtain ⟨a, vs, rfl, e1, r1⟩ := x.lst
    exact ⟨_, call_list_of, a, vs, rfl, .inl (SqL.of e1), new_lst S st r1 F⟩
  · cases e; cases hf
    obtain ⟨a, vs, rfl, e1, r1⟩ := x.tup
    exact ⟨_, call_list_of, a, vs, rfl, .inr e1, new_lst S st r1 F⟩
  · cases e; cases hf
    obtain ⟨a, vs, rfl, e1, r1⟩ := x.lst
    exact ⟨_, call_tuple_of, a, vs, rfl, .inl ⟨SqL.of e1, new_tup S st r1 F⟩⟩
  · cases e; cases hf
    obtain ⟨a, vs, rfl, e1, r1⟩ := x.tup
    exact ⟨_, call_tuple_of, a, vs, rfl, .inr ⟨e1, F H g S st _ (.tup e1 r1)⟩⟩
  · cases e; cases hf
    exact ⟨_, call_int1, .inr ⟨_, by rw [x.bl], F H g S st _ (.int _)⟩⟩
  · cases e; cases hf
    exact ⟨_, call_int1, .inl ⟨_, by rw [x.int], F H g S st _ (.int _)⟩⟩
  · split at e
    · rename_i z hz
      cases hf
      cases q : intText? z with
      | none => rw [q] at e; cases e
      | some n =>
        rw [q] at e
        cases e
        exact ⟨_, call_int_str, z, n, by rw [x.str], q, hz, F H g S st _ (.int _)⟩
    · cases e
  all_goals (first | cases hf | cases e)

/-- isinstance -/
def tyName : Ty → String
  | .int => "int"
  | .bool => "bool"
  | .tuple => "tuple"
  | .str => "str"
  | .list => "list"
def tyOfD : D → Option String
  | .non => some "NoneType"
  | .bl _ => some "bool"
  | .int _ => some "int"
  | .str _ => some "str"
  | .tup _ => some "tuple"
  | .lst _ => some "list"
  | _ => none
theorem sqT_ty {K : PySem.W.Frag} {a : Addr} {vs : List V} (h : SqT K H a vs) : TyX K H (.ref a) (.type "tuple") := by
  rcases h with (h | ⟨o, h⟩) | ⟨o, _, _, h1, h2, _⟩
  · exact .base (.tup h)
  · exact .fTuple h
  · exact .kTuple h1 h2
theorem tyx_of {K : PySem.W.Frag} {n : String} (e : tyOfD c = some n) (x : CR K g H v c) : TyX K H v (.type n) := by
  rcases x with x | ⟨a, vs, xs, rfl, rfl, e2, _⟩
  · cases x with
    | non => cases e; exact .base .non
    | bl _ => cases e; exact .base (.bl _)
    | int _ => cases e; exact .base (.int _)
    | str _ => cases e; exact .base (.str _)
    | tup h1 _ => cases e; exact sqT_ty h1
    | lst h1 _ _ => cases e; exact .base (.lst h1)
    | scr _ => cases e
    | ref _ => cases e
  · cases e; exact .base (.lst e2)
def tyB (n : String) : Ty → Bool
  | .int => n == "int" || n == "bool"
  | .bool => n == "bool"
  | .tuple => n == "tuple"
  | .str => n == "str"
  | .list => n == "list"
theorem isTy_eq {t : Ty} {n : String} (e : tyOfD c = some n) : isTy t c = tyB n t := by
  cases c <;> cases e <;> cases t <;> rfl
theorem kitB_eq {t : Ty} {n : String} (e : n = "NoneType" ∨ n = "bool" ∨ n = "int" ∨ n = "str" ∨ n = "tuple" ∨ n = "list") : kitB n (tyName t) = some (tyB n t) := by
  rcases e with rfl | rfl | rfl | rfl | rfl | rfl <;> cases t <;> decide +kernel
theorem isi_ok {t : Ty} {n : String} (e : tyOfD c = some n) (x : CR X.K g H v c) (q : Q (.bl (isTy t c)) H) : cW X (.builtin "isinstance") [v, .ty (tyName t)] H Q := by
  refine ⟨_, call_isi, v, .ty (tyName t), .type n, .type (tyName t), isTy t c, rfl, .ty _, tyx_of e x, ?_, q⟩
  refine kit_ty ?_
  rw [isTy_eq e]
  refine kitB_eq ?_
  cases c <;> cases e <;> simp
end
end Pm

set_option Elab.async false
set_option linter.all false
set_option maxRecDepth 100000
set_option maxHeartbeats 4000000
/-! The pure machine: what a for walks: lists and tuples alike, ranges, enumerate over both. -/
namespace Pm
open PySem PySem.Spec PyProof.Rows L2

/-- enumerate(v) for any v that begins an iterator -/
theorem enum_new {v : Value} {o : Obj} {Hv : Heap → Prop} (B : Begins v o Hv) : Meets (Builtin.«enumerate.__new__» ⟨[.type "enumerate", v], []⟩) (fun _ R s => Hv s.heap ∧
    R (.ok (.ret (.ref (s.heap.push o).objs.size))) { s with heap := (s.heap.push o).push { cls := .type "enumerate", data := .fields #[.none, .bool false, .ref s.heap.objs.size, rawInt 0, .none, .none] } }) :=
  .of_wp fun prog w A R ⟨hp, gs, dr, tk, os⟩ ⟨hv, hr⟩ => by
    have sub0 := sub_enumerate
    have begin_ : ∀ {A' : Around} {E : Value → Shared → Prop} {Q : Value → Shared → Prop}, Q (.ref hp.objs.size) ⟨hp.push o, gs, dr, tk, os⟩ → wpAny (model prog w) A' (pyIter v) Q E ⟨hp, gs, dr, tk, os⟩ :=
      fun hq => B.iter prog w _ _ ⟨hp, gs, dr, tk, os⟩ _ hv hq
    wp_walk using begin_
    refine wpAny_stack_any fun below => wpAny_pure ?_
    split
    case h_1 c _ _ _ _ _ => cases (c == Value.type "enumerate") <;> (wp_walk using begin_; exact ⟨_, rfl, hr⟩)
    case h_2 => wp_walk using begin_; exact ⟨_, rfl, hr⟩
section
variable {prog : Program} {w : World} {A : Around} {E : Value → Shared → Prop} {s : Shared}
theorem call_enum {v : Value} {o : Obj} {Hv : Heap → Prop} {Q : Value → Shared → Prop} (B : Begins v o Hv) (hv : Hv s.heap)
    (hq : ∀ h', IsEnum h' (s.heap.objs.size + 1) s.heap.objs.size 0 .none → h'.get? s.heap.objs.size = some o → (∀ b ob, s.heap.get? b = some ob → h'.get? b = some ob) → Q (.ref (s.heap.objs.size + 1)) { s with heap := h' }) :
    wpAny (model prog w) A (PySem.call (.type "enumerate") [v]) Q E s := by
  have size1 : (s.heap.push o).objs.size = s.heap.objs.size + 1 := Heap.size_push ..
  have made : IsEnum ((s.heap.push o).push { cls := .type "enumerate", data := .fields #[.none, .bool false, .ref s.heap.objs.size, rawInt 0, .none, .none] }) (s.heap.objs.size + 1) s.heap.objs.size 0 .none := by
    have q := Heap.get?_push_size (s.heap.push o) (o := { cls := .type "enumerate", data := .fields #[.none, .bool false, .ref s.heap.objs.size, rawInt 0, .none, .none] }) rfl
    rwa [size1] at q
  refine callType_new F.called_enumerate (by decide) (F.typeCall_enumerate_1 _) (F.newCall_enumerate_1 _) (fun obj => F.args_object_init_2 obj _) F.entry_enumerate_new (enum_new B) ⟨hv, ?_⟩
  show _ ∧ _
  rw [size1]
  exact ⟨⟨_, made, rfl⟩, hq _ made (Heap.get?_push_of_some _ (Heap.get?_push_size _ B.free)) fun b ob x => Heap.get?_push_of_some _ (Heap.get?_push_of_some _ x)⟩
end
/-- the tuple at a, each item in a new pair -/
def Ten (K : PySem.W.Frag) (a : Addr) : It :=
  ⟨fun i H => ∃ (xs : List V) (x : V), SqT K H a xs ∧ xs[i]? = some x, fun i H v H' => ∃ T x, v = .ref T ∧ H T = none ∧ H' = upd H T (.tup [.int (i : Nat), x]) ∧ ∀ xs, SqT K H a xs → xs[i]? = some x, fun i H => ∃ xs : List V, SqT K H a xs ∧ xs.length ≤ i⟩
theorem turn_ten {P : Program} {w : World} {K : PySem.W.Frag} {elts : List Expr} {kk : Nat} {tpos : Pos} (a e it : Addr) :
    Turn P w K (.Tuple elts kk tpos) (Ten K a) [e, it] e (fun i h => (∃ old, IsEnum h e it ((i : Nat) : Int) old) ∧ h.IsTupleIter it a i ∧ e ≠ it) where
  mem := by simp
  obj := fun i h st b hb => by
    obtain ⟨⟨old, he⟩, ⟨o, ho, hc, hd⟩, _⟩ := st
    rcases (by simpa using hb : b = e ∨ b = it) with z | z
    · subst z
      exact ⟨_, he, fun v q => nomatch q⟩
    · subst z
      exact ⟨o, ho, fun v q => by rw [hd] at q; cases q⟩
  keep := fun i h h' st k => by
    obtain ⟨⟨old, he⟩, hi, hne⟩ := st
    exact ⟨⟨old, k e (by simp) _ he⟩, hi.at fun o q => k it (by simp) o q, hne⟩
  item := by
    intro X hP hw hK hc i pins s σ H E I hf st hg
    subst hP hw hK
    obtain ⟨⟨old, he⟩, hit, hne⟩ := st
    obtain ⟨xs, x, hq, hx⟩ := hg
    obtain ⟨its, rv, p, hz⟩ := I.tuple hq
    obtain ⟨u, hu, ru⟩ := rv.get hx
    have p' : s.heap.IsTuple a its.toArray := p
    have hea : e ≠ a := fun z => by
      obtain ⟨o, ho, hcl, _⟩ := p'
      rw [← z] at ho
      rw [show s.heap.get? e = some _ from he] at ho
      cases ho
      exact absurd (Value.type.inj hcl) (by decide)
    have hia : a ≠ it := fun z => by
      obtain ⟨o, ho, hcl, _⟩ := p'
      obtain ⟨o2, ho2, hcl2, _⟩ := hit
      rw [z] at ho
      rw [ho] at ho2
      cases ho2
      rw [hcl] at hcl2
      exact absurd (Value.type.inj hcl2) (by decide)
    have hel : e < s.heap.objs.size := Heap.lt_size he
    have hil : it < s.heap.objs.size := by obtain ⟨_, q, _⟩ := hit; exact Heap.lt_size q
    have hlt : i < its.toArray.size := by
      have := (List.getElem?_eq_some_iff.mp hu).1
      simpa using this
    refine wpAny_pyNext_enum_itemD (Draws.tuple (A := X.A.in1) (show X.A.in1.handled = none from I.ok.hd hc) it a hia its.toArray) he ⟨hit, p'⟩ hlt hne (by simp [hne, hea]) fun y h' tk hy ho st' hT hsz hk => ?_
    have ey : y = u := by
      have hy' : its[i]? = some y := by simpa using hy
      rw [hu] at hy'
      exact (Option.some.inj hy').symm
    subst ey
    refine ⟨_, rfl, wpAny_letOwnedTupleGo_enum (s := { s with heap := h', toks := tk + 1 }) ho fun h'' he' sb => ?_⟩
    have hT2 := (sb.2 _ (Nat.ne_of_gt hel)).trans hT
    have new : ObjOk X.prog X.w (upd H s.heap.objs.size (.tup [.int (i : Nat), x])) h'' s.heap.objs.size (.tup [.int (i : Nat), x]) :=
      ⟨by show 2 ≤ sizeLine; decide, [.int i tk, y], .cons ⟨_, rfl⟩ (.cons ru .nil), ⟨_, hT2, rfl, _, rfl⟩⟩
    have I1 : Inv X pins σ (upd H s.heap.objs.size (.tup [.int (i : Nat), x])) { s with heap := h'', toks := tk + 1 } :=
      I.turnedNew (ch := [e, it]) (fun b ob hb q => (sb.2 b (fun z => hb (by simp [z]))).trans (hk b ob (fun z => hb (by simp [z])) (fun z => hb (by simp [z])) q)) hf (Nat.le_refl _) new
    refine ⟨.ref s.heap.objs.size, _, I1, rfl, ⟨_, x, rfl, I.hok.fresh (Nat.le_refl _), rfl, fun ys hy => by rw [I.tuple_inj hy hq]; exact hx⟩, ⟨⟨y, ?_⟩, st'.1.at fun o q => (sb.2 it (Ne.symm hne)).trans q, hne⟩, fun b hb => ?_⟩
    · have e1 : ((i + 1 : Nat) : Int) = (i : Int) + 1 := by omega
      rw [e1]; exact he'
    · have hb' : b < s.heap.objs.size := by
        rcases (by simpa using hb : b = e ∨ b = it) with z | z
        · rw [z]; exact hel
        · rw [z]; exact hil
      rw [upd_ne (Nat.ne_of_lt hb')]
      exact (hf b hb).1
  done := by
    intro X hP hw hK hc i pins s σ H E I hf st hg
    subst hP hw hK
    obtain ⟨⟨old, he⟩, hit, hne⟩ := st
    obtain ⟨xs, hq, hx⟩ := hg
    obtain ⟨its, rv, p, hz⟩ := I.tuple hq
    have p' : s.heap.IsTuple a its.toArray := p
    obtain ⟨f0, f1, f2, f3, f4, f5⟩ := hf it (by simp)
    have hl := rv.length
    have D0 : Draws X.prog X.w X.A.in1 it [it, a] 0 (fun _ _ => True) (fun _ h => h.IsTupleIter it a i ∧ h.IsTuple a its.toArray) :=
      ⟨fun _ _ st => let ⟨o, ho, _⟩ := st.1; ⟨o, ho⟩, fun _ _ _ st k => ⟨st.1.at fun o q => k it (by simp) o q, st.2.at fun o q => k a (by simp) o q⟩, fun _ _ _ _ z => absurd z (Nat.not_lt_zero _),
        fun s Q E st hE => wpAny_nextOf_tuple_end (show X.A.in1.handled = none from I.ok.hd hc) st.1 st.2 (by simp; omega) hE⟩
    refine wpAny_pyNext_enum_endD D0 he ⟨hit, p'⟩ fun h' eb => ⟨rfl, I.turned (t' := s.toks) (fun b o hb q => eb b o hb q) f0 f1 f3 f4 f5⟩
  self := fun A i s Q E st h => let ⟨⟨_, he⟩, _⟩ := st; wpAny_pyIter_enum he h
section
variable {X : Cx} {tg : Expr}
/-- a list or a tuple, walked -/
def iSeq (K : PySem.W.Frag) (tl : TE) : TI := fun σ H R => tl σ H fun x H1 => ∃ a, x = .ref a ∧ (((∃ xs, SqL K H1 a xs) ∧ R (Itl K a) H1) ∨ ((∃ xs, SqT K H1 a xs) ∧ R (Itt K a) H1))
theorem pi_seq {l : Expr} {tl : TE} (hl : PE X l tl) : PI X tg l (iSeq X.K tl) := by
  refine ⟨fun pins s σ H R I h => thn (hl.run pins s σ H _ I h) fun v s1 ⟨x, H1, I1, r1, a, ex, q⟩ => ?_⟩
  subst ex
  cases r1
  have fresh : ∀ b ∈ [s1.heap.objs.size], FpOk X pins H1 b := fun b hb => by
    rw [List.mem_singleton.mp hb]
    exact I1.fpOk (Nat.le_refl _) (I1.hok.fresh (Nat.le_refl _))
  rcases q with ⟨⟨xs, hq⟩, q⟩ | ⟨⟨xs, hq⟩, q⟩
  · obtain ⟨its, rv, p, _⟩ := I1.list hq
    exact wpAny_pyIter_list p.isList ⟨s1.heap.objs.size, [s1.heap.objs.size], _, _, H1, rfl, I1.kept (t' := s1.toks) fun b o e => Heap.get?_push_of_some _ e, turn_list a _, ⟨_, Heap.get?_push_size _ rfl, rfl, rfl⟩, fresh, q⟩
  · obtain ⟨its, rv, p, _⟩ := I1.tuple hq
    exact wpAny_pyIter_tuple (show s1.heap.IsTuple a its.toArray from p) ⟨s1.heap.objs.size, [s1.heap.objs.size], _, _, H1, rfl, I1.kept (t' := s1.toks) fun b o e => Heap.get?_push_of_some _ e, turn_tuple a _, ⟨_, Heap.get?_push_size _ rfl, rfl, rfl⟩, fresh, q⟩
/-- enumerate(v), v a list or a tuple -/
def iEnu (K : PySem.W.Frag) (ta : TA) : TI := fun σ H R => ta σ H fun vs H1 => ∃ a, vs = [.ref a] ∧ (((∃ xs, SqL K H1 a xs) ∧ R (Ite K a) H1) ∨ ((∃ xs, SqT K H1 a xs) ∧ R (Ten K a) H1))
theorem pi_enu {e : Expr} {ta : TA} {p pos tpos : Pos} {elts : List Expr} {kk : Nat} (hg : Gl X "enumerate") (hm : X.mg "enumerate" = none) (ha : PA X [e] ta) (hs : starEach [e] X.env = [(false, eval e X.env)]) :
    PI X (.Tuple elts kk tpos) (.Call (.Name "enumerate" p) [e] [] pos) (iEnu X.K ta) := by
  refine ⟨fun pins s σ H R I h => Call_ (ld_blt I hg hm boot_enumerate (PyProof.Rows.callWith_type1 (thn (ha.run pos pins s σ H _ I h) fun us s1 ⟨vs, H1, I1, r1, a, ex, q⟩ => ?_) hs rfl))⟩
  subst ex
  cases r1 with
  | cons r rr =>
    cases rr
    cases r
    have fresh : ∀ b ∈ [s1.heap.objs.size + 1, s1.heap.objs.size], FpOk X pins H1 b := fun b hb => by
      have hle : s1.heap.objs.size ≤ b := by
        rcases (by simpa using hb : b = s1.heap.objs.size + 1 ∨ b = s1.heap.objs.size) with z | z <;> omega
      exact I1.fpOk hle (I1.hok.fresh hle)
    rcases q with ⟨⟨xs, hq⟩, q⟩ | ⟨⟨xs, hq⟩, q⟩
    · obtain ⟨its, rv, p', _⟩ := I1.list hq
      exact call_enum (begins_list a its.toArray) p'.isList fun h' he hit hk => wpAny_pyIter_enum he ⟨s1.heap.objs.size + 1, _, _, _, H1, rfl, I1.kept (t' := s1.toks) (h' := h') hk, turn_enum a (s1.heap.objs.size + 1) s1.heap.objs.size, ⟨⟨.none, he⟩, ⟨_, hit, rfl, rfl⟩, Nat.succ_ne_self _⟩, fresh, q⟩
    · obtain ⟨its, rv, p', _⟩ := I1.tuple hq
      exact call_enum (begins_tuple a its.toArray) (show s1.heap.IsTuple a its.toArray from p') fun h' he hit hk => wpAny_pyIter_enum he ⟨s1.heap.objs.size + 1, _, _, _, H1, rfl, I1.kept (t' := s1.toks) (h' := h') hk, turn_ten a (s1.heap.objs.size + 1) s1.heap.objs.size, ⟨⟨.none, he⟩, ⟨_, hit, rfl, rfl⟩, Nat.succ_ne_self _⟩, fresh, q⟩
end
end Pm

set_option Elab.async false
set_option linter.all false
set_option maxRecDepth 100000
set_option maxHeartbeats 4000000
/-! The pure machine: terms held against the text; an expression's reading. -/
namespace Pm
open PySem PySem.Spec L2

/-- what the text's names are -/
structure Sy where
  fn : Nat → Option Str
  glo : List (Str × D)

def bltNames : List Str := ["len", "abs", "sum", "max", "min", "all", "list", "tuple", "int", "str", "bool", "isinstance", "range", "enumerate", "sorted", "set"]
def scalV : D → Option V
  | .int i => some (.int i)
  | .str s => some (.str s)
  | _ => none
def eqScal : D → D → Bool
  | .int i, .int j => decide (i = j)
  | .str i, .str j => decide (i = j)
  | _, _ => false
theorem eqScal_eq {a b : D} (h : eqScal a b = true) : a = b := by
  cases a <;> cases b <;> first | (rw [of_decide_eq_true h]) | cases h

def visB (sc : Scope) (x : Str) : Bool := match sc.names.lookup x with
  | some .local => true
  | some .cell => true
  | some .free => true
  | _ => false
def glB (sc : Scope) (x : Str) : Bool := match sc.names.lookup x with
  | some .globalImplicit => !(x == ("__debug__" : Str))
  | _ => false
def nmB (N : List Str) (sc : Scope) (i : Nat) (x : Str) : Bool := decide (N[i]? = some x) && (visB sc x && (!(x == ("__debug__" : Str)) && !(x == ("__classdict__" : Str))))
def notStar : Expr → Bool
  | .Starred _ _ => false
  | _ => true
def notSlice : Expr → Bool
  | .Slice _ _ _ _ => false
  | _ => true
def notSet : Expr → Bool
  | .Set _ _ _ => false
  | _ => true
/-- a test that is not looked at by parts -/
def plainTest : Expr → Bool
  | .UnaryOp .Not _ _ => false
  | .BoolOp _ _ _ => false
  | .IfExp _ _ _ _ => false
  | .Compare _ _ _ _ => false
  | _ => true
def opOf : BOp → Operator
  | .add => .Add | .sub => .Sub | .mul => .Mult | .fdiv => .FloorDiv | .mod => .Mod | .pow => .Pow
def cOf : COp → CmpOp
  | .eq => .Eq | .ne => .NotEq | .lt => .Lt | .le => .LtE | .gt => .Gt | .ge => .GtE | .isn => .Is | .isnn => .IsNot | .isb => .Is | .isnb => .IsNot | .mem => .In | .nmem => .NotIn
def f2Name : F2 → Str
  | .max => "max"
  | .min => "min"

variable (sy : Sy) (N : List Str)
mutual
def chkE : E → Scope → Expr → Bool
  | .con d, _, x => match d, x with
    | .int i, .Constant (.int j) _ _ => decide (i = j)
    | .str i, .Constant (.str j) _ _ => decide (i = j)
    | .bl i, .Constant (.bool j) _ _ => i == j
    | .non, .Constant .none _ _ => true
    | _, _ => false
  | .glo y d, sc, x => match x with
    | .Name z _ => decide (y = z) && (glB sc z && sy.glo.any fun p => decide (p.1 = y) && eqScal p.2 d)
    | _ => false
  | .var i, sc, x => match x with
    | .Name z _ => nmB N sc i z
    | _ => false
  | .bor i, sc, x => match x with
    | .Name z _ => nmB N sc i z
    | _ => false
  | .tup es, sc, x => match x with
    | .Tuple xs _ _ => chkA es sc xs
    | _ => false
  | .lst es, sc, x => match x with
    | .List xs _ => chkA es sc xs
    | _ => false
  | .bin op a b, sc, x => match x with
    | .BinOp l o r _ => decide (o = opOf op) && (chkE a sc l && chkE b sc r)
    | _ => false
  | .neg a, sc, x => match x with
    | .UnaryOp .USub l _ => chkE a sc l
    | _ => false
  | .cmp op a b, sc, x => match x with
    | .Compare l [o] [r] _ => decide (o = cOf op) && (!behindInMarks o r && (chkE a sc l && chkE b sc r))
    | _ => false
  | .cmp2 op op' a b c, sc, x => match x with
    | .Compare l [o, o'] [r, r'] _ => decide (o = cOf op) && (decide (o' = cOf op') && (!lastMarks [o, o'] [r, r'] && (chkE a sc l && (chkE b sc r && chkE c sc r'))))
    | _ => false
  | .and a b, sc, x => match x with
    | .BoolOp .And (l :: r :: rest) pos => chkE a sc l && chkE b sc (match rest with | [] => r | _ => .BoolOp .And (r :: rest) pos)
    | _ => false
  | .or a b, sc, x => match x with
    | .BoolOp .Or (l :: r :: rest) pos => chkE a sc l && chkE b sc (match rest with | [] => r | _ => .BoolOp .Or (r :: rest) pos)
    | _ => false
  | .not a, sc, x => match x with
    | .UnaryOp .Not l _ => chkE a sc l
    | _ => false
  | .ite c a b, sc, x => match x with
    | .IfExp t l r _ => chkE c sc t && (chkE a sc l && chkE b sc r)
    | _ => false
  | .idx a b, sc, x => match x with
    | .Subscript l r _ => notSlice r && (chkE a sc l && chkE b sc r)
    | _ => false
  | .sli a lo hi, sc, x => match x with
    | .Subscript l (.Slice p q none _) _ => chkE a sc l && (chkO lo sc p && chkO hi sc q)
    | _ => false
  | .rev a, sc, x => match x with
    | .Subscript l (.Slice none none (some (.UnaryOp .USub (.Constant (.int k) _ _) _)) _) _ => decide (k = 1) && chkE a sc l
    | _ => false
  | .fn1 f a, sc, x => match x with
    | .Call (.Name z _) [l] [] _ => (match fval f with | some (nm, _) => decide (z = nm) | none => false) && (glB sc z && (notStar l && chkE a sc l))
    | _ => false
  | .fn2 f a b, sc, x => match x with
    | .Call (.Name z _) [l, r] [] _ => decide (z = f2Name f) && (glB sc z && (notStar l && (notStar r && (chkE a sc l && chkE b sc r))))
    | _ => false
  | .isi a t, sc, x => match x with
    | .Call (.Name z _) [l, .Name y _] [] _ => decide (z = "isinstance") && (glB sc z && (decide (y = Str.ofString (tyName t)) && (glB sc y && (notStar l && chkE a sc l))))
    | _ => false
  | .cal f es, sc, x => match x with
    | .Call (.Name z _) (l :: ls) [] _ => decide (sy.fn f = some z) && (glB sc z && chkA es sc (l :: ls))
    | _ => false
  | .popA i a, sc, x => match x with
    | .Call (.Attribute (.Name z _) m p) [l] [] q => decide (m = "pop") && (nmB N sc i z && ((p.endLine == q.line) && (notStar l && chkE a sc l)))
    | _ => false
  | .com i elt it, sc, x => match x with
    | .ListComp e [⟨.Name z _, iter, [], 0⟩] scope _ => decide (N[i]? = some z) && (decide ((relS scope sc).names.lookup z = some .local) && (blkC N sc scope [(z, i)] && (notSet iter && (chkI it sc (.Name z ⟨0, 0, 0, 0⟩) iter && chkE elt (relS scope sc) e))))
    | _ => false
  | .comf i elt it c, sc, x => match x with
    | .ListComp e [⟨.Name z _, iter, [t], 0⟩] scope _ => decide (N[i]? = some z) && (decide ((relS scope sc).names.lookup z = some .local) && (blkC N sc scope [(z, i)] && (notSet iter && (chkI it sc (.Name z ⟨0, 0, 0, 0⟩) iter && (chkE elt (relS scope sc) e && chkE c (relS scope sc) t)))))
    | _ => false
  | .prom e, sc, x => plainTest x && chkE e sc x
  | _, _, _ => false
def chkA : Es → Scope → List Expr → Bool
  | .nil, _, xs => match xs with
    | [] => true
    | _ => false
  | .cons e es, sc, xs => match xs with
    | x :: xs => notStar x && (chkE e sc x && chkA es sc xs)
    | [] => false
def chkO : Eo → Scope → Option Expr → Bool
  | .no, _, x => match x with
    | none => true
    | _ => false
  | .so e, sc, x => match x with
    | some x => chkE e sc x
    | none => false
def chkI : I → Scope → Expr → Expr → Bool
  | .seq e, sc, _, x => chkE e sc x
  | .rng1 a, sc, _, x => match x with
    | .Call (.Name z _) [l] [] _ => decide (z = "range") && (glB sc z && (notStar l && chkE a sc l))
    | _ => false
  | .rng2 a b, sc, _, x => match x with
    | .Call (.Name z _) [l, r] [] _ => decide (z = "range") && (glB sc z && (notStar l && (notStar r && (chkE a sc l && chkE b sc r))))
    | _ => false
  | .rng3 _ _ _, _, _, _ => false
  | .enu e, sc, tg, x => match tg, x with
    | .Tuple _ _ _, .Call (.Name z _) [l] [] _ => decide (z = "enumerate") && (glB sc z && (notStar l && chkE e sc l))
    | _, _ => false
end
end Pm

set_option Elab.async false
set_option linter.all false
set_option maxRecDepth 100000
set_option maxHeartbeats 4000000
/-! The pure machine: an expression's reading by its term. -/
namespace Pm
open PySem PySem.Spec L2

/-- what a def promises: what its run on the pure machine says -/
def spF (K : PySem.W.Frag) (cs : Cls0) (np : Nat) (cf : List D → List Ob → CRes) : Sp := fun vs H Q E => vs.length = np ∧ ∃ g ds h, HSim K cs H g h ∧ RDs K g H vs ds ∧
  match cf ds h with
  | .ok r h' => ∀ v H' g', HSim K cs H' g' h' → FrS H g H' g' → RR K H H' g' v r → Q v H'
  | .exc c p h' => ∀ cl d H' g', HSim K cs H' g' h' → FrS H g H' g' → XR K cs g' H' c p cl d → E cl d H'
  | .stuck => False

structure Ok0 (sy : Sy) (cs : Cls0) (n : Nat) (Γ : Calls) (P : Program) (w : World) (K : PySem.W.Frag) (mg : Str → Option Value) (base : Heap) : Prop where
  fns : ∀ f x, sy.fn f = some x → ∃ a fd ps, mg x = some (.ref a) ∧ PySem.W.keepIn K (.ref a) = true ∧ Binds K fd ps [] ∧ FnOk P w K mg base (L2.CX P w) n a fd ps (spF K cs ps.length (Γ f)) ∧ ∀ ds h, Γ f ds h ≠ .stuck → ds.length = ps.length
  blt : ∀ x, x ∈ bltNames → mg x = none
  glo : ∀ p, p ∈ sy.glo → ∃ v u, scalV p.2 = some v ∧ mg p.1 = some u ∧ RelV v u

structure Good (sy : Sy) (cs : Cls0) (n : Nat) (Γ : Calls) (X : Cx) (W : WX) (N : List Str) (sc : Scope) : Prop where
  calm : X.calm = true
  nm : X.N = N
  nd : X.N.Nodup
  sc : X.env.scope = sc
  room : Room n X.A
  tk : Takes X W
  ok : Ok0 sy cs n Γ X.prog X.w X.K X.mg X.base

section
variable (K : PySem.W.Frag) (cs : Cls0) (Γ : Calls) (C : Cf) (W : WX)
def tE (e : E) : TE := fun σr H Q => ∃ H0 g0 g σ h, Sim K cs H0 g0 σr H g σ h ∧ Post K cs H0 g0 σr H g W (evE Γ C e σ h) (fun r _ _ H' g' => ∀ v, RR K H H' g' v r → Q v H')
def tD (e : E) : TE := fun σr H Q => ∃ H0 g0 g σ h, Sim K cs H0 g0 σr H g σ h ∧ Post K cs H0 g0 σr H g W (opd e (evE Γ C e) σ h) (fun o _ _ H' g' => ∀ v, OR K σr H H' g' v o → Q v H')
def tB (e : E) : TT := fun σr H Q => ∃ H0 g0 g σ h, Sim K cs H0 g0 σr H g σ h ∧ Post K cs H0 g0 σr H g W (asB (evE Γ C e σ h)) (fun b _ _ H' _ => Q b H')
def tAs (es : Es) : TA := fun σr H Q => ∃ H0 g0 g σ h, Sim K cs H0 g0 σr H g σ h ∧ Post K cs H0 g0 σr H g W (evA Γ C es σ h) (fun ds _ _ H' g' => ∀ vs, RDs K g' H' vs ds → Q vs H')
def tOp1 (e : Eo) : TO := fun σr H Q => ∃ H0 g0 g σ h, Sim K cs H0 g0 σr H g σ h ∧ Post K cs H0 g0 σr H g W (evO Γ C e σ h) (fun o _ _ H' _ => Q o H')
/-- what is walked, from a heap on -/
structure WalkOk (J : It) (ds : List D) (Hs : Hp) (gs : Gh) : Prop where
  go : ∀ i H g, i < ds.length → Stw Hs gs H g → J.go i H
  stop : ∀ i H g, ds.length ≤ i → Stw Hs gs H g → J.stop i H
  yld : ∀ i H g x H', Stw Hs gs H g → J.yld i H x H' → i < ds.length → ∃ d, ds[i]? = some d ∧ ((H' = H ∧ RD K g H x d) ∨ ∃ T y, x = .ref T ∧ H T = none ∧ H' = upd H T (.tup [.int (i : Nat), y]) ∧ ∃ dy, d = .tup [.int (i : Nat), dy] ∧ RD K g H y dy)
def tIt (it : I) : TI := fun σr H R => ∃ H0 g0 g σ h, Sim K cs H0 g0 σr H g σ h ∧ Post K cs H0 g0 σr H g W (evI Γ C it σ h) (fun ds _ _ H' g' => ∀ J, WalkOk K J ds H' g' → R J H')
end

section
variable {sy : Sy} {cs : Cls0} {n : Nat} {Γ : Calls} {C : Cf} {X : Cx} {W : WX} {N : List Str} {sc : Scope} {e a b : E} {x : Expr}
theorem glB_gl (G : Good sy cs n Γ X W N sc) {z : Str} (h : glB sc z = true) : Gl X z ∧ (z == ("__debug__" : Str)) = false := by
  unfold glB at h
  split at h
  · rename_i q
    exact ⟨by show X.env.scope.names.lookup z = _; rw [G.sc]; exact q, by simpa using h⟩
  · cases h
theorem visB_vis (G : Good sy cs n Γ X W N sc) {z : Str} (h : visB sc z = true) : Vis X.env.scope z := by
  unfold visB at h
  rw [G.sc]
  split at h
  · exact .inl ‹_›
  · exact .inr (.inl ‹_›)
  · exact .inr (.inr ‹_›)
  · cases h
theorem pe_nm (G : Good sy cs n Γ X W N sc) {i : Nat} {z : Str} {pos : Pos} (h : nmB N sc i z = true) : PE X (.Name z pos) (tVar i) := by
  unfold nmB at h
  simp only [Bool.and_eq_true, decide_eq_true_eq, Bool.not_eq_true'] at h
  obtain ⟨h1, h2, h3, h4⟩ := h
  exact pe_var (by rw [G.nm]; exact h1) (visB_vis G h2) h3 h4
theorem star_cons {env : Env} {x : Expr} {xs : List Expr} (h : notStar x = true) : starEach (x :: xs) env = (false, eval x env) :: starEach xs env := by
  cases x <;> first | rfl | cases h
theorem star_any {env : Env} {pos : Pos} : ∀ {xs : List Expr}, xs.all notStar = true → (backTo pos (starEach xs env)).any (·.1) = false
  | [], _ => rfl
  | x :: xs, h => by
    rw [List.all_cons, Bool.and_eq_true] at h
    rw [star_cons h.1]
    have ih := star_any (env := env) (pos := pos) h.2
    show (false || (backTo pos (starEach xs env)).any (·.1)) = false
    rw [ih]
    rfl
theorem chkA_star : ∀ {es : Es} {xs : List Expr}, chkA sy N es sc xs = true → xs.all notStar = true
  | .nil, [], _ => rfl
  | .nil, _ :: _, h => by simp [chkA] at h
  | .cons _ _, [], h => by simp [chkA] at h
  | .cons e es, x :: xs, h => by
    simp only [chkA, Bool.and_eq_true] at h
    rw [List.all_cons, h.1, chkA_star h.2.2]
    rfl
/-- an operand -/
theorem okD (he : PE X x (tE X.K cs Γ C W e)) : PE X x (tD X.K cs Γ C W e) ∨ ∃ i, e = .bor i := by
  cases e with
  | bor i => exact .inr ⟨i, rfl⟩
  | _ =>
    refine .inl (PE.imp he ?_)
    intro σ H Q ⟨H0, g0, g, sl, h, S, P⟩
    refine ⟨H0, g0, g, sl, h, S, Post.bind (f := fun r σ h => Res.ok (Opd.r r) σ h) (k := fun o _ _ H' g' => ∀ v, OR X.K σ H H' g' v o → Q v H') P (Stp.refl S.hs.nofr) fun r σ2 h2 H2 g2 S2 st st' P2 v hv => ?_⟩
    exact P2 H2 g2 S2 st' v hv
theorem okBor (G : Good sy cs n Γ X W N sc) {i : Nat} {z : Str} {pos : Pos} (h : nmB N sc i z = true) : PE X (.Name z pos) (tD X.K cs Γ C W (.bor i)) := by
  refine PE.imp (pe_nm G h) ?_
  intro σ H Q ⟨H0, g0, g, sl, hp, S, P⟩
  unfold opd at P
  cases q : sl[i]? with
  | none => simp only [q] at P; exact P.elim
  | some s =>
    have z := S.sl i s q
    cases s with
    | un => simp only [q] at P; exact P.elim
    | v d =>
      simp only [q] at P
      obtain ⟨v, e1, _⟩ := z
      exact ⟨v, e1, P H g S (Stp.refl S.hs.nofr) v e1⟩
    | o xs =>
      simp only [q] at P
      obtain ⟨a, vs, e1, _⟩ := z
      exact ⟨_, e1, P H g S (Stp.refl S.hs.nofr) _ e1⟩
    | x c p => simp only [q] at P; exact P.elim

section
variable {H0 H : Hp} {g0 g : Gh} {σr : L2.St} {σ : List Slot} {h : List Ob}
/-- two operands, then what is done with them -/
theorem two_ok {α : Type} {G : Opd → Opd → List Slot → List Ob → Res α} {k : α → List Slot → List Ob → Hp → Gh → Prop} {Rd : V → V → Hp → Prop} (S : Sim X.K cs H0 g0 σr H g σ h)
    (P : Post X.K cs H0 g0 σr H g W ((opd a (evE Γ C a) σ h).bind fun x σ h => (opd b (evE Γ C b) σ h).bind fun y σ h => G x y σ h) k)
    (fin : ∀ oa ob σ2 h2 H2 g2 v u, Sim X.K cs H0 g0 σr H2 g2 σ2 h2 → Stp H g H2 g2 → OR X.K σr H H2 g2 v oa → OR X.K σr H H2 g2 u ob → Post X.K cs H0 g0 σr H g W (G oa ob σ2 h2) k → Rd v u H2) :
    tD X.K cs Γ C W a σr H (fun v H1 => tD X.K cs Γ C W b σr H1 (fun u H2 => Rd v u H2)) :=
  ⟨H0, g0, g, σ, h, S, P.bind (Stp.refl S.hs.nofr) fun oa σ1 h1 H1 g1 S1 st1 _ P1 v o1 => ⟨H0, g0, g1, σ1, h1, S1, P1.bind st1 fun ob σ2 h2 H2 g2 S2 st2 st2' P2 u o2 =>
    fin oa ob σ2 h2 H2 g2 v u S2 st2' (o1.mono st2) (o2.base fun a o e => st1.there a o e) P2⟩⟩
theorem one_ok {α : Type} {G : Opd → List Slot → List Ob → Res α} {k : α → List Slot → List Ob → Hp → Gh → Prop} {Rd : V → Hp → Prop} (S : Sim X.K cs H0 g0 σr H g σ h)
    (P : Post X.K cs H0 g0 σr H g W ((opd a (evE Γ C a) σ h).bind fun x σ h => G x σ h) k)
    (fin : ∀ oa σ2 h2 H2 g2 v, Sim X.K cs H0 g0 σr H2 g2 σ2 h2 → Stp H g H2 g2 → OR X.K σr H H2 g2 v oa → Post X.K cs H0 g0 σr H g W (G oa σ2 h2) k → Rd v H2) :
    tD X.K cs Γ C W a σr H (fun v H1 => Rd v H1) :=
  ⟨H0, g0, g, σ, h, S, P.bind (Stp.refl S.hs.nofr) fun oa σ1 h1 H1 g1 S1 st1 _ P1 v o1 => fin oa σ1 h1 H1 g1 v S1 st1 o1 P1⟩
end
/-- the wished end of a result -/
theorem Fin.of {H0 H : Hp} {g0 g : Gh} {σr : L2.St} {σ2 : List Slot} {h2 : List Ob} {Q : VK} {r : R} (P : Post X.K cs H0 g0 σr H g W (.ok r σ2 h2) (fun r _ _ H' g' => ∀ v, RR X.K H H' g' v r → Q v H')) : Fin X.K cs H0 g0 σr H g σ2 h2 r Q :=
  fun H' g' S st w x => P H' g' S st w x

abbrev AE (cs : Cls0) (Γ : Calls) (C : Cf) (X : Cx) (W : WX) (e : E) (x : Expr) : Prop := PE X x (tE X.K cs Γ C W e)
abbrev AD (cs : Cls0) (Γ : Calls) (C : Cf) (X : Cx) (W : WX) (e : E) (x : Expr) : Prop := PE X x (tD X.K cs Γ C W e)
abbrev AT (cs : Cls0) (Γ : Calls) (C : Cf) (X : Cx) (W : WX) (e : E) (x : Expr) : Prop := PT X x (tB X.K cs Γ C W e)
variable {l r t : Expr} {pos p2 p3 p4 : Pos} {k2 : Nat}

theorem k_con {d : D} {sc : Scope} (h : chkE sy N (.con d) sc x = true) : AE cs Γ C X W (.con d) x := by
  unfold chkE at h
  split at h
  · rw [of_decide_eq_true h]
    exact PE.imp pe_int fun σ H Q ⟨H0, g0, g, sl, hp, S, P⟩ => P H g S (Stp.refl S.hs.nofr) _ (.int _)
  · rw [of_decide_eq_true h]
    exact PE.imp pe_str fun σ H Q ⟨H0, g0, g, sl, hp, S, P⟩ => P H g S (Stp.refl S.hs.nofr) _ (.str _)
  · rw [eq_of_beq h]
    exact PE.imp pe_bl fun σ H Q ⟨H0, g0, g, sl, hp, S, P⟩ => P H g S (Stp.refl S.hs.nofr) _ (.bl _)
  · exact PE.imp pe_non fun σ H Q ⟨H0, g0, g, sl, hp, S, P⟩ => P H g S (Stp.refl S.hs.nofr) _ .non
  · cases h
theorem k_glo (G : Good sy cs n Γ X W N sc) {y : Str} {d : D} (h : chkE sy N (.glo y d) sc x = true) : AE cs Γ C X W (.glo y d) x := by
  unfold chkE at h
  split at h
  · simp only [Bool.and_eq_true, decide_eq_true_eq, List.any_eq_true] at h
    obtain ⟨rfl, h2, p, hp, h3, h4⟩ := h
    have e4 := eqScal_eq h4
    obtain ⟨v, u, e1, e2, rv⟩ := G.ok.glo p hp
    rw [h3] at e2
    rw [e4] at e1
    obtain ⟨hg, hd⟩ := glB_gl G h2
    refine PE.imp (pe_glob hg e2 rv hd) fun σ H Q ⟨H0, g0, g, sl, hp, S, P⟩ => ?_
    refine P H g S (Stp.refl S.hs.nofr) _ ?_
    cases d with
    | int i => cases e1; exact .int i
    | str i => cases e1; exact .str i
    | _ => cases e1
  · cases h
theorem k_var (G : Good sy cs n Γ X W N sc) {i : Nat} {z : Str} (h : nmB N sc i z = true) : AE cs Γ C X W (.var i) (.Name z pos) := by
  refine PE.imp (pe_nm G h) ?_
  intro σ H Q ⟨H0, g0, g, sl, hp, S, P⟩
  unfold evE at P
  cases q : sl[i]? with
  | none => simp only [q] at P; exact P.elim
  | some s =>
    have z := S.sl i s q
    cases s with
    | un => simp only [q] at P; exact P.elim
    | v d =>
      simp only [q] at P
      obtain ⟨v, e1, rd⟩ := z
      exact ⟨v, e1, P H g S (Stp.refl S.hs.nofr) v rd⟩
    | o xs =>
      simp only [q] at P
      obtain ⟨g', v, S', st', e1, rd⟩ := S.unown (Stp.refl S.hs.nofr) q
      exact ⟨v, e1, P H g' S' st' v rd⟩
    | x c p => simp only [q] at P; exact P.elim
theorem k_bin {op : BOp} (hA : AD cs Γ C X W a l) (hB : AD cs Γ C X W b r) : AE cs Γ C X W (.bin op a b) (.BinOp l (opOf op) r pos) := by
  refine PE.imp (pe_op opW hA hB) ?_
  intro σ H Q ⟨H0, g0, g, sl, hp, S, P⟩
  unfold evE at P
  refine two_ok S P fun oa ob σ2 h2 H2 g2 v u S2 st o1 o2 P2 => ?_
  cases q1 : cont σ2 h2 oa with
  | none => simp only [q1] at P2; exact P2.elim
  | some c =>
    cases q2 : cont σ2 h2 ob with
    | none => simp only [q1, q2] at P2; exact P2.elim
    | some d =>
      simp only [q1, q2] at P2
      cases q3 : binop op c d with
      | none => simp only [q3, retR] at P2; exact P2.elim
      | some res =>
        simp only [q3, retR] at P2
        exact binop_ok (by cases op <;> rfl) q3 S2 st (CR.of S2 q1 o1) (CR.of S2 q2 o2) (Fin.of P2)
theorem k_neg (hA : AE cs Γ C X W a l) : AE cs Γ C X W (.neg a) (.UnaryOp .USub l pos) := by
  refine PE.imp (pe_un un_neg hA) ?_
  intro σ H Q ⟨H0, g0, g, sl, hp, S, P⟩
  unfold evE at P
  refine ⟨H0, g0, g, sl, hp, S, P.bind (Stp.refl S.hs.nofr) fun r σ1 h1 H1 g1 S1 st1 _ P1 v x => ?_⟩
  split at P1
  · cases x
    exact ⟨_, rfl, P1 H1 g1 S1 st1 _ (.int _)⟩
  · exact P1.elim
section
variable (G : Good sy cs n Γ X W N sc)
include G
theorem room60 : X.A.units + F60 < cLine := by
  have := G.room.un
  show X.A.units + 60 < cLine
  omega
theorem cmp_two {op : COp} {H0 H : Hp} {g0 g : Gh} {σr : L2.St} {σ : List Slot} {h : List Ob} {Qz : VK} {k : R → List Slot → List Ob → Hp → Gh → Prop} (S : Sim X.K cs H0 g0 σr H g σ h)
    (P : Post X.K cs H0 g0 σr H g W (evE Γ C (.cmp op a b) σ h) k) (hk : ∀ b σ h H' g', k (.v (.bl b)) σ h H' g' → Qz (.bl b) H') :
    tD X.K cs Γ C W a σr H (fun v H1 => tD X.K cs Γ C W b σr H1 (fun u H2 => rW X (compareOp (cOf op)) v u H2 Qz)) := by
  unfold evE at P
  refine two_ok S P fun oa ob σ2 h2 H2 g2 v u S2 st o1 o2 P2 => ?_
  cases q1 : cont σ2 h2 oa with
  | none => simp only [q1] at P2; exact P2.elim
  | some c =>
    cases q2 : cont σ2 h2 ob with
    | none => simp only [q1, q2] at P2; exact P2.elim
    | some d =>
      simp only [q1, q2] at P2
      cases q3 : cmpop op c d with
      | none => simp only [q3, retB] at P2; exact P2.elim
      | some res =>
        simp only [q3, retB] at P2
        exact cmpop_ok (room60 G) (by cases op <;> rfl) q3 (CR.of S2 q1 o1) (CR.of S2 q2 o2) (hk _ _ _ _ _ (P2 H2 g2 S2 st))
theorem k_cmp {op : COp} (hm : behindInMarks (cOf op) r = false) (hA : AD cs Γ C X W a l) (hB : AD cs Γ C X W b r) : AE cs Γ C X W (.cmp op a b) (.Compare l [cOf op] [r] pos) :=
  PE.imp (pe_cmpR opW hA hB hm) fun σ H Q ⟨H0, g0, g, sl, hp, S, P⟩ => cmp_two G S P fun b σ h H' g' q => q _ (.bl b)
omit G in
theorem asB_post {H0 H : Hp} {g0 g : Gh} {σr : L2.St} {m : Res R} {k : Bool → List Slot → List Ob → Hp → Gh → Prop} (n : ∀ a, H a = none → g.tag a = .free) (P : Post X.K cs H0 g0 σr H g W (asB m) k) :
    Post X.K cs H0 g0 σr H g W m (fun r σ h H' g' => ∃ b, r = .v (.bl b) ∧ k b σ h H' g') := by
  refine Post.bind (f := fun r σ h => match r with | .v (.bl b) => Res.ok b σ h | _ => .stuck) P (Stp.refl n) fun r σ2 h2 H2 g2 S2 st st' P2 => ?_
  split at P2
  · exact ⟨_, rfl, P2 H2 g2 S2 st'⟩
  · exact P2.elim
theorem t_cmp {op : COp} (hm : behindInMarks (cOf op) r = false) (hA : AD cs Γ C X W a l) (hB : AD cs Γ C X W b r) : AT cs Γ C X W (.cmp op a b) (.Compare l [cOf op] [r] pos) :=
  PT.imp (pt_cmpR opW hA hB hm) fun σ H Q ⟨H0, g0, g, sl, hp, S, P⟩ => cmp_two G S (asB_post S.hs.nofr P) fun b σ h H' g' ⟨b', e, q⟩ => by
    cases e
    exact ⟨b, rfl, q⟩
theorem cmp_three {op op' : COp} {c : E} {H0 H : Hp} {g0 g : Gh} {σr : L2.St} {σ : List Slot} {h : List Ob} {Qz : VK} {k : R → List Slot → List Ob → Hp → Gh → Prop} (S : Sim X.K cs H0 g0 σr H g σ h)
    (P : Post X.K cs H0 g0 σr H g W (evE Γ C (.cmp2 op op' a b c) σ h) k) (hk : ∀ b σ h H' g', k (.v (.bl b)) σ h H' g' → Qz (.bl b) H') :
    tChain (rW X (compareOp (cOf op))) (rW X (compareOp (cOf op'))) (tD X.K cs Γ C W a) (tD X.K cs Γ C W b) (tD X.K cs Γ C W c) σr H Qz := by
  unfold evE at P
  refine two_ok S P fun oa ob σ2 h2 H2 g2 v u S2 st o1 o2 P2 => ?_
  cases q1 : cont σ2 h2 oa with
  | none => simp only [q1] at P2; exact P2.elim
  | some c1 =>
    cases q2 : cont σ2 h2 ob with
    | none => simp only [q1, q2] at P2; exact P2.elim
    | some d =>
      simp only [q1, q2] at P2
      cases q3 : cmpop op c1 d with
      | none => simp only [q3] at P2; exact P2.elim
      | some res =>
        refine cmpop_ok (room60 G) (by cases op <;> rfl) q3 (CR.of S2 q1 o1) (CR.of S2 q2 o2) ⟨res, rfl, ?_⟩
        cases res with
        | false =>
          simp only [q3] at P2
          rw [if_neg Bool.false_ne_true]
          exact hk _ _ _ _ _ (P2 H2 g2 S2 st)
        | true =>
          simp only [q3] at P2
          rw [if_pos rfl]
          refine ⟨H0, g0, g2, σ2, h2, S2, P2.bind st fun oc σ3 h3 H3 g3 S3 st3 st3' P3 w o3 => ?_⟩
          have o2' := o2.mono st3
          have o3' : OR X.K σr H H3 g3 w oc := o3.base fun a o e => st.there a o e
          cases q4 : cont σ3 h3 ob with
          | none => simp only [q4] at P3; exact P3.elim
          | some d' =>
            cases q5 : cont σ3 h3 oc with
            | none => simp only [q4, q5] at P3; exact P3.elim
            | some e =>
              simp only [q4, q5] at P3
              cases q6 : cmpop op' d' e with
              | none => simp only [q6, retB] at P3; exact P3.elim
              | some res =>
                simp only [q6, retB] at P3
                exact cmpop_ok (room60 G) (by cases op' <;> rfl) q6 (CR.of S3 q4 o2') (CR.of S3 q5 o3') (hk _ _ _ _ _ (P3 H3 g3 S3 st3'))
theorem k_cmp2 {op op' : COp} {c : E} (hm : lastMarks [cOf op, cOf op'] [r, t] = false) (hA : AD cs Γ C X W a l) (hB : AD cs Γ C X W b r) (hC : AD cs Γ C X W c t) : AE cs Γ C X W (.cmp2 op op' a b c) (.Compare l [cOf op, cOf op'] [r, t] pos) :=
  PE.imp (pe_chain opW opW hA hB hC hm) fun σ H Q ⟨H0, g0, g, sl, hp, S, P⟩ => cmp_three G S P fun b σ h H' g' q => q _ (.bl b)
theorem t_cmp2 {op op' : COp} {c : E} (hm : lastMarks [cOf op, cOf op'] [r, t] = false) (hA : AD cs Γ C X W a l) (hB : AD cs Γ C X W b r) (hC : AD cs Γ C X W c t) : AT cs Γ C X W (.cmp2 op op' a b c) (.Compare l [cOf op, cOf op'] [r, t] pos) :=
  PT.imp (pt_chain opW opW hA hB hC hm) fun σ H Q ⟨H0, g0, g, sl, hp, S, P⟩ => cmp_three G S (asB_post S.hs.nofr P) fun b σ h H' g' ⟨b', e, q⟩ => by
    cases e
    exact ⟨b, rfl, q⟩
end
/-! ### and, or, not, if-else -/
theorem rr_bl {H H' : Hp} {g : Gh} {v : V} {b : Bool} (x : RR X.K H H' g v (.v (.bl b))) : v = .bl b := by
  cases x
  rfl
theorem k_and {z : Expr} (hA : AE cs Γ C X W a l) (hB : AE cs Γ C X W b z) (hand : ∀ ta tb, PE X l ta → PE X z tb → PE X x (tAndV ta tb)) : AE cs Γ C X W (.and a b) x := by
  refine PE.imp (hand _ _ hA hB) ?_
  intro σ H Q ⟨H0, g0, g, sl, hp, S, P⟩
  unfold evE at P
  have P' := asB_post S.hs.nofr (Post.bind P (Stp.refl S.hs.nofr) fun k σ1 h1 H1 g1 S1 st1 _ P1 => (⟨S1, st1, P1⟩ : _ ∧ _ ∧ _))
  refine ⟨H0, g0, g, sl, hp, S, P'.mono fun r σ1 h1 H1 g1 _ S1 st1 ⟨b', e, _, _, P1⟩ v x => ?_⟩
  subst e
  have ev := rr_bl x
  refine ⟨b', ev, ?_⟩
  cases b' with
  | false =>
    rw [if_neg Bool.false_ne_true] at P1 ⊢
    exact P1 H1 g1 S1 st1 _ (.bl _)
  | true =>
    rw [if_pos rfl] at P1 ⊢
    have P2 := asB_post S1.hs.nofr (Post.bind P1 st1 fun k σ2 h2 H2 g2 S2 st2 st2' P2 => (⟨S2, st2', P2⟩ : _ ∧ _ ∧ _))
    refine ⟨H0, g0, g1, σ1, h1, S1, P2.mono fun r σ2 h2 H2 g2 _ S2 st2 ⟨b2, e, _, st2', P3⟩ w y => ?_⟩
    subst e
    have ew := rr_bl y
    subst ew
    exact P3 H2 g2 S2 st2' _ (.bl _)
theorem k_or {z : Expr} (hA : AE cs Γ C X W a l) (hB : AE cs Γ C X W b z) (hor : ∀ ta tb, PE X l ta → PE X z tb → PE X x (tOrV ta tb)) : AE cs Γ C X W (.or a b) x := by
  refine PE.imp (hor _ _ hA hB) ?_
  intro σ H Q ⟨H0, g0, g, sl, hp, S, P⟩
  unfold evE at P
  have P' := asB_post S.hs.nofr (Post.bind P (Stp.refl S.hs.nofr) fun k σ1 h1 H1 g1 S1 st1 _ P1 => (⟨S1, st1, P1⟩ : _ ∧ _ ∧ _))
  refine ⟨H0, g0, g, sl, hp, S, P'.mono fun r σ1 h1 H1 g1 _ S1 st1 ⟨b', e, _, _, P1⟩ v x => ?_⟩
  subst e
  have ev := rr_bl x
  refine ⟨b', ev, ?_⟩
  cases b' with
  | true =>
    rw [if_pos rfl] at P1 ⊢
    exact P1 H1 g1 S1 st1 _ (.bl _)
  | false =>
    rw [if_neg Bool.false_ne_true] at P1 ⊢
    have P2 := asB_post S1.hs.nofr (Post.bind P1 st1 fun k σ2 h2 H2 g2 S2 st2 st2' P2 => (⟨S2, st2', P2⟩ : _ ∧ _ ∧ _))
    refine ⟨H0, g0, g1, σ1, h1, S1, P2.mono fun r σ2 h2 H2 g2 _ S2 st2 ⟨b2, e, _, st2', P3⟩ w y => ?_⟩
    subst e
    have ew := rr_bl y
    subst ew
    exact P3 H2 g2 S2 st2' _ (.bl _)
theorem k_not (hA : AE cs Γ C X W a l) : AE cs Γ C X W (.not a) (.UnaryOp .Not l pos) := by
  refine PE.imp (pe_not hA) ?_
  intro σ H Q ⟨H0, g0, g, sl, hp, S, P⟩
  unfold evE at P
  have P' := asB_post S.hs.nofr (Post.bind P (Stp.refl S.hs.nofr) fun k σ1 h1 H1 g1 S1 st1 _ P1 => (⟨S1, st1, P1⟩ : _ ∧ _ ∧ _))
  refine ⟨H0, g0, g, sl, hp, S, P'.mono fun r σ1 h1 H1 g1 _ S1 st1 ⟨b', e, _, _, P1⟩ v x => ?_⟩
  subst e
  exact ⟨b', rr_bl x, P1 H1 g1 S1 st1 _ (.bl _)⟩
theorem t_and {z : Expr} (hA : AT cs Γ C X W a l) (hB : AT cs Γ C X W b z) (hand : ∀ ta tb, PT X l ta → PT X z tb → PT X x (tAnd ta tb)) : AT cs Γ C X W (.and a b) x := by
  refine PT.imp (hand _ _ hA hB) ?_
  intro σ H Q ⟨H0, g0, g, sl, hp, S, P⟩
  have P0 := asB_post S.hs.nofr P
  unfold evE at P0
  refine ⟨H0, g0, g, sl, hp, S, P0.bind (Stp.refl S.hs.nofr) fun b' σ1 h1 H1 g1 S1 st1 _ P1 => ?_⟩
  cases b' with
  | false =>
    rw [if_neg Bool.false_ne_true] at P1 ⊢
    obtain ⟨b2, e, q⟩ := P1 H1 g1 S1 st1
    cases e
    exact q
  | true =>
    rw [if_pos rfl] at P1 ⊢
    refine ⟨H0, g0, g1, σ1, h1, S1, P1.bind st1 fun b2 σ2 h2 H2 g2 S2 st2 st2' P2 => ?_⟩
    obtain ⟨b3, e, q⟩ := P2 H2 g2 S2 st2'
    cases e
    exact q
theorem t_or {z : Expr} (hA : AT cs Γ C X W a l) (hB : AT cs Γ C X W b z) (hor : ∀ ta tb, PT X l ta → PT X z tb → PT X x (tOr ta tb)) : AT cs Γ C X W (.or a b) x := by
  refine PT.imp (hor _ _ hA hB) ?_
  intro σ H Q ⟨H0, g0, g, sl, hp, S, P⟩
  have P0 := asB_post S.hs.nofr P
  unfold evE at P0
  refine ⟨H0, g0, g, sl, hp, S, P0.bind (Stp.refl S.hs.nofr) fun b' σ1 h1 H1 g1 S1 st1 _ P1 => ?_⟩
  cases b' with
  | true =>
    rw [if_pos rfl] at P1 ⊢
    obtain ⟨b2, e, q⟩ := P1 H1 g1 S1 st1
    cases e
    exact q
  | false =>
    rw [if_neg Bool.false_ne_true] at P1 ⊢
    refine ⟨H0, g0, g1, σ1, h1, S1, P1.bind st1 fun b2 σ2 h2 H2 g2 S2 st2 st2' P2 => ?_⟩
    obtain ⟨b3, e, q⟩ := P2 H2 g2 S2 st2'
    cases e
    exact q
theorem t_not (hA : AT cs Γ C X W a l) : AT cs Γ C X W (.not a) (.UnaryOp .Not l pos) := by
  refine PT.imp (pt_not hA) ?_
  intro σ H Q ⟨H0, g0, g, sl, hp, S, P⟩
  have P0 := asB_post S.hs.nofr P
  unfold evE at P0
  refine ⟨H0, g0, g, sl, hp, S, P0.bind (Stp.refl S.hs.nofr) fun b' σ1 h1 H1 g1 S1 st1 _ P1 => ?_⟩
  obtain ⟨b3, e, q⟩ := P1 H1 g1 S1 st1
  cases e
  exact q
theorem isTrue_plain (h : plainTest x = true) (env : Env) (whole : Sem Value) : isTrue x env whole = (do let v ← whole; standAt x.pos; holding [v] (truthy v)) := by
  cases x <;> first
    | rfl
    | cases h
    | (rename_i op _ _
       cases op <;> first | rfl | cases h)
theorem t_plain (h : plainTest x = true) (hA : AE cs Γ C X W e x) : AT cs Γ C X W e x := by
  refine PT.imp (pt_val hA (isTrue_plain h X.env)) ?_
  intro σ H Q ⟨H0, g0, g, sl, hp, S, P⟩
  refine ⟨H0, g0, g, sl, hp, S, (asB_post S.hs.nofr P).mono fun r σ1 h1 H1 g1 _ S1 st1 ⟨b', e, q⟩ v y => ?_⟩
  subst e
  exact ⟨b', rr_bl y, q⟩
theorem k_ite {c : E} (hC : AT cs Γ C X W c t) (hA : AE cs Γ C X W a l) (hB : AE cs Γ C X W b r) : AE cs Γ C X W (.ite c a b) (.IfExp t l r pos) := by
  refine PE.imp (pe_ifExp hC hA hB) ?_
  intro σ H Q ⟨H0, g0, g, sl, hp, S, P⟩
  unfold evE at P
  refine ⟨H0, g0, g, sl, hp, S, P.bind (Stp.refl S.hs.nofr) fun b' σ1 h1 H1 g1 S1 st1 _ P1 => ?_⟩
  have fin : ∀ {e : E}, Post X.K cs H0 g0 σ H g W (evE Γ C e σ1 h1) (fun r _ _ H' g' => ∀ v, RR X.K H H' g' v r → Q v H') → tE X.K cs Γ C W e σ H1 Q := fun {e} P2 =>
    ⟨H0, g0, g1, σ1, h1, S1, P2.sub st1 fun r σ2 h2 H2 g2 S2 st2 P3 v y => P3 v (y.base fun a o e => st1.there a o e)⟩
  cases b' with
  | true =>
    show if true = true then _ else _
    rw [if_pos rfl] at P1 ⊢
    exact fin P1
  | false =>
    show if false = true then _ else _
    rw [if_neg Bool.false_ne_true] at P1 ⊢
    exact fin P1

/-! ### items, slices -/
theorem plainIx (h : notSlice x = true) : PlainIx x := by
  intro o i
  cases x <;> first | rfl | cases h
theorem k_idx (hs : notSlice r = true) (hA : AD cs Γ C X W a l) (hB : AD cs Γ C X W b r) : AE cs Γ C X W (.idx a b) (.Subscript l r pos) := by
  refine PE.imp (pe_ix ixW hA hB (plainIx hs)) ?_
  intro σ H Q ⟨H0, g0, g, sl, hp, S, P⟩
  unfold evE at P
  refine two_ok S P fun oa ob σ2 h2 H2 g2 v u S2 st o1 o2 P2 => ?_
  cases q1 : cont σ2 h2 oa with
  | none => simp only [q1] at P2; exact P2.elim
  | some c =>
    cases q2 : cont σ2 h2 ob with
    | none => simp only [q1, q2] at P2; exact P2.elim
    | some d =>
      simp only [q1, q2] at P2
      cases q3 : index c d with
      | none => simp only [q3, retR, Option.map_none] at P2; exact P2.elim
      | some res =>
        simp only [q3, retR, Option.map_some] at P2
        exact index_ok q3 (CR.of S2 q1 o1) (CR.of S2 q2 o2) fun z hz => P2 H2 g2 S2 st z hz
theorem k_sli {lo hi : Eo} {elo ehi : Option Expr} (hA : AD cs Γ C X W a l) (hL : PO X elo (tOp1 X.K cs Γ C W lo)) (hH : PO X ehi (tOp1 X.K cs Γ C W hi)) : AE cs Γ C X W (.sli a lo hi) (.Subscript l (.Slice elo ehi none p2) pos) := by
  refine PE.imp (pe_slice slW hA hL hH) ?_
  intro σ H Q ⟨H0, g0, g, sl, hp, S, P⟩
  unfold evE at P
  refine one_ok S P fun oa σ1 h1 H1 g1 v S1 st1 o1 P1 => ?_
  refine ⟨H0, g0, g1, σ1, h1, S1, P1.bind st1 fun lv σ2 h2 H2 g2 S2 st2 st2' P2 => ?_⟩
  refine ⟨H0, g0, g2, σ2, h2, S2, P2.bind st2' fun hv σ3 h3 H3 g3 S3 st3 st3' P3 => ?_⟩
  have o1' := (o1.mono st2).mono st3
  cases q1 : cont σ3 h3 oa with
  | none => simp only [q1] at P3; exact P3.elim
  | some c =>
    simp only [q1] at P3
    cases q3 : slice c lv hv with
    | none => simp only [q3, retR] at P3; exact P3.elim
    | some res =>
      simp only [q3, retR] at P3
      exact slice_ok q3 S3 st3' (CR.of S3 q1 o1') (Fin.of P3)
theorem o_no : PO X none (tOp1 X.K cs Γ C W .no) := PO.imp po_none fun σ H Q ⟨H0, g0, g, sl, hp, S, P⟩ => P H g S (Stp.refl S.hs.nofr)
theorem o_so (hA : AE cs Γ C X W a l) : PO X (some l) (tOp1 X.K cs Γ C W (.so a)) := by
  refine PO.imp (po_some hA) ?_
  intro σ H Q ⟨H0, g0, g, sl, hp, S, P⟩
  unfold evO asI at P
  refine ⟨H0, g0, g, sl, hp, S, P.bind (Stp.refl S.hs.nofr) fun r σ1 h1 H1 g1 S1 st1 _ P1 v y => ?_⟩
  split at P1
  · cases y
    exact ⟨_, rfl, P1 H1 g1 S1 st1⟩
  · exact P1.elim
theorem k_rev {k1 : Nat} (hA : AD cs Γ C X W a l) : AE cs Γ C X W (.rev a) (.Subscript l (.Slice none none (some (.UnaryOp .USub (.Constant (.int 1) k1 p2) p3)) p4) pos) := by
  refine PE.imp (pe_revL hA) ?_
  intro σ H Q ⟨H0, g0, g, sl, hp, S, P⟩
  unfold evE at P
  refine one_ok S P fun oa σ1 h1 H1 g1 v S1 st1 o1 P1 => ?_
  cases q1 : cont σ1 h1 oa with
  | none => simp only [q1] at P1; exact P1.elim
  | some c =>
    simp only [q1] at P1
    cases q3 : revD c with
    | none => simp only [q3, retR] at P1; exact P1.elim
    | some res =>
      simp only [q3, retR] at P1
      have x := CR.of S1 q1 o1
      unfold revD at q3
      split at q3
      · cases q3
        obtain ⟨a', vs, rfl, e1, r1⟩ := x.lst
        exact ⟨a', vs, rfl, SqL.of e1, new_lst S1 st1 r1.reverse (Fin.of P1)⟩
      · cases q3
end
end Pm

set_option Elab.async false
set_option linter.all false
set_option maxRecDepth 100000
set_option maxHeartbeats 4000000
/-! The pure machine: calls, displays, pop. -/
namespace Pm
open PySem PySem.Spec L2
section
variable {sy : Sy} {cs : Cls0} {n : Nat} {Γ : Calls} {C : Cf} {X : Cx} {W : WX} {N : List Str} {sc : Scope} {e a b : E} {x l r t : Expr} {pos p1 p2 p3 p4 : Pos} {es : Es} {xs : List Expr}

abbrev AA (cs : Cls0) (Γ : Calls) (C : Cf) (X : Cx) (W : WX) (es : Es) (xs : List Expr) : Prop := PA X xs (tAs X.K cs Γ C W es)
theorem a_nil : AA cs Γ C X W .nil [] := PA.imp pa_nil fun σ H Q ⟨H0, g0, g, sl, hp, S, P⟩ => P H g S (Stp.refl S.hs.nofr) [] .nil
theorem a_cons (hs : notStar x = true) (hA : AE cs Γ C X W e x) (hR : AA cs Γ C X W es xs) : AA cs Γ C X W (.cons e es) (x :: xs) := by
  refine PA.imp (pa_cons hA hR (star_cons hs)) ?_
  intro σ H Q ⟨H0, g0, g, sl, hp, S, P⟩
  unfold evA at P
  refine ⟨H0, g0, g, sl, hp, S, P.bind (Stp.refl S.hs.nofr) fun r σ1 h1 H1 g1 S1 st1 _ P1 v y => ?_⟩
  obtain ⟨g1', S1', st1', rd, _⟩ := S1.freeze st1 y fun a ha => S.fresh0 ha
  refine ⟨H0, g0, g1', σ1, h1, S1', P1.bind st1' fun ds σ2 h2 H2 g2 S2 st2 st2' P2 vs rs => ?_⟩
  exact P2 H2 g2 S2 st2' _ (.cons (RD.mono st2 rd) rs)
theorem k_tup (hA : AA cs Γ C X W es xs) {k1 : Nat} : AE cs Γ C X W (.tup es) (.Tuple xs k1 pos) := by
  refine PE.imp (pe_tup hA) ?_
  intro σ H Q ⟨H0, g0, g, sl, hp, S, P⟩
  unfold evE at P
  refine ⟨H0, g0, g, sl, hp, S, P.bind (Stp.refl S.hs.nofr) fun ds σ1 h1 H1 g1 S1 st1 _ P1 vs rs => ?_⟩
  split at P1
  · rename_i hz
    exact ⟨by rw [rs.len]; exact hz, new_tup S1 st1 rs (Fin.of P1)⟩
  · exact P1.elim
theorem k_lst (hA : AA cs Γ C X W es xs) : AE cs Γ C X W (.lst es) (.List xs pos) := by
  refine PE.imp (pe_lst hA) ?_
  intro σ H Q ⟨H0, g0, g, sl, hp, S, P⟩
  unfold evE at P
  refine ⟨H0, g0, g, sl, hp, S, P.bind (Stp.refl S.hs.nofr) fun ds σ1 h1 H1 g1 S1 st1 _ P1 vs rs => ?_⟩
  split at P1
  · rename_i hz
    exact ⟨by rw [rs.len]; exact hz, new_lst S1 st1 rs (Fin.of P1)⟩
  · exact P1.elim
theorem blt_none (G : Good sy cs n Γ X W N sc) {z : Str} (h : z ∈ bltNames) : X.mg z = none := G.ok.blt z h
/-- f(e), f a built-in function or type -/
theorem call_one {fv : Value} {z : Str} {ta : TE} (G : Good sy cs n Γ X W N sc) (hg : glB sc z = true) (hb : z ∈ bltNames) (hv : bootBuiltins z = some fv) (hk : (∃ id, fv = .builtin id) ∨ ∃ T, fv = .type T) (hn : z ≠ "__name__") (hs : notStar l = true) (hA : PE X l ta) :
    PE X (.Call (.Name z p1) [l] [] pos) (fun σ H Q => ta σ H fun v H1 => cW X fv [v] H1 Q) := by
  obtain ⟨h1, h2⟩ := glB_gl G hg
  have ha : PA X [l] (tCons ta tNil) := pa_cons hA pa_nil (star_cons hs)
  rcases hk with ⟨id, rfl⟩ | ⟨T, rfl⟩
  · exact pe_callB callW h1 (blt_none G hb) hv ha hn h2 (star_cons hs) (by rfl)
  · exact pe_callTy callW h1 (blt_none G hb) hv ha hn h2 (star_cons hs) (by rfl)
theorem fval_blt {f : F1} {nm : Str} {fv : Value} (h : fval f = some (nm, fv)) : nm ∈ bltNames ∧ bootBuiltins nm = some fv ∧ ((∃ id, fv = .builtin id) ∨ ∃ T, fv = .type T) ∧ nm ≠ "__name__" := by
  cases f <;> first | (cases h; done) | (cases h; exact ⟨by decide +kernel, by decide +kernel, by first | exact .inl ⟨_, rfl⟩ | exact .inr ⟨_, rfl⟩, by decide +kernel⟩)
theorem k_fn1 (G : Good sy cs n Γ X W N sc) {f : F1} {z : Str} {fv : Value} (hf : fval f = some (z, fv)) (hg : glB sc z = true) (hs : notStar l = true) (hA : AD cs Γ C X W a l) : AE cs Γ C X W (.fn1 f a) (.Call (.Name z p1) [l] [] pos) := by
  obtain ⟨b1, b2, b3, b4⟩ := fval_blt hf
  refine PE.imp (call_one G hg b1 b2 b3 b4 hs hA) ?_
  intro σ H Q ⟨H0, g0, g, sl, hp, S, P⟩
  unfold evE at P
  refine one_ok S P fun oa σ1 h1 H1 g1 v S1 st1 o1 P1 => ?_
  cases q1 : cont σ1 h1 oa with
  | none => simp only [q1] at P1; exact P1.elim
  | some c =>
    simp only [q1] at P1
    cases q3 : fn1 f c with
    | none => simp only [q3, retR] at P1; exact P1.elim
    | some res =>
      simp only [q3, retR] at P1
      exact fn1_ok G.calm hf q3 S1 st1 (CR.of S1 q1 o1) (Fin.of P1)
theorem call_two {id : String} {z : Str} {ta tb : TE} (G : Good sy cs n Γ X W N sc) (hg : glB sc z = true) (hb : z ∈ bltNames) (hv : bootBuiltins z = some (.builtin id)) (hn : z ≠ "__name__") (hs : notStar l = true) (hs2 : notStar r = true) (hA : PE X l ta) (hB : PE X r tb) :
    PE X (.Call (.Name z p1) [l, r] [] pos) (fun σ H Q => ta σ H fun v H1 => tb σ H1 fun u H2 => cW X (.builtin id) [v, u] H2 Q) := by
  obtain ⟨h1, h2⟩ := glB_gl G hg
  have ha : PA X [l, r] (tCons ta (tCons tb tNil)) := pa_cons hA (pa_cons hB pa_nil (star_cons hs2)) (star_cons hs)
  exact pe_callB callW h1 (blt_none G hb) hv ha hn h2 (star_cons hs) (star_any (by rw [List.all_cons, hs2]; rfl))
theorem k_fn2 (G : Good sy cs n Γ X W N sc) {f : F2} (hg : glB sc (f2Name f) = true) (hs : notStar l = true) (hs2 : notStar r = true) (hA : AE cs Γ C X W a l) (hB : AE cs Γ C X W b r) : AE cs Γ C X W (.fn2 f a b) (.Call (.Name (f2Name f) p1) [l, r] [] pos) := by
  have key : ∀ {id : String}, f2Name f ∈ bltNames → bootBuiltins (f2Name f) = some (.builtin id) → f2Name f ≠ "__name__" →
      (∀ {i j : Int} {H : Hp} {Q : VK} {res : R}, fn2 f (.int i) (.int j) = some res → (∀ k, res = .v (.int k) → Q (.int k) H) → cW X (.builtin id) [.int i, .int j] H Q) → AE cs Γ C X W (.fn2 f a b) (.Call (.Name (f2Name f) p1) [l, r] [] pos) := fun {id} hb hv hn rule => by
    refine PE.imp (call_two G hg hb hv hn hs hs2 hA hB) ?_
    intro σ H Q ⟨H0, g0, g, sl, hp, S, P⟩
    unfold evE at P
    refine ⟨H0, g0, g, sl, hp, S, P.bind (Stp.refl S.hs.nofr) fun ra σ1 h1 H1 g1 S1 st1 _ P1 v y => ?_⟩
    refine ⟨H0, g0, g1, σ1, h1, S1, P1.bind st1 fun rb σ2 h2 H2 g2 S2 st2 st2' P2 u z => ?_⟩
    cases q3 : fn2 f ra.d rb.d with
    | none => simp only [q3, retR] at P2; exact P2.elim
    | some res =>
      simp only [q3, retR] at P2
      have ints_ : ∃ i j, ra = .v (.int i) ∧ rb = .v (.int j) := by
        cases ra with
        | o _ => cases f <;> cases rb <;> cases q3
        | v c =>
          cases rb with
          | o _ => cases f <;> cases c <;> cases q3
          | v d => cases c <;> cases d <;> first | exact ⟨_, _, rfl, rfl⟩ | (cases f <;> cases q3)
      obtain ⟨i, j, rfl, rfl⟩ := ints_
      cases y
      cases z
      exact rule q3 fun k ek => by
        subst ek
        exact P2 H2 g2 S2 st2' _ (.int k)
  cases f with
  | max =>
    refine key (id := "max") (by decide +kernel) (by decide +kernel) (by decide +kernel) fun {i j H Q res} e q => ?_
    cases e
    exact ⟨_, call_max2 G.calm, i, j, rfl, q _ rfl⟩
  | min =>
    refine key (id := "min") (by decide +kernel) (by decide +kernel) (by decide +kernel) fun {i j H Q res} e q => ?_
    cases e
    exact ⟨_, call_min2 G.calm, i, j, rfl, q _ rfl⟩
theorem ty_boot (t : Ty) : bootBuiltins (Str.ofString (tyName t)) = some (.type (tyName t)) ∧ Str.ofString (tyName t) ∈ bltNames ∧ Str.ofString (tyName t) ≠ "__name__" := by
  cases t <;> exact ⟨by decide +kernel, by decide +kernel, by decide +kernel⟩
theorem k_isi (G : Good sy cs n Γ X W N sc) {ty : Ty} (hg : glB sc "isinstance" = true) (hg2 : glB sc (Str.ofString (tyName ty)) = true) (hs : notStar l = true) (hA : AD cs Γ C X W a l) :
    AE cs Γ C X W (.isi a ty) (.Call (.Name "isinstance" p1) [l, .Name (Str.ofString (tyName ty)) p2] [] pos) := by
  obtain ⟨t1, t2, t3⟩ := ty_boot ty
  obtain ⟨h1, h2⟩ := glB_gl G hg2
  have hT : PE X (.Name (Str.ofString (tyName ty)) p2) (tC (.ty (tyName ty))) := pe_bltn h1 (blt_none G t2) t1 rfl t3 h2
  refine PE.imp (call_two G hg (by decide +kernel) (id := "isinstance") (by decide +kernel) (by decide +kernel) hs rfl hA hT) ?_
  intro σ H Q ⟨H0, g0, g, sl, hp, S, P⟩
  unfold evE at P
  refine one_ok S P fun oa σ1 h1 H1 g1 v S1 st1 o1 P1 => ?_
  show cW X (.builtin "isinstance") [v, .ty (tyName ty)] H1 Q
  cases q1 : cont σ1 h1 oa with
  | none => simp only [q1] at P1; exact P1.elim
  | some c =>
    simp only [q1] at P1
    split at P1
    · rename_i hq
      cases q2 : tyOfD c with
      | none => cases c <;> first | (cases hq; done) | (cases q2; done)
      | some nn => exact isi_ok q2 (CR.of S1 q1 o1) (P1 H1 g1 S1 st1 _ (.bl _))
    · exact P1.elim
/-- a def of the text is called -/
theorem k_cal (G : Good sy cs n Γ X W N sc) {f : Nat} {z : Str} (hf : sy.fn f = some z) (hg : glB sc z = true) (hs : (l :: xs).all notStar = true) (hA : AA cs Γ C X W es (l :: xs)) : AE cs Γ C X W (.cal f es) (.Call (.Name z p1) (l :: xs) [] pos) := by
  obtain ⟨fa, fd, ps, hm, hk, hb, F, har⟩ := G.ok.fns f z hf
  obtain ⟨h1, h2⟩ := glB_gl G hg
  rw [List.all_cons, Bool.and_eq_true] at hs
  refine PE.imp (pe_callS F G.room h1 hm hk hb (fun σ => passAt G.tk σ) hA h2 (star_cons hs.1) (star_any hs.2)) ?_
  intro σ H Q ⟨H0, g0, g, sl, hp, S, P⟩
  unfold evE at P
  refine ⟨H0, g0, g, sl, hp, S, P.bind (Stp.refl S.hs.nofr) fun ds σ1 h1 H1 g1 S1 st1 _ P1 vs rs => ?_⟩
  have har' := har ds h1
  refine ⟨?_, g1, ds, h1, S1.hs, rs, ?_⟩
  · rw [rs.len]
    refine har' fun z => ?_
    rw [z] at P1
    exact P1.elim
  · cases q : Γ f ds h1 with
    | stuck => rw [q] at P1; exact P1.elim
    | ok res h' =>
      rw [q] at P1
      exact fun v H' g' S' fr y => P1 H' g' (S1.call fr S') (st1.trans (S1.hs.stp fr)) v (y.base fun a o e => st1.there a o e)
    | exc c p h' =>
      rw [q] at P1
      exact fun cl d H' g' S' fr y => P1 H' g' cl d (S1.call fr S') (st1.trans (S1.hs.stp fr)) y
theorem k_prom (hA : AE cs Γ C X W e x) : AE cs Γ C X W (.prom e) x := by
  refine PE.imp hA ?_
  intro σ H Q ⟨H0, g0, g, sl, hp, S, P⟩
  unfold evE at P
  refine ⟨H0, g0, g, sl, hp, S, P.bind (Stp.refl S.hs.nofr) fun r σ1 h1 H1 g1 S1 st1 _ P1 v y => ?_⟩
  cases r with
  | v d => exact P1.elim
  | o xs =>
    obtain ⟨g2, S2, st2, rd⟩ := S1.prom st1 y fun a ha => S.fresh0 ha
    exact P1 H1 g2 S2 st2 v rd
theorem pop_seq {m : Nat} {k : Int} (h0 : 0 ≤ k) (h1 : k < m) : seqIndex? k m = some k.toNat := by
  obtain ⟨j, rfl⟩ : ∃ j : Nat, k = (j : Int) := ⟨k.toNat, by omega⟩
  have hj : j < m := by omega
  have q := ixN_seq (n := m) (i := (j : Int)) (j := j) (by unfold L2.ixN; rw [if_pos (by omega), if_pos (by omega)]; simp)
  exact q.1
theorem k_popA (G : Good sy cs n Γ X W N sc) {i : Nat} {z : Str} (hz : nmB N sc i z = true) (hline : (p2.endLine == pos.line) = true) (hs : notStar l = true) (hA : AE cs Γ C X W a l) :
    AE cs Γ C X W (.popA i a) (.Call (.Attribute (.Name z p1) "pop" p2) [l] [] pos) := by
  refine PE.imp (pe_bm PySem.F.plainAttrs_list PySem.F.slot_list_pop PySem.F.type_list_pop mt_popAt (pe_nm G hz) (pa_cons hA pa_nil (star_cons hs)) (by rfl) (by rw [star_cons hs]; rfl) hline (star_cons hs) (by rfl)) ?_
  intro σ H Q ⟨H0, g0, g, sl, hp, S, P⟩
  unfold evE at P
  split at P
  · rename_i hl
    -- the name's value, a list
    obtain ⟨a0, vs0, e0, l0⟩ : ∃ a vs, σ[i]? = some (some (.ref a)) ∧ H a = some (.lst vs) := by
      unfold lstSlot at hl
      split at hl
      · rename_i xs q
        obtain ⟨v, hv⟩ : ∃ v, σ[i]? = some (some v) := by
          cases q2 : sl[i]? with
          | none => simp [cont, q2] at q
          | some s =>
            have z := S.sl i s q2
            cases s with
            | un => simp [cont, q2] at q
            | v d => exact ⟨_, z.choose_spec.1⟩
            | o ys => exact ⟨_, z.choose_spec.choose_spec.1⟩
            | x c p => simp [cont, q2] at q
        obtain ⟨a, vs, rfl, e1, _⟩ := (CR.of (K := X.K) (Hb := H) (o := .s i) S q hv).lst
        exact ⟨a, vs, hv, e1⟩
      · cases hl
    refine ⟨.ref a0, e0, .inl ⟨rfl, _, .inl (.inl l0)⟩, H0, g0, g, sl, hp, S, P.bind (Stp.refl S.hs.nofr) fun r σ1 h1 H1 g1 S1 st1 _ P1 v y => ?_⟩
    split at P1
    · rename_i k
      cases y
      split at P1
      · rename_i xs q1
        obtain ⟨a1, vs, f1, f2, f3, f4⟩ := S1.mutS q1
        rw [e0] at f1
        cases f1
        split at P1
        · rename_i hk
          obtain ⟨k0, k1, k2⟩ := hk
          split at P1
          · rename_i d q2
            obtain ⟨w, q3, rw_⟩ := f3.get q2
            obtain ⟨S2, st2⟩ := f4 (vs.eraseIdx k.toNat) (xs.eraseIdx k.toNat) (f3.eraseIdx _)
            have hl := f3.len
            refine ⟨a0, vs, k, k.toNat, w, rfl, rfl, f2, by omega, ?_, pop_seq k0 (by omega), q3, P1 _ g1 S2 (st2 _ _ st1) w (RD.mono (st2 H1 g1 (Stp.refl S1.hs.nofr)) rw_)⟩
            have : (sizeLine : Int) < 2 ^ 63 := by decide
            omega
          · exact P1.elim
        · exact P1.elim
      · rename_i j q1
        split at P1
        · rename_i xs qo
          split at P1
          · rename_i hk
            obtain ⟨k0, k1, k2⟩ := hk
            split at P1
            · rename_i d q2
              obtain ⟨a1, r1, ⟨vs, f2, f3⟩, f4⟩ := S1.mutO qo
              obtain ⟨v0, e1, rd⟩ := S1.sl i _ q1
              rw [e0] at e1
              cases e1
              cases rd with
              | ref r2 =>
                rw [r1] at r2
                cases r2
                obtain ⟨w, q3, rw_⟩ := f3.get q2
                have stp0 : Stp H1 g1 (upd H1 a0 (.lst (vs.eraseIdx k.toNat))) g1 := by
                  obtain ⟨a2, r2', t2, _⟩ := S1.hs.ob j _ qo
                  rw [r1] at r2'
                  cases r2'
                  exact (Stp.refl S1.hs.nofr).upd (vs := vs) f2 (.inl ⟨_, rfl⟩) (by rw [t2]; intro z; cases z) (by rw [t2]; intro z; cases z)
                obtain ⟨S2, st2⟩ := f4 (.lst (vs.eraseIdx k.toNat)) (.lst (xs.eraseIdx k.toNat)) (.inl ⟨_, rfl⟩) ⟨_, upd_same, RDs.mono stp0 (f3.eraseIdx _)⟩
                have hl := f3.len
                refine ⟨a0, vs, k, k.toNat, w, rfl, rfl, f2, by omega, ?_, pop_seq k0 (by omega), q3, P1 _ g1 S2 (st2 _ _ st1) w (RD.mono stp0 rw_)⟩
                have : (sizeLine : Int) < 2 ^ 63 := by decide
                omega
            · exact P1.elim
          · exact P1.elim
        · exact P1.elim
      · exact P1.elim
    · exact P1.elim
  · exact P.elim
end
end Pm

set_option Elab.async false
set_option linter.all false
set_option maxRecDepth 100000
set_option maxHeartbeats 4000000
/-! The pure machine: walks, comprehensions. -/
namespace Pm
open PySem PySem.Spec L2
section
variable {K : PySem.W.Frag} {cs : Cls0} {g g' g0 : Gh} {H H' H0 : Hp} {σr : L2.St} {σ : List Slot} {h : List Ob} {v : V}
theorem SqS.stw {a : Addr} {xs : List V} (x : SqS K H a xs) (s : Stw H g H' g') : SqS K H' a xs := by
  rcases x with ⟨o, x⟩ | x
  · exact .inl ⟨o, s.frzs _ _ _ x⟩
  · exact .inr x
theorem lt_of_get {α : Type} {l : List α} {i : Nat} (h : i < l.length) : ∃ x, l[i]? = some x := ⟨l[i], List.getElem?_eq_getElem h⟩
theorem walk_list {a : Addr} {vs : List V} {ds : List D} (hq : ∀ H' g', Stw H g H' g' → SqL K H' a vs) (rs : RDs K g H vs ds) : WalkOk K (Itl K a) ds H g where
  go := fun i H' g' hi s => by
    obtain ⟨x, e⟩ := lt_of_get (l := vs) (i := i) (by rw [rs.len]; exact hi)
    exact ⟨vs, x, hq H' g' s, e⟩
  stop := fun i H' g' hi s => ⟨vs, hq H' g' s, by rw [rs.len]; exact hi⟩
  yld := fun i H' g' x H'' s ⟨e, y⟩ hi => by
    obtain ⟨d, ed⟩ := lt_of_get hi
    obtain ⟨w, e1, r1⟩ := rs.get ed
    have e2 := y vs (hq H' g' s)
    rw [e1] at e2
    cases e2
    exact ⟨d, ed, .inl ⟨e, RD.monoW s r1⟩⟩
theorem walk_tup {a : Addr} {vs : List V} {ds : List D} (hq : ∀ H' g', Stw H g H' g' → SqT K H' a vs) (rs : RDs K g H vs ds) : WalkOk K (Itt K a) ds H g where
  go := fun i H' g' hi s => by
    obtain ⟨x, e⟩ := lt_of_get (l := vs) (i := i) (by rw [rs.len]; exact hi)
    exact ⟨vs, x, hq H' g' s, e⟩
  stop := fun i H' g' hi s => ⟨vs, hq H' g' s, by rw [rs.len]; exact hi⟩
  yld := fun i H' g' x H'' s ⟨e, y⟩ hi => by
    obtain ⟨d, ed⟩ := lt_of_get hi
    obtain ⟨w, e1, r1⟩ := rs.get ed
    have e2 := y vs (hq H' g' s)
    rw [e1] at e2
    cases e2
    exact ⟨d, ed, .inl ⟨e, RD.monoW s r1⟩⟩
theorem walk_rng {lo hi : Int} : WalkOk K (Itr lo (hi - lo).toNat) (rangeL lo hi) H g where
  go := fun i H' g' h s => by
    have h' : i < (hi - lo).toNat := by simpa [rangeL] using h
    exact h'
  stop := fun i H' g' h s => by
    have h' : (hi - lo).toNat ≤ i := by simpa [rangeL] using h
    exact h'
  yld := fun i H' g' x H'' s ⟨e, y⟩ h => by
    have h' : i < (hi - lo).toNat := by simpa [rangeL] using h
    refine ⟨.int (lo + i), by simp [rangeL, h'], .inl ⟨e, ?_⟩⟩
    rw [y]
    exact .int _
theorem zip_get {ds : List D} {i : Nat} {d : D} (e : ds[i]? = some d) : (ds.zipIdx.map fun p => D.tup [.int p.2, p.1])[i]? = some (.tup [.int (i : Nat), d]) := by
  simp [e]
theorem walk_enl {a : Addr} {vs : List V} {ds : List D} (hq : ∀ H' g', Stw H g H' g' → SqL K H' a vs) (rs : RDs K g H vs ds) : WalkOk K (Ite K a) (ds.zipIdx.map fun p => .tup [.int p.2, p.1]) H g where
  go := fun i H' g' hi s => by
    obtain ⟨x, e⟩ := lt_of_get (l := vs) (i := i) (by rw [rs.len]; simpa using hi)
    exact ⟨vs, x, hq H' g' s, e⟩
  stop := fun i H' g' hi s => ⟨vs, hq H' g' s, by rw [rs.len]; simpa using hi⟩
  yld := fun i H' g' x H'' s ⟨T, y, e1, e2, e3, y1⟩ hi => by
    obtain ⟨d, ed⟩ := lt_of_get (l := ds) (i := i) (by simpa using hi)
    obtain ⟨w, f1, r1⟩ := rs.get ed
    have f2 := y1 vs (hq H' g' s)
    rw [f1] at f2
    cases f2
    exact ⟨_, zip_get ed, .inr ⟨T, y, e1, e2, e3, d, rfl, RD.monoW s r1⟩⟩
theorem walk_ent {a : Addr} {vs : List V} {ds : List D} (hq : ∀ H' g', Stw H g H' g' → SqT K H' a vs) (rs : RDs K g H vs ds) : WalkOk K (Ten K a) (ds.zipIdx.map fun p => .tup [.int p.2, p.1]) H g where
  go := fun i H' g' hi s => by
    obtain ⟨x, e⟩ := lt_of_get (l := vs) (i := i) (by rw [rs.len]; simpa using hi)
    exact ⟨vs, x, hq H' g' s, e⟩
  stop := fun i H' g' hi s => ⟨vs, hq H' g' s, by rw [rs.len]; simpa using hi⟩
  yld := fun i H' g' x H'' s ⟨T, y, e1, e2, e3, y1⟩ hi => by
    obtain ⟨d, ed⟩ := lt_of_get (l := ds) (i := i) (by simpa using hi)
    obtain ⟨w, f1, r1⟩ := rs.get ed
    have f2 := y1 vs (hq H' g' s)
    rw [f1] at f2
    cases f2
    exact ⟨_, zip_get ed, .inr ⟨T, y, e1, e2, e3, d, rfl, RD.monoW s r1⟩⟩
end

section
variable {sy : Sy} {cs : Cls0} {n : Nat} {Γ : Calls} {C : Cf} {X : Cx} {W : WX} {N : List Str} {sc : Scope} {e a b : E} {x l r tg : Expr} {pos p1 p2 : Pos}
theorem PI.imp {X : Cx} {tg e : Expr} {t t' : TI} (h : PI X tg e t) (i : ∀ σ H Q, t' σ H Q → t σ H Q) : PI X tg e t' := ⟨fun pins s σ H Q I q => h.run pins s σ H Q I (i _ _ _ q)⟩
abbrev AI (cs : Cls0) (Γ : Calls) (C : Cf) (X : Cx) (W : WX) (it : I) (tg x : Expr) : Prop := PI X tg x (tIt X.K cs Γ C W it)
theorem i_seq (hA : AE cs Γ C X W e x) : AI cs Γ C X W (.seq e) tg x := by
  refine PI.imp (pi_seq hA) ?_
  intro σ H R ⟨H0, g0, g, sl, hp, S, P⟩
  unfold evI at P
  refine ⟨H0, g0, g, sl, hp, S, P.bind (Stp.refl S.hs.nofr) fun r σ1 h1 H1 g1 S1 st1 _ P1 v y => ?_⟩
  obtain ⟨g2, S2, st2, rd, _⟩ := S1.freeze st1 y fun a ha => S.fresh0 ha
  split at P1
  · rename_i xs q
    rw [q] at rd
    cases rd with
    | lst h1 h2 h3 => exact ⟨_, rfl, .inl ⟨⟨_, SqL.of h1⟩, P1 H1 g2 S2 st2 _ (walk_list (fun H' g' s => SqL.of (s.froz _ _ h1 h2).2) h3)⟩⟩
  · rename_i xs q
    rw [q] at rd
    cases rd with
    | tup h1 h2 => exact ⟨_, rfl, .inr ⟨⟨_, h1⟩, P1 H1 g2 S2 st2 _ (walk_tup (fun H' g' s => seqT_keep (s.tups _) (s.frzs _) h1) h2)⟩⟩
  · rename_i ns q
    rw [q] at rd
    cases rd with
    | scr h1 => exact ⟨_, rfl, .inl ⟨⟨_, h1.seq⟩, P1 H1 g2 S2 st2 _ (walk_list (fun H' g' s => (h1.stw s).seq) ints_rd)⟩⟩
  · exact P1.elim
theorem small62_of {i : Int} (h : small62 i = true) : -(2 ^ 62) ≤ i ∧ i < 2 ^ 62 := by
  unfold small62 at h
  simp only [Bool.and_eq_true, decide_eq_true_eq] at h
  omega
theorem i_rng1 (G : Good sy cs n Γ X W N sc) (hg : glB sc "range" = true) (hs : notStar l = true) (hA : AE cs Γ C X W a l) : AI cs Γ C X W (.rng1 a) tg (.Call (.Name "range" p1) [l] [] pos) := by
  obtain ⟨h1, h2⟩ := glB_gl G hg
  refine PI.imp (pi_range1 h1 (blt_none G (by decide +kernel)) (pa_cons hA pa_nil (star_cons hs)) (star_cons hs)) ?_
  intro σ H R ⟨H0, g0, g, sl, hp, S, P⟩
  unfold evI at P
  refine ⟨H0, g0, g, sl, hp, S, P.bind (Stp.refl S.hs.nofr) fun r σ1 h1 H1 g1 S1 st1 _ P1 v y => ?_⟩
  split at P1
  · rename_i j
    cases y
    split at P1
    · rename_i hj
      obtain ⟨j1, j2⟩ := small62_of hj
      refine ⟨j, rfl, j1, j2, ?_⟩
      have q := P1 H1 g1 S1 st1 _ (walk_rng (lo := 0) (hi := j))
      rw [Int.sub_zero] at q
      exact q
    · exact P1.elim
  · exact P1.elim
theorem i_rng2 (G : Good sy cs n Γ X W N sc) (hg : glB sc "range" = true) (hs : notStar l = true) (hs2 : notStar r = true) (hA : AE cs Γ C X W a l) (hB : AE cs Γ C X W b r) : AI cs Γ C X W (.rng2 a b) tg (.Call (.Name "range" p1) [l, r] [] pos) := by
  obtain ⟨h1, h2⟩ := glB_gl G hg
  refine PI.imp (pi_range2 h1 (blt_none G (by decide +kernel)) (pa_cons hA (pa_cons hB pa_nil (star_cons hs2)) (star_cons hs)) (by rw [star_cons hs, star_cons hs2]; rfl) (star_cons hs2)) ?_
  intro σ H R ⟨H0, g0, g, sl, hp, S, P⟩
  unfold evI at P
  refine ⟨H0, g0, g, sl, hp, S, P.bind (Stp.refl S.hs.nofr) fun ra σ1 h1 H1 g1 S1 st1 _ P1 v y => ?_⟩
  refine ⟨H0, g0, g1, σ1, h1, S1, P1.bind st1 fun rb σ2 h2 H2 g2 S2 st2 st2' P2 u z => ?_⟩
  split at P2
  · rename_i i j
    cases y
    cases z
    split at P2
    · rename_i hj
      rw [Bool.and_eq_true] at hj
      obtain ⟨i1, i2⟩ := small62_of hj.1
      obtain ⟨j1, j2⟩ := small62_of hj.2
      exact ⟨i, j, rfl, ⟨i1, i2, j1, j2⟩, P2 H2 g2 S2 st2' _ walk_rng⟩
    · exact P2.elim
  · exact P2.elim
theorem i_enu (G : Good sy cs n Γ X W N sc) {elts : List Expr} {kk : Nat} {tpos : Pos} (hg : glB sc "enumerate" = true) (hs : notStar l = true) (hA : AE cs Γ C X W e l) : AI cs Γ C X W (.enu e) (.Tuple elts kk tpos) (.Call (.Name "enumerate" p1) [l] [] pos) := by
  obtain ⟨h1, h2⟩ := glB_gl G hg
  refine PI.imp (pi_enu h1 (blt_none G (by decide +kernel)) (pa_cons hA pa_nil (star_cons hs)) (star_cons hs)) ?_
  intro σ H R ⟨H0, g0, g, sl, hp, S, P⟩
  unfold evI at P
  refine ⟨H0, g0, g, sl, hp, S, P.bind (Stp.refl S.hs.nofr) fun r σ1 h1 H1 g1 S1 st1 _ P1 v y => ?_⟩
  obtain ⟨g2, S2, st2, rd, _⟩ := S1.freeze st1 y fun a ha => S.fresh0 ha
  split at P1
  · rename_i xs q
    rw [q] at rd
    cases rd with
    | lst h1 h2 h3 => exact ⟨_, rfl, .inl ⟨⟨_, SqL.of h1⟩, P1 H1 g2 S2 st2 _ (walk_enl (fun H' g' s => SqL.of (s.froz _ _ h1 h2).2) h3)⟩⟩
  · rename_i xs q
    rw [q] at rd
    cases rd with
    | tup h1 h2 => exact ⟨_, rfl, .inr ⟨⟨_, h1⟩, P1 H1 g2 S2 st2 _ (walk_ent (fun H' g' s => seqT_keep (s.tups _) (s.frzs _) h1) h2)⟩⟩
  · exact P1.elim
end

/-! ### comprehensions -/
section
variable {K : PySem.W.Frag} {cs : Cls0} {g g' g0 : Gh} {H H' H0 : Hp} {σr : L2.St} {σ : List Slot} {h : List Ob} {v : V}
theorem SltR.other {i k : Nat} {z : Slot} {w : Option V} (hk : k ≠ i) (q : SltR K cs H0 σr g H k z) : SltR K cs H0 (σr.set i w) g H k z := by
  cases z with
  | un => trivial
  | v d =>
    obtain ⟨u, e1, r⟩ := q
    exact ⟨u, by rw [List.getElem?_set_ne (Ne.symm hk)]; exact e1, r⟩
  | o xs =>
    obtain ⟨b, us, e1, e2⟩ := q
    exact ⟨b, us, by rw [List.getElem?_set_ne (Ne.symm hk)]; exact e1, e2⟩
  | x c p => trivial
theorem Sim.setv {i : Nat} {d : D} (s : Sim K cs H0 g0 σr H g σ h) (r : RD K g H v d) : Sim K cs H0 g0 (σr.set i (some v)) H g (σ.set i (.v d)) h where
  hs := s.hs
  fr := s.fr
  len := by simpa using s.len
  sl := fun k z e => by
    by_cases hk : k = i
    · subst hk
      have hlt : k < σ.length := by
        have := (List.getElem?_eq_some_iff.mp e).1
        simpa using this
      rw [List.getElem?_set_self hlt] at e
      cases e
      exact ⟨v, List.getElem?_set_self (by rw [s.len]; exact hlt), r⟩
    · rw [List.getElem?_set_ne (Ne.symm hk)] at e
      exact SltR.other hk (s.sl k z e)
theorem Sim.hide {i : Nat} (s : Sim K cs H0 g0 σr H g σ h) : Sim K cs H0 g0 (σr.set i none) H g (σ.set i .un) h where
  hs := s.hs
  fr := s.fr
  len := by simpa using s.len
  sl := fun k z e => by
    by_cases hk : k = i
    · subst hk
      have hlt : k < σ.length := by
        have := (List.getElem?_eq_some_iff.mp e).1
        simpa using this
      rw [List.getElem?_set_self hlt] at e
      cases e
      trivial
    · rw [List.getElem?_set_ne (Ne.symm hk)] at e
      exact SltR.other hk (s.sl k z e)
theorem Sim.unhide {i : Nat} {z0 : Slot} {σ' : List Slot} (s : Sim K cs H0 g0 (σr.set i none) H g (σ'.set i .un) h) (q : SltR K cs H0 σr g H i z0) : Sim K cs H0 g0 σr H g (σ'.set i z0) h where
  hs := s.hs
  fr := s.fr
  len := by have := s.len; simpa using this
  sl := fun k z e => by
    by_cases hk : k = i
    · subst hk
      have hlt : k < σ'.length := by
        have := (List.getElem?_eq_some_iff.mp e).1
        simpa using this
      rw [List.getElem?_set_self hlt] at e
      cases e
      exact q
    · rw [List.getElem?_set_ne (Ne.symm hk)] at e
      have q2 := s.sl k z (by rw [List.getElem?_set_ne (Ne.symm hk)]; exact e)
      have q3 := SltR.other (w := σr.getD i none) hk q2
      cases z with
      | un => trivial
      | v d =>
        obtain ⟨u, e1, r⟩ := q2
        exact ⟨u, by rw [List.getElem?_set_ne (Ne.symm hk)] at e1; exact e1, r⟩
      | o xs =>
        obtain ⟨b, us, e1, e2⟩ := q2
        exact ⟨b, us, by rw [List.getElem?_set_ne (Ne.symm hk)] at e1; exact e1, e2⟩
      | x c p => trivial
theorem plain_slt {i : Nat} {s0 : Slot} (S : Sim K cs H0 g0 σr H g σ h) (q : plainSlot σ[i]? = some s0) : SltR K cs H0 σr g H i s0 ∧ (s0 = .un ∨ ∃ d, s0 = .v d) := by
  cases e : σ[i]? with
  | none => rw [e] at q; cases q
  | some z =>
    rw [e] at q
    cases z with
    | un => cases q; exact ⟨trivial, .inl rfl⟩
    | v d => cases q; exact ⟨S.sl i _ e, .inr ⟨d, rfl⟩⟩
    | o xs => cases q
    | x c p => cases q
theorem SltR.stw {i : Nat} {s0 : Slot} (hp : s0 = .un ∨ ∃ d, s0 = .v d) (q : SltR K cs H0 σr g H i s0) (s : Stw H g H' g') : SltR K cs H0 σr g' H' i s0 := by
  rcases hp with rfl | ⟨d, rfl⟩
  · trivial
  · obtain ⟨v, e, r⟩ := q
    exact ⟨v, e, RD.monoW s r⟩
end
abbrev W0 : WX := fun _ _ _ _ => False
section
variable {sy : Sy} {cs : Cls0} {n : Nat} {Γ : Calls} {C : Cf} {X : Cx} {W : WX} {N : List Str} {sc scope : Scope} {elt c : E} {it : I} {ex iter tx : Expr} {pos pz : Pos} {i : Nat} {z : Str}
theorem good_blk (G : Good sy cs n Γ X W N sc) (s : Shared) (H : Hp) (Ca : Addr) (cl : List (Str × Addr)) (fp : List Addr) : Good sy cs n Γ (X.blk s H scope (compEnvC scope cl Ca X.env) fp) W0 N (relS scope sc) where
  calm := G.calm
  nm := G.nm
  nd := G.nd
  sc := by rw [← G.sc]; rfl
  room := G.room
  tk := takes0
  ok := G.ok
/-- what a turn of the block is: the test, then the item -/
def TurnOk (K : PySem.W.Frag) (cs : Cls0) (f : List Slot → List Ob → Res (Option D)) (tt : TT) (te : TE) : Prop :=
  ∀ (H0 : Hp) (g0 : Gh) (σr : L2.St) (H : Hp) (g : Gh) (σ : List Slot) (h : List Ob) (kk : Option D → List Slot → List Ob → Hp → Gh → Prop) (K1 : VK) (K2 : Hp → Prop), Sim K cs H0 g0 σr H g σ h → Post K cs H0 g0 σr H g W0 (f σ h) kk →
    (∀ d σ h H' g' v, Sim K cs H0 g0 σr H' g' σ h → Stp H g H' g' → kk (some d) σ h H' g' → RD K g' H' v d → K1 v H') → (∀ σ h H' g', Sim K cs H0 g0 σr H' g' σ h → Stp H g H' g' → kk none σ h H' g' → K2 H') →
    tt σr H fun b H' => if b = true then te σr H' (fun y H'' => K1 y H'') else K2 H'
theorem turn_plain : TurnOk X.K cs (fun σ h => (evE Γ C elt σ h).bind fun r σ h => .ok (some r.d) σ h) tYes (tE X.K cs Γ C W0 elt) := by
  intro H0 g0 σr H g σ h kk K1 K2 S P k1 _
  show (if (true : Bool) = true then tE X.K cs Γ C W0 elt σr H (fun y H'' => K1 y H'') else K2 H)
  rw [if_pos rfl]
  refine ⟨H0, g0, g, σ, h, S, P.bind (Stp.refl S.hs.nofr) fun r σ1 h1 H1 g1 S1 st1 _ P1 v y => ?_⟩
  obtain ⟨g2, S2, st2, rd, _⟩ := S1.freeze st1 y fun a ha => S.fresh0 ha
  exact k1 _ _ _ _ _ _ S2 st2 (P1 H1 g2 S2 st2) rd
theorem turn_test : TurnOk X.K cs (fun σ h => (asB (evE Γ C c σ h)).bind fun k σ h => if k then (evE Γ C elt σ h).bind fun r σ h => .ok (some r.d) σ h else .ok none σ h) (tB X.K cs Γ C W0 c) (tE X.K cs Γ C W0 elt) := by
  intro H0 g0 σr H g σ h kk K1 K2 S P k1 k2
  refine ⟨H0, g0, g, σ, h, S, P.bind (Stp.refl S.hs.nofr) fun b σ1 h1 H1 g1 S1 st1 _ P1 => ?_⟩
  cases b with
  | false =>
    rw [if_neg Bool.false_ne_true] at P1 ⊢
    exact k2 _ _ _ _ S1 st1 (P1 H1 g1 S1 st1)
  | true =>
    rw [if_pos rfl] at P1 ⊢
    refine ⟨H0, g0, g1, σ1, h1, S1, P1.bind st1 fun r σ2 h2 H2 g2 S2 st2 st2' P2 v y => ?_⟩
    obtain ⟨g3, S3, st3, rd, _⟩ := S2.freeze st2' (y.base fun a o e => st1.there a o e) fun a ha => S.fresh0 ha
    exact k1 _ _ _ _ _ _ S3 st3 (P2 H2 g3 S3 st3) rd

theorem com_ok {f : List Slot → List Ob → Res (Option D)} {tt : TT} {te : TE} (T : TurnOk X.K cs f tt te) {σr : L2.St} {H : Hp} {Q : VK} {H0 : Hp} {g0 g : Gh} {sl : List Slot} {hp : List Ob} (S : Sim X.K cs H0 g0 σr H g sl hp)
    (P : Post X.K cs H0 g0 σr H g W ((evI Γ C it sl hp).bind fun ds σ h => match plainSlot σ[i]? with
      | some s => (noexc (comL i f ds [] σ h)).bind fun xs σ' h' => .ok (.o xs) (σ'.set i s) h'
      | none => .stuck) (fun r _ _ H' g' => ∀ v, RR X.K H H' g' v r → Q v H')) :
    tLc (tIt X.K cs Γ C W it) (gName i) tt te [i] σr H Q := by
  refine ⟨H0, g0, g, sl, hp, S, P.bind (Stp.refl S.hs.nofr) fun ds σ1 h1 H1 g1 S1 st1 _ P1 J wk D hD => ?_⟩
  cases q : plainSlot σ1[i]? with
  | none => rw [q] at P1; exact P1.elim
  | some s0 =>
    rw [q] at P1
    obtain ⟨sl0, pl0⟩ := plain_slt S1 q
    have hHD : H D = none := none_base st1 hD
    -- what holds ahead of the j-th turn
    let Iv : Nat → Hp → Prop := fun j Hj => ∃ gj σj hj acc avs, Sim X.K cs H0 g0 (σr.set i none) Hj gj (σj.set i .un) hj ∧ SltR X.K cs H0 σr gj Hj i s0 ∧ Hj D = some (.lst avs) ∧ gj.tag D = .free ∧ RDs X.K gj Hj avs acc ∧
      Stw H1 g1 Hj gj ∧ Stp H g Hj gj ∧ Post X.K cs H0 g0 σr H g W ((noexc (comL i f (ds.drop j) acc σj hj)).bind fun xs σ' h' => .ok (.o xs) (σ'.set i s0) h') (fun r _ _ H' g' => ∀ v, RR X.K H H' g' v r → Q v H')
    refine ⟨fun j m Hj => m = ds.length - j ∧ j ≤ ds.length ∧ Iv j Hj, ⟨ds.length, by simp, Nat.zero_le _, g1, σ1, h1, [], [], ?_⟩, ?_⟩
    · have stn := Stp.new (o := .lst []) S1.hs hD
      exact ⟨(S1.new hD).hide, sl0.stw pl0 stn.w, upd_same, S1.hs.nofr D hD, .nil, stn.w, st1.trans stn, P1⟩
    · rintro j m Hj ⟨rfl, hj, gj, σj, hj', acc, avs, Sj, slj, eD, tD, rsj, wj, bj, Pj⟩
      by_cases hlt : j < ds.length
      · refine .inr ⟨wk.go j Hj gj hlt wj, Iv (j + 1), fun H' y => ⟨ds.length - (j + 1), by omega, rfl, hlt, y⟩, fun x H' y => ?_⟩
        obtain ⟨d, ed, hx⟩ := wk.yld j Hj gj x H' wj y hlt
        -- the heap with the item
        obtain ⟨S', fr, rdx⟩ : Sim X.K cs H0 g0 (σr.set i none) H' gj (σj.set i .un) hj' ∧ FrS Hj gj H' gj ∧ RD X.K gj H' x d := by
          rcases hx with ⟨rfl, rd⟩ | ⟨T', y', rfl, hT, rfl, dy, rfl, rdy⟩
          · exact ⟨Sj, FrS.refl, rd⟩
          · exact ⟨Sj.new hT, FrS.new hT, .tup (SqT.of upd_same) (.cons (.int _) (.cons (RD.mono (Stp.new Sj.hs hT) rdy) .nil))⟩
        have stf := Sj.hs.stp fr
        have eD' : H' D = some (.lst avs) := (stf.stay D _ eD (.inl tD)).2
        have Sx := S'.setv (i := i) rdx
        have e1 : (σj.set i Slot.un).set i (.v d) = σj.set i (.v d) := List.set_set ..
        rw [e1] at Sx
        have drop1 : ds.drop j = d :: ds.drop (j + 1) := by
          obtain ⟨hl, he⟩ := List.getElem?_eq_some_iff.mp ed
          rw [List.drop_eq_getElem_cons hl, he]
        rw [drop1] at Pj
        show wipe ((wipe σr [i]).set i (some x)) [i] = wipe σr [i] ∧ tt ((wipe σr [i]).set i (some x)) H' _
        refine ⟨by show ((σr.set i none).set i (some x)).set i none = σr.set i none; rw [List.set_set, List.set_set], ?_⟩
        show tt ((σr.set i none).set i (some x)) H' _
        -- what the turn leaves
        have back : ∀ {σ4 : List Slot} {h4 : List Ob} {H4 : Hp} {g4 : Gh}, Sim X.K cs H0 g0 ((σr.set i none).set i (some x)) H4 g4 σ4 h4 → Sim X.K cs H0 g0 (σr.set i none) H4 g4 (σ4.set i .un) h4 := fun {σ4 h4 H4 g4} S4 => by
          have q := S4.hide (i := i)
          rw [List.set_set, List.set_set] at q
          exact q
        refine T H0 g0 _ H' gj (σj.set i (.v d)) hj' (fun o σ4 h4 H4 g4 => Post X.K cs H0 g0 σr H g W ((noexc (match o with
            | some x => if acc.length < sizeLine then comL i f (ds.drop (j + 1)) (acc ++ [x]) σ4 h4 else .stuck
            | none => comL i f (ds.drop (j + 1)) acc σ4 h4)).bind fun xs σ' h' => .ok (.o xs) (σ'.set i s0) h') (fun r _ _ H' g' => ∀ v, RR X.K H H' g' v r → Q v H'))
          (fun y H4 => ∃ acc, H4 D = some (.lst acc) ∧ acc.length < sizeLine ∧ Iv (j + 1) (upd H4 D (.lst (acc ++ [y])))) (fun H4 => Iv (j + 1) H4) Sx ?_ ?_ ?_
        · -- the turn's own run
          unfold comL at Pj
          cases qf : f (σj.set i (.v d)) hj' with
          | stuck => rw [qf] at Pj; exact Pj.elim
          | exc c p σ4 h4 => rw [qf] at Pj; exact Pj.elim
          | ok o σ4 h4 =>
            rw [qf] at Pj
            exact fun H4 g4 _ _ => Pj
        · intro dy σ4 h4 H4 g4 v S4 st4 P4 rdv
          dsimp only at P4
          split at P4
          · rename_i hz
            have k1 := st4.stay D _ eD' (.inl tD)
            have tD4 : g4.tag D = .free := k1.1.trans tD
            have sw := Stw.free (o' := .lst (avs ++ [v])) tD4 k1.2
            have all := (stf.trans st4).w.trans sw
            refine ⟨avs, k1.2, by rw [rsj.len]; exact hz, g4, σ4, h4, acc ++ [dy], avs ++ [v], ?_, slj.stw pl0 all, upd_same, tD4, (RDs.monoW all rsj).append (.cons (RD.monoW sw rdv) .nil), wj.trans all,
              ((bj.trans stf).trans st4).updNew hHD k1.2, P4⟩
            exact (back S4).mutFree k1.2 tD4 (by
              cases q0 : H0 D with
              | none => rfl
              | some o0 =>
                obtain ⟨o1, z1⟩ := S.fr.there D o0 q0
                rw [hHD] at z1
                cases z1)
          · exact P4.elim
        · intro σ4 h4 H4 g4 S4 st4 P4
          have k1 := st4.stay D _ eD' (.inl tD)
          have all := (stf.trans st4).w
          exact ⟨g4, σ4, h4, acc, avs, back S4, slj.stw pl0 all, k1.2, k1.1.trans tD, RDs.monoW all rsj, wj.trans all, (bj.trans stf).trans st4, P4⟩
      · have ej : j = ds.length := by omega
        subst ej
        refine .inl ⟨wk.stop _ Hj gj (Nat.le_refl _) wj, ?_⟩
        rw [List.drop_length] at Pj
        exact Pj Hj gj (Sj.unhide slj) bj (.ref D) ⟨D, avs, rfl, hHD, eD, tD, rsj⟩
theorem notSet_fold (h : notSet iter = true) (env : Env) : ∀ v, foldedSetIterable iter env v = pure v := by
  intro v
  cases iter <;> first | rfl | cases h
theorem k_com (G : Good sy cs n Γ X W N sc) (hi : N[i]? = some z) (hl : (relS scope sc).names.lookup z = some .local) (hb : blkC N sc scope [(z, i)] = true) (hset : notSet iter = true) (hI : AI cs Γ C X W it (.Name z pz) iter)
    (hE : ∀ X', X'.K = X.K → Good sy cs n Γ X' W0 N (relS scope sc) → AE cs Γ C X' W0 elt ex) : AE cs Γ C X W (.com i elt it) (.ListComp ex [⟨.Name z pz, iter, [], 0⟩] scope pos) := by
  have ok : BlkOk X.N X.env.scope scope [(z, i)] := by
    rw [G.nm, G.sc]
    exact blkOk_by hb
  refine PE.imp (pe_lc (own := [(z, i)]) (tt := tYes) (te := tE X.K cs Γ C W0 elt) G.calm G.nd hI ok (fun s H Ca cl fp => pg_name G.nd (by rw [G.nm]; exact hi) (.inl (by rw [(good_blk G s H Ca cl fp).sc]; exact hl)) (.inr (by rw [(good_blk G s H Ca cl fp).sc]; exact hl)))
    (fun s H Ca cl fp => pts_nil) (fun s H Ca cl fp => hE _ rfl (good_blk G s H Ca cl fp)) (notSet_fold hset X.env)) ?_
  intro σ H Q ⟨H0, g0, g, sl, hp, S, P⟩
  unfold evE at P
  exact com_ok turn_plain S P
theorem k_comf (G : Good sy cs n Γ X W N sc) (hi : N[i]? = some z) (hl : (relS scope sc).names.lookup z = some .local) (hb : blkC N sc scope [(z, i)] = true) (hset : notSet iter = true) (hI : AI cs Γ C X W it (.Name z pz) iter)
    (hE : ∀ X', X'.K = X.K → Good sy cs n Γ X' W0 N (relS scope sc) → AE cs Γ C X' W0 elt ex) (hC : ∀ X', X'.K = X.K → Good sy cs n Γ X' W0 N (relS scope sc) → AT cs Γ C X' W0 c tx) :
    AE cs Γ C X W (.comf i elt it c) (.ListComp ex [⟨.Name z pz, iter, [tx], 0⟩] scope pos) := by
  have ok : BlkOk X.N X.env.scope scope [(z, i)] := by
    rw [G.nm, G.sc]
    exact blkOk_by hb
  refine PE.imp (pe_lc (own := [(z, i)]) (tt := tB X.K cs Γ C W0 c) (te := tE X.K cs Γ C W0 elt) G.calm G.nd hI ok (fun s H Ca cl fp => pg_name G.nd (by rw [G.nm]; exact hi) (.inl (by rw [(good_blk G s H Ca cl fp).sc]; exact hl)) (.inr (by rw [(good_blk G s H Ca cl fp).sc]; exact hl)))
    (fun s H Ca cl fp => pts_one (hC _ rfl (good_blk G s H Ca cl fp))) (fun s H Ca cl fp => hE _ rfl (good_blk G s H Ca cl fp)) (notSet_fold hset X.env)) ?_
  intro σ H Q ⟨H0, g0, g, sl, hp, S, P⟩
  unfold evE at P
  exact com_ok turn_test S P
end
end Pm

set_option Elab.async false
set_option linter.all false
set_option maxRecDepth 100000
set_option maxHeartbeats 4000000
/-! The pure machine: every expression that its term holds against the text is read by it. -/
namespace Pm
open PySem PySem.Spec L2
section
variable {X : Cx} {c a b : Expr} {tc ta tb : TT} {pos : Pos}
theorem pt_ifExp (hc : PT X c tc) (ha : PT X a ta) (hb : PT X b tb) : PT X (.IfExp c a b pos) (fun σ H Q => tc σ H fun k H1 => if k = true then ta σ H1 Q else tb σ H1 Q) := by
  refine ⟨fun pins s σ H Q I h => ?_⟩
  show wpAny _ _ (do if ← isTrue c X.env (eval c X.env) then isTrue a X.env (eval a X.env) else isTrue b X.env (eval b X.env)) _ _ s
  refine wpAny_bind (thn (hc.run pins s σ H _ I h) fun k s1 ⟨H1, I1, q⟩ => ?_)
  cases k with
  | true => exact ha.run pins s1 σ H1 Q I1 q
  | false => exact hb.run pins s1 σ H1 Q I1 q
theorem PT.pw {op : BoolOp} {xs : List Expr} {t : TT} (h : PT X (.BoolOp op xs pos) t) : PW X (.BoolOp op xs pos) t := ⟨fun wh pins s σ H Q I hw => h.run pins s σ H Q I hw⟩
end
section
variable {sy : Sy} {cs : Cls0} {n : Nat} {Γ : Calls} {C : Cf} {X : Cx} {W : WX} {N : List Str} {sc : Scope} {a b c : E} {t l r : Expr} {pos : Pos}
theorem asB_bind {α : Type} {m : Res α} {f : α → List Slot → List Ob → Res R} : asB (m.bind f) = m.bind fun x σ h => asB (f x σ h) := by
  cases m <;> rfl
theorem t_ite (hC : AT cs Γ C X W c t) (hA : AT cs Γ C X W a l) (hB : AT cs Γ C X W b r) : AT cs Γ C X W (.ite c a b) (.IfExp t l r pos) := by
  refine PT.imp (pt_ifExp hC hA hB) ?_
  intro σ H Q ⟨H0, g0, g, sl, hp, S, P⟩
  unfold evE at P
  rw [asB_bind] at P
  refine ⟨H0, g0, g, sl, hp, S, P.bind (Stp.refl S.hs.nofr) fun b' σ1 h1 H1 g1 S1 st1 _ P1 => ?_⟩
  cases b' with
  | true =>
    rw [if_pos rfl] at P1 ⊢
    exact ⟨H0, g0, g1, σ1, h1, S1, P1.sub st1 fun r σ2 h2 H2 g2 _ _ q => q⟩
  | false =>
    rw [if_neg Bool.false_ne_true] at P1 ⊢
    exact ⟨H0, g0, g1, σ1, h1, S1, P1.sub st1 fun r σ2 h2 H2 g2 _ _ q => q⟩
end
section
variable {sy : Sy} {cs : Cls0} {n : Nat} {Γ : Calls} {C : Cf} {N : List Str}
def isTupX : Expr → Bool
  | .Tuple _ _ _ => true
  | _ => false
theorem nd_of {z y : Str} (h : decide (z = y) = true) : z = y := of_decide_eq_true h
/-- the test of a text that has no test of its own -/
theorem bothP {X : Cx} {W : WX} {e : E} {x : Expr} (h : plainTest x = true) (hA : AE cs Γ C X W e x) : AE cs Γ C X W e x ∧ AT cs Γ C X W e x := ⟨hA, t_plain h hA⟩
theorem k_bor {X : Cx} {W : WX} {sc : Scope} {i : Nat} {z : Str} {pos : Pos} (G : Good sy cs n Γ X W N sc) (h : nmB N sc i z = true) : AE cs Γ C X W (.bor i) (.Name z pos) :=
  PE.imp (pe_nm G h) fun σ H Q ⟨H0, g0, g, sl, hp, S, P⟩ => by
    unfold evE at P
    exact P.elim
/-- an operand, of either kind -/
theorem opOk {X : Cx} {W : WX} {sc : Scope} {e : E} {x : Expr} (G : Good sy cs n Γ X W N sc) (h : chkE sy N e sc x = true) (hA : AE cs Γ C X W e x) : AD cs Γ C X W e x := by
  rcases okD hA with q | ⟨i, rfl⟩
  · exact q
  · unfold chkE at h
    split at h
    · exact okBor G h
    · cases h
mutual
theorem okE : ∀ (e : E) (X : Cx) (W : WX) (sc : Scope) (x : Expr), Good sy cs n Γ X W N sc → chkE sy N e sc x = true → AE cs Γ C X W e x ∧ AT cs Γ C X W e x
  | .con d, X, W, sc, x, G, h => by
    have q := k_con (cs := cs) (Γ := Γ) (C := C) (X := X) (W := W) h
    refine bothP ?_ q
    unfold chkE at h
    split at h <;> first | rfl | cases h
  | .glo y d, X, W, sc, x, G, h => by
    have q := k_glo (cs := cs) (Γ := Γ) (C := C) G h
    refine bothP ?_ q
    unfold chkE at h
    split at h <;> first | rfl | cases h
  | .var i, X, W, sc, x, G, h => by
    unfold chkE at h
    split at h
    · exact bothP rfl (k_var G h)
    · cases h
  | .bor i, X, W, sc, x, G, h => by
    unfold chkE at h
    split at h
    · exact bothP rfl (k_bor G h)
    · cases h
  | .tup es, X, W, sc, x, G, h => by
    unfold chkE at h
    split at h
    · exact bothP rfl (k_tup (okA es X W sc _ G h))
    · cases h
  | .lst es, X, W, sc, x, G, h => by
    unfold chkE at h
    split at h
    · exact bothP rfl (k_lst (okA es X W sc _ G h))
    · cases h
  | .bin op a b, X, W, sc, x, G, h => by
    unfold chkE at h
    split at h
    · simp only [Bool.and_eq_true, decide_eq_true_eq] at h
      obtain ⟨rfl, h1, h2⟩ := h
      exact bothP rfl (k_bin (opOk G h1 (okE a X W sc _ G h1).1) (opOk G h2 (okE b X W sc _ G h2).1))
    · cases h
  | .neg a, X, W, sc, x, G, h => by
    unfold chkE at h
    split at h
    · exact bothP rfl (k_neg (okE a X W sc _ G h).1)
    · cases h
  | .cmp op a b, X, W, sc, x, G, h => by
    unfold chkE at h
    split at h
    · simp only [Bool.and_eq_true, decide_eq_true_eq, Bool.not_eq_true'] at h
      obtain ⟨rfl, h0, h1, h2⟩ := h
      have hA := opOk G h1 (okE a X W sc _ G h1).1
      have hB := opOk G h2 (okE b X W sc _ G h2).1
      exact ⟨k_cmp G h0 hA hB, t_cmp G h0 hA hB⟩
    · cases h
  | .cmp2 op op' a b c, X, W, sc, x, G, h => by
    unfold chkE at h
    split at h
    · simp only [Bool.and_eq_true, decide_eq_true_eq, Bool.not_eq_true'] at h
      obtain ⟨rfl, rfl, h0, h1, h2, h3⟩ := h
      have hA := opOk G h1 (okE a X W sc _ G h1).1
      have hB := opOk G h2 (okE b X W sc _ G h2).1
      have hC := opOk G h3 (okE c X W sc _ G h3).1
      exact ⟨k_cmp2 G h0 hA hB hC, t_cmp2 G h0 hA hB hC⟩
    · cases h
  | .and a b, X, W, sc, x, G, h => by
    unfold chkE at h
    split at h
    · rename_i l r rest pos
      rw [Bool.and_eq_true] at h
      obtain ⟨h1, h2⟩ := h
      have hA := okE a X W sc _ G h1
      have hB := okE b X W sc _ G h2
      cases rest with
      | nil => exact ⟨k_and hA.1 hB.1 fun ta tb pa pb => pe_and pa (pe_one pb), t_and hA.2 hB.2 fun ta tb pa pb => (pw_and pa (pw_and1 pb)).pt⟩
      | cons r' rest => exact ⟨k_and hA.1 hB.1 fun ta tb pa pb => pe_and pa pb, t_and hA.2 hB.2 fun ta tb pa pb => (pw_and pa (PT.pw pb)).pt⟩
    · cases h
  | .or a b, X, W, sc, x, G, h => by
    unfold chkE at h
    split at h
    · rename_i l r rest pos
      rw [Bool.and_eq_true] at h
      obtain ⟨h1, h2⟩ := h
      have hA := okE a X W sc _ G h1
      have hB := okE b X W sc _ G h2
      cases rest with
      | nil => exact ⟨k_or hA.1 hB.1 fun ta tb pa pb => pe_or pa (pe_one pb), t_or hA.2 hB.2 fun ta tb pa pb => (pw_or pa (pw_or1 pb)).pt⟩
      | cons r' rest => exact ⟨k_or hA.1 hB.1 fun ta tb pa pb => pe_or pa pb, t_or hA.2 hB.2 fun ta tb pa pb => (pw_or pa (PT.pw pb)).pt⟩
    · cases h
  | .not a, X, W, sc, x, G, h => by
    unfold chkE at h
    split at h
    · have hA := okE a X W sc _ G h
      exact ⟨k_not hA.1, t_not hA.2⟩
    · cases h
  | .ite c a b, X, W, sc, x, G, h => by
    unfold chkE at h
    split at h
    · simp only [Bool.and_eq_true] at h
      obtain ⟨h0, h1, h2⟩ := h
      have hC := okE c X W sc _ G h0
      have hA := okE a X W sc _ G h1
      have hB := okE b X W sc _ G h2
      exact ⟨k_ite hC.2 hA.1 hB.1, t_ite hC.2 hA.2 hB.2⟩
    · cases h
  | .idx a b, X, W, sc, x, G, h => by
    unfold chkE at h
    split at h
    · simp only [Bool.and_eq_true] at h
      obtain ⟨h0, h1, h2⟩ := h
      exact bothP rfl (k_idx h0 (opOk G h1 (okE a X W sc _ G h1).1) (opOk G h2 (okE b X W sc _ G h2).1))
    · cases h
  | .sli a lo hi, X, W, sc, x, G, h => by
    unfold chkE at h
    split at h
    · simp only [Bool.and_eq_true] at h
      obtain ⟨h1, h2, h3⟩ := h
      exact bothP rfl (k_sli (opOk G h1 (okE a X W sc _ G h1).1) (okO lo X W sc _ G h2) (okO hi X W sc _ G h3))
    · cases h
  | .rev a, X, W, sc, x, G, h => by
    unfold chkE at h
    split at h
    · simp only [Bool.and_eq_true, decide_eq_true_eq] at h
      obtain ⟨rfl, h1⟩ := h
      exact bothP rfl (k_rev (opOk G h1 (okE a X W sc _ G h1).1))
    · cases h
  | .fn1 f a, X, W, sc, x, G, h => by
    unfold chkE at h
    split at h
    · simp only [Bool.and_eq_true] at h
      obtain ⟨h0, hg, hs, h1⟩ := h
      split at h0
      · rename_i nm fv hf
        rw [of_decide_eq_true h0] at hg ⊢
        exact bothP rfl (k_fn1 G hf hg hs (opOk G h1 (okE a X W sc _ G h1).1))
      · cases h0
    · cases h
  | .fn2 f a b, X, W, sc, x, G, h => by
    unfold chkE at h
    split at h
    · simp only [Bool.and_eq_true, decide_eq_true_eq] at h
      obtain ⟨rfl, hg, hs, hs2, h1, h2⟩ := h
      exact bothP rfl (k_fn2 G hg hs hs2 (okE a X W sc _ G h1).1 (okE b X W sc _ G h2).1)
    · cases h
  | .isi a t, X, W, sc, x, G, h => by
    unfold chkE at h
    split at h
    · simp only [Bool.and_eq_true, decide_eq_true_eq] at h
      obtain ⟨rfl, hg, rfl, hg2, hs, h1⟩ := h
      exact bothP rfl (k_isi G hg hg2 hs (opOk G h1 (okE a X W sc _ G h1).1))
    · cases h
  | .cal f es, X, W, sc, x, G, h => by
    unfold chkE at h
    split at h
    · simp only [Bool.and_eq_true, decide_eq_true_eq] at h
      obtain ⟨hf, hg, h1⟩ := h
      exact bothP rfl (k_cal G hf hg (chkA_star h1) (okA es X W sc _ G h1))
    · cases h
  | .popA i a, X, W, sc, x, G, h => by
    unfold chkE at h
    split at h
    · simp only [Bool.and_eq_true, decide_eq_true_eq] at h
      obtain ⟨rfl, hz, hl, hs, h1⟩ := h
      exact bothP rfl (k_popA G hz hl hs (okE a X W sc _ G h1).1)
    · cases h
  | .com i elt it, X, W, sc, x, G, h => by
    unfold chkE at h
    split at h
    · simp only [Bool.and_eq_true, decide_eq_true_eq] at h
      obtain ⟨hi, hl, hb, hset, hI, hE⟩ := h
      exact bothP rfl (k_com G hi hl hb hset (okI it X W sc _ _ _ G hI rfl) fun X' e G' => (okE elt X' W0 _ _ G' hE).1)
    · cases h
  | .comf i elt it c, X, W, sc, x, G, h => by
    unfold chkE at h
    split at h
    · simp only [Bool.and_eq_true, decide_eq_true_eq] at h
      obtain ⟨hi, hl, hb, hset, hI, hE, hC⟩ := h
      exact bothP rfl (k_comf G hi hl hb hset (okI it X W sc _ _ _ G hI rfl) (fun X' e G' => (okE elt X' W0 _ _ G' hE).1) fun X' e G' => (okE c X' W0 _ _ G' hC).2)
    · cases h
  | .prom e, X, W, sc, x, G, h => by
    unfold chkE at h
    rw [Bool.and_eq_true] at h
    exact bothP h.1 (k_prom (okE e X W sc _ G h.2).1)
  | .isx _ _, X, W, sc, x, G, h => by unfold chkE at h; cases h
  | .xfl _ _, X, W, sc, x, G, h => by unfold chkE at h; cases h
  | .new _ _ _, X, W, sc, x, G, h => by unfold chkE at h; cases h
  | .met _ _ _, X, W, sc, x, G, h => by unfold chkE at h; cases h
  | .fld _ _, X, W, sc, x, G, h => by unfold chkE at h; cases h
  | .fln _ _, X, W, sc, x, G, h => by unfold chkE at h; cases h
  | .pop _, X, W, sc, x, G, h => by unfold chkE at h; cases h
  | .popF _ _, X, W, sc, x, G, h => by unfold chkE at h; cases h
  | .join _ _, X, W, sc, x, G, h => by unfold chkE at h; cases h
  | .split _ _, X, W, sc, x, G, h => by unfold chkE at h; cases h
  | .tabin _ _, X, W, sc, x, G, h => by unfold chkE at h; cases h
  | .tabget _ _, X, W, sc, x, G, h => by unfold chkE at h; cases h
theorem okA : ∀ (es : Es) (X : Cx) (W : WX) (sc : Scope) (xs : List Expr), Good sy cs n Γ X W N sc → chkA sy N es sc xs = true → AA cs Γ C X W es xs
  | .nil, X, W, sc, xs, G, h => by
    unfold chkA at h
    split at h
    · exact a_nil
    · cases h
  | .cons e es, X, W, sc, xs, G, h => by
    unfold chkA at h
    split at h
    · simp only [Bool.and_eq_true] at h
      exact a_cons h.1 (okE e X W sc _ G h.2.1).1 (okA es X W sc _ G h.2.2)
    · cases h
theorem okO : ∀ (o : Eo) (X : Cx) (W : WX) (sc : Scope) (x : Option Expr), Good sy cs n Γ X W N sc → chkO sy N o sc x = true → PO X x (tOp1 X.K cs Γ C W o)
  | .no, X, W, sc, x, G, h => by
    unfold chkO at h
    split at h
    · exact o_no
    · cases h
  | .so e, X, W, sc, x, G, h => by
    unfold chkO at h
    split at h
    · exact o_so (okE e X W sc _ G h).1
    · cases h
theorem okI : ∀ (it : I) (X : Cx) (W : WX) (sc : Scope) (tg tg' x : Expr), Good sy cs n Γ X W N sc → chkI sy N it sc tg x = true → isTupX tg = isTupX tg' → AI cs Γ C X W it tg' x
  | .seq e, X, W, sc, tg, tg', x, G, h, ht => by
    unfold chkI at h
    exact i_seq (okE e X W sc _ G h).1
  | .rng1 a, X, W, sc, tg, tg', x, G, h, ht => by
    unfold chkI at h
    split at h
    · simp only [Bool.and_eq_true, decide_eq_true_eq] at h
      obtain ⟨rfl, hg, hs, h1⟩ := h
      exact i_rng1 G hg hs (okE a X W sc _ G h1).1
    · cases h
  | .rng2 a b, X, W, sc, tg, tg', x, G, h, ht => by
    unfold chkI at h
    split at h
    · simp only [Bool.and_eq_true, decide_eq_true_eq] at h
      obtain ⟨rfl, hg, hs, hs2, h1, h2⟩ := h
      exact i_rng2 G hg hs hs2 (okE a X W sc _ G h1).1 (okE b X W sc _ G h2).1
    · cases h
  | .rng3 _ _ _, X, W, sc, tg, tg', x, G, h, ht => by
    unfold chkI at h
    cases h
  | .enu e, X, W, sc, tg, tg', x, G, h, ht => by
    unfold chkI at h
    split at h
    · simp only [Bool.and_eq_true, decide_eq_true_eq] at h
      obtain ⟨rfl, hg, hs, h1⟩ := h
      cases tg' <;> first
        | exact i_enu G hg hs (okE e X W sc _ G h1).1
        | (cases ht; done)
    · cases h
end
end
end Pm

set_option Elab.async false
set_option linter.all false
set_option maxRecDepth 100000
set_option maxHeartbeats 4000000
/-! The pure machine: statements. -/
namespace Pm
open PySem PySem.Spec L2

structure GoodS (sy : Sy) (cs : Cls0) (n : Nat) (Γ : Calls) (X : Cx) (W : WX) (N : List Str) (sc : Scope) : Prop extends Good sy cs n Γ X W N sc where
  own : PassesOwn (model X.prog X.w) X.A X.env X.xe
  kd : X.env.scope.kind = ScopeKind.function
  fnT : ∀ x, X.fn x = true

section
variable (K : PySem.W.Frag) (cs : Cls0)
def EndAt (H0 : Hp) (D : Ends) (σr : L2.St) (H' : Hp) (g' : Gh) : Flow → Prop
  | .nx => D.nx σr H'
  | .bk => D.bk σr H'
  | .ct => D.ct σr H'
  | .rt r => ∀ v, RR K H0 H' g' v r → D.rt v H'
def PostS (H0 : Hp) (g0 : Gh) (H : Hp) (g : Gh) (W : WX) (m : Res Flow) (D : Ends) : Prop :=
  match m with
  | .ok fl σ h => ∀ σr H' g', Sim K cs H0 g0 σr H' g' σ h → Stp H g H' g' → EndAt K H0 D σr H' g' fl
  | .exc c p σ h => ∀ σr H' g' cl d, Sim K cs H0 g0 σr H' g' σ h → Stp H g H' g' → XR K cs g' H' c p cl d → W cl d σr H'
  | .stuck => False
variable (Γ : Calls) (C : Cf) (W : WX)
def tS (s : S) : TS := fun D σr H => ∃ H0 g0 g σ h, Sim K cs H0 g0 σr H g σ h ∧ PostS K cs H0 g0 H g W (exS Γ C s σ h) D
def tK (s : Ss) : TS := fun D σr H => ∃ H0 g0 g σ h, Sim K cs H0 g0 σr H g σ h ∧ PostS K cs H0 g0 H g W (exB Γ C s σ h) D
end
section
variable {K : PySem.W.Frag} {cs : Cls0} {α : Type} {H0 H H1 : Hp} {g0 g g1 : Gh} {σr : L2.St} {W : WX} {D D' : Ends}
theorem PostS.bindE {m : Res α} {f : α → List Slot → List Ob → Res Flow} {k1 : α → List Slot → List Ob → Hp → Gh → Prop} (P : PostS K cs H0 g0 H g W (m.bind f) D) (st : Stp H g H1 g1)
    (h : ∀ a σ2 h2 H2 g2, Sim K cs H0 g0 σr H2 g2 σ2 h2 → Stp H1 g1 H2 g2 → Stp H g H2 g2 → PostS K cs H0 g0 H g W (f a σ2 h2) D → k1 a σ2 h2 H2 g2) : Post K cs H0 g0 σr H1 g1 W m k1 := by
  cases m with
  | ok a σ hh => exact fun H2 g2 S st2 => h a σ hh H2 g2 S st2 (st.trans st2) P
  | exc c p σ hh => exact fun H2 g2 cl d S st2 x => P σr H2 g2 cl d S (st.trans st2) x
  | stuck => exact P.elim
theorem PostS.sub {m : Res Flow} (P : PostS K cs H0 g0 H g W m D) (st : Stp H g H1 g1) : PostS K cs H0 g0 H1 g1 W m D := by
  cases m with
  | ok a σ hh => exact fun σr H2 g2 S st2 => P σr H2 g2 S (st.trans st2)
  | exc c p σ hh => exact fun σr H2 g2 cl d S st2 x => P σr H2 g2 cl d S (st.trans st2) x
  | stuck => exact P.elim
theorem PS.imp {X : Cx} {st : Stmt} {t t' : TS} (h : PS X st t) (i : ∀ D σ H, t' D σ H → t D σ H) : PS X st t' := ⟨fun pins s σ H D I q => h.run pins s σ H D I (i _ _ _ q)⟩
theorem PSs.imp {X : Cx} {st : List Stmt} {t t' : TS} (h : PSs X st t) (i : ∀ D σ H, t' D σ H → t D σ H) : PSs X st t' := ⟨fun pins s σ H D I q => h.run pins s σ H D I (i _ _ _ q)⟩
/-- a result stored under a name -/
theorem Sim.store {v : V} {r : R} {i : Nat} {σ : List Slot} {h : List Ob} {Hb : Hp} {gb : Gh} (s : Sim K cs H0 g0 σr H g σ h) (st : Stp Hb gb H g) (x : RR K Hb H g v r) (e0 : ∀ a, Hb a = none → H0 a = none) :
    ∃ g', Sim K cs H0 g0 (σr.set i (some v)) H g' (σ.set i r.slot) h ∧ Stp Hb gb H g' := by
  by_cases hi : i < σ.length
  · have hir : i < σr.length := by rw [s.len]; exact hi
    cases r with
    | v d => exact ⟨g, s.setv x, st⟩
    | o xs =>
      obtain ⟨a, vs, e, eb, e1, e2, r⟩ := x
      subst e
      have s' := s.retag (t := .slot i) e2 e1 (e0 a eb) rfl
      refine ⟨g.set a (.slot i), ⟨s'.hs, s'.fr, by simpa using s.len, fun k z e => ?_⟩, st.retag eb (by rw [e2]; rfl)⟩
      by_cases hk : k = i
      · subst hk
        rw [R.slot, List.getElem?_set_self hi] at e
        cases e
        exact ⟨a, vs, List.getElem?_set_self hir, e1, Gh.set_same, e0 a eb, RDs.retag (by rw [e2]; intro z; cases z) r⟩
      · rw [List.getElem?_set_ne (Ne.symm hk)] at e
        exact SltR.other hk (s'.sl k z e)
  · have h1 : σ.length ≤ i := Nat.le_of_not_lt hi
    have h2 : σr.length ≤ i := by rw [s.len]; exact h1
    rw [List.set_eq_of_length_le h1, List.set_eq_of_length_le h2]
    exact ⟨g, s, st⟩
end

/-! ### targets, simple statements -/
def notComp : Expr → Bool
  | .ListComp _ _ _ _ => false
  | .SetComp _ _ _ _ => false
  | .DictComp _ _ _ _ _ => false
  | _ => true
/-- a local name -/
def locB (N : List Str) (sc : Scope) (i : Nat) (z : Str) : Bool := decide (N[i]? = some z) && (decide (sc.names.lookup z = some .local) || decide (sc.names.lookup z = some .cell))
def chkT (N : List Str) (sc : Scope) : List Nat → List Expr → Bool
  | [], [] => true
  | i :: is, .Name z _ :: es => locB N sc i z && chkT N sc is es
  | _, _ => false
def gNames : List Nat → TGs
  | [] => gNil
  | i :: is => gCons (gName i) (gNames is)
abbrev AS (cs : Cls0) (Γ : Calls) (C : Cf) (X : Cx) (W : WX) (s : S) (x : Stmt) : Prop := PS X x (tS X.K cs Γ C W s)
abbrev AK (cs : Cls0) (Γ : Calls) (C : Cf) (X : Cx) (W : WX) (s : Ss) (x : List Stmt) : Prop := PSs X x (tK X.K cs Γ C W s)
theorem swaps_non {e : Expr} {tg : Option Expr} {line : Nat} {env : Env} (h : notComp e = true) : swapsWith e tg line env = pure false := by
  cases e <;> first | rfl | cases h
section
variable {sy : Sy} {cs : Cls0} {n : Nat} {Γ : Calls} {C : Cf} {X : Cx} {W : WX} {N : List Str} {sc : Scope} {e a b : E} {x l r : Expr} {pos p1 p2 p3 : Pos} {i : Nat} {z : Str}
theorem locB_of (G : GoodS sy cs n Γ X W N sc) (h : locB N sc i z = true) : X.N[i]? = some z ∧ L2.Loc X.env.scope z := by
  unfold locB at h
  simp only [Bool.and_eq_true, Bool.or_eq_true, decide_eq_true_eq] at h
  unfold L2.Loc
  rw [G.nm, G.sc]
  exact h
theorem pg_loc (G : GoodS sy cs n Γ X W N sc) (h : locB N sc i z = true) : PG X (.Name z pos) (gName i) := by
  obtain ⟨h1, h2⟩ := locB_of G h
  exact pg_name G.nd h1 h2 (.inl (G.fnT z))
theorem pgs_names (G : GoodS sy cs n Γ X W N sc) : ∀ {is : List Nat} {es : List Expr}, chkT N sc is es = true → PGs X es (gNames is) ∧ (assignEach es X.env).length = is.length ∧ (assignEach es X.env).findIdx? (·.1) = none
  | [], [], _ => ⟨pgs_nil, rfl, rfl⟩
  | i :: is, .Name z p :: es, h => by
    unfold chkT at h
    rw [Bool.and_eq_true] at h
    obtain ⟨q1, q2, q3⟩ := pgs_names G h.2
    refine ⟨pgs_cons (pg_loc G h.1) q1, ?_, ?_⟩
    · show (assignEach es X.env).length + 1 = is.length + 1
      rw [q2]
    · show ((false, assign (.Name z p) X.env) :: assignEach es X.env).findIdx? (·.1) = none
      rw [List.findIdx?_cons]
      simp [q3]
/-- the frame with names bound -/
theorem bind_names {K : PySem.W.Frag} {H0 H : Hp} {g0 g : Gh} {h : List Ob} {Q : L2.St → Hp → Prop} : ∀ {is : List Nat} {ds : List D} {vs : List V} {σ σ' : List Slot} {σr : L2.St}, bindS is ds σ = some σ' → RDs K g H vs ds → Sim K cs H0 g0 σr H g σ h →
    (∀ σr', Sim K cs H0 g0 σr' H g σ' h → Q σr' H) → gNames is vs σr H Q
  | [], [], vs, σ, σ', σr, e, rs, S, k => by
    cases e
    cases rs
    exact ⟨rfl, k σr S⟩
  | i :: is, d :: ds, vs, σ, σ', σr, e, rs, S, k => by
    cases rs with
    | cons r rs => exact ⟨_, _, rfl, bind_names (is := is) e rs (S.setv r) k⟩
  | [], _ :: _, _, _, _, _, e, _, _, _ => by cases e
  | _ :: _, [], _, _, _, _, e, _, _, _ => by cases e
theorem set_read {D : Ends} {σr : L2.St} {H : Hp} (h : tS X.K cs Γ C W (.set i e) D σr H) : tE X.K cs Γ C W e σr H (fun x H1 => D.nx (σr.set i (some x)) H1) := by
  obtain ⟨H0, g0, g, σ, hp, S, P⟩ := h
  unfold exS at P
  refine ⟨H0, g0, g, σ, hp, S, P.bindE (Stp.refl S.hs.nofr) fun r σ1 h1 H1 g1 S1 st1 _ P1 v y => ?_⟩
  obtain ⟨g2, S2, st2⟩ := S1.store (i := i) st1 y fun a ha => S.fresh0 ha
  exact P1 _ H1 g2 S2 st2
theorem s_set (G : GoodS sy cs n Γ X W N sc) (hz : locB N sc i z = true) (hn : notComp x = true) (hA : AE cs Γ C X W e x) : AS cs Γ C X W (.set i e) (.Assign [.Name z p1] x pos) := by
  obtain ⟨h1, h2⟩ := locB_of G hz
  exact PS.imp (ps_set G.nd h1 h2 hA (swaps_non hn) (.inl (G.fnT z))) fun D σ H h => set_read h
theorem s_ex (hn : notComp x = true) (hA : AE cs Γ C X W e x) : AS cs Γ C X W (.ex e) (.Expr x pos) := by
  refine PS.imp (ps_expr hA (swaps_non hn)) ?_
  intro D σ H ⟨H0, g0, g, sl, hp, S, P⟩
  unfold exS at P
  exact ⟨H0, g0, g, sl, hp, S, P.bindE (Stp.refl S.hs.nofr) fun r σ1 h1 H1 g1 S1 st1 _ P1 v y => P1 _ H1 g1 S1 st1⟩
theorem s_ret (hA : AE cs Γ C X W e x) : AS cs Γ C X W (.ret e) (.Return (some x) pos) := by
  refine PS.imp (ps_ret hA) ?_
  intro D σ H ⟨H0, g0, g, sl, hp, S, P⟩
  unfold exS at P
  exact ⟨H0, g0, g, sl, hp, S, P.bindE (Stp.refl S.hs.nofr) fun r σ1 h1 H1 g1 S1 st1 _ P1 v y => P1 _ H1 g1 S1 st1 v (y.base S.fr.there)⟩
theorem s_retN : AS cs Γ C X W .retN (.Return none pos) := PS.imp ps_retN fun D σ H ⟨H0, g0, g, sl, hp, S, P⟩ => P σ H g S (Stp.refl S.hs.nofr) _ .non
theorem s_pass : AS cs Γ C X W .pass (.Pass pos) := PS.imp ps_pass fun D σ H ⟨H0, g0, g, sl, hp, S, P⟩ => P σ H g S (Stp.refl S.hs.nofr)
theorem s_brk : AS cs Γ C X W .brk (.Break pos) := PS.imp ps_break fun D σ H ⟨H0, g0, g, sl, hp, S, P⟩ => P σ H g S (Stp.refl S.hs.nofr)
theorem s_cnt : AS cs Γ C X W .cnt (.Continue pos) := PS.imp ps_continue fun D σ H ⟨H0, g0, g, sl, hp, S, P⟩ => P σ H g S (Stp.refl S.hs.nofr)
theorem s_nev {st : Stmt} : AS cs Γ C X W .nev st := PS.imp ps_never fun D σ H ⟨H0, g0, g, sl, hp, S, P⟩ => P
theorem s_nil : AK cs Γ C X W .nil [] := PSs.imp pss_nil fun D σ H ⟨H0, g0, g, sl, hp, S, P⟩ => P σ H g S (Stp.refl S.hs.nofr)
theorem s_cons {s : S} {rr : Ss} {st : Stmt} {rest : List Stmt} (h1 : AS cs Γ C X W s st) (h2 : AK cs Γ C X W rr rest) : AK cs Γ C X W (.cons s rr) (st :: rest) := by
  refine PSs.imp (pss_cons h1 h2) ?_
  intro D σ H ⟨H0, g0, g, sl, hp, S, P⟩
  unfold exB at P
  refine ⟨H0, g0, g, sl, hp, S, ?_⟩
  cases q : exS Γ C s sl hp with
  | stuck => rw [q] at P; exact P.elim
  | exc c p σ1 h1 => rw [q] at P; exact P
  | ok fl σ1 h1 =>
    rw [q] at P
    intro σr' H' g' S' st'
    cases fl with
    | nx => exact ⟨H0, g0, g', σ1, h1, S', PostS.sub (m := exB Γ C rr σ1 h1) P st'⟩
    | bk => exact P σr' H' g' S' st'
    | ct => exact P σr' H' g' S' st'
    | rt r => exact P σr' H' g' S' st'
theorem s_if {c : E} {u w : Ss} {xs ys : List Stmt} (hC : AT cs Γ C X W c x) (hA : AK cs Γ C X W u xs) (hB : AK cs Γ C X W w ys) : AS cs Γ C X W (.iff c u w) (.If x xs ys pos) := by
  refine PS.imp (ps_if hC hA hB) ?_
  intro D σ H ⟨H0, g0, g, sl, hp, S, P⟩
  unfold exS at P
  refine ⟨H0, g0, g, sl, hp, S, P.bindE (Stp.refl S.hs.nofr) fun k σ1 h1 H1 g1 S1 st1 _ P1 => ?_⟩
  cases k with
  | true =>
    rw [if_pos rfl] at P1 ⊢
    exact ⟨H0, g0, g1, σ1, h1, S1, P1.sub st1⟩
  | false =>
    rw [if_neg Bool.false_ne_true] at P1 ⊢
    exact ⟨H0, g0, g1, σ1, h1, S1, P1.sub st1⟩
theorem whl_is {c : List Slot → List Ob → Res Bool} {b : List Slot → List Ob → Res Flow} {σ : List Slot} {h : List Ob} : (∃ n r, whlN c b n σ h = some r ∧ whl c b σ h = r) ∨ whl c b σ h = .stuck := by
  unfold whl
  split
  · rename_i e
    exact .inl ⟨_, _, (Classical.choose_spec e).choose_spec, rfl⟩
  · exact .inr rfl
theorem s_while (G : GoodS sy cs n Γ X W N sc) {c : E} {u : Ss} {xs : List Stmt} (hC : AT cs Γ C X W c x) (hA : AK cs Γ C X W u xs) : AS cs Γ C X W (.whl c u) (.While x xs [] pos) := by
  refine PS.imp (ps_while G.own hC hA) ?_
  intro D σ H ⟨H0, g0, g, sl, hp, S, P⟩
  unfold exS at P
  rcases whl_is (c := fun σ h => asB (evE Γ C c σ h)) (b := exB Γ C u) (σ := sl) (h := hp) with ⟨m, r, e1, e2⟩ | e
  · rw [e2] at P
    refine ⟨fun m σr' H' => ∃ g' σ' h', Sim X.K cs H0 g0 σr' H' g' σ' h' ∧ Stp H g H' g' ∧ whlN (fun σ h => asB (evE Γ C c σ h)) (exB Γ C u) m σ' h' = some r, ⟨m, g, sl, hp, S, Stp.refl S.hs.nofr, e1⟩, ?_⟩
    rintro m σr' H' ⟨g', σ', h', S', st', em⟩
    cases m with
    | zero => cases em
    | succ m =>
      unfold whlN at em
      refine ⟨H0, g0, g', σ', h', S', ?_⟩
      cases q : asB (evE Γ C c σ' h') with
      | stuck =>
        rw [q] at em
        cases em
        exact P.elim
      | exc k p σ1 h1 =>
        rw [q] at em
        cases em
        exact fun H2 g2 cl d S2 st2 xr => P σr' H2 g2 cl d S2 (st'.trans st2) xr
      | ok k σ1 h1 =>
        rw [q] at em
        cases k with
        | false =>
          cases em
          intro H2 g2 S2 st2
          dsimp only
          rw [if_neg Bool.false_ne_true]
          exact P σr' H2 g2 S2 (st'.trans st2)
        | true =>
          intro H2 g2 S2 st2
          dsimp only
          rw [if_pos rfl]
          refine ⟨_, fun σ'' H'' z => ⟨m, Nat.lt_succ_self m, z⟩, H0, g0, g2, σ1, h1, S2, ?_⟩
          dsimp only at em
          cases q2 : exB Γ C u σ1 h1 with
          | stuck =>
            rw [q2] at em
            cases em
            exact P.elim
          | exc k p σ3 h3 =>
            rw [q2] at em
            cases em
            exact fun σr3 H3 g3 cl d S3 st3 xr => P σr3 H3 g3 cl d S3 ((st'.trans st2).trans st3) xr
          | ok fl σ3 h3 =>
            rw [q2] at em
            intro σr3 H3 g3 S3 st3
            have all := (st'.trans st2).trans st3
            cases fl with
            | nx => exact ⟨g3, σ3, h3, S3, all, em⟩
            | ct => exact ⟨g3, σ3, h3, S3, all, em⟩
            | bk =>
              cases em
              exact P σr3 H3 g3 S3 all
            | rt rv =>
              cases em
              exact P σr3 H3 g3 S3 all
  · rw [e] at P
    exact P.elim
/-- a for's loop, of what is walked -/
theorem for_ok {tg : Expr} {f : D → List Slot → List Ob → Res Flow} {it : I} {gt : TG} {tb : TS} {D : Ends} {σr : L2.St} {H : Hp} {H0 : Hp} {g0 g : Gh} {sl : List Slot} {hp : List Ob} (S : Sim X.K cs H0 g0 σr H g sl hp)
    (P : PostS X.K cs H0 g0 H g W ((evI Γ C it sl hp).bind fun ds σ h => forL f ds σ h) D)
    (T : ∀ (d : Pm.D) (x : V) (σr : L2.St) (H1 : Hp) (g1 : Gh) (σ : List Slot) (h : List Ob) (D' : Ends), Sim X.K cs H0 g0 σr H1 g1 σ h → RD X.K g1 H1 x d → PostS X.K cs H0 g0 H1 g1 W (f d σ h) D' → gt x σr H1 fun σ2 H2 => tb D' σ2 H2) :
    tFor (tIt X.K cs Γ C W it) gt tb D σr H := by
  refine ⟨H0, g0, g, sl, hp, S, P.bindE (Stp.refl S.hs.nofr) fun ds σ1 h1 H1 g1 S1 st1 _ P1 J wk => ?_⟩
  refine ⟨fun j m σr' Hj => m = ds.length - j ∧ j ≤ ds.length ∧ ∃ gj σj hj, Sim X.K cs H0 g0 σr' Hj gj σj hj ∧ Stw H1 g1 Hj gj ∧ Stp H g Hj gj ∧ PostS X.K cs H0 g0 H g W (forL f (ds.drop j) σj hj) D,
    ⟨ds.length, by simp, Nat.zero_le _, g1, σ1, h1, S1, (Stp.refl S1.hs.nofr).w, st1, P1⟩, ?_⟩
  rintro j m σr' Hj ⟨rfl, hj, gj, σj, hj', Sj, wj, bj, Pj⟩
  by_cases hlt : j < ds.length
  · refine .inr ⟨wk.go j Hj gj hlt wj, fun σr3 H3 => ∃ gj σj hj, Sim X.K cs H0 g0 σr3 H3 gj σj hj ∧ Stw H1 g1 H3 gj ∧ Stp H g H3 gj ∧ PostS X.K cs H0 g0 H g W (forL f (ds.drop (j + 1)) σj hj) D,
      fun σ' H' y => ⟨ds.length - (j + 1), by omega, rfl, hlt, y⟩, fun x H' y => ?_⟩
    obtain ⟨d, ed, hx⟩ := wk.yld j Hj gj x H' wj y hlt
    obtain ⟨S', fr, rdx⟩ : Sim X.K cs H0 g0 σr' H' gj σj hj' ∧ FrS Hj gj H' gj ∧ RD X.K gj H' x d := by
      rcases hx with ⟨rfl, rd⟩ | ⟨T', y', rfl, hT, rfl, dy, rfl, rdy⟩
      · exact ⟨Sj, FrS.refl, rd⟩
      · exact ⟨Sj.new hT, FrS.new hT, .tup (SqT.of upd_same) (.cons (.int _) (.cons (RD.mono (Stp.new Sj.hs hT) rdy) .nil))⟩
    have stf := Sj.hs.stp fr
    have drop1 : ds.drop j = d :: ds.drop (j + 1) := by
      obtain ⟨hl, he⟩ := List.getElem?_eq_some_iff.mp ed
      rw [List.drop_eq_getElem_cons hl, he]
    rw [drop1] at Pj
    unfold forL at Pj
    refine T d x σr' H' gj σj hj' _ S' rdx ?_
    cases q : f d σj hj' with
    | stuck => rw [q] at Pj; exact Pj.elim
    | exc c p σ3 h3 =>
      rw [q] at Pj
      exact fun σr3 H3 g3 cl d S3 st3 xr => Pj σr3 H3 g3 cl d S3 ((bj.trans stf).trans st3) xr
    | ok fl σ3 h3 =>
      rw [q] at Pj
      intro σr3 H3 g3 S3 st3
      have all := (bj.trans stf).trans st3
      have allw := (wj.trans stf.w).trans st3.w
      cases fl with
      | nx => exact ⟨g3, σ3, h3, S3, allw, all, Pj⟩
      | ct => exact ⟨g3, σ3, h3, S3, allw, all, Pj⟩
      | bk => exact Pj σr3 H3 g3 S3 all
      | rt r => exact Pj σr3 H3 g3 S3 all
  · have ej : j = ds.length := by omega
    subst ej
    refine .inl ⟨wk.stop _ Hj gj (Nat.le_refl _) wj, ?_⟩
    rw [List.drop_length] at Pj
    exact Pj σr' Hj gj Sj bj
theorem s_for1 (G : GoodS sy cs n Γ X W N sc) {it : I} {u : Ss} {xs : List Stmt} (hz : locB N sc i z = true) (hset : notSet x = true) (hI : AI cs Γ C X W it (.Name z p1) x) (hA : AK cs Γ C X W u xs) : AS cs Γ C X W (.for1 i it u) (.For (.Name z p1) x xs [] pos) := by
  refine PS.imp (ps_for G.own G.calm hI (pg_loc G hz) hA (notSet_fold hset X.env)) ?_
  intro D σ H ⟨H0, g0, g, sl, hp, S, P⟩
  unfold exS at P
  exact for_ok (tg := x) S P fun d x σr H1 g1 σ h D' S1 rd P1 => ⟨H0, g0, g1, _, h, S1.setv rd, P1⟩
theorem s_forT (G : GoodS sy cs n Γ X W N sc) {it : I} {u : Ss} {xs : List Stmt} {is : List Nat} {es : List Expr} {kk : Nat} (hz : chkT N sc is es = true) (hset : notSet x = true) (hI : AI cs Γ C X W it (.Tuple es kk p1) x) (hA : AK cs Γ C X W u xs) : AS cs Γ C X W (.forT is it u) (.For (.Tuple es kk p1) x xs [] pos) := by
  obtain ⟨g1, g2, g3⟩ := pgs_names G hz
  refine PS.imp (ps_for G.own G.calm hI (pg_tup G.calm g1 g2 g3) hA (notSet_fold hset X.env)) ?_
  intro D σ H ⟨H0, g0, g, sl, hp, S, P⟩
  unfold exS at P
  refine for_ok (tg := x) S P fun d x σr H1 g1 σ h D' S1 rd P1 => ?_
  split at P1
  · rename_i ys
    split at P1
    · rename_i σ2 e2
      cases rd with
      | tup t1 t2 =>
        rename_i a vs
        refine ⟨a, vs, rfl, t1, ?_, bind_names e2 t2 S1 fun σr' S2 => ⟨H0, g0, g1, σ2, h, S2, P1⟩⟩
        have : ∀ {is : List Nat} {ds : List Pm.D} {σ σ' : List Slot}, bindS is ds σ = some σ' → ds.length = is.length := by
          intro is
          induction is with
          | nil =>
            intro ds σ σ' e
            cases ds with
            | nil => rfl
            | cons d ds => cases e
          | cons i is ih =>
            intro ds σ σ' e
            cases ds with
            | nil => cases e
            | cons d ds => exact congrArg (· + 1) (ih e)
        rw [t2.len, this e2]
    · exact P1.elim
  · exact P1.elim
end
end Pm

set_option Elab.async false
set_option linter.all false
set_option maxRecDepth 100000
set_option maxHeartbeats 4000000
/-! The pure machine: statements, second part. -/
namespace Pm
open PySem PySem.Spec L2
section
variable {sy : Sy} {cs : Cls0} {n : Nat} {Γ : Calls} {C : Cf} {X : Cx} {W : WX} {N : List Str} {sc scope : Scope} {e a b elt c : E} {x l r ex iter tx : Expr} {pos spos p1 p2 p3 py pz : Pos} {i j : Nat} {y z : Str} {it : I}
theorem swaps_com {gens : List Comprehension} {line : Nat} {env : Env} : swapsWith (.ListComp ex gens scope pos) (some (.Name y py)) line env =
    pure (env.blockKind == .function && env.kindOf y == some .local && py.line == pos.line && !(scope.names.any fun (n, k) => n == y && (k == .local || k == .cell))) := rfl
theorem swaps_cell {gens : List Comprehension} {line : Nat} {env : Env} (h : env.scope.names.lookup y = some .cell) : swapsWith (.ListComp ex gens scope pos) (some (.Name y py)) line env = pure false := by
  have e : (env.kindOf y == some .local) = false := by
    show (env.scope.names.lookup y == some .local) = false
    rw [h]
    rfl
  rw [swaps_com, e]
  simp
theorem s_com (G : GoodS sy cs n Γ X W N sc) (hj : locB N sc j y = true) (hi : N[i]? = some z) (hl : (relS scope sc).names.lookup z = some .local) (hb : blkC N sc scope [(z, i)] = true) (hset : notSet iter = true) (hI : AI cs Γ C X W it (.Name z pz) iter)
    (hE : ∀ X', X'.K = X.K → Good sy cs n Γ X' W0 N (relS scope sc) → AE cs Γ C X' W0 elt ex) : AS cs Γ C X W (.set j (.com i elt it)) (.Assign [.Name y py] (.ListComp ex [⟨.Name z pz, iter, [], 0⟩] scope pos) spos) := by
  obtain ⟨h1, h2⟩ := locB_of G hj
  refine h2.elim (fun h2 => ?_) fun h2 => PS.imp (ps_set G.nd h1 (.inr h2) (k_com G.toGood hi hl hb hset hI hE) (swaps_cell h2) (.inl (G.fnT y))) fun D σ H h => set_read h
  have sw := swaps_com (ex := ex) (scope := scope) (pos := pos) (y := y) (py := py) (gens := [⟨.Name z pz, iter, [], 0⟩]) (line := spos.line) (env := X.env)
  generalize (X.env.blockKind == .function && X.env.kindOf y == some .local && py.line == pos.line && !(scope.names.any fun (n, k) => n == y && (k == .local || k == .cell))) = bb at sw
  cases bb with
  | false => exact PS.imp (ps_set G.nd h1 (.inl h2) (k_com G.toGood hi hl hb hset hI hE) sw (.inl (G.fnT y))) fun D σ H h => set_read h
  | true =>
    have ok : BlkOk X.N X.env.scope scope [(z, i)] := by
      rw [G.nm, G.sc]
      exact blkOk_by hb
    refine PS.imp (ps_setLc (own := [(z, i)]) (tt := tYes) (te := tE X.K cs Γ C W0 elt) G.calm G.nd h1 h2 sw hI ok (fun s H Ca cl fp => pg_name G.nd (by rw [G.nm]; exact hi) (.inl (by rw [(good_blk G.toGood s H Ca cl fp).sc]; exact hl)) (.inr (by rw [(good_blk G.toGood s H Ca cl fp).sc]; exact hl)))
      (fun s H Ca cl fp => pts_nil) (fun s H Ca cl fp => hE _ rfl (good_blk G.toGood s H Ca cl fp)) (notSet_fold hset X.env)) ?_
    intro D σ H h
    obtain ⟨H0, g0, g, sl, hp, S, P⟩ := set_read h
    unfold evE at P
    exact com_ok turn_plain S P
theorem s_comf (G : GoodS sy cs n Γ X W N sc) (hj : locB N sc j y = true) (hi : N[i]? = some z) (hl : (relS scope sc).names.lookup z = some .local) (hb : blkC N sc scope [(z, i)] = true) (hset : notSet iter = true) (hI : AI cs Γ C X W it (.Name z pz) iter)
    (hE : ∀ X', X'.K = X.K → Good sy cs n Γ X' W0 N (relS scope sc) → AE cs Γ C X' W0 elt ex) (hC : ∀ X', X'.K = X.K → Good sy cs n Γ X' W0 N (relS scope sc) → AT cs Γ C X' W0 c tx) :
    AS cs Γ C X W (.set j (.comf i elt it c)) (.Assign [.Name y py] (.ListComp ex [⟨.Name z pz, iter, [tx], 0⟩] scope pos) spos) := by
  obtain ⟨h1, h2⟩ := locB_of G hj
  refine h2.elim (fun h2 => ?_) fun h2 => PS.imp (ps_set G.nd h1 (.inr h2) (k_comf G.toGood hi hl hb hset hI hE hC) (swaps_cell h2) (.inl (G.fnT y))) fun D σ H h => set_read h
  have sw := swaps_com (ex := ex) (scope := scope) (pos := pos) (y := y) (py := py) (gens := [⟨.Name z pz, iter, [tx], 0⟩]) (line := spos.line) (env := X.env)
  generalize (X.env.blockKind == .function && X.env.kindOf y == some .local && py.line == pos.line && !(scope.names.any fun (n, k) => n == y && (k == .local || k == .cell))) = bb at sw
  cases bb with
  | false => exact PS.imp (ps_set G.nd h1 (.inl h2) (k_comf G.toGood hi hl hb hset hI hE hC) sw (.inl (G.fnT y))) fun D σ H h => set_read h
  | true =>
    have ok : BlkOk X.N X.env.scope scope [(z, i)] := by
      rw [G.nm, G.sc]
      exact blkOk_by hb
    refine PS.imp (ps_setLc (own := [(z, i)]) (tt := tB X.K cs Γ C W0 c) (te := tE X.K cs Γ C W0 elt) G.calm G.nd h1 h2 sw hI ok (fun s H Ca cl fp => pg_name G.nd (by rw [G.nm]; exact hi) (.inl (by rw [(good_blk G.toGood s H Ca cl fp).sc]; exact hl)) (.inr (by rw [(good_blk G.toGood s H Ca cl fp).sc]; exact hl)))
      (fun s H Ca cl fp => pts_one (hC _ rfl (good_blk G.toGood s H Ca cl fp))) (fun s H Ca cl fp => hE _ rfl (good_blk G.toGood s H Ca cl fp)) (notSet_fold hset X.env)) ?_
    intro D σ H h
    obtain ⟨H0, g0, g, sl, hp, S, P⟩ := set_read h
    unfold evE at P
    exact com_ok turn_test S P
def notTup : Expr → Bool
  | .Tuple _ _ _ => false
  | _ => true
theorem swapped_non {es : List Expr} {kk : Nat} {env : Env} (h : notTup x = true) : swappedStores [.Tuple es kk p1] x env = pure none := by
  cases x <;> first | rfl | cases h
theorem bindS_len : ∀ {is : List Nat} {ds : List Pm.D} {σ σ' : List Slot}, bindS is ds σ = some σ' → ds.length = is.length := by
  intro is
  induction is with
  | nil =>
    intro ds σ σ' e
    cases ds with
    | nil => rfl
    | cons d ds => cases e
  | cons i is ih =>
    intro ds σ σ' e
    cases ds with
    | nil => cases e
    | cons d ds => exact congrArg (· + 1) (ih e)
theorem s_setT (G : GoodS sy cs n Γ X W N sc) {is : List Nat} {es : List Expr} {kk : Nat} (hz : chkT N sc is es = true) (hn : notComp x = true) (ht : notTup x = true) (hA : AE cs Γ C X W e x) : AS cs Γ C X W (.setT is e) (.Assign [.Tuple es kk p1] x pos) := by
  obtain ⟨g1, g2, g3⟩ := pgs_names G hz
  refine PS.imp (ps_asg hA (pg_tup G.calm g1 g2 g3) (by show swapsWith x (some (.Tuple es kk p1)) pos.line X.env = pure false; exact swaps_non hn) (swapped_non ht)) ?_
  intro D σ H ⟨H0, g0, g, sl, hp, S, P⟩
  unfold exS at P
  refine ⟨H0, g0, g, sl, hp, S, P.bindE (Stp.refl S.hs.nofr) fun r σ1 h1 H1 g1 S1 st1 _ P1 v y => ?_⟩
  split at P1
  · rename_i ys
    split at P1
    · rename_i σ2 e2
      cases y with
      | tup t1 t2 =>
        rename_i a vs
        exact ⟨a, vs, rfl, t1, by rw [t2.len, bindS_len e2], bind_names e2 t2 S1 fun σr' S2 => P1 σr' H1 g1 S2 st1⟩
    · exact P1.elim
  · exact P1.elim
/-- a name that holds a list: its address -/
theorem list_at {H0 H : Hp} {g0 g : Gh} {σr : L2.St} {sl : List Slot} {hp : List Ob} (S : Sim X.K cs H0 g0 σr H g sl hp) (hl : lstSlot sl hp i = true) : ∃ a vs, σr[i]? = some (some (.ref a)) ∧ H a = some (.lst vs) := by
  unfold lstSlot at hl
  split at hl
  · rename_i xs q
    obtain ⟨v, hv⟩ : ∃ v, σr[i]? = some (some v) := by
      cases q2 : sl[i]? with
      | none => simp [cont, q2] at q
      | some s =>
        have z := S.sl i s q2
        cases s with
        | un => simp [cont, q2] at q
        | v d => exact ⟨_, z.choose_spec.1⟩
        | o ys => exact ⟨_, z.choose_spec.choose_spec.1⟩
        | x c p => simp [cont, q2] at q
    obtain ⟨a, vs, rfl, e1, _⟩ := (CR.of (K := X.K) (Hb := H) (o := .s i) S q hv).lst
    exact ⟨a, vs, hv, e1⟩
  · cases hl
/-- a list of the pure heap is written -/
theorem mut_obj {H0 H1 : Hp} {g0 g1 : Gh} {σr : L2.St} {σ1 : List Slot} {h1 : List Ob} {a0 : Addr} {jo : Nat} {xs : List D} (S1 : Sim X.K cs H0 g0 σr H1 g1 σ1 h1) (e0 : σr[i]? = some (some (.ref a0))) (q1 : σ1[i]? = some (.v (.ref jo))) (qo : h1[jo]? = some (.lst xs)) :
    ∃ vs, H1 a0 = some (.lst vs) ∧ RDs X.K g1 H1 vs xs ∧ ∀ vs' xs', RDs X.K g1 H1 vs' xs' → Sim X.K cs H0 g0 σr (upd H1 a0 (.lst vs')) g1 σ1 (h1.set jo (.lst xs')) ∧ ∀ Hb gb, Stp Hb gb H1 g1 → Stp Hb gb (upd H1 a0 (.lst vs')) g1 := by
  obtain ⟨a1, r1, ⟨vs, f2, f3⟩, f4⟩ := S1.mutO qo
  obtain ⟨v0, e1, rd⟩ := S1.sl i _ q1
  rw [e0] at e1
  cases e1
  cases rd with
  | ref r2 =>
    rw [r1] at r2
    cases r2
    refine ⟨vs, f2, f3, fun vs' xs' rs => ?_⟩
    have stp0 : Stp H1 g1 (upd H1 a0 (.lst vs')) g1 := by
      obtain ⟨a2, r2', t2, _⟩ := S1.hs.ob jo _ qo
      rw [r1] at r2'
      cases r2'
      exact (Stp.refl S1.hs.nofr).upd (vs := vs) f2 (.inl ⟨_, rfl⟩) (by rw [t2]; intro z; cases z) (by rw [t2]; intro z; cases z)
    exact f4 (.lst vs') (.lst xs') (.inl ⟨_, rfl⟩) ⟨_, upd_same, RDs.mono stp0 rs⟩
theorem s_app (G : GoodS sy cs n Γ X W N sc) (hz : nmB N sc i z = true) (hline : (p2.endLine == pos.line) = true) (hs : notStar l = true) (hA : AE cs Γ C X W a l) :
    AS cs Γ C X W (.app i a) (.Expr (.Call (.Attribute (.Name z p1) "append" p2) [l] [] pos) spos) := by
  refine PS.imp (ps_expr (pe_bm PySem.F.plainAttrs_list PySem.F.slot_list_append PySem.F.type_list_append mt_append (pe_nm G.toGood hz) (pa_cons hA pa_nil (star_cons hs)) (by rfl) (by rw [star_cons hs]; rfl) hline (star_cons hs) (by rfl))) ?_
  intro D σ H ⟨H0, g0, g, sl, hp, S, P⟩
  unfold exS at P
  split at P
  · rename_i hl
    obtain ⟨a0, vs0, e0, l0⟩ := list_at S hl
    refine ⟨.ref a0, e0, .inl ⟨rfl, _, .inl (.inl l0)⟩, H0, g0, g, sl, hp, S, P.bindE (Stp.refl S.hs.nofr) fun r σ1 h1 H1 g1 S1 st1 _ P1 v y => ?_⟩
    obtain ⟨g2, S2, st2, rd, _⟩ := S1.freeze st1 y fun a ha => S.fresh0 ha
    split at P1
    · rename_i xs q1
      obtain ⟨a1, vs, f1, f2, f3, f4⟩ := S2.mutS q1
      rw [e0] at f1
      cases f1
      split at P1
      · rename_i hk
        obtain ⟨S3, st3⟩ := f4 (vs ++ [v]) (xs ++ [r.d]) (f3.append (.cons rd .nil))
        exact ⟨a0, vs, v, rfl, rfl, f2, by rw [f3.len]; exact hk, P1 _ _ g2 S3 (st3 _ _ st2)⟩
      · exact P1.elim
    · rename_i jo q1
      split at P1
      · rename_i xs qo
        split at P1
        · rename_i hk
          obtain ⟨vs, f2, f3, f4⟩ := mut_obj S2 e0 q1 qo
          obtain ⟨S3, st3⟩ := f4 (vs ++ [v]) (xs ++ [r.d]) (f3.append (.cons rd .nil))
          exact ⟨a0, vs, v, rfl, rfl, f2, by rw [f3.len]; exact hk, P1 _ _ g2 S3 (st3 _ _ st2)⟩
        · exact P1.elim
      · exact P1.elim
    · exact P1.elim
  · exact P.elim
theorem s_ext (G : GoodS sy cs n Γ X W N sc) (hz : nmB N sc i z = true) (hline : (p2.endLine == pos.line) = true) (hs : notStar l = true) (hA : AE cs Γ C X W a l) :
    AS cs Γ C X W (.ext i a) (.Expr (.Call (.Attribute (.Name z p1) "extend" p2) [l] [] pos) spos) := by
  refine PS.imp (ps_expr (pe_bm PySem.F.plainAttrs_list PySem.F.slot_list_extend PySem.F.type_list_extend mt_extend (pe_nm G.toGood hz) (pa_cons hA pa_nil (star_cons hs)) (by rfl) (by rw [star_cons hs]; rfl) hline (star_cons hs) (by rfl))) ?_
  intro D σ H ⟨H0, g0, g, sl, hp, S, P⟩
  unfold exS at P
  split at P
  · rename_i hl
    obtain ⟨a0, vs0, e0, l0⟩ := list_at S hl
    refine ⟨.ref a0, e0, .inl ⟨rfl, _, .inl (.inl l0)⟩, H0, g0, g, sl, hp, S, P.bindE (Stp.refl S.hs.nofr) fun r σ1 h1 H1 g1 S1 st1 _ P1 v y => ?_⟩
    obtain ⟨g2, S2, st2, rd, _⟩ := S1.freeze st1 y fun a ha => S.fresh0 ha
    split at P1
    · rename_i ys xs q0 q1
      rw [q0] at rd
      obtain ⟨a1, vs, f1, f2, f3, f4⟩ := S2.mutS q1
      rw [e0] at f1
      cases f1
      cases rd with
      | lst b1 b2 b3 =>
        rename_i ab vb
        split at P1
        · rename_i hk
          obtain ⟨S3, st3⟩ := f4 (vs ++ vb) (xs ++ ys) (f3.append b3)
          exact ⟨a0, ab, vs, vb, rfl, rfl, f2, b1, by rw [f3.len, b3.len]; exact hk, P1 _ _ g2 S3 (st3 _ _ st2)⟩
        · exact P1.elim
    · exact P1.elim
  · exact P.elim
theorem s_sti (G : GoodS sy cs n Γ X W N sc) (hz : nmB N sc i z = true) (hn : notComp x = true) (hsl : notSlice l = true) (hA : AE cs Γ C X W e x) (hB : AE cs Γ C X W b l) :
    AS cs Γ C X W (.sti i b e) (.Assign [.Subscript (.Name z p1) l p2] x pos) := by
  have hsub : ∀ v, assign (.Subscript (.Name z p1) l p2) X.env v = (do
      let ov ← holding [v] (eval (.Name z p1) X.env)
      let iv ← holding [v, ov] (eval l X.env)
      standAt p2
      holding [v, ov, iv] (setItem ov iv v)
      release [v, ov, iv] []) := by
    intro v
    cases l <;> first | rfl | cases hsl
  refine PS.imp (ps_asg hA (pg_sub (pe_nm G.toGood hz) hB set_list hsub) (by show swapsWith x (some (.Subscript (.Name z p1) l p2)) pos.line X.env = pure false; exact swaps_non hn) (by cases x <;> rfl)) ?_
  intro D σ H ⟨H0, g0, g, sl, hp, S, P⟩
  unfold exS at P
  refine ⟨H0, g0, g, sl, hp, S, P.bindE (Stp.refl S.hs.nofr) fun r σ1 h1 H1 g1 S1 st1 _ P1 v y => ?_⟩
  obtain ⟨g2, S2, st2, rd, _⟩ := S1.freeze st1 y fun a ha => S.fresh0 ha
  split at P1
  · rename_i hl
    obtain ⟨a0, vs0, e0, l0⟩ := list_at S2 hl
    refine ⟨.ref a0, e0, H0, g0, g2, σ1, h1, S2, P1.bindE st2 fun q σ2 h2 H2 g3 S3 st3 st3' P2 iv yi => ?_⟩
    have rd3 := RD.mono st3 rd
    split at P2
    · rename_i zi
      cases yi
      split at P2
      · rename_i xs q1
        obtain ⟨a1, vs, f1, f2, f3, f4⟩ := S3.mutS q1
        rw [e0] at f1
        cases f1
        split at P2
        · rename_i k hk
          obtain ⟨S4, st4⟩ := f4 (vs.set k v) (xs.set k r.d) (f3.set rd3 k)
          exact ⟨a0, vs, zi, k, rfl, rfl, f2, by rw [f3.len]; exact hk, P2 _ _ g3 S4 (st4 _ _ st3')⟩
        · exact P2.elim
      · rename_i jo q1
        split at P2
        · rename_i xs qo
          split at P2
          · rename_i k hk
            obtain ⟨vs, f2, f3, f4⟩ := mut_obj S3 e0 q1 qo
            obtain ⟨S4, st4⟩ := f4 (vs.set k v) (xs.set k r.d) (f3.set rd3 k)
            exact ⟨a0, vs, zi, k, rfl, rfl, f2, by rw [f3.len]; exact hk, P2 _ _ g3 S4 (st4 _ _ st3')⟩
          · exact P2.elim
        · exact P2.elim
      · exact P2.elim
    · exact P2.elim
  · exact P1.elim
def isStar : Expr → Bool
  | .Starred _ _ => true
  | _ => false
theorem star_b (h : notStar x = true) : isStar x = false := by
  cases x <;> first | rfl | cases h
def locL (N : List Str) (sc : Scope) (i : Nat) (z : Str) : Bool := decide (N[i]? = some z) && decide (sc.names.lookup z = some .local)
def par2B (N : List Str) (sc : Scope) (i j : Nat) (x y : Str) (px py : Pos) (l r : Expr) : Bool :=
  locL N sc i x && (locL N sc j y && (!(i == j) && (!(x == y) && (px.line == py.line && (notStar l && (notStar r && (!(foldedForSure 8 l && foldedForSure 8 r) && !(constantsAlone 8 l && constantsAlone 8 r))))))))
theorem swapped_two {x y : Str} {px py pt pt2 : Pos} {kt k2 : Nat} {env : Env} (hb : env.blockKind = ScopeKind.function) (hx : env.kindOf x = some .local) (hy : env.kindOf y = some .local) (hxy : (x == y) = false) (hp : (px.line == py.line) = true)
    (hl : notStar l = true) (hr : notStar r = true) (hf : (foldedForSure 8 l && foldedForSure 8 r) = false) (hc : (constantsAlone 8 l && constantsAlone 8 r) = false) :
    swappedStores [.Tuple [.Name x px, .Name y py] kt pt] (.Tuple [l, r] k2 pt2) env = pure (some [x, y]) := by
  have e1 := star_b hl
  have e2 := star_b hr
  have hp' : (py.line == px.line) = true := by
    rw [beq_iff_eq] at hp ⊢
    exact hp.symm
  have hyx : (y == x) = false := by
    rw [beq_eq_false_iff_ne] at hxy ⊢
    exact fun q => hxy q.symm
  unfold swappedStores
  simp [hb, hx, hy, hp', List.filterMap, List.all_cons, hf, hc, List.eraseDups, List.eraseDupsBy, List.eraseDupsBy.loop, hyx, hxy]
  rw [if_neg (by
    intro h
    rcases h with h | h
    · exact absurd (e1.symm.trans h) Bool.false_ne_true
    · exact absurd (e2.symm.trans h) Bool.false_ne_true)]
  have q1 : (Expr.Name x px).pos = px := rfl
  have q2 : py.line = px.line := eq_of_beq hp'
  simp [q1, q2, List.eraseDupsBy.loop, hyx, hxy]
theorem s_par2 (G : GoodS sy cs n Γ X W N sc) {x y : Str} {px py pt pt2 : Pos} {kt k2 : Nat} (h : par2B N sc i j x y px py l r = true) (hA : AE cs Γ C X W a l) (hB : AE cs Γ C X W b r) :
    AS cs Γ C X W (.par2 i j a b) (.Assign [.Tuple [.Name x px, .Name y py] kt pt] (.Tuple [l, r] k2 pt2) pos) := by
  unfold par2B at h
  simp only [Bool.and_eq_true, Bool.not_eq_true'] at h
  obtain ⟨hx, hy, hij, hxy, hp, hl, hr, hf, hc⟩ := h
  have two : ∀ {i : Nat} {z : Str}, locL N sc i z = true → X.N[i]? = some z ∧ X.env.scope.names.lookup z = some .local := fun {i z} h => by
    unfold locL at h
    simp only [Bool.and_eq_true, decide_eq_true_eq] at h
    rw [G.nm, G.sc]
    exact h
  obtain ⟨x1, x2⟩ := two hx
  obtain ⟨y1, y2⟩ := two hy
  have hb : X.env.blockKind = ScopeKind.function := by
    unfold Env.blockKind
    rw [G.kd]
    rfl
  refine PS.imp (ps_par G.calm G.nd x1 y1 (by simpa using hij) x2 y2 (pa_cons hA (pa_cons hB pa_nil (star_cons hr)) (star_cons hl)) (swapped_two hb x2 y2 hxy hp hl hr hf hc)) ?_
  intro D σ H ⟨H0, g0, g, sl, hp, S, P⟩
  unfold exS at P
  refine ⟨H0, g0, g, sl, hp, S, P.bindE (Stp.refl S.hs.nofr) fun ra σ1 h1 H1 g1 S1 st1 _ P1 v yv => ?_⟩
  obtain ⟨g1', S1', st1', rd1, _⟩ := S1.freeze st1 yv fun a ha => S.fresh0 ha
  refine ⟨H0, g0, g1', σ1, h1, S1', P1.bindE st1' fun rb σ2 h2 H2 g2 S2 st2 st2' P2 w yw => ?_⟩
  obtain ⟨g2', S2', st3, rd2, _⟩ := S2.freeze st2 yw fun a ha => S1'.fresh0 ha
  exact ⟨v, w, rfl, P2 _ H2 g2' ((S2'.setv (RD.mono st3 rd1)).setv rd2) (st1'.trans st3)⟩
end

/-! ### all statements -/
section
variable {sy : Sy} {cs : Cls0} {n : Nat} {Γ : Calls} {C : Cf} {N : List Str}
/-- a comprehension assigned -/
def comS (e : E) : Bool := match e with
  | .com _ _ _ => true
  | .comf _ _ _ _ => true
  | _ => false
variable (sy : Sy) (N : List Str)
mutual
def chkS : S → Scope → Stmt → Bool
  | .set i e, sc, x => match x with
    | .Assign [.Name z _] v _ => locB N sc i z && (chkE sy N e sc v && (notComp v || comS e))
    | _ => false
  | .setT is e, sc, x => match x with
    | .Assign [.Tuple es _ _] v _ => chkT N sc is es && (notComp v && (notTup v && chkE sy N e sc v))
    | _ => false
  | .par2 i j a b, sc, x => match x with
    | .Assign [.Tuple [.Name x px, .Name y py] _ _] (.Tuple [l, r] _ _) _ => par2B N sc i j x y px py l r && (chkE sy N a sc l && chkE sy N b sc r)
    | _ => false
  | .sti i b e, sc, x => match x with
    | .Assign [.Subscript (.Name z _) l _] v _ => nmB N sc i z && (notComp v && (notSlice l && (chkE sy N e sc v && chkE sy N b sc l)))
    | _ => false
  | .app i a, sc, x => match x with
    | .Expr (.Call (.Attribute (.Name z _) m p) [l] [] q) _ => decide (m = "append") && (nmB N sc i z && ((p.endLine == q.line) && (notStar l && chkE sy N a sc l)))
    | _ => false
  | .ext i a, sc, x => match x with
    | .Expr (.Call (.Attribute (.Name z _) m p) [l] [] q) _ => decide (m = "extend") && (nmB N sc i z && ((p.endLine == q.line) && (notStar l && chkE sy N a sc l)))
    | _ => false
  | .ex e, sc, x => match x with
    | .Expr v _ => notComp v && chkE sy N e sc v
    | _ => false
  | .ret e, sc, x => match x with
    | .Return (some v) _ => chkE sy N e sc v
    | _ => false
  | .retN, _, x => match x with
    | .Return none _ => true
    | _ => false
  | .iff c a b, sc, x => match x with
    | .If t xs ys _ => chkE sy N c sc t && (chkK a sc xs && chkK b sc ys)
    | _ => false
  | .whl c b, sc, x => match x with
    | .While t xs [] _ => chkE sy N c sc t && chkK b sc xs
    | _ => false
  | .for1 i it b, sc, x => match x with
    | .For (.Name z p) iter xs [] _ => locB N sc i z && (notSet iter && (chkI sy N it sc (.Name z p) iter && chkK b sc xs))
    | _ => false
  | .forT is it b, sc, x => match x with
    | .For (.Tuple es kk p) iter xs [] _ => chkT N sc is es && (notSet iter && (chkI sy N it sc (.Tuple es kk p) iter && chkK b sc xs))
    | _ => false
  | .brk, _, x => match x with
    | .Break _ => true
    | _ => false
  | .cnt, _, x => match x with
    | .Continue _ => true
    | _ => false
  | .pass, _, x => match x with
    | .Pass _ => true
    | _ => false
  | .nev, _, _ => true
  | _, _, _ => false
def chkK : Ss → Scope → List Stmt → Bool
  | .nil, _, xs => match xs with
    | [] => true
    | _ => false
  | .cons s r, sc, xs => match xs with
    | x :: xs => chkS s sc x && chkK r sc xs
    | [] => false
end
end
section
variable {sy : Sy} {cs : Cls0} {n : Nat} {Γ : Calls} {C : Cf} {N : List Str}
theorem s_set_any {i : Nat} {e : E} {X : Cx} {W : WX} {sc : Scope} {z : Str} {v : Expr} {p1 pos : Pos} (G : GoodS sy cs n Γ X W N sc) (hz : locB N sc i z = true) (h : chkE sy N e sc v = true) (hk : (notComp v || comS e) = true) : AS cs Γ C X W (.set i e) (.Assign [.Name z p1] v pos) := by
  cases hn : notComp v with
  | true => exact s_set G hz hn (okE e X W sc v G.toGood h).1
  | false =>
    rw [hn, Bool.false_or] at hk
    unfold comS at hk
    split at hk
    · unfold chkE at h
      split at h
      · simp only [Bool.and_eq_true, decide_eq_true_eq] at h
        obtain ⟨hi, hl, hb, hset, hI, hE⟩ := h
        exact s_com G hz hi hl hb hset (okI _ X W sc _ _ _ G.toGood hI rfl) fun X' e G' => (okE _ X' W0 _ _ G' hE).1
      · cases h
    · unfold chkE at h
      split at h
      · simp only [Bool.and_eq_true, decide_eq_true_eq] at h
        obtain ⟨hi, hl, hb, hset, hI, hE, hC⟩ := h
        exact s_comf G hz hi hl hb hset (okI _ X W sc _ _ _ G.toGood hI rfl) (fun X' e G' => (okE _ X' W0 _ _ G' hE).1) fun X' e G' => (okE _ X' W0 _ _ G' hC).2
      · cases h
    · cases hk
mutual
theorem okS : ∀ (s : S) (X : Cx) (W : WX) (sc : Scope) (x : Stmt), GoodS sy cs n Γ X W N sc → chkS sy N s sc x = true → AS cs Γ C X W s x
  | .set i e, X, W, sc, x, G, h => by
    unfold chkS at h
    split at h
    · simp only [Bool.and_eq_true] at h
      exact s_set_any G h.1 h.2.1 h.2.2
    · cases h
  | .setT is e, X, W, sc, x, G, h => by
    unfold chkS at h
    split at h
    · simp only [Bool.and_eq_true] at h
      obtain ⟨h1, h2, h3, h4⟩ := h
      exact s_setT G h1 h2 h3 (okE e X W sc _ G.toGood h4).1
    · cases h
  | .par2 i j a b, X, W, sc, x, G, h => by
    unfold chkS at h
    split at h
    · simp only [Bool.and_eq_true] at h
      obtain ⟨h1, h2, h3⟩ := h
      exact s_par2 G h1 (okE a X W sc _ G.toGood h2).1 (okE b X W sc _ G.toGood h3).1
    · cases h
  | .sti i b e, X, W, sc, x, G, h => by
    unfold chkS at h
    split at h
    · simp only [Bool.and_eq_true] at h
      obtain ⟨h1, h2, h3, h4, h5⟩ := h
      exact s_sti G h1 h2 h3 (okE e X W sc _ G.toGood h4).1 (okE b X W sc _ G.toGood h5).1
    · cases h
  | .app i a, X, W, sc, x, G, h => by
    unfold chkS at h
    split at h
    · simp only [Bool.and_eq_true, decide_eq_true_eq] at h
      obtain ⟨rfl, hz, hl, hs, h1⟩ := h
      exact s_app G hz hl hs (okE a X W sc _ G.toGood h1).1
    · cases h
  | .ext i a, X, W, sc, x, G, h => by
    unfold chkS at h
    split at h
    · simp only [Bool.and_eq_true, decide_eq_true_eq] at h
      obtain ⟨rfl, hz, hl, hs, h1⟩ := h
      exact s_ext G hz hl hs (okE a X W sc _ G.toGood h1).1
    · cases h
  | .ex e, X, W, sc, x, G, h => by
    unfold chkS at h
    split at h
    · rw [Bool.and_eq_true] at h
      exact s_ex h.1 (okE e X W sc _ G.toGood h.2).1
    · cases h
  | .ret e, X, W, sc, x, G, h => by
    unfold chkS at h
    split at h
    · exact s_ret (okE e X W sc _ G.toGood h).1
    · cases h
  | .retN, X, W, sc, x, G, h => by
    unfold chkS at h
    split at h
    · exact s_retN
    · cases h
  | .iff c a b, X, W, sc, x, G, h => by
    unfold chkS at h
    split at h
    · simp only [Bool.and_eq_true] at h
      exact s_if (okE c X W sc _ G.toGood h.1).2 (okK a X W sc _ G h.2.1) (okK b X W sc _ G h.2.2)
    · cases h
  | .whl c b, X, W, sc, x, G, h => by
    unfold chkS at h
    split at h
    · simp only [Bool.and_eq_true] at h
      exact s_while G (okE c X W sc _ G.toGood h.1).2 (okK b X W sc _ G h.2)
    · cases h
  | .for1 i it b, X, W, sc, x, G, h => by
    unfold chkS at h
    split at h
    · simp only [Bool.and_eq_true] at h
      obtain ⟨h1, h2, h3, h4⟩ := h
      exact s_for1 G h1 h2 (okI it X W sc _ _ _ G.toGood h3 rfl) (okK b X W sc _ G h4)
    · cases h
  | .forT is it b, X, W, sc, x, G, h => by
    unfold chkS at h
    split at h
    · simp only [Bool.and_eq_true] at h
      obtain ⟨h1, h2, h3, h4⟩ := h
      exact s_forT G h1 h2 (okI it X W sc _ _ _ G.toGood h3 rfl) (okK b X W sc _ G h4)
    · cases h
  | .brk, X, W, sc, x, G, h => by
    unfold chkS at h
    split at h
    · exact s_brk
    · cases h
  | .cnt, X, W, sc, x, G, h => by
    unfold chkS at h
    split at h
    · exact s_cnt
    · cases h
  | .pass, X, W, sc, x, G, h => by
    unfold chkS at h
    split at h
    · exact s_pass
    · cases h
  | .nev, X, W, sc, x, G, h => s_nev
  | .stf _ _ _, X, W, sc, x, G, h => by unfold chkS at h; cases h
  | .appF _ _ _, X, W, sc, x, G, h => by unfold chkS at h; cases h
  | .retM _, X, W, sc, x, G, h => by unfold chkS at h; cases h
  | .rai _ _, X, W, sc, x, G, h => by unfold chkS at h; cases h
  | .tryE _ _ _, X, W, sc, x, G, h => by unfold chkS at h; cases h
  | .tryA _ _ _ _, X, W, sc, x, G, h => by unfold chkS at h; cases h
theorem okK : ∀ (s : Ss) (X : Cx) (W : WX) (sc : Scope) (x : List Stmt), GoodS sy cs n Γ X W N sc → chkK sy N s sc x = true → AK cs Γ C X W s x
  | .nil, X, W, sc, xs, G, h => by
    unfold chkK at h
    split at h
    · exact s_nil
    · cases h
  | .cons s r, X, W, sc, xs, G, h => by
    unfold chkK at h
    split at h
    · rw [Bool.and_eq_true] at h
      exact s_cons (okS s X W sc _ G h.1) (okK r X W sc _ G h.2)
    · cases h
end
end
end Pm

set_option Elab.async false
set_option linter.all false
set_option maxRecDepth 100000
set_option maxHeartbeats 4000000
/-! The pure machine: defs, levels, the law's end. -/
namespace Pm
open PySem PySem.Spec L2

/-- a def of the text: its place is its name -/
structure DefI where
  id : Nat
  name : Str
  params : Arguments
  body : List Stmt
  scope : Scope
  ps : List Str
  N : List Str
  fd : Fd
def DefI.d (D : DefI) : He.DefD := ⟨(D.name, none), D.name, D.name, D.params, D.body, D.scope, [], []⟩
def syOf (defs : List DefI) (glo : List (Str × D)) : Sy := ⟨fun f => (defs.find? fun D => D.id == f).map (·.name), glo⟩
def tabOf (defs : List DefI) : Nat → Option Fd := fun f => (defs.find? fun D => D.id == f).map (·.fd)
def scB (N ps : List Str) (sc : Scope) : Bool :=
  decide (sc.kind = .function) && (!sc.isCoroutine && (!sc.isGenerator && (decide N.Nodup && (decide (N.take ps.length = ps) && (ps.all (fun x => decide (sc.names.lookup x = some .local) || decide (sc.names.lookup x = some .cell)) && sc.names.all fun y => !decide (y.2 = .free))))))
theorem scB_ok {N ps : List Str} {sc : Scope} (h : scB N ps sc = true) : FnScope N ps sc := by
  unfold scB at h
  simp only [Bool.and_eq_true, Bool.or_eq_true, Bool.not_eq_true', decide_eq_true_eq, decide_eq_false_iff_not, List.all_eq_true] at h
  obtain ⟨h1, h2, h3, h4, h5, h6, h7⟩ := h
  exact ⟨h1, h2, h3, h4, h5, h6, h7⟩
def okDef (sy : Sy) (D : DefI) : Bool := decide (D.ps.length = D.fd.np) && (decide (D.N.length = D.fd.ns) && (scB D.N D.ps D.scope && chkK sy D.N D.fd.body D.scope D.body))
def BindsOk (D : DefI) : Prop := ∀ (kV doc pm : Value) (an : Option Addr) (cdv ct : Value) (us : List Value), us.length = D.ps.length → bindArgs (PySem.W.fnOf D.name D.name D.params D.body D.scope .none kV doc pm an cdv ct) ⟨us, []⟩ = pure (D.ps.zip us)
def faG : Str × D → He.Fa
  | (x, .int i) => .int x i
  | (x, .str z) => .str x z
  | (x, _) => .free x
def faOf (defs : List DefI) (glo : List (Str × D)) : List He.Fa := defs.map (fun D => .glo D.name) ++ (bltNames.map .free ++ glo.map faG)
def scal : D → Bool
  | .int _ => true
  | .str _ => true
  | _ => false

section
variable {sy : Sy} {cs : Cls0} {n : Nat} {C : Cf} {P : Program} {w : World} {K : PySem.W.Frag} {mg : Str → Option Value} {base : Heap}
theorem start_sim {g : Gh} {H : Hp} {ds : List D} {vs : List V} {h : List Ob} {N : List Str} {ns np : Nat} (hs : HSim K cs H g h) (rs : RDs K g H vs ds) (hN : N.length = ns) (hl : vs.length = np) : Sim K cs H g (L2.start N vs) H g (ds.map Slot.v ++ List.replicate (ns - np) .un) h where
  hs := hs
  fr := FrS.refl
  len := by
    unfold L2.start
    simp [rs.len, hN, ← hl]
  sl := fun i s e => by
    by_cases hi : i < ds.length
    · rw [List.getElem?_append_left (by simpa using hi), List.getElem?_map] at e
      obtain ⟨d, ed⟩ := lt_of_get hi
      rw [ed] at e
      cases e
      obtain ⟨v, ev, r⟩ := rs.get ed
      refine ⟨v, ?_, r⟩
      unfold L2.start
      rw [List.getElem?_append_left (by simpa [rs.len] using hi), List.getElem?_map, ev]
      rfl
    · rw [List.getElem?_append_right (by simpa using Nat.le_of_not_lt hi)] at e
      have := List.mem_of_getElem? e
      rw [(List.mem_replicate.mp this).2]
      trivial
/-- a def keeps its promise -/
theorem def_ok {Γ : Calls} {D : DefI} {f : Addr} {fd : FuncData} (F : FunD K D.name D.name D.params D.body D.scope [] [] f fd) (O : Ok0 sy cs n Γ P w K mg base) (h : okDef sy D = true) :
    FnOk P w K mg base (L2.CX P w) (n + 1) f fd D.ps (spF K cs D.ps.length (runF Γ C D.fd)) := by
  unfold okDef at h
  simp only [Bool.and_eq_true, decide_eq_true_eq] at h
  obtain ⟨h1, h2, h3, h4⟩ := h
  have S := scB_ok h3
  refine F.ok S (fun vs H Q E ⟨hl, _⟩ => hl) fun cdv A outer s H vs Q E hr hsp => ?_
  obtain ⟨hl, g, ds, hp, hs, rs, hm⟩ := hsp
  have G : GoodS sy cs n Γ (cxOf (L2.CX P w) P w K mg base D.N D.name D.scope f cdv A outer s H E) (fun cl d _ H => E cl d H) D.N D.scope :=
    { calm := rfl, nm := rfl, nd := S.nd, sc := rfl, room := hr, tk := takes_of rfl rfl rfl rfl, ok := O, own := passes_of rfl, kd := S.kind, fnT := fun _ => rfl }
  refine ⟨_, okK (C := C) D.fd.body _ _ _ _ G h4, ?_⟩
  refine ⟨H, g, g, _, hp, start_sim hs rs h2 (hl.trans h1), ?_⟩
  unfold runF at hm
  have hd : ds.length = D.fd.np := by rw [← rs.len, hl, h1]
  rw [if_pos hd] at hm
  cases q : exB Γ C D.fd.body (ds.map Slot.v ++ List.replicate (D.fd.ns - D.fd.np) .un) hp with
  | stuck => rw [q] at hm; exact hm.elim
  | exc c p σ' h' =>
    rw [q] at hm
    exact fun σr H' g' cl d S' st x => hm cl d H' g' S'.hs S'.fr x
  | ok fl σ' h' =>
    rw [q] at hm
    cases fl with
    | nx => exact fun σr H' g' S' st => hm .non H' g' S'.hs S'.fr .non
    | rt r => exact fun σr H' g' S' st v x => hm v H' g' S'.hs S'.fr x
    | bk => exact hm.elim
    | ct => exact hm.elim
theorem runF_len {Γ : Calls} {fd : Fd} {ds : List D} {h : List Ob} (e : runF Γ C fd ds h ≠ .stuck) : ds.length = fd.np := by
  unfold runF at e
  split at e
  · assumption
  · exact absurd rfl e
/-- all defs, at every level -/
theorem okN {defs : List DefI} {glo : List (Str × D)} {h0 : Heap} (X : K.In h0) (Gm : h0.Ns mainGlobals mg) (c : He.SaysD (faOf defs glo) (defs.map DefI.d) K) (hg : ∀ p ∈ glo, scal p.2 = true) (hb : ∀ D ∈ defs, BindsOk D) (hc : ∀ D ∈ defs, okDef (syOf defs glo) D = true) :
    ∀ n, Ok0 (syOf defs glo) cs n (callN (tabOf defs) C n) P w K mg base := by
  have fn : ∀ D ∈ defs, mg D.name = some (.ref (He.ga K D.name)) ∧ PySem.W.keepIn K (.ref (He.ga K D.name)) = true ∧ ∃ fd, FunD K D.name D.name D.params D.body D.scope [] [] (He.ga K D.name) fd := fun D hD => by
    obtain ⟨fd, F⟩ := c.defs (d := D.d) (List.mem_map.mpr ⟨D, hD, rfl⟩)
    exact ⟨He.glo_ok X Gm (c.facts (f := .glo D.name) (List.mem_append_left _ (List.mem_map.mpr ⟨D, hD, rfl⟩))), F.kp, fd, F⟩
  have blt : ∀ x, x ∈ bltNames → mg x = none := fun x hx => He.free_ok X Gm (c.facts (f := .free x) (List.mem_append_right _ (List.mem_append_left _ (List.mem_map.mpr ⟨x, hx, rfl⟩))))
  have glb : ∀ p, p ∈ glo → ∃ v u, scalV p.2 = some v ∧ mg p.1 = some u ∧ RelV v u := fun p hp => by
    have q := c.facts (f := faG p) (List.mem_append_right _ (List.mem_append_right _ (List.mem_map.mpr ⟨p, hp, rfl⟩)))
    have z := hg p hp
    obtain ⟨x, d⟩ := p
    cases d with
    | int i =>
      obtain ⟨t, e⟩ := He.int_ok X Gm q
      exact ⟨.int i, _, rfl, e, t, rfl⟩
    | str i =>
      obtain ⟨t, e⟩ := He.str_ok X Gm q
      exact ⟨.str i, _, rfl, e, t, rfl⟩
    | _ => cases z
  intro n
  induction n with
  | zero =>
    refine ⟨fun f x e => ?_, blt, glb⟩
    obtain ⟨D, eD, rfl⟩ := Option.map_eq_some_iff.mp e
    obtain ⟨m1, m2, fd, F⟩ := fn D (List.mem_of_find?_eq_some eD)
    exact ⟨_, fd, D.ps, m1, m2, FunD.bindsN F (hb D (List.mem_of_find?_eq_some eD)), ⟨fun vs H Q E ⟨hl, _⟩ => hl, fun A outer s H args us vs Q E hr e0 hbd r ⟨_, _, _, _, _, _, z⟩ => z.elim⟩, fun ds h z => absurd rfl z⟩
  | succ n ih =>
    refine ⟨fun f x e => ?_, blt, glb⟩
    obtain ⟨D, eD, rfl⟩ := Option.map_eq_some_iff.mp e
    have mD := List.mem_of_find?_eq_some eD
    obtain ⟨m1, m2, fd, F⟩ := fn D mD
    have hcD := hc D mD
    have call : callN (tabOf defs) C (n + 1) f = runF (callN (tabOf defs) C n) C D.fd := by
      funext ds h
      have : tabOf defs f = some D.fd := by
        unfold tabOf
        rw [eD]
        rfl
      show (match tabOf defs f with | some fd => runF (callN (tabOf defs) C n) C fd ds h | none => .stuck) = _
      rw [this]
    rw [call]
    refine ⟨_, fd, D.ps, m1, m2, FunD.bindsN F (hb D mD), def_ok F ih hcD, fun ds h z => ?_⟩
    have e1 := runF_len z
    unfold okDef at hcD
    simp only [Bool.and_eq_true, decide_eq_true_eq] at hcD
    rw [e1, hcD.1]
end

theorem cx_none {P : Program} {w : World} {outer : List Env} (H : Hp) (s : Shared) (e : Value) (s' : Shared) (h : L2.CX P w outer H s (fun _ _ _ => False) e s') : False := by
  obtain ⟨_, _, _, _, _, _, _, _, _, _, _, _, z⟩ := h
  exact z.elim
/-- a def that lets nothing out -/
theorem fn_none {P : Program} {w : World} {K : PySem.W.Frag} {mg : Str → Option Value} {base : Heap} {k : Nat} {f : Addr} {fd : FuncData} {ps : List Str} {sp : Sp} (F : FnOk P w K mg base (L2.CX P w) k f fd ps sp) :
    FnOk P w K mg base CX0 k f fd ps (fun vs H Q _ => sp vs H Q fun _ _ _ => False) :=
  ⟨fun vs H Q E h => F.len vs H Q _ h, fun A outer s H args us vs Q E hr e0 hb r h => codeAny_mono (F.run A outer s H args us vs Q _ hr e0 hb r h) fun res s' hq => by
    cases res with
    | error e => exact cx_none H s e s' hq
    | ok fl =>
      cases fl with
      | ret u => exact hq
      | next => exact hq
      | brk => exact hq
      | cont => exact hq⟩
/-- the law's def, for walk_ofE -/
theorem law_end {cs : Cls0} {C : Cf} {P : Program} {w : World} {K : PySem.W.Frag} {mg : Str → Option Value} {h0 : Heap} {defs : List DefI} {glo : List (Str × D)} {fa : Addr} {x : Str} {DL : DefI} {fl M most : Nat} (X : K.In h0) (Gm : h0.Ns mainGlobals mg) (c : He.SaysD (faOf defs glo) (defs.map DefI.d) K) (hg : ∀ p ∈ glo, scal p.2 = true)
    (hb : ∀ D ∈ defs, BindsOk D) (hc : ∀ D ∈ defs, okDef (syOf defs glo) D = true) (hL : (defs.find? fun D => D.id == fl) = some DL) (hx : DL.ps = [x]) (hmg : mg DL.name = some (.ref fa))
    (law : ∀ ns : List Int, ns.length ≤ most → ∃ h', callN (tabOf defs) C M fl [.scr ns] [] = .ok (.v (.bl true)) h') :
    ∃ (K : PySem.W.Frag) (fd : FuncData) (sp : Sp), K.In h0 ∧ (∀ (s : Shared) (u : Value), BindsTo s fd ⟨[u], []⟩ [(x, u)]) ∧
        (∀ (H : Hp) (a : Addr) (ns : List Int), ns.length ≤ most → Only H → SqL K H a (ns.map V.int) → sp [.ref a] H (fun v _ => v = .bl true) fun _ _ _ => False) ∧
        ∀ base : Heap, K.In base → base.Ns mainGlobals mg → FnOk P w K mg base CX0 M fa fd [x] sp := by
  have mD := List.mem_of_find?_eq_some hL
  obtain ⟨fd, F⟩ := c.defs (d := DL.d) (List.mem_map.mpr ⟨DL, mD, rfl⟩)
  have eA : mg DL.name = some (.ref (He.ga K DL.name)) := He.glo_ok X Gm (c.facts (f := .glo DL.name) (List.mem_append_left _ (List.mem_map.mpr ⟨DL, mD, rfl⟩)))
  have ea : fa = He.ga K DL.name := by
    rw [hmg] at eA
    cases eA
    rfl
  have F' : FunD K DL.name DL.name DL.params DL.body DL.scope [] [] fa fd := by
    rw [ea]
    exact F
  refine ⟨K, fd, fun vs H Q _ => spF K cs 1 (callN (tabOf defs) C M fl) vs H Q fun _ _ _ => False, X, fun s u => ?_, fun H a ns hl hO hS => ?_, fun base hK hN => ?_⟩
  · have b := FunD.bindsA (ps := DL.ps) F' (hb DL mD) s [u] (by rw [hx]; rfl)
    rw [hx] at b
    exact b
  · obtain ⟨h', e⟩ := law ns hl
    have no : ∀ xs, H a ≠ some (.lst xs) := fun xs z => by
      rcases hO a with q | ⟨o, ys, q⟩ <;> rw [q] at z <;> cases z
    have hS' : SqS K H a (ns.map V.int) := by
      rcases hS with (z | ⟨o, z⟩) | z
      · exact absurd z (no _)
      · exact .inl ⟨o, z⟩
      · exact .inr z
    refine ⟨rfl, ⟨fun _ => .free, []⟩, [.scr ns], [], ⟨rfl, (fun j o z => nomatch z), (fun _ _ => rfl), (fun _ _ _ _ _ => rfl)⟩, .cons (.scr hS') .nil, ?_⟩
    rw [e]
    intro v H' g' _ _ r
    cases r
    rfl
  · cases M with
    | zero =>
      obtain ⟨h', e⟩ := law [] (Nat.zero_le _)
      cases e
    | succ n =>
      have q := def_ok (cs := cs) (C := C) F' (okN (cs := cs) (C := C) (P := P) (w := w) (base := base) X Gm c hg hb hc n) (hc DL mD)
      have call : callN (tabOf defs) C (n + 1) fl = runF (callN (tabOf defs) C n) C DL.fd := by
        funext ds h
        have : tabOf defs fl = some DL.fd := by
          unfold tabOf
          rw [hL]
          rfl
        show (match tabOf defs fl with | some fd => runF (callN (tabOf defs) C n) C fd ds h | none => .stuck) = _
        rw [this]
      rw [call]
      rw [hx] at q
      exact fn_none q
end Pm

set_option Elab.async false
set_option linter.all false
set_option maxRecDepth 100000
set_option maxHeartbeats 4000000
/-! The pure machine: loops, by invariants. -/
namespace Pm
open PySem PySem.Spec L2
section
variable {c : List Slot → List Ob → Res Bool} {b : List Slot → List Ob → Res Flow}
theorem whlN_mono : ∀ {n : Nat} {σ : List Slot} {h : List Ob} {r : Res Flow}, whlN c b n σ h = some r → whlN c b (n + 1) σ h = some r := by
  intro n
  induction n with
  | zero => intro σ h r e; cases e
  | succ n ih =>
    intro σ h r e
    unfold whlN at e ⊢
    cases q : c σ h with
    | stuck => rw [q] at e; exact e
    | exc k p σ1 h1 => rw [q] at e; exact e
    | ok t σ1 h1 =>
      rw [q] at e
      cases t with
      | false => exact e
      | true =>
        dsimp only at e ⊢
        cases q2 : b σ1 h1 with
        | stuck => rw [q2] at e; exact e
        | exc k p σ2 h2 => rw [q2] at e; exact e
        | ok fl σ2 h2 =>
          rw [q2] at e
          cases fl with
          | nx => exact ih e
          | ct => exact ih e
          | bk => exact e
          | rt r => exact e
theorem whlN_le {n m : Nat} {σ : List Slot} {h : List Ob} {r : Res Flow} (hl : n ≤ m) (e : whlN c b n σ h = some r) : whlN c b m σ h = some r := by
  obtain ⟨k, rfl⟩ := Nat.le.dest hl
  clear hl
  induction k with
  | zero => exact e
  | succ k ih => exact whlN_mono ih
theorem whl_of {n : Nat} {σ : List Slot} {h : List Ob} {r : Res Flow} (e : whlN c b n σ h = some r) : whl c b σ h = r := by
  rcases whl_is (c := c) (b := b) (σ := σ) (h := h) with ⟨m, r', e1, e2⟩ | z
  · rw [e2]
    have a := whlN_le (Nat.le_max_left n m) e
    have a' := whlN_le (Nat.le_max_right n m) e1
    rw [a] at a'
    exact (Option.some.inj a').symm
  · unfold whl at z
    split at z
    · rename_i hz
      have e1 := (Classical.choose_spec hz).choose_spec
      rw [z] at e1
      have a := whlN_le (Nat.le_max_left n (Classical.choose hz)) e
      have a' := whlN_le (Nat.le_max_right n (Classical.choose hz)) e1
      rw [a] at a'
      unfold whl
      rw [dif_pos hz]
      rw [z]
      exact (Option.some.inj a').symm
    · rename_i hz
      exact absurd ⟨n, r, e⟩ hz
/-- a while, by an invariant and a measure -/
theorem whl_inv (I : Nat → List Slot → List Ob → Prop) (R : Res Flow → Prop)
    (step : ∀ m σ h, I m σ h → (∃ σ1 h1, c σ h = .ok false σ1 h1 ∧ R (.ok .nx σ1 h1)) ∨ (∃ σ1 h1, c σ h = .ok true σ1 h1 ∧ ((∃ m' σ2 h2, m' < m ∧ b σ1 h1 = .ok .nx σ2 h2 ∧ I m' σ2 h2) ∨ (∃ r σ2 h2, b σ1 h1 = .ok (.rt r) σ2 h2 ∧ R (.ok (.rt r) σ2 h2)))))
    {m : Nat} {σ : List Slot} {h : List Ob} (i0 : I m σ h) : R (whl c b σ h) := by
  have key : ∀ m σ h, I m σ h → ∃ n r, whlN c b n σ h = some r ∧ R r := by
    intro m
    induction m using Nat.strongRecOn with
    | _ m ih =>
      intro σ h i
      rcases step m σ h i with ⟨σ1, h1, e, q⟩ | ⟨σ1, h1, e, ⟨m', σ2, h2, hm, e2, i2⟩ | ⟨r, σ2, h2, e2, q⟩⟩
      · exact ⟨1, _, by unfold whlN; rw [e], q⟩
      · obtain ⟨n, r, e3, q⟩ := ih m' hm σ2 h2 i2
        exact ⟨n + 1, r, by unfold whlN; rw [e]; dsimp only; rw [e2]; exact e3, q⟩
      · exact ⟨1, _, by unfold whlN; rw [e]; dsimp only; rw [e2], q⟩
  obtain ⟨n, r, e, q⟩ := key m σ h i0
  rw [whl_of e]
  exact q
end
/-- a for, by an invariant -/
theorem forL_inv {f : D → List Slot → List Ob → Res Flow} (I : List D → List D → List Slot → List Ob → Prop) (R : Res Flow → Prop)
    (step : ∀ l d r σ h, I l (d :: r) σ h → (∃ σ' h', f d σ h = .ok .nx σ' h' ∧ I (l ++ [d]) r σ' h') ∨ (∃ x σ' h', f d σ h = .ok (.rt x) σ' h' ∧ R (.ok (.rt x) σ' h'))) (fin : ∀ l σ h, I l [] σ h → R (.ok .nx σ h)) :
    ∀ {l ds : List D} {σ : List Slot} {h : List Ob}, I l ds σ h → R (forL f ds σ h)
  | l, [], σ, h, i => fin l σ h i
  | l, d :: ds, σ, h, i => by
    unfold forL
    rcases step l d ds σ h i with ⟨σ', h', e, i'⟩ | ⟨x, σ', h', e, q⟩
    · rw [e]
      exact forL_inv I R step fin i'
    · rw [e]
      exact q
/-- a for over a map, by a list's own induction: nothing leaves -/
theorem forL_all {α : Type} {f : D → List Slot → List Ob → Res Flow} {g : α → D} (I : List α → List α → List Slot → List Ob → Prop)
    (step : ∀ l a r σ h, I l (a :: r) σ h → ∃ σ' h', f (g a) σ h = .ok .nx σ' h' ∧ I (l ++ [a]) r σ' h') :
    ∀ {l xs : List α} {σ : List Slot} {h : List Ob}, I l xs σ h → ∃ σ' h', forL f (xs.map g) σ h = .ok .nx σ' h' ∧ I (l ++ xs) [] σ' h'
  | l, [], σ, h, i => ⟨σ, h, rfl, by rw [List.append_nil]; exact i⟩
  | l, d :: ds, σ, h, i => by
    obtain ⟨σ', h', e, i'⟩ := step l d ds σ h i
    obtain ⟨σ'', h'', e2, i2⟩ := forL_all I step i'
    refine ⟨σ'', h'', ?_, ?_⟩
    · rw [List.map_cons]
      unfold forL
      rw [e]
      exact e2
    · rw [List.append_assoc] at i2
      exact i2
/-- a comprehension's loop that changes the heap, by an invariant -/
theorem comL_inv {i : Nat} {f : List Slot → List Ob → Res (Option D)} {σ0 : List Slot} (I : List D → List D → List D → List Ob → Prop)
    (step : ∀ l d r acc h, I l (d :: r) acc h → ∃ o h', f (σ0.set i (.v d)) h = .ok o (σ0.set i (.v d)) h' ∧ I (l ++ [d]) r (match o with | some x => acc ++ [x] | none => acc) h' ∧ acc.length < sizeLine) :
    ∀ {l ds acc : List D} {s : Slot} {h : List Ob}, I l ds acc h → ∃ acc' s' h', comL i f ds acc (σ0.set i s) h = .ok acc' (σ0.set i s') h' ∧ I (l ++ ds) [] acc' h'
  | l, [], acc, s, h, i0 => ⟨acc, s, h, rfl, by rw [List.append_nil]; exact i0⟩
  | l, d :: ds, acc, s, h, i0 => by
    obtain ⟨o, h', e, i', hz⟩ := step l d ds acc h i0
    unfold comL
    rw [List.set_set, e]
    cases o with
    | none =>
      obtain ⟨acc', s', h'', e2, i2⟩ := comL_inv I step (s := .v d) i'
      exact ⟨acc', s', h'', e2, by rw [List.append_assoc] at i2; exact i2⟩
    | some x =>
      obtain ⟨acc', s', h'', e2, i2⟩ := comL_inv I step (s := .v d) i'
      refine ⟨acc', s', h'', ?_, by rw [List.append_assoc] at i2; exact i2⟩
      show (if acc.length < sizeLine then comL i f ds (acc ++ [x]) (σ0.set i (.v d)) h' else .stuck) = _
      rw [if_pos hz]
      exact e2
section
variable {Γ : Calls} {C : Cf} {i : Nat} {elt c : E} {it : I} {σ : List Slot} {h h1 : List Ob} {ds : List D} {s : Slot}
theorem set_back (hs : σ[i]? = some s) (s' : Slot) : (σ.set i s').set i s = σ := by
  rw [List.set_set]
  obtain ⟨hi, e⟩ := List.getElem?_eq_some_iff.mp hs
  rw [← e]
  exact List.set_getElem_self ..
theorem plain_get (hs : plainSlot σ[i]? = some s) : σ[i]? = some s := by
  cases q : σ[i]? with
  | none => rw [q] at hs; cases hs
  | some z =>
    rw [q] at hs
    cases z <;> cases hs <;> rfl
/-- a comprehension that leaves all else as it is -/
theorem com_map {σz : List Slot} {hz0 : List Ob} {g : D → D} (hI : evI Γ C it σz hz0 = .ok ds σ h) (hs : plainSlot σ[i]? = some s) (hl : ds.length ≤ sizeLine)
    (hf : ∀ d ∈ ds, ∃ r : R, evE Γ C elt (σ.set i (.v d)) h = .ok r (σ.set i (.v d)) h ∧ r.d = g d) : evE Γ C (.com i elt it) σz hz0 = .ok (.o (ds.map g)) σ h := by
  have hg := plain_get hs
  obtain ⟨acc, s', h', e, e2, e3⟩ := comL_inv (i := i) (f := fun σ h => (evE Γ C elt σ h).bind fun r σ h => .ok (some r.d) σ h) (σ0 := σ) (fun l r acc h' => h' = h ∧ acc = l.map g ∧ l ++ r = ds) (fun l d r acc h' ⟨e1, e2, e3⟩ => by
    subst e1
    obtain ⟨x, q1, q2⟩ := hf d (by rw [← e3]; simp)
    refine ⟨some x.d, h', by rw [q1]; rfl, ⟨rfl, ?_, ?_⟩, ?_⟩
    · dsimp only; rw [e2, q2]; simp
    · rw [← e3]; simp
    · have := congrArg List.length e3
      rw [e2]
      simp at this ⊢
      omega) (l := []) (ds := ds) (acc := []) (s := s) (h := h) ⟨rfl, rfl, rfl⟩
  unfold evE
  rw [hI]
  show (match plainSlot σ[i]? with | some s => _ | none => _) = _
  rw [hs]
  dsimp only
  rw [show σ.set i s = σ from by have := set_back hg s; rw [List.set_set] at this; exact this] at e
  rw [e]
  show Res.ok (R.o acc) ((σ.set i s').set i s) h' = _
  rw [set_back hg, e2, e3.1]
  simp
/-- .. that takes some -/
theorem comf_map {σz : List Slot} {hz0 : List Ob} {p : D → Bool} {g : D → D} (hI : evI Γ C it σz hz0 = .ok ds σ h) (hs : plainSlot σ[i]? = some s) (hl : ds.length ≤ sizeLine)
    (hc : ∀ d ∈ ds, evE Γ C c (σ.set i (.v d)) h = .ok (.v (.bl (p d))) (σ.set i (.v d)) h)
    (hf : ∀ d ∈ ds, p d = true → ∃ r : R, evE Γ C elt (σ.set i (.v d)) h = .ok r (σ.set i (.v d)) h ∧ r.d = g d) : evE Γ C (.comf i elt it c) σz hz0 = .ok (.o ((ds.filter p).map g)) σ h := by
  have hg := plain_get hs
  obtain ⟨acc, s', h', e, e2, e3⟩ := comL_inv (i := i) (f := fun σ h => (asB (evE Γ C c σ h)).bind fun k σ h => if k then (evE Γ C elt σ h).bind fun r σ h => .ok (some r.d) σ h else .ok none σ h) (σ0 := σ)
      (fun l r acc h' => h' = h ∧ acc = (l.filter p).map g ∧ l ++ r = ds) (fun l d r acc h' ⟨e1, e2, e3⟩ => by
    subst e1
    have hd : d ∈ ds := by rw [← e3]; simp
    have hlen : acc.length < sizeLine := by
      have := congrArg List.length e3
      have := List.length_filter_le p l
      rw [e2]
      simp at *
      omega
    cases q : p d with
    | true =>
      obtain ⟨x, q1, q2⟩ := hf d hd q
      refine ⟨some x.d, h', by rw [hc d hd, q]; show ((evE Γ C elt (σ.set i (.v d)) h').bind fun r σ h => Res.ok (some r.d) σ h) = _; rw [q1]; rfl, ⟨rfl, ?_, ?_⟩, hlen⟩
      · dsimp only; rw [e2, q2]; simp [q]
      · rw [← e3]; simp
    | false =>
      refine ⟨none, h', by rw [hc d hd, q]; rfl, ⟨rfl, ?_, ?_⟩, hlen⟩
      · dsimp only; rw [e2]; simp [q]
      · rw [← e3]; simp) (l := []) (ds := ds) (acc := []) (s := s) (h := h) ⟨rfl, rfl, rfl⟩
  unfold evE
  rw [hI]
  show (match plainSlot σ[i]? with | some s => _ | none => _) = _
  rw [hs]
  dsimp only
  rw [show σ.set i s = σ from by have := set_back hg s; rw [List.set_set] at this; exact this] at e
  rw [e]
  show Res.ok (R.o acc) ((σ.set i s').set i s) h' = _
  rw [set_back hg, e2, e3.1]
  simp
/-- a comprehension that changes the heap -/
theorem com_inv {σz : List Slot} (I : List D → List D → List D → List Ob → Prop) (hI : evI Γ C it σz h = .ok ds σ h1) (hs : plainSlot σ[i]? = some s) (i0 : I [] ds [] h1)
    (step : ∀ l d r acc h, I l (d :: r) acc h → ∃ r' h', evE Γ C elt (σ.set i (.v d)) h = .ok r' (σ.set i (.v d)) h' ∧ I (l ++ [d]) r (acc ++ [r'.d]) h' ∧ acc.length < sizeLine) :
    ∃ xs h', evE Γ C (.com i elt it) σz h = .ok (.o xs) σ h' ∧ I ds [] xs h' := by
  have hg := plain_get hs
  obtain ⟨acc, s', h', e, e2⟩ := comL_inv (i := i) (f := fun σ h => (evE Γ C elt σ h).bind fun r σ h => .ok (some r.d) σ h) (σ0 := σ) I (fun l d r acc h' q => by
    obtain ⟨x, h2, q1, q2, q3⟩ := step l d r acc h' q
    exact ⟨some x.d, h2, by rw [q1]; rfl, q2, q3⟩) (l := []) (ds := ds) (acc := []) (s := s) (h := h1) i0
  refine ⟨acc, h', ?_, e2⟩
  unfold evE
  rw [hI]
  show (match plainSlot σ[i]? with | some s => _ | none => _) = _
  rw [hs]
  dsimp only
  rw [show σ.set i s = σ from by have := set_back hg s; rw [List.set_set] at this; exact this] at e
  rw [e]
  show Res.ok (R.o acc) ((σ.set i s').set i s) h' = _
  rw [set_back hg]
end
end Pm

set_option Elab.async false
set_option linter.all false
set_option maxRecDepth 100000
set_option maxHeartbeats 4000000
/-! The pure machine: evaluation by simp. -/
namespace Pm
open PySem PySem.Spec L2
section
variable {α β : Type} {a : α} {b : Bool} {σ : List Slot} {h : List Ob} {d x y : D} {xs ys : List D} {i j : Int} {k n : Nat} {s t : Str} {r : R}
@[simp] theorem bind_ok {f : α → List Slot → List Ob → Res β} : (Res.ok a σ h).bind f = f a σ h := id rfl
@[simp] theorem asB_ok : asB (.ok (.v (.bl b)) σ h) = .ok b σ h := id rfl
@[simp] theorem asI_ok : asI (.ok (.v (.int i)) σ h) = .ok (some i) σ h := id rfl
@[simp] theorem retR_some : retR (some r) σ h = .ok r σ h := id rfl
@[simp] theorem retB_some : retB (some b) σ h = .ok (.v (.bl b)) σ h := id rfl
@[simp] theorem ofC_ok : ofC (.ok r h) σ = .ok r σ h := id rfl
@[simp] theorem noexc_ok : noexc (.ok a σ h) = .ok a σ h := id rfl
@[simp] theorem Rd_v : (R.v d).d = d := id rfl
@[simp] theorem Rd_o : (R.o xs).d = .lst xs := id rfl
@[simp] theorem Rs_v : (R.v d).slot = .v d := id rfl
@[simp] theorem Rs_o : (R.o xs).slot = .o xs := id rfl
def derefR : Option Ob → Option D
  | some (.lst xs) => some (.lst xs)
  | _ => none
def contS (h : List Ob) : Option Slot → Option D
  | some (.v d) => derefD h d
  | some (.o xs) => some (.lst xs)
  | _ => none
@[simp] theorem contS_v : contS h (some (.v d)) = derefD h d := id rfl
@[simp] theorem contS_o : contS h (some (.o xs)) = some (.lst xs) := id rfl
@[simp] theorem cont_s : cont σ h (.s k) = contS h σ[k]? := id rfl
@[simp] theorem cont_v : cont σ h (.r (.v d)) = derefD h d := id rfl
@[simp] theorem cont_o : cont σ h (.r (.o xs)) = some (.lst xs) := id rfl
@[simp] theorem deref_int : derefD h (.int i) = some (.int i) := id rfl
@[simp] theorem deref_str : derefD h (.str s) = some (.str s) := id rfl
@[simp] theorem deref_bl : derefD h (.bl b) = some (.bl b) := id rfl
@[simp] theorem deref_non : derefD h .non = some .non := id rfl
@[simp] theorem deref_tup : derefD h (.tup xs) = some (.tup xs) := id rfl
@[simp] theorem deref_lst : derefD h (.lst xs) = some (.lst xs) := id rfl
@[simp] theorem deref_ref : derefD h (.ref k) = derefR h[k]? := id rfl
@[simp] theorem derefR_lst : derefR (some (.lst xs)) = some (.lst xs) := id rfl
/-! operations -/
@[simp] theorem bin_add : binop .add (.int i) (.int j) = some (.v (.int (i + j))) := id rfl
@[simp] theorem bin_sub : binop .sub (.int i) (.int j) = some (.v (.int (i - j))) := id rfl
@[simp] theorem bin_mod (hj : 0 < j) : binop .mod (.int i) (.int j) = some (.v (.int (i % j))) := if_pos hj
@[simp] theorem bin_fdiv (h0 : 0 < j) (h1 : j < 1073741824) : binop .fdiv (.int i) (.int j) = some (.v (.int (i / j))) := if_pos ⟨h0, h1⟩
theorem bin_mulr (h0 : -two64 < j) (h1 : j < two64) : binop .mul (.int i) (.int j) = some (.v (.int (i * j))) := if_pos (.inr ⟨h0, h1⟩)
theorem bin_mull (h0 : -two64 < i) (h1 : i < two64) : binop .mul (.int i) (.int j) = some (.v (.int (i * j))) := if_pos (.inl ⟨h0, h1⟩)
theorem bin_addl (hz : xs.length + ys.length ≤ sizeLine) : binop .add (.lst xs) (.lst ys) = some (.o (xs ++ ys)) := if_pos hz
theorem bin_addt (hz : xs.length + ys.length ≤ sizeLine) : binop .add (.tup xs) (.tup ys) = some (.v (.tup (xs ++ ys))) := if_pos hz
@[simp] theorem eqF_int : eqF n (.int i) (.int j) = some (i == j) := by cases n <;> rfl
@[simp] theorem eqF_str : eqF n (.str s) (.str t) = some (decide (s = t)) := by cases n <;> rfl
@[simp] theorem eqF_bl {b c : Bool} : eqF n (.bl b) (.bl c) = some (b == c) := by cases n <;> rfl
@[simp] theorem eqF_nn : eqF n .non .non = some true := by cases n <;> rfl
@[simp] theorem eqF_nt : eqF n .non (.tup xs) = some false := by cases n <;> rfl
@[simp] theorem eqF_tn : eqF n (.tup xs) .non = some false := by cases n <;> rfl
@[simp] theorem eqF_tup : eqF (n + 1) (.tup xs) (.tup ys) = eqL (eqF n) xs ys := id rfl
@[simp] theorem eqF_lst : eqF (n + 1) (.lst xs) (.lst ys) = eqL (eqF n) xs ys := id rfl
@[simp] theorem eqF_tup60 : eqF F60 (.tup xs) (.tup ys) = eqL (eqF 59) xs ys := id rfl
@[simp] theorem eqF_lst60 : eqF F60 (.lst xs) (.lst ys) = eqL (eqF 59) xs ys := id rfl
@[simp] theorem eqL_nn {f : D → D → Option Bool} : eqL f [] [] = some true := id rfl
@[simp] theorem eqL_nc {f : D → D → Option Bool} : eqL f [] (y :: ys) = some false := id rfl
@[simp] theorem eqL_cn {f : D → D → Option Bool} : eqL f (x :: xs) [] = some false := id rfl
theorem eqL_cc {f : D → D → Option Bool} {a b : Bool} (h1 : f x y = some a) (h2 : eqL f xs ys = some b) : eqL f (x :: xs) (y :: ys) = some (a && b) := by
  unfold eqL
  rw [h1, h2]
@[simp] theorem cmp_eq : cmpop .eq x y = eqF F60 x y := id rfl
@[simp] theorem cmp_ne : cmpop .ne x y = (eqF F60 x y).map (!·) := id rfl
@[simp] theorem cmp_lt : cmpop .lt (.int i) (.int j) = some (decide (i < j)) := id rfl
@[simp] theorem cmp_le : cmpop .le (.int i) (.int j) = some (decide (i ≤ j)) := id rfl
@[simp] theorem cmp_gt : cmpop .gt (.int i) (.int j) = some (decide (j < i)) := id rfl
@[simp] theorem cmp_ge : cmpop .ge (.int i) (.int j) = some (decide (j ≤ i)) := id rfl
@[simp] theorem cmp_isn : cmpop .isn x .non = some (isNon x) := id rfl
@[simp] theorem cmp_isnn : cmpop .isnn x .non = some (!isNon x) := id rfl
@[simp] theorem isNon_non : isNon .non = true := id rfl
@[simp] theorem isNon_int : isNon (.int i) = false := id rfl
@[simp] theorem isNon_tup : isNon (.tup xs) = false := id rfl
@[simp] theorem isNon_lst : isNon (.lst xs) = false := id rfl
@[simp] theorem isNon_str : isNon (.str s) = false := id rfl
@[simp] theorem isNon_bl : isNon (.bl b) = false := id rfl
@[simp] theorem ix_lst : index (.lst xs) (.int i) = ixD xs i := id rfl
@[simp] theorem ix_tup : index (.tup xs) (.int i) = ixD xs i := id rfl
@[simp] theorem ixD_0 : ixD (x :: xs) 0 = some x := id rfl
@[simp] theorem ixD_1 {y : D} : ixD (x :: y :: xs) 1 = some y := id rfl
@[simp] theorem ixD_2 {y z : D} : ixD (x :: y :: z :: xs) 2 = some z := id rfl
@[simp] theorem ixD_3 {y z w : D} : ixD (x :: y :: z :: w :: xs) 3 = some w := id rfl
@[simp] theorem ixD_nat : ixD xs (k : Nat) = xs[k]? := by
  unfold ixD
  rw [if_pos (Int.natCast_nonneg k)]
  rfl
theorem ixD_pos (h0 : 0 ≤ i) : ixD xs i = xs[i.toNat]? := if_pos h0
theorem ixD_last (hx : xs ≠ []) : ixD xs (-1) = xs.getLast? := by
  have : 0 < xs.length := List.length_pos_iff.mpr hx
  unfold ixD
  rw [if_neg (by decide), if_pos (by omega), List.getLast?_eq_getElem?]
  congr 1
  omega
@[simp] theorem ixN_0 : ixN (n + 1) 0 = some 0 := by
  unfold ixN
  rw [if_pos (by decide), if_pos (by omega)]
  rfl
@[simp] theorem ixN_1 : ixN (n + 2) 1 = some 1 := by
  unfold ixN
  rw [if_pos (by decide), if_pos (by omega)]
  rfl
@[simp] theorem sl_lst {lo hi : Option Int} : slice (.lst xs) lo hi = some (.o (cutL xs lo hi)) := id rfl
@[simp] theorem sl_tup {lo hi : Option Int} : slice (.tup xs) lo hi = some (.v (.tup (cutL xs lo hi))) := id rfl
@[simp] theorem rev_lst : revD (.lst xs) = some (.o xs.reverse) := id rfl
@[simp] theorem f_len_l : fn1 .len (.lst xs) = some (.v (.int xs.length)) := id rfl
@[simp] theorem f_len_t : fn1 .len (.tup xs) = some (.v (.int xs.length)) := id rfl
@[simp] theorem f_abs : fn1 .abs (.int i) = some (.v (.int (if i < 0 then -i else i))) := id rfl
@[simp] theorem f_sum : fn1 .sum (.lst xs) = (intsD xs).map fun ns => .v (.int ns.sum) := id rfl
@[simp] theorem f_all : fn1 .all (.lst xs) = (boolsD xs).map fun bs => .v (.bl (bs.all id)) := id rfl
@[simp] theorem f_list_l : fn1 .list (.lst xs) = some (.o xs) := id rfl
@[simp] theorem f_list_t : fn1 .list (.tup xs) = some (.o xs) := id rfl
@[simp] theorem f_tup_l : fn1 .tuple (.lst xs) = some (.v (.tup xs)) := id rfl
@[simp] theorem f_tup_t : fn1 .tuple (.tup xs) = some (.v (.tup xs)) := id rfl
@[simp] theorem f_max2 : fn2 .max (.int i) (.int j) = some (.v (.int (if j > i then j else i))) := id rfl
@[simp] theorem f_min2 : fn2 .min (.int i) (.int j) = some (.v (.int (if j < i then j else i))) := id rfl
@[simp] theorem ints_map {ns : List Int} : intsD (ns.map D.int) = some ns := by
  induction ns with
  | nil => rfl
  | cons a r ih => rw [List.map_cons, intsD, ih]; rfl
@[simp] theorem bools_map {bs : List Bool} : boolsD (bs.map D.bl) = some bs := by
  induction bs with
  | nil => rfl
  | cons a r ih => rw [List.map_cons, boolsD, ih]; rfl
@[simp] theorem ty_ii : isTy .int (.int i) = true := id rfl
@[simp] theorem ty_ib : isTy .int (.bl b) = true := id rfl
@[simp] theorem ty_in : isTy .int .non = false := id rfl
@[simp] theorem ty_is : isTy .int (.str s) = false := id rfl
@[simp] theorem ty_it : isTy .int (.tup xs) = false := id rfl
@[simp] theorem ty_il : isTy .int (.lst xs) = false := id rfl
@[simp] theorem ty_bi : isTy .bool (.int i) = false := id rfl
@[simp] theorem ty_bb : isTy .bool (.bl b) = true := id rfl
@[simp] theorem ty_bn : isTy .bool .non = false := id rfl
@[simp] theorem ty_bs : isTy .bool (.str s) = false := id rfl
@[simp] theorem ty_bt : isTy .bool (.tup xs) = false := id rfl
@[simp] theorem ty_bl : isTy .bool (.lst xs) = false := id rfl
@[simp] theorem ty_ti : isTy .tuple (.int i) = false := id rfl
@[simp] theorem ty_tb : isTy .tuple (.bl b) = false := id rfl
@[simp] theorem ty_tn : isTy .tuple .non = false := id rfl
@[simp] theorem ty_ts : isTy .tuple (.str s) = false := id rfl
@[simp] theorem ty_tt : isTy .tuple (.tup xs) = true := id rfl
@[simp] theorem ty_tl : isTy .tuple (.lst xs) = false := id rfl
@[simp] theorem ty_si : isTy .str (.int i) = false := id rfl
@[simp] theorem ty_sb : isTy .str (.bl b) = false := id rfl
@[simp] theorem ty_sn : isTy .str .non = false := id rfl
@[simp] theorem ty_ss : isTy .str (.str s) = true := id rfl
@[simp] theorem ty_st : isTy .str (.tup xs) = false := id rfl
@[simp] theorem ty_sl : isTy .str (.lst xs) = false := id rfl
@[simp] theorem ty_li : isTy .list (.int i) = false := id rfl
@[simp] theorem ty_lb : isTy .list (.bl b) = false := id rfl
@[simp] theorem ty_ln : isTy .list .non = false := id rfl
@[simp] theorem ty_ls : isTy .list (.str s) = false := id rfl
@[simp] theorem ty_lt : isTy .list (.tup xs) = false := id rfl
@[simp] theorem ty_ll : isTy .list (.lst xs) = true := id rfl
@[simp] theorem kn_i : knownTy (.int i) = true := id rfl
@[simp] theorem kn_b : knownTy (.bl b) = true := id rfl
@[simp] theorem kn_n : knownTy .non = true := id rfl
@[simp] theorem kn_s : knownTy (.str s) = true := id rfl
@[simp] theorem kn_t : knownTy (.tup xs) = true := id rfl
@[simp] theorem kn_l : knownTy (.lst xs) = true := id rfl
@[simp] theorem ps_v : plainSlot (some (.v d)) = some (.v d) := id rfl
@[simp] theorem ps_un : plainSlot (some .un) = some .un := id rfl
def tupR (m : Res (List D)) : Res R := m.bind fun ds σ h => if ds.length ≤ sizeLine then .ok (.v (.tup ds)) σ h else .stuck
def lstR (m : Res (List D)) : Res R := m.bind fun ds σ h => if ds.length ≤ sizeLine then .ok (.o ds) σ h else .stuck
theorem hundred : (100 : Nat) ≤ sizeLine := by decide +kernel
@[simp 2000] theorem evE_tup {Γ : Calls} {C : Cf} {es : Es} : evE Γ C (.tup es) σ h = tupR (evA Γ C es σ h) := by
  rw [evE]
  exact id rfl
@[simp 2000] theorem evE_lst {Γ : Calls} {C : Cf} {es : Es} : evE Γ C (.lst es) σ h = lstR (evA Γ C es σ h) := by
  rw [evE]
  exact id rfl
theorem tupR_ok (hl : xs.length ≤ 100) : tupR (.ok xs σ h) = .ok (.v (.tup xs)) σ h := if_pos (Nat.le_trans hl hundred)
theorem lstR_ok (hl : xs.length ≤ 100) : lstR (.ok xs σ h) = .ok (.o xs) σ h := if_pos (Nat.le_trans hl hundred)
def lsB : Option D → Bool
  | some (.lst _) => true
  | _ => false
@[simp] theorem lst_slot : lstSlot σ h k = lsB (contS h σ[k]?) := id rfl
@[simp] theorem lsB_l : lsB (some (.lst xs)) = true := id rfl
end
@[simp] theorem tupR_0 {σ : List Slot} {h : List Ob} : tupR (.ok [] σ h) = .ok (.v (.tup [])) σ h := tupR_ok (show 0 ≤ 100 by omega)
@[simp] theorem lstR_0 {σ : List Slot} {h : List Ob} : lstR (.ok [] σ h) = .ok (.o []) σ h := lstR_ok (show 0 ≤ 100 by omega)
@[simp] theorem tupR_1 {σ : List Slot} {h : List Ob} {a : D} : tupR (.ok [a] σ h) = .ok (.v (.tup [a])) σ h := tupR_ok (show 1 ≤ 100 by omega)
@[simp] theorem lstR_1 {σ : List Slot} {h : List Ob} {a : D} : lstR (.ok [a] σ h) = .ok (.o [a]) σ h := lstR_ok (show 1 ≤ 100 by omega)
@[simp] theorem tupR_2 {σ : List Slot} {h : List Ob} {a b : D} : tupR (.ok [a, b] σ h) = .ok (.v (.tup [a, b])) σ h := tupR_ok (show 2 ≤ 100 by omega)
@[simp] theorem lstR_2 {σ : List Slot} {h : List Ob} {a b : D} : lstR (.ok [a, b] σ h) = .ok (.o [a, b]) σ h := lstR_ok (show 2 ≤ 100 by omega)
@[simp] theorem tupR_3 {σ : List Slot} {h : List Ob} {a b c : D} : tupR (.ok [a, b, c] σ h) = .ok (.v (.tup [a, b, c])) σ h := tupR_ok (show 3 ≤ 100 by omega)
@[simp] theorem lstR_3 {σ : List Slot} {h : List Ob} {a b c : D} : lstR (.ok [a, b, c] σ h) = .ok (.o [a, b, c]) σ h := lstR_ok (show 3 ≤ 100 by omega)
@[simp] theorem tupR_4 {σ : List Slot} {h : List Ob} {a b c d : D} : tupR (.ok [a, b, c, d] σ h) = .ok (.v (.tup [a, b, c, d])) σ h := tupR_ok (show 4 ≤ 100 by omega)
@[simp] theorem lstR_4 {σ : List Slot} {h : List Ob} {a b c d : D} : lstR (.ok [a, b, c, d] σ h) = .ok (.o [a, b, c, d]) σ h := lstR_ok (show 4 ≤ 100 by omega)
@[simp] theorem tupR_5 {σ : List Slot} {h : List Ob} {a b c d e : D} : tupR (.ok [a, b, c, d, e] σ h) = .ok (.v (.tup [a, b, c, d, e])) σ h := tupR_ok (show 5 ≤ 100 by omega)
@[simp] theorem lstR_5 {σ : List Slot} {h : List Ob} {a b c d e : D} : lstR (.ok [a, b, c, d, e] σ h) = .ok (.o [a, b, c, d, e]) σ h := lstR_ok (show 5 ≤ 100 by omega)
@[simp] theorem tupR_6 {σ : List Slot} {h : List Ob} {a b c d e f : D} : tupR (.ok [a, b, c, d, e, f] σ h) = .ok (.v (.tup [a, b, c, d, e, f])) σ h := tupR_ok (show 6 ≤ 100 by omega)
@[simp] theorem lstR_6 {σ : List Slot} {h : List Ob} {a b c d e f : D} : lstR (.ok [a, b, c, d, e, f] σ h) = .ok (.o [a, b, c, d, e, f]) σ h := lstR_ok (show 6 ≤ 100 by omega)
@[simp] theorem tupR_7 {σ : List Slot} {h : List Ob} {a b c d e f g : D} : tupR (.ok [a, b, c, d, e, f, g] σ h) = .ok (.v (.tup [a, b, c, d, e, f, g])) σ h := tupR_ok (show 7 ≤ 100 by omega)
@[simp] theorem lstR_7 {σ : List Slot} {h : List Ob} {a b c d e f g : D} : lstR (.ok [a, b, c, d, e, f, g] σ h) = .ok (.o [a, b, c, d, e, f, g]) σ h := lstR_ok (show 7 ≤ 100 by omega)
@[simp] theorem tupR_8 {σ : List Slot} {h : List Ob} {a b c d e f g h1 : D} : tupR (.ok [a, b, c, d, e, f, g, h1] σ h) = .ok (.v (.tup [a, b, c, d, e, f, g, h1])) σ h := tupR_ok (show 8 ≤ 100 by omega)
@[simp] theorem lstR_8 {σ : List Slot} {h : List Ob} {a b c d e f g h1 : D} : lstR (.ok [a, b, c, d, e, f, g, h1] σ h) = .ok (.o [a, b, c, d, e, f, g, h1]) σ h := lstR_ok (show 8 ≤ 100 by omega)
end Pm

set_option Elab.async false
set_option linter.all false
set_option maxRecDepth 100000
set_option maxHeartbeats 4000000
/-! The pure machine: statements, step by step. -/
namespace Pm
open PySem PySem.Spec
section
variable {Γ : Calls} {C : Cf} {σ σ' σ1 : List Slot} {h h' h1 : List Ob} {s : S} {b r : Ss} {v : R} {i : Nat} {it : I} {c : E}
theorem exB_nx (e : exS Γ C s σ h = .ok .nx σ' h') : exB Γ C (.cons s r) σ h = exB Γ C r σ' h' := by
  rw [exB, e]
  rfl
theorem exB_rt (e : exS Γ C s σ h = .ok (.rt v) σ' h') : exB Γ C (.cons s r) σ h = .ok (.rt v) σ' h' := by
  rw [exB, e]
  rfl
theorem exB_one (e : exS Γ C s σ h = .ok .nx σ' h') : exB Γ C (.cons s .nil) σ h = .ok .nx σ' h' := by
  rw [exB_nx e, exB]
theorem runF_rt {fd : Fd} {ds : List D} (hl : ds.length = fd.np) (e : exB Γ C fd.body (ds.map Slot.v ++ List.replicate (fd.ns - fd.np) .un) h = .ok (.rt v) σ' h') : runF Γ C fd ds h = .ok v h' := by
  unfold runF
  rw [if_pos hl, e]
theorem runF_nx {fd : Fd} {ds : List D} (hl : ds.length = fd.np) (e : exB Γ C fd.body (ds.map Slot.v ++ List.replicate (fd.ns - fd.np) .un) h = .ok .nx σ' h') : runF Γ C fd ds h = .ok (.v .non) h' := by
  unfold runF
  rw [if_pos hl, e]
theorem for1_all {α : Type} {g : α → D} {xs : List α} (I : List α → List α → List Slot → List Ob → Prop) (hI : evI Γ C it σ h = .ok (xs.map g) σ1 h1) (i0 : I [] xs σ1 h1)
    (step : ∀ l a r σ h, I l (a :: r) σ h → ∃ σ' h', exB Γ C b (σ.set i (.v (g a))) h = .ok .nx σ' h' ∧ I (l ++ [a]) r σ' h') : ∃ σ' h', exS Γ C (.for1 i it b) σ h = .ok .nx σ' h' ∧ I xs [] σ' h' := by
  obtain ⟨σ', h', e, i'⟩ := forL_all (f := fun d σ h => exB Γ C b (σ.set i (.v d)) h) (g := g) I step i0
  refine ⟨σ', h', ?_, i'⟩
  rw [exS, hI]
  exact e
theorem for1_inv {ds : List D} (I : List D → List D → List Slot → List Ob → Prop) (R : Res Flow → Prop) (hI : evI Γ C it σ h = .ok ds σ1 h1) (i0 : I [] ds σ1 h1)
    (step : ∀ l d r σ h, I l (d :: r) σ h → (∃ σ' h', exB Γ C b (σ.set i (.v d)) h = .ok .nx σ' h' ∧ I (l ++ [d]) r σ' h') ∨ (∃ x σ' h', exB Γ C b (σ.set i (.v d)) h = .ok (.rt x) σ' h' ∧ R (.ok (.rt x) σ' h'))) (fin : ∀ l σ h, I l [] σ h → R (.ok .nx σ h)) :
    R (exS Γ C (.for1 i it b) σ h) := by
  have q := forL_inv (f := fun d σ h => exB Γ C b (σ.set i (.v d)) h) I R step fin i0
  rw [exS, hI]
  exact q
theorem forT_all {α : Type} {g : α → List D} {xs : List α} {is : List Nat} (I : List α → List α → List Slot → List Ob → Prop) (hI : evI Γ C it σ h = .ok (xs.map fun a => .tup (g a)) σ1 h1) (i0 : I [] xs σ1 h1)
    (step : ∀ l a r σ h, I l (a :: r) σ h → ∃ σ0 σ' h', bindS is (g a) σ = some σ0 ∧ exB Γ C b σ0 h = .ok .nx σ' h' ∧ I (l ++ [a]) r σ' h') : ∃ σ' h', exS Γ C (.forT is it b) σ h = .ok .nx σ' h' ∧ I xs [] σ' h' := by
  obtain ⟨σ', h', e, i'⟩ := forL_all (f := fun d σ h => match d with
      | .tup xs => match bindS is xs σ with
        | some σ => exB Γ C b σ h
        | none => .stuck
      | _ => .stuck) (g := fun a => .tup (g a)) I (fun l a r σ h i => by
    obtain ⟨σ0, σ', h', e1, e2, e3⟩ := step l a r σ h i
    exact ⟨σ', h', by dsimp only; rw [e1]; exact e2, e3⟩) i0
  refine ⟨σ', h', ?_, i'⟩
  rw [exS, hI]
  exact e
theorem whl_ok (I : Nat → List Slot → List Ob → Prop) (R : Res Flow → Prop)
    (step : ∀ m σ h, I m σ h → (∃ σ1 h1, evE Γ C c σ h = .ok (.v (.bl false)) σ1 h1 ∧ R (.ok .nx σ1 h1)) ∨ (∃ σ1 h1, evE Γ C c σ h = .ok (.v (.bl true)) σ1 h1 ∧ ((∃ m' σ2 h2, m' < m ∧ exB Γ C b σ1 h1 = .ok .nx σ2 h2 ∧ I m' σ2 h2) ∨ (∃ r σ2 h2, exB Γ C b σ1 h1 = .ok (.rt r) σ2 h2 ∧ R (.ok (.rt r) σ2 h2)))))
    {m : Nat} (i0 : I m σ h) : R (exS Γ C (.whl c b) σ h) := by
  rw [exS]
  refine whl_inv I R (fun m σ h i => ?_) i0
  rcases step m σ h i with ⟨σ1, h1, e, q⟩ | ⟨σ1, h1, e, q⟩
  · exact .inl ⟨σ1, h1, by rw [e]; rfl, q⟩
  · exact .inr ⟨σ1, h1, by rw [e]; rfl, q⟩
/-- what a run comes to -/
def OkM {α : Type} (m : Res α) (Q : α → List Slot → List Ob → Prop) : Prop :=
  match m with
  | .ok a σ h => Q a σ h
  | _ => False
def OkCM (m : CRes) (Q : R → List Ob → Prop) : Prop :=
  match m with
  | .ok a h => Q a h
  | _ => False
theorem OkM_ok {α : Type} {a : α} {Q : α → List Slot → List Ob → Prop} : OkM (.ok a σ h) Q ↔ Q a σ h := Iff.rfl
theorem OkCM_ok {a : R} {Q : R → List Ob → Prop} : OkCM (.ok a h) Q ↔ Q a h := Iff.rfl
theorem okM_of {α : Type} {m : Res α} {a : α} {Q : α → List Slot → List Ob → Prop} (e : m = .ok a σ h) (q : Q a σ h) : OkM m Q := by
  rw [e]
  exact q
theorem okM_bind {α β : Type} {m : Res α} {f : α → List Slot → List Ob → Res β} {Q : β → List Slot → List Ob → Prop} (q : OkM m fun a σ h => OkM (f a σ h) Q) : OkM (m.bind f) Q := by
  cases m with
  | ok a σ h => exact q
  | exc c p σ h => exact q.elim
  | stuck => exact q.elim
theorem okM_mono {α : Type} {m : Res α} {Q Q' : α → List Slot → List Ob → Prop} (q : OkM m Q) (k : ∀ a σ h, Q a σ h → Q' a σ h) : OkM m Q' := by
  cases m with
  | ok a σ h => exact k _ _ _ q
  | exc c p σ h => exact q.elim
  | stuck => exact q.elim
theorem okCM_eq {m : CRes} {r : R} (q : OkCM m fun r' h' => r' = r ∧ h' = h) : m = .ok r h := by
  cases m with
  | ok a h => obtain ⟨rfl, rfl⟩ := q; rfl
  | exc c p h => exact q.elim
  | stuck => exact q.elim
theorem okCM_ex {m : CRes} {Q : R → List Ob → Prop} (q : OkCM m Q) : ∃ r h, m = .ok r h ∧ Q r h := by
  cases m with
  | ok a h => exact ⟨a, h, rfl, q⟩
  | exc c p h => exact q.elim
  | stuck => exact q.elim
/-- the rest of a block -/
noncomputable def exR (Γ : Calls) (C : Cf) (b : Ss) (σ : List Slot) (h : List Ob) : Res Flow := exB Γ C b σ h
def GoesM (Γ : Calls) (C : Cf) (r : Ss) (Q : Flow → List Slot → List Ob → Prop) : Flow → List Slot → List Ob → Prop
  | .nx, σ, h => OkM (exR Γ C r σ h) Q
  | fl, σ, h => Q fl σ h
theorem goesM_nx {Q : Flow → List Slot → List Ob → Prop} : GoesM Γ C r Q .nx σ h ↔ OkM (exR Γ C r σ h) Q := Iff.rfl
theorem goesM_rt {Q : Flow → List Slot → List Ob → Prop} : GoesM Γ C r Q (.rt v) σ h ↔ Q (.rt v) σ h := Iff.rfl
theorem okM_cons {Q : Flow → List Slot → List Ob → Prop} (q : OkM (exS Γ C s σ h) (GoesM Γ C r Q)) : OkM (exR Γ C (.cons s r) σ h) Q := by
  unfold exR
  rw [exB]
  refine okM_bind (okM_mono q fun fl σ h z => ?_)
  cases fl <;> exact z
@[simp] theorem exR_nil : exR Γ C .nil σ h = .ok .nx σ h := by
  unfold exR
  rw [exB]
def Ends (Q : R → List Ob → Prop) : Flow → List Slot → List Ob → Prop
  | .nx, _, h => Q (.v .non) h
  | .rt r, _, h => Q r h
  | _, _, _ => False
@[simp] theorem ends_nx {Q : R → List Ob → Prop} : Ends Q .nx σ h ↔ Q (.v .non) h := Iff.rfl
@[simp] theorem ends_rt {Q : R → List Ob → Prop} : Ends Q (.rt v) σ h ↔ Q v h := Iff.rfl
theorem okM_run {fd : Fd} {ds : List D} {Q : R → List Ob → Prop} (hl : ds.length = fd.np) (q : OkM (exR Γ C fd.body (ds.map Slot.v ++ List.replicate (fd.ns - fd.np) .un) h) (Ends Q)) : OkCM (runF Γ C fd ds h) Q := by
  unfold runF
  rw [if_pos hl]
  unfold exR at q
  cases e : exB Γ C fd.body (ds.map Slot.v ++ List.replicate (fd.ns - fd.np) .un) h with
  | stuck => rw [e] at q; exact q.elim
  | exc c p σ h => rw [e] at q; exact q.elim
  | ok fl σ h =>
    rw [e] at q
    cases fl with
    | nx => exact q
    | rt r => exact q
    | bk => exact q.elim
    | ct => exact q.elim
/-- what a turn must come to -/
def Turn (J : List Slot → List Ob → Prop) (Q : Flow → List Slot → List Ob → Prop) : Flow → List Slot → List Ob → Prop
  | .nx, σ, h => J σ h
  | .ct, σ, h => J σ h
  | .bk, σ, h => Q .nx σ h
  | .rt r, σ, h => Q (.rt r) σ h
@[simp] theorem turn_nx {J : List Slot → List Ob → Prop} {Q : Flow → List Slot → List Ob → Prop} : Turn J Q .nx σ h ↔ J σ h := Iff.rfl
@[simp] theorem turn_ct {J : List Slot → List Ob → Prop} {Q : Flow → List Slot → List Ob → Prop} : Turn J Q .ct σ h ↔ J σ h := Iff.rfl
@[simp] theorem turn_rt {J : List Slot → List Ob → Prop} {Q : Flow → List Slot → List Ob → Prop} : Turn J Q (.rt v) σ h ↔ Q (.rt v) σ h := Iff.rfl
theorem okM_forL {α : Type} {g : α → D} {xs : List α} {f : D → List Slot → List Ob → Res Flow} {Q : Flow → List Slot → List Ob → Prop} (I : List α → List α → List Slot → List Ob → Prop)
    (step : ∀ l a r σ h, l ++ a :: r = xs → I l (a :: r) σ h → OkM (f (g a) σ h) (Turn (I (l ++ [a]) r) Q)) (fin : ∀ σ h, I xs [] σ h → Q .nx σ h) :
    ∀ (l r : List α) (σ : List Slot) (h : List Ob), l ++ r = xs → I l r σ h → OkM (forL f (r.map g) σ h) Q
  | l, [], σ, h, e, i => fin σ h (by rw [List.append_nil] at e; rw [← e]; exact i)
  | l, a :: r, σ, h, e, i => by
    have q := step l a r σ h e i
    rw [List.map_cons, forL]
    refine okM_bind (okM_mono q fun fl σ' h' z => ?_)
    cases fl with
    | nx => exact okM_forL I step fin (l ++ [a]) r σ' h' (by rw [List.append_assoc]; exact e) z
    | ct => exact okM_forL I step fin (l ++ [a]) r σ' h' (by rw [List.append_assoc]; exact e) z
    | bk => exact z
    | rt v => exact z
theorem okM_for1 {α : Type} {g : α → D} {xs : List α} {Q : Flow → List Slot → List Ob → Prop} (I : List α → List α → List Slot → List Ob → Prop) (hI : evI Γ C it σ h = .ok (xs.map g) σ1 h1) (i0 : I [] xs σ1 h1)
    (step : ∀ l a r σ h, l ++ a :: r = xs → I l (a :: r) σ h → OkM (exR Γ C b (σ.set i (.v (g a))) h) (Turn (I (l ++ [a]) r) Q)) (fin : ∀ σ h, I xs [] σ h → Q .nx σ h) : OkM (exS Γ C (.for1 i it b) σ h) Q := by
  rw [exS, hI]
  exact okM_forL (f := fun d σ h => exB Γ C b (σ.set i (.v d)) h) I step fin [] xs σ1 h1 rfl i0
theorem okM_forT {α : Type} {g : α → List D} {xs : List α} {is : List Nat} {Q : Flow → List Slot → List Ob → Prop} (I : List α → List α → List Slot → List Ob → Prop) (hI : evI Γ C it σ h = .ok (xs.map fun a => .tup (g a)) σ1 h1) (i0 : I [] xs σ1 h1)
    (step : ∀ l a r σ h, l ++ a :: r = xs → I l (a :: r) σ h → ∃ σ0, bindS is (g a) σ = some σ0 ∧ OkM (exR Γ C b σ0 h) (Turn (I (l ++ [a]) r) Q)) (fin : ∀ σ h, I xs [] σ h → Q .nx σ h) : OkM (exS Γ C (.forT is it b) σ h) Q := by
  rw [exS, hI]
  refine okM_forL (f := fun d σ h => match d with
      | .tup xs => match bindS is xs σ with
        | some σ => exB Γ C b σ h
        | none => .stuck
      | _ => .stuck) (g := fun a => .tup (g a)) I (fun l a r σ h e i => ?_) fin [] xs σ1 h1 rfl i0
  obtain ⟨σ0, e1, q⟩ := step l a r σ h e i
  dsimp only
  rw [e1]
  exact q
theorem okM_whl {c : E} {Q : Flow → List Slot → List Ob → Prop} (I : Nat → List Slot → List Ob → Prop)
    (step : ∀ m σ h, I m σ h → OkM (asB (evE Γ C c σ h)) fun t σ1 h1 => if t then OkM (exR Γ C b σ1 h1) (Turn (fun σ h => ∃ m', m' < m ∧ I m' σ h) Q) else Q .nx σ1 h1) (m : Nat) (i0 : I m σ h) : OkM (exS Γ C (.whl c b) σ h) Q := by
  have key : ∀ m σ h, I m σ h → ∃ n r, whlN (fun σ h => asB (evE Γ C c σ h)) (exB Γ C b) n σ h = some r ∧ OkM r Q := by
    intro m
    induction m using Nat.strongRecOn with
    | _ m ih =>
      intro σ h i
      have q := step m σ h i
      cases e : asB (evE Γ C c σ h) with
      | stuck => rw [e] at q; exact q.elim
      | exc k p σ1 h1 => rw [e] at q; exact q.elim
      | ok t σ1 h1 =>
        rw [e] at q
        cases t with
        | false => exact ⟨1, _, by unfold whlN; rw [e], q⟩
        | true =>
          have q : OkM (exB Γ C b σ1 h1) (Turn (fun σ h => ∃ m', m' < m ∧ I m' σ h) Q) := q
          cases e2 : exB Γ C b σ1 h1 with
          | stuck => rw [e2] at q; exact q.elim
          | exc k p σ1 h1 => rw [e2] at q; exact q.elim
          | ok fl σ2 h2 =>
            rw [e2] at q
            cases fl with
            | nx =>
              obtain ⟨m', hm, i2⟩ := q
              obtain ⟨n, r, e3, q3⟩ := ih m' hm σ2 h2 i2
              exact ⟨n + 1, r, by unfold whlN; rw [e]; dsimp only; rw [e2]; exact e3, q3⟩
            | ct =>
              obtain ⟨m', hm, i2⟩ := q
              obtain ⟨n, r, e3, q3⟩ := ih m' hm σ2 h2 i2
              exact ⟨n + 1, r, by unfold whlN; rw [e]; dsimp only; rw [e2]; exact e3, q3⟩
            | bk => exact ⟨1, _, by unfold whlN; rw [e]; dsimp only; rw [e2], q⟩
            | rt v => exact ⟨1, _, by unfold whlN; rw [e]; dsimp only; rw [e2], q⟩
  obtain ⟨n, r, e, q⟩ := key m σ h i0
  rw [exS, whl_of e]
  exact q
theorem evI_rng1 {a : E} {j : Int} (e : evE Γ C a σ h = .ok (.v (.int j)) σ1 h1) (hs : small62 j = true) : evI Γ C (.rng1 a) σ h = .ok (rangeL 0 j) σ1 h1 := by
  rw [evI, e]
  show (if small62 j then Res.ok (rangeL 0 j) σ1 h1 else .stuck) = _
  rw [if_pos hs]
/-! ### the same, not to be unfolded by chance -/
structure Box (p : Prop) : Prop where
  out : p
def Ok {α : Type} (m : Res α) (Q : α → List Slot → List Ob → Prop) : Prop := Box (OkM m Q)
def OkC (m : CRes) (Q : R → List Ob → Prop) : Prop := Box (OkCM m Q)
@[simp] theorem Ok_ok {α : Type} {a : α} {Q : α → List Slot → List Ob → Prop} : Ok (.ok a σ h) Q ↔ Q a σ h := ⟨fun q => q.out, fun q => ⟨q⟩⟩
@[simp] theorem OkC_ok {a : R} {Q : R → List Ob → Prop} : OkC (.ok a h) Q ↔ Q a h := ⟨fun q => q.out, fun q => ⟨q⟩⟩
theorem ok_of {α : Type} {m : Res α} {a : α} {Q : α → List Slot → List Ob → Prop} (e : m = .ok a σ h) (q : Q a σ h) : Ok m Q := ⟨okM_of e q⟩
theorem ok_mono {α : Type} {m : Res α} {Q Q' : α → List Slot → List Ob → Prop} (q : Ok m Q) (k : ∀ a σ h, Q a σ h → Q' a σ h) : Ok m Q' := ⟨okM_mono q.out k⟩
theorem ok_bind {α β : Type} {m : Res α} {f : α → List Slot → List Ob → Res β} {Q : β → List Slot → List Ob → Prop} (q : Ok m fun a σ h => Ok (f a σ h) Q) : Ok (m.bind f) Q := ⟨okM_bind (okM_mono q.out fun _ _ _ z => z.out)⟩
theorem okC_eq {m : CRes} {r : R} (q : OkC m fun r' h' => r' = r ∧ h' = h) : m = .ok r h := okCM_eq q.out
theorem okC_ex {m : CRes} {Q : R → List Ob → Prop} (q : OkC m Q) : ∃ r h, m = .ok r h ∧ Q r h := okCM_ex q.out
def Goes (Γ : Calls) (C : Cf) (r : Ss) (Q : Flow → List Slot → List Ob → Prop) : Flow → List Slot → List Ob → Prop
  | .nx, σ, h => Ok (exR Γ C r σ h) Q
  | fl, σ, h => Q fl σ h
@[simp] theorem goes_nx {Q : Flow → List Slot → List Ob → Prop} : Goes Γ C r Q .nx σ h ↔ Ok (exR Γ C r σ h) Q := Iff.rfl
@[simp] theorem goes_rt {Q : Flow → List Slot → List Ob → Prop} : Goes Γ C r Q (.rt v) σ h ↔ Q (.rt v) σ h := Iff.rfl
theorem ok_cons {Q : Flow → List Slot → List Ob → Prop} (q : Ok (exS Γ C s σ h) (Goes Γ C r Q)) : Ok (exR Γ C (.cons s r) σ h) Q := ⟨okM_cons (okM_mono q.out fun fl σ h z => by
  cases fl with
  | nx => exact (show Ok (exR Γ C r σ h) Q from z).out
  | bk => exact z
  | ct => exact z
  | rt v => exact z)⟩
theorem ok_run {fd : Fd} {ds : List D} {Q : R → List Ob → Prop} (hl : ds.length = fd.np) (q : Ok (exR Γ C fd.body (ds.map Slot.v ++ List.replicate (fd.ns - fd.np) .un) h) (Ends Q)) : OkC (runF Γ C fd ds h) Q := ⟨okM_run hl q.out⟩
theorem ok_for1 {α : Type} {g : α → D} {xs : List α} {Q : Flow → List Slot → List Ob → Prop} (I : List α → List α → List Slot → List Ob → Prop) (hI : evI Γ C it σ h = .ok (xs.map g) σ1 h1) (i0 : I [] xs σ1 h1)
    (step : ∀ l a r σ h, l ++ a :: r = xs → I l (a :: r) σ h → Ok (exR Γ C b (σ.set i (.v (g a))) h) (Turn (I (l ++ [a]) r) Q)) (fin : ∀ σ h, I xs [] σ h → Q .nx σ h) : Ok (exS Γ C (.for1 i it b) σ h) Q := ⟨okM_for1 I hI i0 (fun l a r σ h e i => (step l a r σ h e i).out) fin⟩
theorem ok_forT {α : Type} {g : α → List D} {xs : List α} {is : List Nat} {Q : Flow → List Slot → List Ob → Prop} (I : List α → List α → List Slot → List Ob → Prop) (hI : evI Γ C it σ h = .ok (xs.map fun a => .tup (g a)) σ1 h1) (i0 : I [] xs σ1 h1)
    (step : ∀ l a r σ h, l ++ a :: r = xs → I l (a :: r) σ h → ∃ σ0, bindS is (g a) σ = some σ0 ∧ Ok (exR Γ C b σ0 h) (Turn (I (l ++ [a]) r) Q)) (fin : ∀ σ h, I xs [] σ h → Q .nx σ h) : Ok (exS Γ C (.forT is it b) σ h) Q :=
  ⟨okM_forT I hI i0 (fun l a r σ h e i => by
    obtain ⟨σ0, e1, q⟩ := step l a r σ h e i
    exact ⟨σ0, e1, q.out⟩) fin⟩
theorem ok_whl {c : E} {Q : Flow → List Slot → List Ob → Prop} (I : Nat → List Slot → List Ob → Prop)
    (step : ∀ m σ h, I m σ h → Ok (asB (evE Γ C c σ h)) fun t σ1 h1 => if t then Ok (exR Γ C b σ1 h1) (Turn (fun σ h => ∃ m', m' < m ∧ I m' σ h) Q) else Q .nx σ1 h1) (m : Nat) (i0 : I m σ h) : Ok (exS Γ C (.whl c b) σ h) Q :=
  ⟨okM_whl I (fun m σ h i => okM_mono (step m σ h i).out fun t σ1 h1 z => by
    cases t with
    | true => exact (show Ok (exR Γ C b σ1 h1) (Turn (fun σ h => ∃ m', m' < m ∧ I m' σ h) Q) from z).out
    | false => exact z) m i0⟩
/-- a sequence's items numbered -/
theorem enu_map {α : Type} {g : α → D} {xs : List α} : ((xs.map g).zipIdx.map fun p => D.tup [.int p.2, p.1]) = xs.zipIdx.map fun p => .tup [.int p.2, g p.1] := by
  rw [List.zipIdx_map, List.map_map]
  rfl
theorem mem_zip {α : Type} {l r xs : List (α × Nat)} {a : α × Nat} (e : l ++ a :: r = xs) : a ∈ xs := by
  rw [← e]
  simp
end
end Pm

set_option Elab.async false
set_option linter.all false
set_option maxRecDepth 100000
set_option maxHeartbeats 4000000
/-! The pure machine: evaluation by simp, construct by construct. -/
namespace Pm
open PySem PySem.Spec
section
variable {Γ : Calls} {C : Cf} {σ : List Slot} {h : List Ob} {d : D} {xs : List D} {i j : Nat} {e a b c : E} {es : Es} {r : R} {x y : Opd} {bb : Bool}
def varR (i : Nat) : Option Slot → List Slot → List Ob → Res R
  | some (.v d), σ, h => .ok (.v d) σ h
  | some (.o xs), σ, h => .ok (.v (.lst xs)) (σ.set i (.v (.lst xs))) h
  | _, _, _ => .stuck
def borR (i : Nat) : Option Slot → List Slot → List Ob → Res Opd
  | some (.v _), σ, h => .ok (.s i) σ h
  | some (.o _), σ, h => .ok (.s i) σ h
  | _, _, _ => .stuck
def binR (op : BOp) : Option D → Option D → List Slot → List Ob → Res R
  | some c, some d, σ, h => retR (binop op c d) σ h
  | _, _, _, _ => .stuck
def cmpR (op : COp) : Option D → Option D → List Slot → List Ob → Res R
  | some c, some d, σ, h => retB (cmpop op c d) σ h
  | _, _, _, _ => .stuck
def chnR (op : COp) (k : List Slot → List Ob → Res R) : Option D → Option D → List Slot → List Ob → Res R
  | some u, some v, σ, h => match cmpop op u v with
    | some true => k σ h
    | some false => .ok (.v (.bl false)) σ h
    | none => .stuck
  | _, _, _, _ => .stuck
def idxR : Option D → Option D → List Slot → List Ob → Res R
  | some c, some d, σ, h => retR ((index c d).map .v) σ h
  | _, _, _, _ => .stuck
def f1R (f : F1) : Option D → List Slot → List Ob → Res R
  | some c, σ, h => retR (fn1 f c) σ h
  | _, _, _ => .stuck
def sliR (l u : Option Int) : Option D → List Slot → List Ob → Res R
  | some c, σ, h => retR (slice c l u) σ h
  | _, _, _ => .stuck
def revR : Option D → List Slot → List Ob → Res R
  | some c, σ, h => retR (revD c) σ h
  | _, _, _ => .stuck
def isiR (t : Ty) : Option D → List Slot → List Ob → Res R
  | some c, σ, h => if knownTy c then .ok (.v (.bl (isTy t c))) σ h else .stuck
  | _, _, _ => .stuck
def negR : R → List Slot → List Ob → Res R
  | .v (.int i), σ, h => .ok (.v (.int (-i))) σ h
  | _, _, _ => .stuck
def ifR {α : Type} (k : Bool) (m n : Res α) : Res α := if k then m else n
@[simp] theorem varR_v : varR i (some (.v d)) σ h = .ok (.v d) σ h := id rfl
@[simp] theorem varR_o : varR i (some (.o xs)) σ h = .ok (.v (.lst xs)) (σ.set i (.v (.lst xs))) h := id rfl
@[simp] theorem borR_v : borR i (some (.v d)) σ h = .ok (.s i) σ h := id rfl
@[simp] theorem borR_o : borR i (some (.o xs)) σ h = .ok (.s i) σ h := id rfl
@[simp] theorem binR_s {op : BOp} {c d : D} : binR op (some c) (some d) σ h = retR (binop op c d) σ h := id rfl
@[simp] theorem cmpR_s {op : COp} {c d : D} : cmpR op (some c) (some d) σ h = retB (cmpop op c d) σ h := id rfl
@[simp] theorem chnR_s {op : COp} {k : List Slot → List Ob → Res R} {u v : D} (e : cmpop op u v = some bb) : chnR op k (some u) (some v) σ h = ifR bb (k σ h) (.ok (.v (.bl false)) σ h) := by
  show (match cmpop op u v with | some true => k σ h | some false => .ok (.v (.bl false)) σ h | none => .stuck) = _
  rw [e]
  cases bb <;> rfl
@[simp] theorem idxR_s {c d : D} : idxR (some c) (some d) σ h = retR ((index c d).map .v) σ h := id rfl
@[simp] theorem f1R_s {f : F1} : f1R f (some d) σ h = retR (fn1 f d) σ h := id rfl
@[simp] theorem sliR_s {l u : Option Int} : sliR l u (some d) σ h = retR (slice d l u) σ h := id rfl
@[simp] theorem revR_s : revR (some d) σ h = retR (revD d) σ h := id rfl
@[simp] theorem isiR_s {t : Ty} (k : knownTy d = true) : isiR t (some d) σ h = .ok (.v (.bl (isTy t d))) σ h := if_pos k
@[simp] theorem negR_s {i : Int} : negR (.v (.int i)) σ h = .ok (.v (.int (-i))) σ h := id rfl
@[simp] theorem ifR_t {α : Type} {m n : Res α} : ifR true m n = m := id rfl
@[simp] theorem ifR_f {α : Type} {m n : Res α} : ifR false m n = n := id rfl
theorem ifR_if {α : Type} {k : Bool} {m n : Res α} (hk : k = true) : ifR k m n = m := by rw [hk]; rfl
theorem ifR_el {α : Type} {k : Bool} {m n : Res α} (hk : k = false) : ifR k m n = n := by rw [hk]; rfl
@[simp] theorem v_con : evE Γ C (.con d) σ h = .ok (.v d) σ h := by rw [evE]
@[simp] theorem v_glo {z : Str} : evE Γ C (.glo z d) σ h = .ok (.v d) σ h := by rw [evE]
@[simp] theorem v_var : evE Γ C (.var i) σ h = varR i σ[i]? σ h := by
  rw [evE]
  unfold varR
  cases σ[i]? with
  | none => rfl
  | some s => cases s <;> rfl
@[simp] theorem v_tup : evE Γ C (.tup es) σ h = tupR (evA Γ C es σ h) := by
  rw [evE]
  exact id rfl
@[simp] theorem v_lst : evE Γ C (.lst es) σ h = lstR (evA Γ C es σ h) := by
  rw [evE]
  exact id rfl
def isBor : E → Bool
  | .bor _ => true
  | _ => false
@[simp] theorem o_bor {m : List Slot → List Ob → Res R} : opd (.bor i) m σ h = borR i σ[i]? σ h := by
  show (match σ[i]? with | some (.v _) => Res.ok (Opd.s i) σ h | some (.o _) => Res.ok (Opd.s i) σ h | _ => Res.stuck) = _
  unfold borR
  cases σ[i]? with
  | none => rfl
  | some s => cases s <;> rfl
theorem o_val {m : List Slot → List Ob → Res R} (hb : isBor e = false) : opd e m σ h = (m σ h).bind fun r σ h => .ok (.r r) σ h := by
  cases e <;> first | rfl | cases hb
@[simp] theorem o_con {m : List Slot → List Ob → Res R} : opd (.con d) m σ h = (m σ h).bind fun r σ h => .ok (.r r) σ h := o_val rfl
@[simp] theorem o_glo {z : Str} {m : List Slot → List Ob → Res R} : opd (.glo z d) m σ h = (m σ h).bind fun r σ h => .ok (.r r) σ h := o_val rfl
@[simp] theorem o_tup {m : List Slot → List Ob → Res R} : opd (.tup es) m σ h = (m σ h).bind fun r σ h => .ok (.r r) σ h := o_val rfl
@[simp] theorem o_lst {m : List Slot → List Ob → Res R} : opd (.lst es) m σ h = (m σ h).bind fun r σ h => .ok (.r r) σ h := o_val rfl
@[simp] theorem o_bin {op : BOp} {m : List Slot → List Ob → Res R} : opd (.bin op a b) m σ h = (m σ h).bind fun r σ h => .ok (.r r) σ h := o_val rfl
@[simp] theorem o_neg {m : List Slot → List Ob → Res R} : opd (.neg a) m σ h = (m σ h).bind fun r σ h => .ok (.r r) σ h := o_val rfl
@[simp] theorem o_idx {m : List Slot → List Ob → Res R} : opd (.idx a b) m σ h = (m σ h).bind fun r σ h => .ok (.r r) σ h := o_val rfl
@[simp] theorem o_sli {lo hi : Eo} {m : List Slot → List Ob → Res R} : opd (.sli a lo hi) m σ h = (m σ h).bind fun r σ h => .ok (.r r) σ h := o_val rfl
@[simp] theorem o_rev {m : List Slot → List Ob → Res R} : opd (.rev a) m σ h = (m σ h).bind fun r σ h => .ok (.r r) σ h := o_val rfl
@[simp] theorem o_f1 {f : F1} {m : List Slot → List Ob → Res R} : opd (.fn1 f a) m σ h = (m σ h).bind fun r σ h => .ok (.r r) σ h := o_val rfl
@[simp] theorem o_f2 {f : F2} {m : List Slot → List Ob → Res R} : opd (.fn2 f a b) m σ h = (m σ h).bind fun r σ h => .ok (.r r) σ h := o_val rfl
@[simp] theorem o_isi {t : Ty} {m : List Slot → List Ob → Res R} : opd (.isi a t) m σ h = (m σ h).bind fun r σ h => .ok (.r r) σ h := o_val rfl
@[simp] theorem o_cal {f : Nat} {m : List Slot → List Ob → Res R} : opd (.cal f es) m σ h = (m σ h).bind fun r σ h => .ok (.r r) σ h := o_val rfl
@[simp] theorem o_com {it : I} {m : List Slot → List Ob → Res R} : opd (.com i a it) m σ h = (m σ h).bind fun r σ h => .ok (.r r) σ h := o_val rfl
@[simp] theorem o_comf {it : I} {m : List Slot → List Ob → Res R} : opd (.comf i a it c) m σ h = (m σ h).bind fun r σ h => .ok (.r r) σ h := o_val rfl
@[simp] theorem o_ite {m : List Slot → List Ob → Res R} : opd (.ite c a b) m σ h = (m σ h).bind fun r σ h => .ok (.r r) σ h := o_val rfl
@[simp] theorem v_bin {op : BOp} : evE Γ C (.bin op a b) σ h = (opd a (evE Γ C a) σ h).bind fun x σ h => (opd b (evE Γ C b) σ h).bind fun y σ h => binR op (cont σ h x) (cont σ h y) σ h := by
  rw [evE]
  congr 1; funext x σ h; congr 1; funext y σ h
  cases cont σ h x <;> cases cont σ h y <;> rfl
@[simp] theorem v_cmp {op : COp} : evE Γ C (.cmp op a b) σ h = (opd a (evE Γ C a) σ h).bind fun x σ h => (opd b (evE Γ C b) σ h).bind fun y σ h => cmpR op (cont σ h x) (cont σ h y) σ h := by
  rw [evE]
  congr 1; funext x σ h; congr 1; funext y σ h
  cases cont σ h x <;> cases cont σ h y <;> rfl
@[simp] theorem v_cmp2 {op op' : COp} : evE Γ C (.cmp2 op op' a b c) σ h = (opd a (evE Γ C a) σ h).bind fun x σ h => (opd b (evE Γ C b) σ h).bind fun y σ h => chnR op (fun σ h => (opd c (evE Γ C c) σ h).bind fun z σ h => cmpR op' (cont σ h y) (cont σ h z) σ h) (cont σ h x) (cont σ h y) σ h := by
  rw [evE]
  congr 1; funext x σ h; congr 1; funext y σ h
  cases cont σ h x with
  | none => rfl
  | some u =>
    cases e : cont σ h y with
    | none => rfl
    | some v =>
      have e2 : ∀ k : List Slot → List Ob → Res R, chnR op k (some u) (some v) σ h = match cmpop op u v with | some true => k σ h | some false => .ok (.v (.bl false)) σ h | none => .stuck := fun _ => rfl
      rw [e2]
      dsimp only
      cases cmpop op u v with
      | none => rfl
      | some t =>
        cases t with
        | false => rfl
        | true =>
          dsimp only
          congr 1; funext z σ h
          cases cont σ h y <;> cases cont σ h z <;> rfl
@[simp] theorem v_neg : evE Γ C (.neg a) σ h = (evE Γ C a σ h).bind fun r σ h => negR r σ h := by
  rw [evE]
  congr 1; funext r σ h
  unfold negR
  rcases r with d | xs
  · cases d <;> rfl
  · rfl
@[simp] theorem v_and : evE Γ C (.and a b) σ h = (asB (evE Γ C a σ h)).bind fun k σ h => ifR k ((asB (evE Γ C b σ h)).bind fun k σ h => .ok (.v (.bl k)) σ h) (.ok (.v (.bl false)) σ h) := by
  rw [evE]
  exact id rfl
@[simp] theorem v_or : evE Γ C (.or a b) σ h = (asB (evE Γ C a σ h)).bind fun k σ h => ifR k (.ok (.v (.bl true)) σ h) ((asB (evE Γ C b σ h)).bind fun k σ h => .ok (.v (.bl k)) σ h) := by
  rw [evE]
  exact id rfl
@[simp] theorem v_not : evE Γ C (.not a) σ h = (asB (evE Γ C a σ h)).bind fun k σ h => .ok (.v (.bl (!k))) σ h := by rw [evE]
@[simp] theorem v_ite : evE Γ C (.ite c a b) σ h = (asB (evE Γ C c σ h)).bind fun k σ h => ifR k (evE Γ C a σ h) (evE Γ C b σ h) := by
  rw [evE]
  exact id rfl
@[simp] theorem v_idx : evE Γ C (.idx a b) σ h = (opd a (evE Γ C a) σ h).bind fun x σ h => (opd b (evE Γ C b) σ h).bind fun y σ h => idxR (cont σ h x) (cont σ h y) σ h := by
  rw [evE]
  congr 1; funext x σ h; congr 1; funext y σ h
  cases cont σ h x <;> cases cont σ h y <;> rfl
@[simp] theorem v_sli {lo hi : Eo} : evE Γ C (.sli a lo hi) σ h = (opd a (evE Γ C a) σ h).bind fun x σ h => (evO Γ C lo σ h).bind fun l σ h => (evO Γ C hi σ h).bind fun u σ h => sliR l u (cont σ h x) σ h := by
  rw [evE]
  congr 1; funext x σ h; congr 1; funext l σ h; congr 1; funext u σ h
  cases cont σ h x <;> rfl
@[simp] theorem v_rev : evE Γ C (.rev a) σ h = (opd a (evE Γ C a) σ h).bind fun x σ h => revR (cont σ h x) σ h := by
  rw [evE]
  congr 1; funext x σ h
  cases cont σ h x <;> rfl
@[simp] theorem v_f1 {f : F1} : evE Γ C (.fn1 f a) σ h = (opd a (evE Γ C a) σ h).bind fun x σ h => f1R f (cont σ h x) σ h := by
  rw [evE]
  congr 1; funext x σ h
  cases cont σ h x <;> rfl
@[simp] theorem v_f2 {f : F2} : evE Γ C (.fn2 f a b) σ h = (evE Γ C a σ h).bind fun x σ h => (evE Γ C b σ h).bind fun y σ h => retR (fn2 f x.d y.d) σ h := by rw [evE]
@[simp] theorem v_isi {t : Ty} : evE Γ C (.isi a t) σ h = (opd a (evE Γ C a) σ h).bind fun x σ h => isiR t (cont σ h x) σ h := by
  rw [evE]
  congr 1; funext x σ h
  cases cont σ h x <;> rfl
@[simp] theorem v_cal {f : Nat} : evE Γ C (.cal f es) σ h = (evA Γ C es σ h).bind fun ds σ h => ofC (Γ f ds h) σ := by rw [evE]
@[simp] theorem a_nil' : evA Γ C .nil σ h = .ok [] σ h := by rw [evA]
@[simp] theorem a_cons' : evA Γ C (.cons e es) σ h = (evE Γ C e σ h).bind fun r σ h => (evA Γ C es σ h).bind fun ds σ h => .ok (r.d :: ds) σ h := by rw [evA]
@[simp] theorem o_no' : evO Γ C .no σ h = .ok none σ h := by rw [evO]
@[simp] theorem o_so' : evO Γ C (.so e) σ h = asI (evE Γ C e σ h) := by rw [evO]
/-! statements -/
def setTR (is : List Nat) : R → List Slot → List Ob → Res Flow
  | .v (.tup ds), σ, h => match bindS is ds σ with
    | some σ => .ok .nx σ h
    | none => .stuck
  | _, _, _ => .stuck
@[simp] theorem setTR_t {is : List Nat} {σ' : List Slot} (e : bindS is xs σ = some σ') : setTR is (.v (.tup xs)) σ h = .ok .nx σ' h := by
  show (match bindS is xs σ with | some σ => Res.ok Flow.nx σ h | none => .stuck) = _
  rw [e]
@[simp] theorem bindS_nil : bindS [] [] σ = some σ := id rfl
@[simp] theorem bindS_cons {is : List Nat} {ds : List D} : bindS (i :: is) (d :: ds) σ = bindS is ds (σ.set i (.v d)) := id rfl
@[simp] theorem x_set : exS Γ C (.set i e) σ h = (evE Γ C e σ h).bind fun r σ h => .ok .nx (σ.set i r.slot) h := by rw [exS]
@[simp] theorem x_setT {is : List Nat} : exS Γ C (.setT is e) σ h = (evE Γ C e σ h).bind fun r σ h => setTR is r σ h := by
  rw [exS]
  congr 1; funext r σ h
  unfold setTR
  rcases r with d | xs
  · cases d <;> rfl
  · rfl
@[simp] theorem x_par2 : exS Γ C (.par2 i j a b) σ h = (evE Γ C a σ h).bind fun x σ h => (evE Γ C b σ h).bind fun y σ h => .ok .nx ((σ.set i (.v x.d)).set j (.v y.d)) h := by rw [exS]
@[simp] theorem x_ex : exS Γ C (.ex e) σ h = (evE Γ C e σ h).bind fun _ σ h => .ok .nx σ h := by rw [exS]
@[simp] theorem x_ret : exS Γ C (.ret e) σ h = (evE Γ C e σ h).bind fun r σ h => .ok (.rt r) σ h := by rw [exS]
@[simp] theorem x_retN : exS Γ C .retN σ h = .ok (.rt (.v .non)) σ h := by rw [exS]
@[simp] theorem x_if {u v : Ss} : exS Γ C (.iff c u v) σ h = (asB (evE Γ C c σ h)).bind fun k σ h => ifR k (exB Γ C u σ h) (exB Γ C v σ h) := by
  rw [exS]
  exact id rfl
@[simp] theorem x_pass : exS Γ C .pass σ h = .ok .nx σ h := by rw [exS]
@[simp] theorem x_brk : exS Γ C .brk σ h = .ok .bk σ h := by rw [exS]
@[simp] theorem x_cnt : exS Γ C .cnt σ h = .ok .ct σ h := by rw [exS]
noncomputable def nxt (Γ : Calls) (C : Cf) (r : Ss) : Flow → List Slot → List Ob → Res Flow
  | .nx, σ, h => exB Γ C r σ h
  | fl, σ, h => .ok fl σ h
@[simp] theorem x_nil : exB Γ C .nil σ h = .ok .nx σ h := by rw [exB]
@[simp] theorem x_cons {s : S} {u : Ss} : exB Γ C (.cons s u) σ h = (exS Γ C s σ h).bind fun f σ h => nxt Γ C u f σ h := by
  rw [exB]
  congr 1; funext f σ h
  cases f <;> rfl
@[simp] theorem nxt_nx {u : Ss} : nxt Γ C u .nx σ h = exB Γ C u σ h := id rfl
@[simp] theorem nxt_rt {u : Ss} : nxt Γ C u (.rt r) σ h = .ok (.rt r) σ h := id rfl
@[simp] theorem nxt_bk {u : Ss} : nxt Γ C u .bk σ h = .ok .bk σ h := id rfl
@[simp] theorem nxt_ct {u : Ss} : nxt Γ C u .ct σ h = .ok .ct σ h := id rfl
def stiO (i : Nat) (z : Int) (r : R) (σ : List Slot) (h : List Ob) : Option Slot → Res Flow
  | some (.o xs) => match ixN xs.length z with
    | some n => .ok .nx (σ.set i (.o (xs.set n r.d))) h
    | none => .stuck
  | some (.v (.ref j)) => match h[j]? with
    | some (.lst xs) => match ixN xs.length z with
      | some n => .ok .nx σ (h.set j (.lst (xs.set n r.d)))
      | none => .stuck
    | _ => .stuck
  | _ => .stuck
theorem stiO_r {z : Int} {k n : Nat} (e : h[k]? = some (.lst xs)) (e2 : ixN xs.length z = some n) : stiO i z r σ h (some (.v (.ref k))) = .ok .nx σ (h.set k (.lst (xs.set n r.d))) := by
  show (match h[k]? with
    | some (.lst xs) => match ixN xs.length z with
      | some n => Res.ok Flow.nx σ (h.set k (.lst (xs.set n r.d)))
      | none => .stuck
    | _ => .stuck) = _
  rw [e]
  dsimp only
  rw [e2]
def seqR : R → List Slot → List Ob → Res (List D)
  | .v (.lst xs), σ, h => .ok xs σ h
  | .v (.tup xs), σ, h => .ok xs σ h
  | .v (.scr ns), σ, h => .ok (ns.map D.int) σ h
  | .o xs, σ, h => .ok xs σ h
  | _, _, _ => .stuck
@[simp] theorem seqR_l : seqR (.v (.lst xs)) σ h = .ok xs σ h := id rfl
@[simp] theorem seqR_t : seqR (.v (.tup xs)) σ h = .ok xs σ h := id rfl
@[simp] theorem seqR_s {ns : List Int} : seqR (.v (.scr ns)) σ h = .ok (ns.map D.int) σ h := id rfl
@[simp] theorem seqR_o : seqR (.o xs) σ h = .ok xs σ h := id rfl
@[simp] theorem it_seq : evI Γ C (.seq e) σ h = (evE Γ C e σ h).bind fun r σ h => seqR r σ h := by
  rw [evI]
  congr 1; funext r σ h
  rcases r with d | xs
  · cases d <;> rfl
  · rfl
def enuR : R → List Slot → List Ob → Res (List D)
  | .v (.lst xs), σ, h => .ok (xs.zipIdx.map fun p => .tup [.int p.2, p.1]) σ h
  | .v (.tup xs), σ, h => .ok (xs.zipIdx.map fun p => .tup [.int p.2, p.1]) σ h
  | .o xs, σ, h => .ok (xs.zipIdx.map fun p => .tup [.int p.2, p.1]) σ h
  | _, _, _ => .stuck
@[simp] theorem enuR_l : enuR (.v (.lst xs)) σ h = .ok (xs.zipIdx.map fun p => .tup [.int p.2, p.1]) σ h := id rfl
@[simp] theorem enuR_t : enuR (.v (.tup xs)) σ h = .ok (xs.zipIdx.map fun p => .tup [.int p.2, p.1]) σ h := id rfl
@[simp] theorem enuR_o : enuR (.o xs) σ h = .ok (xs.zipIdx.map fun p => .tup [.int p.2, p.1]) σ h := id rfl
@[simp] theorem it_enu : evI Γ C (.enu e) σ h = (evE Γ C e σ h).bind fun r σ h => enuR r σ h := by
  rw [evI]
  congr 1; funext r σ h
  rcases r with d | xs
  · cases d <;> rfl
  · rfl
theorem evI_rng2 {i j : Int} {σ1 σ2 : List Slot} {h1 h2 : List Ob} (e : evE Γ C a σ h = .ok (.v (.int i)) σ1 h1) (e2 : evE Γ C b σ1 h1 = .ok (.v (.int j)) σ2 h2) (hs : small62 i = true) (hs2 : small62 j = true) : evI Γ C (.rng2 a b) σ h = .ok (rangeL i j) σ2 h2 := by
  rw [evI, e]
  show ((evE Γ C b σ1 h1).bind fun q σ h => _) = _
  rw [e2]
  show (if (small62 i && small62 j) = true then Res.ok (rangeL i j) σ2 h2 else .stuck) = _
  rw [if_pos (by rw [hs, hs2]; rfl)]
end
end Pm

set_option maxHeartbeats 0
namespace Lw
open PySem PySem.Spec Pm
def top (i : Nat) : Stmt := PySem.Challenge.pw_cutlist_k16_whole_the_fewest_hang_togeth.main.body.getD i (.Pass ⟨0, 0, 0, 0⟩)
def b_is_between : Pm.Ss := (.cons (.ret (.and (.isi (.bor 0) .int) (.and (.not (.isi (.bor 0) .bool)) (.cmp2 .le .le (.bor 1) (.bor 0) (.bor 2)))))
 .nil)
def D_is_between : DefI := { id := 102, name := "is_between", params := L2.defArgs (top 10), body := L2.defBody (top 10), scope := L2.defScope (top 10), ps := ["part", "low", "high"], N := ["part", "low", "high"], fd := ⟨3, 3, b_is_between⟩ }
def b_need_sources : Pm.Ss := (.cons (.iff (.or (.not (.isi (.bor 0) .tuple)) (.cmp .eq (.bor 0) (.tup .nil)))
 (.cons .nev
 .nil)
 .nil)
 (.cons (.forT [1, 2] (.enu (.var 0))
 (.cons (.iff (.or (.cmp .ge (.bor 1) (.glo "MOST_SOURCES" (.int 6))) (.not (.cal 102 (.cons (.var 2) (.cons (.con (.int 1)) (.cons (.glo "MOST_FRAMES_pieces" (.int 999)) .nil))))))
 (.cons .nev
 .nil)
 .nil)
 .nil))
 .nil))
def D_need_sources : DefI := { id := 127, name := "need_sources", params := L2.defArgs (top 11), body := L2.defBody (top 11), scope := L2.defScope (top 11), ps := ["sources"], N := ["sources", "at", "long"], fd := ⟨1, 3, b_need_sources⟩ }
def b_source_frame : Pm.Ss := (.cons (.setT [2, 3, 4, 5, 6, 7, 8] (.var 0))
 (.cons (.ret (.bin .add (.bor 4) (.bin .fdiv (.bin .add (.bor 7) (.bin .mul (.bor 1) (.bor 5))) (.bor 6))))
 .nil))
def D_source_frame : DefI := { id := 138, name := "source_frame", params := L2.defArgs (top 12), body := L2.defBody (top 12), scope := L2.defScope (top 12), ps := ["clip", "j"], N := ["clip", "j", "word", "source", "begin", "step", "of", "rest", "long"], fd := ⟨2, 9, b_source_frame⟩ }
def b_is_frame : Pm.Ss := (.cons (.iff (.cmp .isn (.bor 0) (.con (.non)))
 (.cons (.ret (.con (.bl true)))
 .nil)
 .nil)
 (.cons (.iff (.or (.not (.isi (.bor 0) .tuple)) (.or (.cmp .ne (.fn1 .len (.bor 0)) (.con (.int 2))) (.not (.cal 102 (.cons (.idx (.bor 0) (.con (.int 0))) (.cons (.con (.int 0)) (.cons (.bin .sub (.fn1 .len (.bor 1)) (.con (.int 1))) .nil)))))))
 (.cons (.ret (.con (.bl false)))
 .nil)
 .nil)
 (.cons (.ret (.cal 102 (.cons (.idx (.bor 0) (.con (.int 1))) (.cons (.con (.int 0)) (.cons (.bin .sub (.idx (.bor 1) (.idx (.bor 0) (.con (.int 0)))) (.con (.int 1))) .nil)))))
 .nil)))
def D_is_frame : DefI := { id := 105, name := "is_frame", params := L2.defArgs (top 15), body := L2.defBody (top 15), scope := L2.defScope (top 15), ps := ["frame", "sources"], N := ["frame", "sources"], fd := ⟨2, 2, b_is_frame⟩ }
def b_need_frames : Pm.Ss := (.cons (.ex (.cal 127 (.cons (.var 0) .nil)))
 (.cons (.forT [2, 3] (.enu (.var 1))
 (.cons (.iff (.or (.cmp .ge (.bor 2) (.glo "MOST_FRAMES_fewest" (.int 60))) (.not (.cal 105 (.cons (.var 3) (.cons (.var 0) .nil)))))
 (.cons .nev
 .nil)
 .nil)
 .nil))
 .nil))
def D_need_frames : DefI := { id := 122, name := "need_frames", params := L2.defArgs (top 16), body := L2.defBody (top 16), scope := L2.defScope (top 16), ps := ["sources", "frames"], N := ["sources", "frames", "at", "frame"], fd := ⟨2, 4, b_need_frames⟩ }
def b_clips_at : Pm.Ss := (.cons (.set 1 (.lst .nil))
 (.cons (.for1 2 (.rng2 (.con (.int 1)) (.bin .add (.glo "MOST_STEP" (.int 9)) (.con (.int 1))))
 (.cons (.for1 3 (.rng2 (.bin .sub (.con (.int 0)) (.glo "MOST_STEP" (.int 9))) (.bin .add (.glo "MOST_STEP" (.int 9)) (.con (.int 1))))
 (.cons (.ext 1 (.com 4 (.tup (.cons (.glo "CLIP" (.str "clip")) (.cons (.idx (.bor 0) (.con (.int 0))) (.cons (.idx (.bor 0) (.con (.int 1))) (.cons (.var 3) (.cons (.var 2) (.cons (.var 4) (.cons (.con (.int 1)) .nil)))))))) (.rng1 (.var 2))))
 .nil))
 .nil))
 (.cons (.ret (.var 1))
 .nil)))
def D_clips_at : DefI := { id := 96, name := "clips_at", params := L2.defArgs (top 17), body := L2.defBody (top 17), scope := L2.defScope (top 17), ps := ["frame"], N := ["frame", "found", "of", "step", "rest"], fd := ⟨1, 5, b_clips_at⟩ }
def b_longest_at : Pm.Ss := (.cons (.set 2 (.var 1))
 (.cons (.iff (.cmp .isn (.idx (.bor 0) (.bor 1)) (.con (.non)))
 (.cons (.whl (.and (.cmp .lt (.bor 2) (.fn1 .len (.bor 0))) (.cmp .isn (.idx (.bor 0) (.bor 2)) (.con (.non))))
 (.cons (.set 2 (.bin .add (.bor 2) (.con (.int 1))))
 .nil))
 (.cons (.ret (.tup (.cons (.glo "GAP" (.str "gap")) (.cons (.bin .sub (.bor 2) (.bor 1)) .nil))))
 .nil))
 .nil)
 (.cons (.set 3 (.cal 96 (.cons (.idx (.bor 0) (.bor 1)) .nil)))
 (.cons (.set 4 (.idx (.bor 3) (.con (.int 0))))
 (.cons (.whl (.and (.cmp .ne (.bor 3) (.lst .nil)) (.cmp .lt (.bor 2) (.fn1 .len (.bor 0))))
 (.cons (.set 3 (.comf 5 (.var 5) (.seq (.var 3)) (.cmp .eq (.idx (.bor 0) (.bor 2)) (.tup (.cons (.idx (.bor 5) (.con (.int 1))) (.cons (.cal 138 (.cons (.var 5) (.cons (.bin .sub (.bor 2) (.bor 1)) .nil))) .nil))))))
 (.cons (.set 2 (.bin .add (.bor 2) (.con (.int 1))))
 (.cons (.iff (.cmp .ne (.bor 3) (.lst .nil))
 (.cons (.set 4 (.bin .add (.sli (.idx (.bor 3) (.con (.int 0))) .no (.so (.neg (.con (.int 1))))) (.tup (.cons (.bin .sub (.bor 2) (.bor 1)) .nil))))
 .nil)
 .nil)
 .nil))))
 (.cons (.ret (.var 4))
 .nil))))))
def D_longest_at : DefI := { id := 116, name := "longest_at", params := L2.defArgs (top 18), body := L2.defBody (top 18), scope := L2.defScope (top 18), ps := ["frames", "at"], N := ["frames", "at", "end", "some", "best", "clip"], fd := ⟨2, 6, b_longest_at⟩ }
def b_fewest : Pm.Ss := (.cons (.ex (.cal 122 (.cons (.var 0) (.cons (.var 1) .nil))))
 (.cons (.set 2 (.tup .nil))
 (.cons (.set 3 (.con (.int 0)))
 (.cons (.whl (.cmp .lt (.bor 3) (.fn1 .len (.bor 1)))
 (.cons (.set 4 (.cal 116 (.cons (.var 1) (.cons (.var 3) .nil))))
 (.cons (.set 2 (.bin .add (.bor 2) (.tup (.cons (.var 4) .nil))))
 (.cons (.set 3 (.bin .add (.bor 3) (.idx (.bor 4) (.neg (.con (.int 1))))))
 .nil))))
 (.cons (.ret (.var 2))
 .nil)))))
def D_fewest : DefI := { id := 98, name := "fewest", params := L2.defArgs (top 19), body := L2.defBody (top 19), scope := L2.defScope (top 19), ps := ["sources", "frames"], N := ["sources", "frames", "found", "at", "piece"], fd := ⟨2, 5, b_fewest⟩ }
def b__law_dice : Pm.Ss := (.cons (.set 2 (.var 1))
 (.cons (.for1 3 (.seq (.var 0))
 (.cons (.set 2 (.bin .mod (.bin .add (.bin .mul (.bor 2) (.con (.int 31))) (.fn1 .abs (.bor 3))) (.con (.int 2147483647))))
 .nil))
 (.cons (.ret (.bin .add (.lst (.cons (.var 2) (.cons (.con (.int 0)) .nil))) (.comf 3 (.var 3) (.seq (.var 0)) (.cmp .ge (.bor 3) (.bin .pow (.con (.int 10)) (.con (.int 18)))))))
 .nil)))
def D__law_dice : DefI := { id := 43, name := "_law_dice", params := L2.defArgs (top 21), body := L2.defBody (top 21), scope := L2.defScope (top 21), ps := ["_law_script", "_law_k"], N := ["_law_script", "_law_k", "_law_found", "_law_cell"], fd := ⟨2, 4, b__law_dice⟩ }
def b__law_off : Pm.Ss := (.cons (.iff (.and (.cmp .eq (.idx (.bor 0) (.con (.int 1))) (.con (.int 0))) (.cmp .gt (.fn1 .len (.bor 0)) (.con (.int 2))))
 (.cons (.sti 0 (.con (.int 1)) (.popA 0 (.con (.int 2))))
 .nil)
 .nil)
 (.cons (.iff (.cmp .gt (.idx (.bor 0) (.con (.int 1))) (.con (.int 0)))
 (.cons (.set 2 (.bin .mod (.idx (.bor 0) (.con (.int 1))) (.bor 1)))
 (.cons (.sti 0 (.con (.int 1)) (.bin .fdiv (.idx (.bor 0) (.con (.int 1))) (.bor 1)))
 (.cons (.ret (.var 2))
 .nil)))
 .nil)
 (.cons (.sti 0 (.con (.int 0)) (.bin .mod (.bin .add (.bin .mul (.idx (.bor 0) (.con (.int 0))) (.con (.int 48271))) (.con (.int 11))) (.con (.int 2147483647))))
 (.cons (.ret (.bin .mod (.bin .fdiv (.idx (.bor 0) (.con (.int 0))) (.con (.int 64))) (.bor 1)))
 .nil))))
def D__law_off : DefI := { id := 68, name := "_law_off", params := L2.defArgs (top 22), body := L2.defBody (top 22), scope := L2.defScope (top 22), ps := ["_law_d", "_law_most"], N := ["_law_d", "_law_most", "_law_found"], fd := ⟨2, 3, b__law_off⟩ }
def b__law_alike : Pm.Ss := (.cons (.iff (.cmp .isn (.bor 1) (.con (.non)))
 (.cons (.ret (.cmp .isn (.bor 0) (.con (.non))))
 .nil)
 .nil)
 (.cons (.iff (.isi (.bor 1) .bool)
 (.cons (.ret (.and (.isi (.bor 0) .bool) (.cmp .eq (.bor 0) (.bor 1))))
 .nil)
 .nil)
 (.cons (.iff (.isi (.bor 1) .int)
 (.cons (.ret (.and (.isi (.bor 0) .int) (.and (.not (.isi (.bor 0) .bool)) (.cmp .eq (.bor 0) (.bor 1)))))
 .nil)
 .nil)
 (.cons (.iff (.isi (.bor 1) .str)
 (.cons (.ret (.and (.isi (.bor 0) .str) (.cmp .eq (.bor 0) (.bor 1))))
 .nil)
 .nil)
 (.cons (.iff (.or (.cmp .ne (.isi (.bor 1) .tuple) (.isi (.bor 0) .tuple)) (.cmp .ne (.isi (.bor 1) .list) (.isi (.bor 0) .list)))
 (.cons (.ret (.con (.bl false)))
 .nil)
 .nil)
 (.cons (.iff (.cmp .ne (.fn1 .len (.bor 0)) (.fn1 .len (.bor 1)))
 (.cons (.ret (.con (.bl false)))
 .nil)
 .nil)
 (.cons (.ret (.fn1 .all (.com 2 (.cal 26 (.cons (.idx (.bor 0) (.bor 2)) (.cons (.idx (.bor 1) (.bor 2)) .nil))) (.rng1 (.fn1 .len (.bor 1))))))
 .nil)))))))
def D__law_alike : DefI := { id := 26, name := "_law_alike", params := L2.defArgs (top 23), body := L2.defBody (top 23), scope := L2.defScope (top 23), ps := ["_law_found", "_law_due"], N := ["_law_found", "_law_due", "_law_k"], fd := ⟨2, 3, b__law_alike⟩ }
def b__law_sources : Pm.Ss := (.cons (.set 1 (.bin .add (.con (.int 1)) (.cal 68 (.cons (.var 0) (.cons (.idx (.lst (.cons (.con (.int 2)) (.cons (.con (.int 6)) .nil))) (.cal 68 (.cons (.var 0) (.cons (.con (.int 2)) .nil)))) .nil)))))
 (.cons (.ret (.fn1 .tuple (.com 2 (.idx (.lst (.cons (.bin .add (.con (.int 1)) (.cal 68 (.cons (.var 0) (.cons (.con (.int 40)) .nil)))) (.cons (.con (.int 999)) (.cons (.bin .add (.con (.int 1)) (.cal 68 (.cons (.var 0) (.cons (.con (.int 999)) .nil)))) .nil)))) (.cal 68 (.cons (.var 0) (.cons (.con (.int 3)) .nil)))) (.rng1 (.var 1)))))
 .nil))
def D__law_sources : DefI := { id := 86, name := "_law_sources", params := L2.defArgs (top 24), body := L2.defBody (top 24), scope := L2.defScope (top 24), ps := ["_law_d"], N := ["_law_d", "_law_many", "_law_k"], fd := ⟨1, 3, b__law_sources⟩ }
def b__law_clip : Pm.Ss := (.cons (.set 3 (.cal 68 (.cons (.var 0) (.cons (.fn1 .len (.bor 1)) .nil))))
 (.cons (.set 4 (.idx (.lst (.cons (.con (.int 1)) (.cons (.con (.int 1)) (.cons (.cal 68 (.cons (.var 0) (.cons (.con (.int 10)) .nil))) (.cons (.bin .sub (.con (.int 0)) (.cal 68 (.cons (.var 0) (.cons (.con (.int 10)) .nil)))) .nil))))) (.cal 68 (.cons (.var 0) (.cons (.con (.int 4)) .nil)))))
 (.cons (.set 5 (.idx (.lst (.cons (.con (.int 1)) (.cons (.con (.int 1)) (.cons (.bin .add (.con (.int 1)) (.cal 68 (.cons (.var 0) (.cons (.con (.int 9)) .nil)))) .nil)))) (.cal 68 (.cons (.var 0) (.cons (.con (.int 3)) .nil)))))
 (.cons (.set 6 (.cal 68 (.cons (.var 0) (.cons (.var 5) .nil))))
 (.cons (.set 7 (.cal 68 (.cons (.var 0) (.cons (.idx (.bor 1) (.bor 3)) .nil))))
 (.cons (.whl (.and (.cmp .gt (.bor 2) (.con (.int 1))) (.not (.cmp2 .le .lt (.con (.int 0)) (.bin .add (.bor 7) (.bin .fdiv (.bin .add (.bor 6) (.bin .mul (.bin .sub (.bor 2) (.con (.int 1))) (.bor 4))) (.bor 5))) (.idx (.bor 1) (.bor 3)))))
 (.cons (.set 2 (.bin .fdiv (.bor 2) (.con (.int 2))))
 .nil))
 (.cons (.ret (.tup (.cons (.con (.str "clip")) (.cons (.var 3) (.cons (.var 7) (.cons (.var 4) (.cons (.var 5) (.cons (.var 6) (.cons (.var 2) .nil)))))))))
 .nil)))))))
def D__law_clip : DefI := { id := 41, name := "_law_clip", params := L2.defArgs (top 25), body := L2.defBody (top 25), scope := L2.defScope (top 25), ps := ["_law_d", "_law_sources_here", "_law_long_here"], N := ["_law_d", "_law_sources_here", "_law_long_here", "_law_source", "_law_step", "_law_of", "_law_rest", "_law_begin"], fd := ⟨3, 8, b__law_clip⟩ }
def b__law_plain : Pm.Ss := (.cons (.set 4 (.cal 68 (.cons (.var 0) (.cons (.con (.int 8)) .nil))))
 (.cons (.iff (.cmp .eq (.bor 4) (.con (.int 0)))
 (.cons (.ret (.tup (.cons (.con (.str "gap")) (.cons (.var 2) .nil))))
 .nil)
 .nil)
 (.cons (.iff (.and (.cmp .lt (.bor 4) (.con (.int 3))) (.cmp .ne (.bor 3) (.lst .nil)))
 (.cons (.set 5 (.idx (.lst (.cons (.cal 68 (.cons (.var 0) (.cons (.con (.int 9)) .nil))) (.cons (.cal 68 (.cons (.var 0) (.cons (.bin .sub (.con (.int 1501)) (.bor 2)) .nil))) .nil))) (.cal 68 (.cons (.var 0) (.cons (.con (.int 2)) .nil)))))
 (.cons (.ret (.tup (.cons (.con (.str "list")) (.cons (.idx (.bor 3) (.cal 68 (.cons (.var 0) (.cons (.fn1 .len (.bor 3)) .nil)))) (.cons (.var 5) (.cons (.var 2) .nil))))))
 .nil))
 .nil)
 (.cons (.ret (.cal 41 (.cons (.var 0) (.cons (.var 1) (.cons (.var 2) .nil)))))
 .nil))))
def D__law_plain : DefI := { id := 74, name := "_law_plain", params := L2.defArgs (top 26), body := L2.defBody (top 26), scope := L2.defScope (top 26), ps := ["_law_d", "_law_sources_here", "_law_long_here", "_law_lists"], N := ["_law_d", "_law_sources_here", "_law_long_here", "_law_lists", "_law_kind", "_law_begin"], fd := ⟨4, 6, b__law_plain⟩ }
def b__law_long : Pm.Ss := (.cons (.ret (.ite (.cmp .eq (.idx (.bor 0) (.con (.int 0))) (.con (.str "lead"))) (.idx (.idx (.bor 0) (.con (.int 1))) (.neg (.con (.int 1)))) (.idx (.bor 0) (.neg (.con (.int 1))))))
 .nil)
def D__law_long : DefI := { id := 62, name := "_law_long", params := L2.defArgs (top 27), body := L2.defBody (top 27), scope := L2.defScope (top 27), ps := ["_law_piece"], N := ["_law_piece"], fd := ⟨1, 1, b__law_long⟩ }
def b__law_piece_shows : Pm.Ss := (.cons (.iff (.cmp .eq (.idx (.bor 1) (.con (.int 0))) (.con (.str "clip")))
 (.cons (.setT [5, 6, 7, 8, 9, 10, 11] (.var 1))
 (.cons (.ret (.tup (.cons (.var 6) (.cons (.bin .add (.bor 7) (.bin .fdiv (.bin .add (.bor 10) (.bin .mul (.bor 2) (.bor 8))) (.bor 9))) .nil))))
 .nil))
 .nil)
 (.cons (.iff (.cmp .eq (.idx (.bor 1) (.con (.int 0))) (.con (.str "list")))
 (.cons (.ret (.cal 61 (.cons (.var 0) (.cons (.idx (.bor 1) (.con (.int 1))) (.cons (.bin .add (.idx (.bor 1) (.con (.int 2))) (.bor 2)) .nil)))))
 .nil)
 .nil)
 (.cons (.iff (.cmp .eq (.idx (.bor 1) (.con (.int 0))) (.con (.str "gap")))
 (.cons (.ret (.con (.non)))
 .nil)
 .nil)
 (.cons (.par2 3 4 (.cal 72 (.cons (.var 0) (.cons (.idx (.bor 1) (.con (.int 1))) (.cons (.var 2) .nil)))) (.cal 72 (.cons (.var 0) (.cons (.idx (.bor 1) (.con (.int 2))) (.cons (.var 2) .nil)))))
 (.cons (.ret (.tup (.cons (.con (.str "lead")) (.cons (.var 3) (.cons (.var 4) (.cons (.bin .add (.idx (.bor 1) (.con (.int 3))) (.bor 2)) (.cons (.idx (.bor 1) (.con (.int 4))) .nil)))))))
 .nil)))))
def D__law_piece_shows : DefI := { id := 72, name := "_law_piece_shows", params := L2.defArgs (top 28), body := L2.defBody (top 28), scope := L2.defScope (top 28), ps := ["_law_film", "_law_piece", "_law_j"], N := ["_law_film", "_law_piece", "_law_j", "_law_one", "_law_other", "_law_word", "_law_source", "_law_begin", "_law_step", "_law_of", "_law_rest", "_law_long_here"], fd := ⟨3, 12, b__law_piece_shows⟩ }
def b__law_layer_shows : Pm.Ss := (.cons (.for1 3 (.seq (.var 1))
 (.cons (.iff (.cmp .lt (.bor 2) (.cal 62 (.cons (.var 3) .nil)))
 (.cons (.ret (.cal 72 (.cons (.var 0) (.cons (.var 3) (.cons (.var 2) .nil)))))
 .nil)
 .nil)
 (.cons (.set 2 (.bin .sub (.bor 2) (.cal 62 (.cons (.var 3) .nil))))
 .nil)))
 (.cons (.ret (.con (.non)))
 .nil))
def D__law_layer_shows : DefI := { id := 59, name := "_law_layer_shows", params := L2.defArgs (top 29), body := L2.defBody (top 29), scope := L2.defScope (top 29), ps := ["_law_film", "_law_layer", "_law_at"], N := ["_law_film", "_law_layer", "_law_at", "_law_piece"], fd := ⟨3, 4, b__law_layer_shows⟩ }
def b__law_list_shows : Pm.Ss := (.cons (.for1 3 (.seq (.idx (.bor 0) (.bor 1)))
 (.cons (.set 4 (.cal 59 (.cons (.var 0) (.cons (.var 3) (.cons (.var 2) .nil)))))
 (.cons (.iff (.cmp .isnn (.bor 4) (.con (.non)))
 (.cons (.ret (.var 4))
 .nil)
 .nil)
 .nil)))
 (.cons (.ret (.con (.non)))
 .nil))
def D__law_list_shows : DefI := { id := 61, name := "_law_list_shows", params := L2.defArgs (top 30), body := L2.defBody (top 30), scope := L2.defScope (top 30), ps := ["_law_film", "_law_number", "_law_at"], N := ["_law_film", "_law_number", "_law_at", "_law_layer", "_law_found"], fd := ⟨3, 5, b__law_list_shows⟩ }
def b__law_size : Pm.Ss := (.cons (.ret (.fn1 .sum (.com 1 (.cal 62 (.cons (.var 1) .nil)) (.seq (.var 0)))))
 .nil)
def D__law_size : DefI := { id := 84, name := "_law_size", params := L2.defArgs (top 31), body := L2.defBody (top 31), scope := L2.defScope (top 31), ps := ["_law_layer"], N := ["_law_layer", "_law_piece"], fd := ⟨1, 2, b__law_size⟩ }
def b__law_all : Pm.Ss := (.cons (.ret (.com 3 (.cal 59 (.cons (.var 0) (.cons (.var 1) (.cons (.var 3) .nil)))) (.rng1 (.fn2 .min (.var 2) (.cal 84 (.cons (.var 1) .nil))))))
 .nil)
def D__law_all : DefI := { id := 27, name := "_law_all", params := L2.defArgs (top 32), body := L2.defBody (top 32), scope := L2.defScope (top 32), ps := ["_law_film", "_law_layer", "_law_most"], N := ["_law_film", "_law_layer", "_law_most", "_law_at"], fd := ⟨3, 4, b__law_all⟩ }
def b_law : Pm.Ss := (.cons (.set 1 (.prom (.cal 43 (.cons (.var 0) (.cons (.con (.int 0)) .nil)))))
 (.cons (.for1 2 (.rng1 (.con (.int 3)))
 (.cons (.set 3 (.cal 86 (.cons (.var 1) .nil)))
 (.cons (.set 4 (.tup .nil))
 (.cons (.whl (.and (.cmp .lt (.cal 84 (.cons (.var 4) .nil)) (.con (.int 40))) (.cmp .lt (.fn1 .len (.bor 4)) (.con (.int 9))))
 (.cons (.set 4 (.bin .add (.bor 4) (.tup (.cons (.cal 74 (.cons (.var 1) (.cons (.var 3) (.cons (.bin .add (.con (.int 1)) (.cal 68 (.cons (.var 1) (.cons (.con (.int 15)) .nil)))) (.cons (.lst .nil) .nil))))) .nil))))
 .nil))
 (.cons (.set 5 (.cal 27 (.cons (.tup .nil) (.cons (.var 4) (.cons (.con (.int 60)) .nil)))))
 (.cons (.set 6 (.cal 98 (.cons (.var 3) (.cons (.var 5) .nil))))
 (.cons (.iff (.or (.cmp .gt (.fn1 .len (.bor 6)) (.fn1 .len (.bor 4))) (.not (.cal 26 (.cons (.cal 27 (.cons (.tup .nil) (.cons (.var 6) (.cons (.con (.int 99)) .nil)))) (.cons (.var 5) .nil)))))
 (.cons (.ret (.con (.bl false)))
 .nil)
 .nil)
 (.cons (.set 7 (.cal 68 (.cons (.var 1) (.cons (.bin .add (.fn1 .len (.bor 5)) (.con (.int 1))) .nil))))
 (.cons (.set 8 (.lst (.cons (.cal 98 (.cons (.var 3) (.cons (.sli (.bor 5) .no (.so (.var 7))) .nil))) (.cons (.cal 98 (.cons (.var 3) (.cons (.sli (.bor 5) (.so (.var 7)) .no) .nil))) .nil))))
 (.cons (.set 9 (.com 11 (.fn1 .len (.bor 11)) (.seq (.var 8))))
 (.cons (.iff (.or (.cmp .gt (.fn1 .max (.bor 9)) (.fn1 .len (.bor 6))) (.not (.cmp2 .le .le (.fn1 .len (.bor 6)) (.fn1 .sum (.bor 9)) (.bin .add (.fn1 .len (.bor 6)) (.con (.int 1))))))
 (.cons (.ret (.con (.bl false)))
 .nil)
 .nil)
 (.cons (.set 10 (.cal 98 (.cons (.var 3) (.cons (.rev (.bor 5)) .nil))))
 (.cons (.iff (.or (.cmp .ne (.fn1 .len (.bor 10)) (.fn1 .len (.bor 6))) (.not (.cal 26 (.cons (.cal 27 (.cons (.tup .nil) (.cons (.var 10) (.cons (.con (.int 99)) .nil)))) (.cons (.rev (.bor 5)) .nil)))))
 (.cons (.ret (.con (.bl false)))
 .nil)
 .nil)
 (.cons (.iff (.and (.cmp .ne (.bor 5) (.lst .nil)) (.and (.cmp .isnn (.idx (.bor 5) (.con (.int 0))) (.con (.non))) (.cmp .ne (.fn1 .len (.cal 98 (.cons (.var 3) (.cons (.bin .mul (.lst (.cons (.idx (.bor 5) (.con (.int 0))) .nil)) (.con (.int 60))) .nil)))) (.con (.int 1)))))
 (.cons (.ret (.con (.bl false)))
 .nil)
 .nil)
 .nil))))))))))))))
 (.cons (.ret (.con (.bl true)))
 .nil)))
def D_law : DefI := { id := 109, name := "law", params := L2.defArgs (top 33), body := L2.defBody (top 33), scope := L2.defScope (top 33), ps := ["_law_script"], N := ["_law_script", "_law_d", "_law_turn", "_law_sources_here", "_law_row", "_law_seen", "_law_whole", "_law_at", "_law_parts", "_law_sizes", "_law_back", "_law_part"], fd := ⟨1, 12, b_law⟩ }
def defs : List DefI := [D_is_between, D_need_sources, D_source_frame, D_is_frame, D_need_frames, D_clips_at, D_longest_at, D_fewest, D__law_dice, D__law_off, D__law_alike, D__law_sources, D__law_clip, D__law_plain, D__law_long, D__law_piece_shows, D__law_layer_shows, D__law_list_shows, D__law_size, D__law_all, D_law]
def glo : List (Str × Pm.D) := [("MOST_SOURCES", .int 6), ("MOST_FRAMES_pieces", .int 999), ("MOST_STEP", .int 9), ("CLIP", .str "clip"), ("GAP", .str "gap"), ("MOST_FRAMES_fewest", .int 60)]
abbrev T : Nat → Option Fd := tabOf defs
def cs : Cls0 := ⟨fun _ => 0, fun _ => none⟩
def cf : Cf := ⟨fun _ _ => none, fun _ _ => false, fun _ => none⟩
theorem call_is_between {n : Nat} : callN T cf (n + 1) 102 = runF (callN T cf n) cf ⟨3, 3, b_is_between⟩ := rfl
theorem call_need_sources {n : Nat} : callN T cf (n + 1) 127 = runF (callN T cf n) cf ⟨1, 3, b_need_sources⟩ := rfl
theorem call_source_frame {n : Nat} : callN T cf (n + 1) 138 = runF (callN T cf n) cf ⟨2, 9, b_source_frame⟩ := rfl
theorem call_is_frame {n : Nat} : callN T cf (n + 1) 105 = runF (callN T cf n) cf ⟨2, 2, b_is_frame⟩ := rfl
theorem call_need_frames {n : Nat} : callN T cf (n + 1) 122 = runF (callN T cf n) cf ⟨2, 4, b_need_frames⟩ := rfl
theorem call_clips_at {n : Nat} : callN T cf (n + 1) 96 = runF (callN T cf n) cf ⟨1, 5, b_clips_at⟩ := rfl
theorem call_longest_at {n : Nat} : callN T cf (n + 1) 116 = runF (callN T cf n) cf ⟨2, 6, b_longest_at⟩ := rfl
theorem call_fewest {n : Nat} : callN T cf (n + 1) 98 = runF (callN T cf n) cf ⟨2, 5, b_fewest⟩ := rfl
theorem call__law_dice {n : Nat} : callN T cf (n + 1) 43 = runF (callN T cf n) cf ⟨2, 4, b__law_dice⟩ := rfl
theorem call__law_off {n : Nat} : callN T cf (n + 1) 68 = runF (callN T cf n) cf ⟨2, 3, b__law_off⟩ := rfl
theorem call__law_alike {n : Nat} : callN T cf (n + 1) 26 = runF (callN T cf n) cf ⟨2, 3, b__law_alike⟩ := rfl
theorem call__law_sources {n : Nat} : callN T cf (n + 1) 86 = runF (callN T cf n) cf ⟨1, 3, b__law_sources⟩ := rfl
theorem call__law_clip {n : Nat} : callN T cf (n + 1) 41 = runF (callN T cf n) cf ⟨3, 8, b__law_clip⟩ := rfl
theorem call__law_plain {n : Nat} : callN T cf (n + 1) 74 = runF (callN T cf n) cf ⟨4, 6, b__law_plain⟩ := rfl
theorem call__law_long {n : Nat} : callN T cf (n + 1) 62 = runF (callN T cf n) cf ⟨1, 1, b__law_long⟩ := rfl
theorem call__law_piece_shows {n : Nat} : callN T cf (n + 1) 72 = runF (callN T cf n) cf ⟨3, 12, b__law_piece_shows⟩ := rfl
theorem call__law_layer_shows {n : Nat} : callN T cf (n + 1) 59 = runF (callN T cf n) cf ⟨3, 4, b__law_layer_shows⟩ := rfl
theorem call__law_list_shows {n : Nat} : callN T cf (n + 1) 61 = runF (callN T cf n) cf ⟨3, 5, b__law_list_shows⟩ := rfl
theorem call__law_size {n : Nat} : callN T cf (n + 1) 84 = runF (callN T cf n) cf ⟨1, 2, b__law_size⟩ := rfl
theorem call__law_all {n : Nat} : callN T cf (n + 1) 27 = runF (callN T cf n) cf ⟨3, 4, b__law_all⟩ := rfl
theorem call_law {n : Nat} : callN T cf (n + 1) 109 = runF (callN T cf n) cf ⟨1, 12, b_law⟩ := rfl
theorem c_is_between : okDef (syOf defs glo) D_is_between = true := by decide +kernel
theorem q_is_between : BindsOk D_is_between := fun _ _ _ _ _ _ us hl => match us, hl with | [_, _, _], _ => rfl
theorem c_need_sources : okDef (syOf defs glo) D_need_sources = true := by decide +kernel
theorem q_need_sources : BindsOk D_need_sources := fun _ _ _ _ _ _ us hl => match us, hl with | [_], _ => rfl
theorem c_source_frame : okDef (syOf defs glo) D_source_frame = true := by decide +kernel
theorem q_source_frame : BindsOk D_source_frame := fun _ _ _ _ _ _ us hl => match us, hl with | [_, _], _ => rfl
theorem c_is_frame : okDef (syOf defs glo) D_is_frame = true := by decide +kernel
theorem q_is_frame : BindsOk D_is_frame := fun _ _ _ _ _ _ us hl => match us, hl with | [_, _], _ => rfl
theorem c_need_frames : okDef (syOf defs glo) D_need_frames = true := by decide +kernel
theorem q_need_frames : BindsOk D_need_frames := fun _ _ _ _ _ _ us hl => match us, hl with | [_, _], _ => rfl
theorem c_clips_at : okDef (syOf defs glo) D_clips_at = true := by decide +kernel
theorem q_clips_at : BindsOk D_clips_at := fun _ _ _ _ _ _ us hl => match us, hl with | [_], _ => rfl
theorem c_longest_at : okDef (syOf defs glo) D_longest_at = true := by decide +kernel
theorem q_longest_at : BindsOk D_longest_at := fun _ _ _ _ _ _ us hl => match us, hl with | [_, _], _ => rfl
theorem c_fewest : okDef (syOf defs glo) D_fewest = true := by decide +kernel
theorem q_fewest : BindsOk D_fewest := fun _ _ _ _ _ _ us hl => match us, hl with | [_, _], _ => rfl
theorem c__law_dice : okDef (syOf defs glo) D__law_dice = true := by decide +kernel
theorem q__law_dice : BindsOk D__law_dice := fun _ _ _ _ _ _ us hl => match us, hl with | [_, _], _ => rfl
theorem c__law_off : okDef (syOf defs glo) D__law_off = true := by decide +kernel
theorem q__law_off : BindsOk D__law_off := fun _ _ _ _ _ _ us hl => match us, hl with | [_, _], _ => rfl
theorem c__law_alike : okDef (syOf defs glo) D__law_alike = true := by decide +kernel
theorem q__law_alike : BindsOk D__law_alike := fun _ _ _ _ _ _ us hl => match us, hl with | [_, _], _ => rfl
theorem c__law_sources : okDef (syOf defs glo) D__law_sources = true := by decide +kernel
theorem q__law_sources : BindsOk D__law_sources := fun _ _ _ _ _ _ us hl => match us, hl with | [_], _ => rfl
theorem c__law_clip : okDef (syOf defs glo) D__law_clip = true := by decide +kernel
theorem q__law_clip : BindsOk D__law_clip := fun _ _ _ _ _ _ us hl => match us, hl with | [_, _, _], _ => rfl
theorem c__law_plain : okDef (syOf defs glo) D__law_plain = true := by decide +kernel
theorem q__law_plain : BindsOk D__law_plain := fun _ _ _ _ _ _ us hl => match us, hl with | [_, _, _, _], _ => rfl
theorem c__law_long : okDef (syOf defs glo) D__law_long = true := by decide +kernel
theorem q__law_long : BindsOk D__law_long := fun _ _ _ _ _ _ us hl => match us, hl with | [_], _ => rfl
theorem c__law_piece_shows : okDef (syOf defs glo) D__law_piece_shows = true := by decide +kernel
theorem q__law_piece_shows : BindsOk D__law_piece_shows := fun _ _ _ _ _ _ us hl => match us, hl with | [_, _, _], _ => rfl
theorem c__law_layer_shows : okDef (syOf defs glo) D__law_layer_shows = true := by decide +kernel
theorem q__law_layer_shows : BindsOk D__law_layer_shows := fun _ _ _ _ _ _ us hl => match us, hl with | [_, _, _], _ => rfl
theorem c__law_list_shows : okDef (syOf defs glo) D__law_list_shows = true := by decide +kernel
theorem q__law_list_shows : BindsOk D__law_list_shows := fun _ _ _ _ _ _ us hl => match us, hl with | [_, _, _], _ => rfl
theorem c__law_size : okDef (syOf defs glo) D__law_size = true := by decide +kernel
theorem q__law_size : BindsOk D__law_size := fun _ _ _ _ _ _ us hl => match us, hl with | [_], _ => rfl
theorem c__law_all : okDef (syOf defs glo) D__law_all = true := by decide +kernel
theorem q__law_all : BindsOk D__law_all := fun _ _ _ _ _ _ us hl => match us, hl with | [_, _, _], _ => rfl
theorem c_law : okDef (syOf defs glo) D_law = true := by decide +kernel
theorem q_law : BindsOk D_law := fun _ _ _ _ _ _ us hl => match us, hl with | [_], _ => rfl
theorem c_all : ∀ D ∈ defs, okDef (syOf defs glo) D = true := by
  simp only [defs, List.forall_mem_cons]
  exact ⟨c_is_between, c_need_sources, c_source_frame, c_is_frame, c_need_frames, c_clips_at, c_longest_at, c_fewest, c__law_dice, c__law_off, c__law_alike, c__law_sources, c__law_clip, c__law_plain, c__law_long, c__law_piece_shows, c__law_layer_shows, c__law_list_shows, c__law_size, c__law_all, c_law, fun _ h => nomatch h⟩
theorem q_all : ∀ D ∈ defs, BindsOk D := by
  simp only [defs, List.forall_mem_cons]
  exact ⟨q_is_between, q_need_sources, q_source_frame, q_is_frame, q_need_frames, q_clips_at, q_longest_at, q_fewest, q__law_dice, q__law_off, q__law_alike, q__law_sources, q__law_clip, q__law_plain, q__law_long, q__law_piece_shows, q__law_layer_shows, q__law_list_shows, q__law_size, q__law_all, q_law, fun _ h => nomatch h⟩
end Lw

set_option Elab.async false
set_option linter.all false
set_option maxRecDepth 100000
set_option maxHeartbeats 4000000
namespace Lw
open PySem PySem.Spec Pm
local macro_rules | `(tactic| walk_at "ev") => `(tactic| simp [runF, exS, exB, evE, evA, evO, evI, opd, bindS])
theorem is_between_int {n : Nat} {a lo hi : Int} {h : List Ob} : callN T cf (n + 1) 102 [.int a, .int lo, .int hi] h = .ok (.v (.bl (decide (lo ≤ a) && decide (a ≤ hi)))) h := by
  rw [call_is_between, b_is_between]
  walk_at "ev"
  cases decide (lo ≤ a) <;> simp
def dz (xs : List Int) : List Ob := [.lst (xs.map D.int)]
theorem two64_is : two64 = 18446744073709551616 := rfl
theorem mul_off {a : Int} : binop .mul (.int a) (.int 48271) = some (.v (.int (a * 48271))) := bin_mulr (by decide) (by decide)
/-- the dice's list stays as it is, a number is taken of it -/
theorem off_draw {n : Nat} {a m : Int} (hm : 0 < m) (hm2 : m < 1073741824) : callN T cf (n + 1) 68 [.ref 0, .int m] (dz [a, 0]) = .ok (.v (.int ((a * 48271 + 11) % 2147483647 / 64 % m))) (dz [(a * 48271 + 11) % 2147483647, 0]) := by
  rw [call__law_off, b__law_off, dz, dz]
  walk_at "ev"
  simp [mul_off, hm, hm2]
theorem lt3 {r : List Int} : (2 : Int) < (r.length : Int) + 1 + 1 + 1 := by omega
theorem le3 {r : List Int} (hl : r.length ≤ 1000) : r.length + 1 + 1 + 1 ≤ sizeLine := by
  have : (1003 : Nat) ≤ sizeLine := by decide
  omega
theorem off_more {n : Nat} {a x m : Int} {r : List Int} (hm : 0 < m) (hm2 : m < 1073741824) (hl : r.length ≤ 1000) (hx : 0 < x) : callN T cf (n + 1) 68 [.ref 0, .int m] (dz (a :: 0 :: x :: r)) = .ok (.v (.int (x % m))) (dz (a :: x / m :: r)) := by
  rw [call__law_off, b__law_off, dz, dz]
  walk_at "ev"
  simp [le3 hl, lt3, hm, hm2, hx]
theorem off_more0 {n : Nat} {a x m : Int} {r : List Int} (hm : 0 < m) (hm2 : m < 1073741824) (hl : r.length ≤ 1000) (hx : ¬ 0 < x) : callN T cf (n + 1) 68 [.ref 0, .int m] (dz (a :: 0 :: x :: r)) = .ok (.v (.int ((a * 48271 + 11) % 2147483647 / 64 % m))) (dz ((a * 48271 + 11) % 2147483647 :: x :: r)) := by
  rw [call__law_off, b__law_off, dz, dz]
  walk_at "ev"
  simp [le3 hl, lt3, hm, hm2, hx, mul_off]
theorem off_some {n : Nat} {a b m : Int} {r : List Int} (hm : 0 < m) (hm2 : m < 1073741824) (hb : 0 < b) : callN T cf (n + 1) 68 [.ref 0, .int m] (dz (a :: b :: r)) = .ok (.v (.int (b % m))) (dz (a :: b / m :: r)) := by
  have hb0 : (b == 0) = false := by
    have : b ≠ 0 := by omega
    simpa using this
  rw [call__law_off, b__law_off, dz, dz]
  simp [runF, exS, exB, evE, evA, evO, evI, opd, bindS, hm, hm2, hb, hb0]
theorem off_neg {n : Nat} {a b m : Int} {r : List Int} (hm : 0 < m) (hm2 : m < 1073741824) (hb : b < 0) : callN T cf (n + 1) 68 [.ref 0, .int m] (dz (a :: b :: r)) = .ok (.v (.int ((a * 48271 + 11) % 2147483647 / 64 % m))) (dz ((a * 48271 + 11) % 2147483647 :: b :: r)) := by
  have hb0 : (b == 0) = false := by
    have : b ≠ 0 := by omega
    simpa using this
  have hb1 : ¬ 0 < b := by omega
  rw [call__law_off, b__law_off, dz, dz]
  simp [runF, exS, exB, evE, evA, evO, evI, opd, bindS, hm, hm2, hb1, hb0, mul_off]
/-- the dice: a list of two ints and more -/
def Dz (h : List Ob) : Prop := ∃ a b r, h = dz (a :: b :: r) ∧ r.length ≤ 1000
theorem off_ok {n : Nat} {m : Int} {h : List Ob} (hd : Dz h) (hm : 0 < m) (hm2 : m < 1073741824) :
    ∃ v h', callN T cf (n + 1) 68 [.ref 0, .int m] h = .ok (.v (.int v)) h' ∧ 0 ≤ v ∧ v < m ∧ Dz h' := by
  obtain ⟨a, b, r, rfl, hl⟩ := hd
  have step : ∀ (q : Int), 0 ≤ q % m ∧ q % m < m := fun q => ⟨Int.emod_nonneg q (by omega), Int.emod_lt_of_pos q hm⟩
  by_cases hb : 0 < b
  · exact ⟨_, _, off_some hm hm2 hb, (step _).1, (step _).2, _, _, _, rfl, hl⟩
  · by_cases hb2 : b < 0
    · exact ⟨_, _, off_neg hm hm2 hb2, (step _).1, (step _).2, _, _, _, rfl, hl⟩
    · have e : b = 0 := by omega
      subst e
      cases r with
      | nil => exact ⟨_, _, off_draw hm hm2, (step _).1, (step _).2, _, _, _, rfl, hl⟩
      | cons x r =>
        have hl' : r.length ≤ 1000 := by simp at hl; omega
        by_cases hx : 0 < x
        · exact ⟨_, _, off_more hm hm2 hl' hx, (step _).1, (step _).2, _, _, _, rfl, hl'⟩
        · exact ⟨_, _, off_more0 hm hm2 hl' hx, (step _).1, (step _).2, _, x, r, rfl, hl'⟩
end Lw

set_option Elab.async false
set_option linter.all false
set_option maxRecDepth 100000
set_option maxHeartbeats 400000
namespace Lw
open PySem PySem.Spec Pm
local macro_rules | `(tactic| walk_at "ev") => `(tactic| simp [runF, exS, exB, evE, evA, evO, evI, opd, bindS])
abbrev Fr : Type := Option (Int × Int)
def frD : Fr → Pm.D
  | none => .non
  | some p => .tup [.int p.1, .int p.2]
@[simp] theorem frD_none : frD none = .non := id rfl
@[simp] theorem frD_some {p : Int × Int} : frD (some p) = .tup [.int p.1, .int p.2] := id rfl
theorem need_sources_ok {n : Nat} {ss : List Int} {h : List Ob} (h0 : ss ≠ []) (h1 : ss.length ≤ 6) (h2 : ∀ x ∈ ss, 1 ≤ x ∧ x ≤ 999) : callN T cf (n + 2) 127 [.tup (ss.map D.int)] h = .ok (.v .non) h := by
  rw [call_need_sources, b_need_sources]
  have hne : (eqF F60 (.tup (ss.map D.int)) (.tup [])) = some false := by
    obtain ⟨x, xs, rfl⟩ := List.exists_cons_of_ne_nil h0
    simp
  refine okC_eq (ok_run rfl (ok_cons ?_))
  simp [exS, exB, evE, evA, opd, hne]
  refine ok_cons (ok_forT (xs := ss.zipIdx) (g := fun p : Int × Nat => [.int p.2, .int p.1]) (fun l r σ h' => (∃ a b, σ = [.v (.tup (ss.map D.int)), a, b]) ∧ h' = h) (σ1 := [.v (.tup (ss.map D.int)), .un, .un]) (h1 := h) (by simp [evI, evE, enu_map]) ⟨⟨_, _, rfl⟩, rfl⟩ ?_ ?_)
  · rintro l ⟨x, k⟩ r σ h' e ⟨⟨a, b, rfl⟩, rfl⟩
    have hm := List.mem_zipIdx_iff_getElem?.mp (mem_zip e)
    have hk : ¬ (6 : Int) ≤ k := by
      have := (List.getElem?_eq_some_iff.mp hm).1
      simp at this
      omega
    obtain ⟨x1, x2⟩ := h2 x (List.mem_of_getElem? hm)
    refine ⟨_, rfl, ok_cons ?_⟩
    simp [exS, exB, evE, evA, opd, hk, is_between_int, x1, x2]
  · rintro σ h' ⟨⟨a, b, rfl⟩, rfl⟩
    simp
theorem source_frame_ok {n : Nat} {s b st of rs l j : Int} {h : List Ob} (h0 : 0 < of) (h1 : of ≤ 9) (h2 : -9 ≤ st) (h3 : st ≤ 9) : callN T cf (n + 1) 138 [.tup [.str "clip", .int s, .int b, .int st, .int of, .int rs, .int l], .int j] h = .ok (.v (.int (b + (rs + j * st) / of))) h := by
  have hm : binop .mul (.int j) (.int st) = some (.v (.int (j * st))) := bin_mulr (by unfold two64; omega) (by unfold two64; omega)
  have h5 : of < 1073741824 := by omega
  rw [call_source_frame, b_source_frame]
  simp [runF, exS, exB, evE, evA, evO, evI, opd, bindS, hm, h0, h5]
/-- a frame that the sources have -/
def FrOk (ss : List Int) (f : Fr) : Prop := ∀ p, f = some p → 0 ≤ p.1 ∧ 0 ≤ p.2 ∧ ∃ x, ss[p.1.toNat]? = some x ∧ p.2 < x
theorem is_frame_ok {n : Nat} {ss : List Int} {f : Fr} {h : List Ob} (hf : FrOk ss f) : callN T cf (n + 2) 105 [frD f, .tup (ss.map D.int)] h = .ok (.v (.bl true)) h := by
  rw [call_is_frame, b_is_frame]
  cases f with
  | none => walk_at "ev"
  | some p =>
    obtain ⟨h1, h2, x, h3, h4⟩ := hf p rfl
    have h5 : p.1 ≤ (ss.length : Int) - 1 := by
      have := (List.getElem?_eq_some_iff.mp h3).1
      omega
    have h6 : p.2 ≤ x - 1 := by omega
    have h7 : ixD (ss.map D.int) p.1 = some (.int x) := by rw [ixD_pos h1, List.getElem?_map, h3]; rfl
    simp [runF, exS, exB, evE, evA, evO, evI, opd, bindS, is_between_int, h1, h2, h5, h6, h7]
theorem need_frames_ok {n : Nat} {ss : List Int} {fs : List Fr} {h : List Ob} (h0 : ss ≠ []) (h1 : ss.length ≤ 6) (h2 : ∀ x ∈ ss, 1 ≤ x ∧ x ≤ 999) (h3 : fs.length ≤ 60) (h4 : ∀ f ∈ fs, FrOk ss f) :
    callN T cf (n + 3) 122 [.tup (ss.map D.int), .lst (fs.map frD)] h = .ok (.v .non) h := by
  rw [call_need_frames, b_need_frames]
  refine okC_eq (ok_run rfl (ok_cons ?_))
  simp [exS, exB, evE, evA, opd, need_sources_ok h0 h1 h2]
  refine ok_cons (ok_forT (xs := fs.zipIdx) (g := fun p : Fr × Nat => [.int p.2, frD p.1]) (fun l r σ h' => (∃ a b, σ = [.v (.tup (ss.map D.int)), .v (.lst (fs.map frD)), a, b]) ∧ h' = h) (σ1 := [.v (.tup (ss.map D.int)), .v (.lst (fs.map frD)), .un, .un]) (h1 := h) (by simp [evI, evE, enu_map]) ⟨⟨_, _, rfl⟩, rfl⟩ ?_ ?_)
  · rintro l ⟨x, k⟩ r σ h' e ⟨⟨a, b, rfl⟩, rfl⟩
    have hm := List.mem_zipIdx_iff_getElem?.mp (mem_zip e)
    have hk : ¬ (60 : Int) ≤ k := by
      have := (List.getElem?_eq_some_iff.mp hm).1
      simp at this
      omega
    have hx := h4 x (List.mem_of_getElem? hm)
    refine ⟨_, rfl, ok_cons ?_⟩
    simp [exS, exB, evE, evA, opd, hk, is_frame_ok hx]
  · rintro σ h' ⟨⟨a, b, rfl⟩, rfl⟩
    simp
/-! ### the clips at a frame -/
/-- a clip's going: step, of, rest -/
structure Go where
  st : Int
  of : Int
  rs : Int
def Go.ok (o : Go) : Prop := -9 ≤ o.st ∧ o.st ≤ 9 ∧ 1 ≤ o.of ∧ o.of ≤ 9 ∧ 0 ≤ o.rs ∧ o.rs < o.of
def clD (s b l : Int) (o : Go) : Pm.D := .tup [.str "clip", .int s, .int b, .int o.st, .int o.of, .int o.rs, .int l]
def gos2 (of st : Nat) : List Go := (List.range (of + 1)).map fun (k : Nat) => ⟨-9 + (st : Int), 1 + (of : Int), k⟩
def gos1 (of : Nat) : List Go := (List.range 19).flatMap (gos2 of)
def gos : List Go := (List.range 9).flatMap gos1
theorem gos2_len {of st : Nat} : (gos2 of st).length = of + 1 := by simp [gos2]
theorem flat_len {α β : Type} {f : α → List β} {k : Nat} : ∀ {l : List α}, (∀ a ∈ l, (f a).length ≤ k) → (l.flatMap f).length ≤ l.length * k
  | [], _ => by simp
  | a :: l, h => by
    have := flat_len (l := l) fun a ha => h a (List.mem_cons_of_mem _ ha)
    have := h a List.mem_cons_self
    simp only [List.flatMap_cons, List.length_append, List.length_cons, Nat.add_mul]
    omega
theorem gos_ok {o : Go} : o ∈ gos ↔ o.ok := by
  unfold gos gos1 gos2 Go.ok
  simp only [List.mem_flatMap, List.mem_map, List.mem_range]
  constructor
  · rintro ⟨a, ha, b, hb, k, hk, rfl⟩
    dsimp only
    omega
  · obtain ⟨st, of, rs⟩ := o
    rintro ⟨h1, h2, h3, h4, h5, h6⟩
    dsimp only at *
    exact ⟨(of - 1).toNat, by omega, (st + 9).toNat, by omega, rs.toNat, by omega, by congr 1 <;> omega⟩
end Lw

set_option Elab.async false
set_option linter.all false
set_option maxRecDepth 100000
set_option maxHeartbeats 400000
namespace Lw
open PySem PySem.Spec Pm
local macro_rules | `(tactic| walk_at "ev") => `(tactic| simp [runF, exS, exB, evE, evA, evO, evI, opd, bindS])
def gk (s b o1 o2 : Int) : Pm.D → Pm.D
  | .int k => clD s b 1 ⟨o1, o2, k⟩
  | _ => .non
theorem gk_map {s b : Int} {of st : Nat} : (rangeL 0 (1 + (of : Int))).map (gk s b (-9 + (st : Int)) (1 + (of : Int))) = (gos2 of st).map (clD s b 1) := by
  have e : (1 + (of : Int) - 0).toNat = of + 1 := by omega
  unfold rangeL gos2
  rw [e, List.map_map, List.map_map]
  refine List.map_congr_left fun k _ => ?_
  show gk s b _ _ (.int (0 + (k : Int))) = _
  rw [Int.zero_add]
  rfl
theorem clips_row {n of st : Nat} {s b : Int} {X : List Pm.D} {h : List Ob} (hof : of < 9) : evE (callN T cf n) cf (.com 4 (.tup (.cons (.glo "CLIP" (.str "clip")) (.cons (.idx (.bor 0) (.con (.int 0))) (.cons (.idx (.bor 0) (.con (.int 1))) (.cons (.var 3) (.cons (.var 2) (.cons (.var 4) (.cons (.con (.int 1)) .nil)))))))) (.rng1 (.var 2)))
          [.v (.tup [.int s, .int b]), .o X, .v (.int (1 + (of : Int))), .v (.int (-9 + (st : Int))), .un] h = .ok (.o ((gos2 of st).map (clD s b 1)))
          [.v (.tup [.int s, .int b]), .o X, .v (.int (1 + (of : Int))), .v (.int (-9 + (st : Int))), .un] h := by
  have sm : small62 (1 + (of : Int)) = true := by unfold small62; simp; omega
  have h7 : (7 : Nat) ≤ sizeLine := by decide +kernel
  have q := com_map (Γ := callN T cf n) (C := cf) (i := 4) (it := .rng1 (.var 2)) (elt := (.tup (.cons (.glo "CLIP" (.str "clip")) (.cons (.idx (.bor 0) (.con (.int 0))) (.cons (.idx (.bor 0) (.con (.int 1))) (.cons (.var 3) (.cons (.var 2) (.cons (.var 4) (.cons (.con (.int 1)) .nil)))))))))
    (σz := [.v (.tup [.int s, .int b]), .o X, .v (.int (1 + (of : Int))), .v (.int (-9 + (st : Int))), .un]) (hz0 := h)
    (σ := [.v (.tup [.int s, .int b]), .o X, .v (.int (1 + (of : Int))), .v (.int (-9 + (st : Int))), .un]) (h := h) (ds := rangeL 0 (1 + (of : Int))) (s := .un)
    (g := gk s b (-9 + (st : Int)) (1 + (of : Int))) (evI_rng1 (by simp) sm) rfl (by
      have : (100 : Nat) ≤ sizeLine := by decide +kernel
      simp [rangeL]
      omega) (by
      intro d hd
      simp only [rangeL, List.mem_map] at hd
      obtain ⟨k, hk, rfl⟩ := hd
      simp [clD, gk])
  rw [q, gk_map]
theorem clips_at_ok {n : Nat} {s b : Int} {h : List Ob} : callN T cf (n + 1) 96 [.tup [.int s, .int b]] h = .ok (.v (.lst (gos.map (clD s b 1)))) h := by
  rw [call_clips_at, b_clips_at]
  generalize hG : gos.map (clD s b 1) = G
  refine okC_eq ?_
  refine ok_run rfl ?_
  refine ok_cons ?_
  simp [exS, exB, evE, evA, opd]
  have big : (100000 : Nat) ≤ sizeLine := by decide +kernel
  refine ok_cons (ok_for1 (xs := List.range 9) (g := fun k : Nat => .int (1 + (k : Int))) (fun l r σ h' => (∃ a b', σ = [.v (.tup [.int s, .int b]), .o ((l.flatMap gos1).map (clD s b 1)), a, b', .un]) ∧ h' = h) (σ1 := [.v (.tup [.int s, .int b]), .o [], .un, .un, .un]) (h1 := h) (by simp [evI, evE, opd, small62, rangeL]) ⟨⟨_, _, rfl⟩, rfl⟩ ?_ ?_)
  · rintro l of r σ h' e ⟨⟨a, b', rfl⟩, rfl⟩
    have hof : of < 9 := by
      have : of ∈ List.range 9 := by rw [← e]; simp
      simpa using this
    have hl : (l.flatMap gos1).length ≤ 9 * 171 := by
      have h1 := flat_len (f := gos1) (k := 171) (l := l) fun a ha => by
        have : a ∈ List.range 9 := by rw [← e]; simp [ha]
        have ha9 : a < 9 := by simpa using this
        have := flat_len (f := gos2 a) (k := 9) (l := List.range 19) fun b _ => by rw [gos2_len]; omega
        simpa [gos1] using this
      have h2 : l.length ≤ 9 := by
        have := congrArg List.length e
        simp at this
        omega
      calc _ ≤ _ := h1
        _ ≤ _ := Nat.mul_le_mul_right _ h2
    refine ok_cons ?_
    refine ok_for1 (xs := List.range 19) (g := fun k : Nat => .int (-9 + (k : Int))) (fun l2 r σ h'' => (∃ b', σ = [.v (.tup [.int s, .int b]), .o ((l.flatMap gos1 ++ l2.flatMap (gos2 of)).map (clD s b 1)), .v (.int (1 + (of : Int))), b', .un]) ∧ h'' = h') (σ1 := [.v (.tup [.int s, .int b]), .o ((l.flatMap gos1).map (clD s b 1)), .v (.int (1 + (of : Int))), b', .un]) (h1 := h') (by simp [evI, evE, opd, small62, rangeL]) ⟨⟨b', by simp⟩, rfl⟩ ?_ ?_
    · rintro l2 st r2 σ h'' e2 ⟨⟨c, rfl⟩, rfl⟩
      have hst : st < 19 := by
        have : st ∈ List.range 19 := by rw [← e2]; simp
        simpa using this
      have hl2 : (l2.flatMap (gos2 of)).length ≤ 19 * 9 := by
        have h1 := flat_len (f := gos2 of) (k := 9) (l := l2) fun b _ => by rw [gos2_len]; omega
        have h2 : l2.length ≤ 19 := by
          have := congrArg List.length e2
          simp at this
          omega
        calc _ ≤ _ := h1
          _ ≤ _ := Nat.mul_le_mul_right _ h2
      have hcom := clips_row (n := n) (s := s) (b := b) (of := of) (st := st) (h := h'') (X := (l.flatMap gos1 ++ l2.flatMap (gos2 of)).map (clD s b 1)) hof
      refine ok_cons ?_
      have hz : ((l.flatMap gos1 ++ l2.flatMap (gos2 of)).map (clD s b 1)).length + ((gos2 of st).map (clD s b 1)).length ≤ sizeLine := by
        simp only [List.length_map, List.length_append, gos2_len]
        omega
      refine ok_of (σ := [.v (.tup [.int s, .int b]), .o ((l.flatMap gos1 ++ l2.flatMap (gos2 of)).map (clD s b 1) ++ (gos2 of st).map (clD s b 1)), .v (.int (1 + (of : Int))), .v (.int (-9 + (st : Int))), .un]) (h := h'') (a := .nx) ?_ ?_
      · rw [exS]
        simp only [lst_slot, List.getElem?_cons_succ, List.getElem?_cons_zero, contS_o, lsB_l, if_true, List.set_cons_succ, List.set_cons_zero]
        rw [hcom]
        simp only [bind_ok, Rd_o, List.getElem?_cons_succ, List.getElem?_cons_zero]
        rw [if_pos hz]
        rfl
      · simp
    · rintro σ h'' ⟨⟨c, rfl⟩, rfl⟩
      simp [gos1]
  · rintro σ h' ⟨⟨a, b', rfl⟩, rfl⟩
    refine ok_cons ?_
    simp [exS, exB, evE, evA, opd, ← hG, gos]
end Lw

set_option Elab.async false
set_option linter.all false
set_option maxRecDepth 100000
set_option maxHeartbeats 400000
namespace Lw
open PySem PySem.Spec Pm
/-- what a clip shows at its j-th frame -/
def Go.fr (o : Go) (s b : Int) (j : Nat) : Fr := some (s, b + (o.rs + (j : Int) * o.st) / o.of)
def fitB (fs : List Fr) (p : Nat) (s b : Int) (k : Nat) (o : Go) : Bool := (List.range k).all fun j => decide (fs[p + j]? = some (o.fr s b j))
theorem fit_succ {fs : List Fr} {p : Nat} {s b : Int} {k : Nat} {o : Go} : fitB fs p s b (k + 1) o = (fitB fs p s b k o && decide (fs[p + k]? = some (o.fr s b k))) := by
  unfold fitB
  rw [List.range_succ, List.all_append]
  simp
def pick (q : Go → Bool) : Pm.D → Bool
  | .tup [_, _, _, .int st, .int of, .int rs, _] => q ⟨st, of, rs⟩
  | _ => false
theorem pick_cl {q : Go → Bool} {s b l : Int} {o : Go} : pick q (clD s b l o) = q o := rfl
theorem eq_fr {f : Fr} {s x : Int} : eqF F60 (frD f) (.tup [.int s, .int x]) = some (decide (f = some (s, x))) := by
  cases f with
  | none => simp
  | some p =>
    obtain ⟨p1, p2⟩ := p
    rw [frD_some, eqF_tup60, eqL_cc (eqF_int) (eqL_cc eqF_int eqL_nn)]
    congr 1
    rw [Bool.eq_iff_iff]
    simp
theorem deref_fr {f : Fr} {h : List Ob} : derefD h (frD f) = some (frD f) := by cases f <;> rfl
theorem cut7 {a b c d e f g : Pm.D} : cutL [a, b, c, d, e, f, g] none (some (-1)) = [a, b, c, d, e, f] := rfl
def restB : Pm.Ss := .cons (.set 3 (.comf 5 (.var 5) (.seq (.var 3)) (.cmp .eq (.idx (.bor 0) (.bor 2)) (.tup (.cons (.idx (.bor 5) (.con (.int 1))) (.cons (.cal 138 (.cons (.var 5) (.cons (.bin .sub (.bor 2) (.bor 1)) .nil))) .nil))))))
 (.cons (.set 2 (.bin .add (.bor 2) (.con (.int 1))))
 (.cons (.iff (.cmp .ne (.bor 3) (.lst .nil))
 (.cons (.set 4 (.bin .add (.sli (.idx (.bor 3) (.con (.int 0))) .no (.so (.neg (.con (.int 1))))) (.tup (.cons (.bin .sub (.bor 2) (.bor 1)) .nil))))
 .nil)
 .nil)
 .nil))
/-- a list under a name, of its own or not -/
def Hold (L : List Pm.D) (s : Slot) : Prop := s = .v (.lst L) ∨ s = .o L
theorem ne_nil {L : List Pm.D} : eqF F60 (.lst L) (.lst []) = some (decide (L = [])) := by
  cases L <;> simp
theorem tup_ok {n k p : Nat} {s b : Int} {o : Go} {F sl best : Pm.Slot} {h : List Ob} (hcall' : callN T cf (n + 1) 138 [.tup [.str "clip", .int s, .int b, .int o.st, .int o.of, .int o.rs, .int 1], .int (k : Int)] h = .ok (.v (.int (b + (o.rs + (k : Int) * o.st) / o.of))) h) (hs3 : (p : Int) + (k : Int) - (p : Int) = k) :
    evE (callN T cf (n + 1)) cf (.tup (.cons (.idx (.bor 5) (.con (.int 1))) (.cons (.cal 138 (.cons (.var 5) (.cons (.bin .sub (.bor 2) (.bor 1)) .nil))) .nil))) [F, .v (.int p), .v (.int ((p : Int) + (k : Int))), sl, best, .v (.tup [.str "clip", .int s, .int b, .int o.st, .int o.of, .int o.rs, .int 1])] h
     = .ok (.v (.tup [.int s, .int (b + (o.rs + (k : Int) * o.st) / o.of)])) [F, .v (.int p), .v (.int ((p : Int) + (k : Int))), sl, best, .v (.tup [.str "clip", .int s, .int b, .int o.st, .int o.of, .int o.rs, .int 1])] h := by
  simp only [v_tup, a_cons', a_nil', v_idx, o_bor, o_con, v_con, v_cal, v_var, v_bin, List.getElem?_cons_succ, List.getElem?_cons_zero, borR_v, varR_v, bind_ok, cont_s, cont_v, contS_v, deref_int, deref_tup, idxR_s, ix_tup, ixD_1, Option.map_some, retR_some, Rd_v, binR_s, bin_sub, hs3, hcall', ofC_ok]
  exact tupR_2
theorem sieve {n : Nat} {fs : List Fr} {p k : Nat} {s b : Int} {q : Go → Bool} {L : List Go} {sl best c : Slot} {h : List Ob} (hL : ∀ o ∈ L, o.ok) (hz : L.length ≤ 2000) (hs : Hold (L.map (clD s b 1)) sl) (hc : plainSlot (some c) = some c) (hp : p + k < fs.length) :
    ∃ sl', evE (callN T cf (n + 1)) cf (.comf 5 (.var 5) (.seq (.var 3)) (.cmp .eq (.idx (.bor 0) (.bor 2)) (.tup (.cons (.idx (.bor 5) (.con (.int 1))) (.cons (.cal 138 (.cons (.var 5) (.cons (.bin .sub (.bor 2) (.bor 1)) .nil))) .nil)))))
      [.v (.lst (fs.map frD)), .v (.int p), .v (.int ((p + k : Nat) : Int)), sl, best, c] h = .ok (.o ((L.filter fun o => decide (fs[p + k]? = some (o.fr s b k))).map (clD s b 1))) [.v (.lst (fs.map frD)), .v (.int p), .v (.int ((p + k : Nat) : Int)), sl', best, c] h := by
  refine ⟨.v (.lst (L.map (clD s b 1))), ?_⟩
  have hI : evI (callN T cf (n + 1)) cf (.seq (.var 3)) [.v (.lst (fs.map frD)), .v (.int p), .v (.int ((p + k : Nat) : Int)), sl, best, c] h = .ok (L.map (clD s b 1)) [.v (.lst (fs.map frD)), .v (.int p), .v (.int ((p + k : Nat) : Int)), .v (.lst (L.map (clD s b 1))), best, c] h := by
    rcases hs with rfl | rfl <;> simp
  have big : (100000 : Nat) ≤ sizeLine := by decide +kernel
  have hsub : ((p + k : Nat) : Int) - (p : Int) = (k : Int) := by omega
  obtain ⟨f, hf⟩ : ∃ f, fs[p + k]? = some f := ⟨fs[p + k], List.getElem?_eq_getElem hp⟩
  have q2 := comf_map (Γ := callN T cf (n + 1)) (C := cf) (i := 5) (elt := .var 5) (c := (.cmp .eq (.idx (.bor 0) (.bor 2)) (.tup (.cons (.idx (.bor 5) (.con (.int 1))) (.cons (.cal 138 (.cons (.var 5) (.cons (.bin .sub (.bor 2) (.bor 1)) .nil))) .nil))))) (p := pick fun o => decide (fs[p + k]? = some (o.fr s b k))) (g := fun d => d) hI (s := c) (by simpa using hc)
    (by simp; omega) (by
      intro d hd
      obtain ⟨o, ho, rfl⟩ := List.mem_map.mp hd
      have h2 := hL o ho
      obtain ⟨a1, a2, a3, a4, a5, a6⟩ := h2
      have hx : ixD (fs.map frD) ((p : Int) + (k : Int)) = some (frD f) := by
        have e : (p : Int) + (k : Int) = ((p + k : Nat) : Int) := by omega
        rw [e, ixD_nat, List.getElem?_map, hf]
        rfl
      have hcall : ∀ h, callN T cf (n + 1) 138 [clD s b 1 o, .int (k : Int)] h = .ok (.v (.int (b + (o.rs + (k : Int) * o.st) / o.of))) h := fun h => source_frame_ok (by omega) a4 a1 a2
      have hid : ixD [D.str "clip", D.int s, D.int b, D.int o.st, D.int o.of, D.int o.rs, D.int 1] 1 = some (.int s) := rfl
      have e0 : decide (some f = some (o.fr s b k)) = decide (f = some (s, b + (o.rs + (k : Int) * o.st) / o.of)) := by
        rw [decide_eq_decide]
        exact ⟨fun z => Option.some.inj z, fun z => congrArg some z⟩
      rw [pick_cl, hf, e0]
      have hcall' := hcall h
      unfold clD at hcall'
      have hs3 : (p : Int) + (k : Int) - (p : Int) = k := by omega
      have e3 : ((p + k : Nat) : Int) = (p : Int) + (k : Int) := by omega
      rw [e3]
      have i2 := tup_ok (F := .v (.lst (fs.map frD))) (sl := .v (.lst (L.map (clD s b 1)))) (best := best) hcall' hs3
      show evE _ _ _ [.v (.lst (fs.map frD)), .v (.int p), .v (.int ((p : Int) + (k : Int))), .v (.lst (L.map (clD s b 1))), best, .v (clD s b 1 o)] h = _
      rw [v_cmp, o_idx, v_idx]
      simp only [o_tup, o_bor, List.getElem?_cons_succ, List.getElem?_cons_zero, borR_v, bind_ok, cont_s, contS_v, deref_int, deref_lst, idxR_s, ix_lst, hx, Option.map_some, retR_some]
      rw [show clD s b 1 o = .tup [.str "clip", .int s, .int b, .int o.st, .int o.of, .int o.rs, .int 1] from rfl, i2]
      simp only [bind_ok, cont_v, deref_fr, deref_tup, cmpR_s, cmp_eq, eq_fr, retB_some]
      rfl) (fun d hd _ => ⟨.v d, by simp, rfl⟩)
  rw [q2]
  congr 2
  rw [List.filter_map, List.map_id']
  rfl
end Lw

set_option Elab.async false
set_option linter.all false
set_option maxRecDepth 100000
set_option maxHeartbeats 400000
namespace Lw
open PySem PySem.Spec Pm
theorem gos_cons : ∃ g r, gos = g :: r ∧ g.ok := by
  have m : (⟨0, 1, 0⟩ : Go) ∈ gos := gos_ok.mpr (by unfold Go.ok; dsimp only; omega)
  cases e : gos with
  | nil => rw [e] at m; cases m
  | cons g r => exact ⟨g, r, rfl, gos_ok.mp (by rw [e]; exact List.mem_cons_self)⟩
theorem gos_len : gos.length ≤ 2000 := by
  have h1 := flat_len (f := gos1) (k := 171) (l := List.range 9) fun a ha => by
    have ha9 : a < 9 := by simpa using ha
    have := flat_len (f := gos2 a) (k := 9) (l := List.range 19) fun b _ => by rw [gos2_len]; omega
    simpa [gos1] using this
  have : gos.length ≤ 9 * 171 := by simpa [gos] using h1
  omega
theorem ix_fs {fs : List Fr} {p : Nat} {f : Fr} (e : fs[p]? = some f) : ixD (fs.map frD) (p : Int) = some (frD f) := by
  rw [ixD_nat, List.getElem?_map, e]
  rfl
theorem add_cl {s b m : Int} {o : Go} : binop .add (.tup [.str "clip", .int s, .int b, .int o.st, .int o.of, .int o.rs]) (.tup [.int m]) = some (.v (clD s b m o)) := by
  rw [bin_addt (Nat.le_trans (show 6 + 1 ≤ 100 by omega) hundred)]
  rfl
/-- the going of a sieve: what fits k frames -/
def left (fs : List Fr) (p : Nat) (s b : Int) (k : Nat) : List Go := gos.filter (fitB fs p s b k)
theorem left_succ {fs : List Fr} {p : Nat} {s b : Int} {k : Nat} : (left fs p s b k).filter (fun o => decide (fs[p + k]? = some (o.fr s b k))) = left fs p s b (k + 1) := by
  unfold left
  rw [List.filter_filter]
  refine List.filter_congr fun o _ => ?_
  rw [fit_succ, Bool.and_comm]
theorem left_ok {fs : List Fr} {p : Nat} {s b : Int} {k : Nat} {o : Go} : o ∈ left fs p s b k ↔ o.ok ∧ fitB fs p s b k o = true := by
  unfold left
  rw [List.mem_filter, gos_ok]
theorem left_len {fs : List Fr} {p : Nat} {s b : Int} {k : Nat} : (left fs p s b k).length ≤ 2000 := Nat.le_trans (List.length_filter_le _ _) gos_len
theorem fit_one {fs : List Fr} {p : Nat} {s b : Int} {o : Go} (hp : fs[p]? = some (some (s, b))) (ho : o.ok) : fitB fs p s b 1 o = true := by
  obtain ⟨h1, h2, h3, h4, h5, h6⟩ := ho
  unfold fitB
  simp [hp, Go.fr, Int.ediv_eq_zero_of_lt h5 h6]
/-- what the loop holds -/
structure Held (fs : List Fr) (p : Nat) (s b : Int) (k : Nat) (best : Pm.D) : Prop where
  le : p + k ≤ fs.length
  some_ : left fs p s b k ≠ [] → 1 ≤ k → ∃ o ∈ left fs p s b k, best = clD s b k o
  none_ : left fs p s b k = [] → 2 ≤ k ∧ ∃ o ∈ left fs p s b (k - 1), best = clD s b (k - 1 : Nat) o
theorem held_succ {fs : List Fr} {p : Nat} {s b : Int} {k : Nat} {best best' : Pm.D} (hp : fs[p]? = some (some (s, b))) (H : Held fs p s b k best) (hk : p + k < fs.length) (hne : left fs p s b k ≠ [])
    (h1 : left fs p s b (k + 1) = [] → best' = best) (h2 : ∀ o r, left fs p s b (k + 1) = o :: r → best' = clD s b (k + 1 : Nat) o) : Held fs p s b (k + 1) best' where
  le := by omega
  some_ := fun z _ => by
    obtain ⟨o, r, e⟩ := List.exists_cons_of_ne_nil z
    exact ⟨o, by rw [e]; exact List.mem_cons_self, h2 o r e⟩
  none_ := fun z => by
    have k1 : 1 ≤ k := by
      rcases Nat.eq_zero_or_pos k with rfl | q
      · exfalso
        obtain ⟨g, r, e, og⟩ := gos_cons
        have : g ∈ left fs p s b (0 + 1) := left_ok.mpr ⟨og, fit_one hp og⟩
        rw [z] at this
        cases this
      · exact q
    refine ⟨by omega, ?_⟩
    obtain ⟨o, ho, e⟩ := H.some_ hne k1
    exact ⟨o, ho, by rw [h1 z]; exact e⟩
theorem cond_ok {Γ : Calls} {A : List Pm.D} {L : List Go} {s b e p : Int} {sl best c : Pm.Slot} {h : List Ob} (hs : Hold (L.map (clD s b 1)) sl) :
    asB (evE Γ cf (.and (.cmp .ne (.bor 3) (.lst .nil)) (.cmp .lt (.bor 2) (.fn1 .len (.bor 0)))) [.v (.lst A), .v (.int p), .v (.int e), sl, best, c] h) = .ok (!decide (L = []) && decide (e < (A.length : Int))) [.v (.lst A), .v (.int p), .v (.int e), sl, best, c] h := by
  have hm : decide (L.map (clD s b 1) = []) = decide (L = []) := by
    rw [decide_eq_decide]
    exact List.map_eq_nil_iff
  rcases hs with rfl | rfl
  · simp only [v_and, v_cmp, o_bor, o_lst, v_lst, a_nil', lstR_0, List.getElem?_cons_succ, List.getElem?_cons_zero, borR_v, borR_o, bind_ok, cont_s, cont_o, contS_v, contS_o, deref_lst, deref_int, cmpR_s, cmp_ne, ne_nil, hm, Option.map_some, retB_some, asB_ok, o_f1, v_f1, f1R_s, f_len_l, retR_some, cont_v, cmp_lt]
    cases decide (L = []) <;> simp
  · simp only [v_and, v_cmp, o_bor, o_lst, v_lst, a_nil', lstR_0, List.getElem?_cons_succ, List.getElem?_cons_zero, borR_v, borR_o, bind_ok, cont_s, cont_o, contS_v, contS_o, deref_lst, deref_int, cmpR_s, cmp_ne, ne_nil, hm, Option.map_some, retB_some, asB_ok, o_f1, v_f1, f1R_s, f_len_l, retR_some, cont_v, cmp_lt]
    cases decide (L = []) <;> simp
theorem turn_ok {n : Nat} {fs : List Fr} {p k : Nat} {s b : Int} {sl : Pm.Slot} {best : Pm.D} {h : List Ob} {Q : Pm.Flow → List Pm.Slot → List Ob → Prop} (hp : fs[p]? = some (some (s, b))) (hs : Hold ((left fs p s b k).map (clD s b 1)) sl) (H : Held fs p s b k best) (hk : p + k < fs.length) (hne : left fs p s b k ≠ [])
    (hQ : ∀ best' sl', Held fs p s b (k + 1) best' → Hold ((left fs p s b (k + 1)).map (clD s b 1)) sl' → Q .nx [.v (.lst (fs.map frD)), .v (.int p), .v (.int ((p + (k + 1) : Nat) : Int)), sl', .v best', .un] h) :
    Ok (exR (callN T cf (n + 1)) cf restB [.v (.lst (fs.map frD)), .v (.int p), .v (.int ((p + k : Nat) : Int)), sl, .v best, .un] h) Q := by
  obtain ⟨sl1, e1⟩ := sieve (n := n) (q := fun _ => true) (best := .v best) (c := .un) (h := h) (fs := fs) (p := p) (k := k) (L := left fs p s b k) (fun o ho => (left_ok.mp ho).1) left_len hs rfl hk
  rw [left_succ] at e1
  unfold restB
  refine ok_cons ?_
  rw [x_set, e1]
  simp only [bind_ok, Rs_o, List.set_cons_succ, List.set_cons_zero, Ok_ok, goes_nx]
  refine ok_cons ?_
  have e2 : ((p + k : Nat) : Int) + 1 = ((p + (k + 1) : Nat) : Int) := by omega
  simp only [x_set, v_bin, o_bor, o_con, v_con, List.getElem?_cons_succ, List.getElem?_cons_zero, borR_v, bind_ok, cont_s, cont_v, contS_v, deref_int, binR_s, bin_add, retR_some, Rs_v, List.set_cons_succ, List.set_cons_zero, Ok_ok, goes_nx, e2]
  refine ok_cons ?_
  cases hL : left fs p s b (k + 1) with
  | nil =>
    have r := hQ best (.o []) (held_succ hp H hk hne (fun _ => rfl) fun o r z => by rw [hL] at z; cases z) (.inr (by rw [hL]; rfl))
    simp only [x_if, v_cmp, o_bor, o_lst, v_lst, a_nil', lstR_0, List.getElem?_cons_succ, List.getElem?_cons_zero, borR_o, bind_ok, cont_s, cont_o, contS_o, cmpR_s, cmp_ne, ne_nil, Option.map_some, retB_some, asB_ok, List.map_nil, decide_true, Bool.not_true, ifR_f, x_nil, Ok_ok, goes_nx, exR_nil]
    exact r
  | cons o r =>
    have hn2 : decide ((o :: r).map (clD s b 1) = []) = false := by simp
    have e3 : ((p + (k + 1) : Nat) : Int) - (p : Int) = ((k + 1 : Nat) : Int) := by omega
    have r' := hQ (clD s b (k + 1 : Nat) o) (.o ((o :: r).map (clD s b 1))) (held_succ hp H hk hne (fun z => by rw [hL] at z; cases z) fun o' r' z => by rw [hL] at z; cases z; rfl) (.inr (by rw [hL]))
    simp only [x_if, v_cmp, o_bor, o_lst, v_lst, a_nil', lstR_0, List.getElem?_cons_succ, List.getElem?_cons_zero, borR_o, bind_ok, cont_s, cont_o, contS_o, cmpR_s, cmp_ne, ne_nil, hn2, Option.map_some, retB_some, asB_ok, Bool.not_false, ifR_t]
    rw [x_cons, x_set, v_bin, o_sli, v_sli, o_idx, v_idx]
    simp only [o_bor, o_con, v_con, List.getElem?_cons_succ, List.getElem?_cons_zero, borR_o, bind_ok, cont_s, cont_v, contS_o, contS_v, deref_int, idxR_s, ix_lst, List.map_cons, ixD_0, Option.map_some, retR_some, o_no', o_so', v_neg, negR_s, asI_ok]
    rw [show clD s b 1 o = .tup [.str "clip", .int s, .int b, .int o.st, .int o.of, .int o.rs, .int 1] from rfl]
    simp only [deref_tup, sliR_s, sl_tup, cut7, retR_some, bind_ok, o_tup, v_tup, a_cons', a_nil', v_bin, o_bor, List.getElem?_cons_succ, List.getElem?_cons_zero, borR_v, cont_s, contS_v, deref_int, binR_s, bin_sub, e3, Rd_v, tupR_1, cont_v, add_cl, Rs_v, List.set_cons_succ, List.set_cons_zero, nxt_nx, x_nil, Ok_ok, goes_nx, exR_nil]
    exact r'
end Lw

set_option Elab.async false
set_option linter.all false
set_option maxRecDepth 100000
set_option maxHeartbeats 400000
namespace Lw
open PySem PySem.Spec Pm
theorem longest_clip {n : Nat} {fs : List Fr} {p : Nat} {s b : Int} {h : List Ob} (hp : fs[p]? = some (some (s, b))) :
    ∃ (K : Nat) (o : Go), o.ok ∧ 1 ≤ K ∧ p + K ≤ fs.length ∧ fitB fs p s b K o = true ∧ (p + K < fs.length → left fs p s b (K + 1) = []) ∧ callN T cf (n + 2) 116 [.lst (fs.map frD), .int (p : Int)] h = .ok (.v (clD s b K o)) h := by
  have hlt : p < fs.length := (List.getElem?_eq_some_iff.mp hp).1
  have q : OkC (callN T cf (n + 2) 116 [.lst (fs.map frD), .int (p : Int)] h) fun r h' => ∃ (K : Nat) (o : Go), o.ok ∧ 1 ≤ K ∧ p + K ≤ fs.length ∧ fitB fs p s b K o = true ∧ (p + K < fs.length → left fs p s b (K + 1) = []) ∧ r = .v (clD s b K o) ∧ h' = h := by
    rw [call_longest_at, b_longest_at]
    refine ok_run rfl (ok_cons ?_)
    simp only [List.map_cons, List.map_nil, List.cons_append, List.nil_append, List.replicate_succ, List.replicate_zero, Nat.reduceSub]
    simp only [x_set, v_var, List.getElem?_cons_succ, List.getElem?_cons_zero, varR_v, bind_ok, Rs_v, List.set_cons_succ, List.set_cons_zero, Ok_ok, goes_nx]
    refine ok_cons ?_
    simp only [x_if, v_cmp, o_idx, v_idx, o_bor, o_con, v_con, List.getElem?_cons_succ, List.getElem?_cons_zero, borR_v, bind_ok, cont_s, cont_v, contS_v, deref_lst, deref_int, idxR_s, ix_lst, ix_fs hp, Option.map_some, retR_some, frD_some, deref_tup, deref_non, cmpR_s, cmp_isn, isNon_tup, retB_some, asB_ok, ifR_f, x_nil, Ok_ok, goes_nx]
    refine ok_cons ?_
    simp only [x_set, v_cal, a_cons', a_nil', v_idx, o_bor, List.getElem?_cons_succ, List.getElem?_cons_zero, borR_v, bind_ok, cont_s, contS_v, deref_lst, deref_int, idxR_s, ix_lst, ix_fs hp, Option.map_some, retR_some, frD_some, Rd_v, clips_at_ok, ofC_ok, Rs_v, List.set_cons_succ, List.set_cons_zero, Ok_ok, goes_nx]
    obtain ⟨g, gr, eg, og⟩ := gos_cons
    refine ok_cons ?_
    have hix : ixD (gos.map (clD s b 1)) 0 = some (clD s b 1 g) := by rw [eg]; rfl
    have hdr : ∀ h, derefD h (.lst (gos.map (clD s b 1))) = some (.lst (gos.map (clD s b 1))) := fun _ => rfl
    simp only [x_set, v_idx, o_bor, o_con, v_con, List.getElem?_cons_succ, List.getElem?_cons_zero, borR_v, bind_ok, cont_s, cont_v, contS_v, hdr, deref_int, idxR_s, ix_lst, hix, Option.map_some, retR_some, Rs_v, List.set_cons_succ, List.set_cons_zero, Ok_ok, goes_nx]
    refine ok_cons ?_
    have l0 : left fs p s b 0 = gos := by
      unfold left
      rw [List.filter_eq_self]
      intro o _
      rfl
    refine ok_whl (fun m σ h' => ∃ k best sl, m = fs.length - (p + k) ∧ Held fs p s b k best ∧ Hold ((left fs p s b k).map (clD s b 1)) sl ∧ h' = h ∧ σ = [.v (.lst (fs.map frD)), .v (.int (p : Int)), .v (.int ((p + k : Nat) : Int)), sl, .v best, .un]) ?_ (fs.length - p) ?_
    · rintro m σ h' ⟨k, best, sl, rfl, H, hs, rfl, rfl⟩
      rw [cond_ok hs]
      simp only [Ok_ok]
      by_cases hne : left fs p s b k = []
      · -- nothing is left
        rw [if_neg (by simp [hne])]
        simp only [goes_nx]
        refine ok_cons ?_
        simp only [x_ret, v_var, List.getElem?_cons_succ, List.getElem?_cons_zero, varR_v, bind_ok, Ok_ok, goes_rt, ends_rt]
        obtain ⟨k2, o, ho, e⟩ := H.none_ hne
        have hle := H.le
        obtain ⟨o1, o2⟩ := left_ok.mp ho
        refine ⟨k - 1, o, o1, by omega, by omega, o2, fun _ => ?_, by rw [e], trivial⟩
        rw [show k - 1 + 1 = k by omega]
        exact hne
      · by_cases hk : p + k < fs.length
        · rw [if_pos (by
            have : ((p + k : Nat) : Int) < ((fs.map frD).length : Int) := by rw [List.length_map]; omega
            rw [Bool.and_eq_true]
            exact ⟨by rw [Bool.not_eq_true']; exact decide_eq_false hne, decide_eq_true this⟩)]
          refine turn_ok hp hs H hk hne fun best' sl' H' hs' => ?_
          exact ⟨fs.length - (p + (k + 1)), by omega, k + 1, best', sl', rfl, H', hs', rfl, rfl⟩
        · rw [if_neg (by
            have : ¬ ((p + k : Nat) : Int) < ((fs.map frD).length : Int) := by rw [List.length_map]; omega
            rw [decide_eq_false this, Bool.and_false]
            exact Bool.false_ne_true)]
          simp only [goes_nx]
          refine ok_cons ?_
          simp only [x_ret, v_var, List.getElem?_cons_succ, List.getElem?_cons_zero, varR_v, bind_ok, Ok_ok, goes_rt, ends_rt]
          have hle := H.le
          obtain ⟨o, ho, e⟩ := H.some_ hne (by omega)
          obtain ⟨o1, o2⟩ := left_ok.mp ho
          exact ⟨k, o, o1, by omega, by omega, o2, fun z => absurd z hk, by rw [e], trivial⟩
    · refine ⟨0, clD s b 1 g, .v (.lst (gos.map (clD s b 1))), rfl, ⟨by omega, fun _ z => absurd z (by omega), fun z => ?_⟩, .inl (by rw [l0]), rfl, rfl⟩
      rw [l0, eg] at z
      cases z
  obtain ⟨r, h', e, K, o, h1, h2, h3, h4, h5, rfl, rfl⟩ := okC_ex q
  exact ⟨K, o, h1, h2, h3, h4, h5, e⟩
end Lw

set_option Elab.async false
set_option linter.all false
set_option maxRecDepth 100000
set_option maxHeartbeats 400000
namespace Lw
open PySem PySem.Spec Pm
theorem isNon_fr {f : Fr} : isNon (frD f) = decide (f = none) := by cases f <;> rfl
theorem longest_gap {n : Nat} {fs : List Fr} {p : Nat} {h : List Ob} (hp : fs[p]? = some none) :
    ∃ K : Nat, 1 ≤ K ∧ p + K ≤ fs.length ∧ (∀ j < K, fs[p + j]? = some none) ∧ (p + K < fs.length → fs[p + K]? ≠ some none) ∧ callN T cf (n + 2) 116 [.lst (fs.map frD), .int (p : Int)] h = .ok (.v (.tup [.str "gap", .int (K : Int)])) h := by
  have hlt : p < fs.length := (List.getElem?_eq_some_iff.mp hp).1
  have q : OkC (callN T cf (n + 2) 116 [.lst (fs.map frD), .int (p : Int)] h) fun r h' => ∃ K : Nat, 1 ≤ K ∧ p + K ≤ fs.length ∧ (∀ j < K, fs[p + j]? = some none) ∧ (p + K < fs.length → fs[p + K]? ≠ some none) ∧ r = .v (.tup [.str "gap", .int (K : Int)]) ∧ h' = h := by
    rw [call_longest_at, b_longest_at]
    refine ok_run rfl (ok_cons ?_)
    simp only [List.map_cons, List.map_nil, List.cons_append, List.nil_append, List.replicate_succ, List.replicate_zero, Nat.reduceSub]
    simp only [x_set, v_var, List.getElem?_cons_succ, List.getElem?_cons_zero, varR_v, bind_ok, Rs_v, List.set_cons_succ, List.set_cons_zero, Ok_ok, goes_nx]
    refine ok_cons ?_
    rw [exS]
    refine ok_bind ?_
    simp only [v_cmp, o_idx, v_idx, o_bor, o_con, v_con, List.getElem?_cons_succ, List.getElem?_cons_zero, borR_v, bind_ok, cont_s, cont_v, contS_v, deref_lst, deref_int, idxR_s, ix_lst, ix_fs hp, Option.map_some, retR_some, frD_none, deref_non, cmpR_s, cmp_isn, isNon_non, retB_some, asB_ok, Ok_ok, if_true]
    show Ok (exR _ _ _ _ _) _
    refine ok_cons ?_
    refine ok_whl (fun m σ h' => ∃ k, m = fs.length - (p + k) ∧ p + k ≤ fs.length ∧ (∀ j < k, fs[p + j]? = some none) ∧ h' = h ∧ σ = [.v (.lst (fs.map frD)), .v (.int (p : Int)), .v (.int ((p + k : Nat) : Int)), .un, .un, .un]) ?_ (fs.length - p) ⟨0, rfl, by omega, fun j hj => absurd hj (by omega), rfl, rfl⟩
    rintro m σ h' ⟨k, rfl, hk, hj, rfl, rfl⟩
    by_cases hl : p + k < fs.length
    · have hl' : decide (((p + k : Nat) : Int) < ((fs.map frD).length : Int)) = true := by
        rw [List.length_map]
        exact decide_eq_true (by omega)
      obtain ⟨f, hf⟩ : ∃ f, fs[p + k]? = some f := ⟨fs[p + k], List.getElem?_eq_getElem hl⟩
      simp only [v_and, v_cmp, o_bor, o_f1, v_f1, o_idx, v_idx, o_con, v_con, List.getElem?_cons_succ, List.getElem?_cons_zero, borR_v, bind_ok, cont_s, cont_v, contS_v, deref_lst, deref_int, deref_non, f1R_s, f_len_l, idxR_s, ix_lst, ix_fs hf, Option.map_some, retR_some, deref_fr, cmpR_s, cmp_lt, cmp_isn, isNon_fr, retB_some, asB_ok, hl', ifR_t, Ok_ok]
      by_cases hn : f = none
      · rw [if_pos (decide_eq_true hn)]
        subst hn
        refine ok_cons ?_
        have e2 : ((p + k : Nat) : Int) + 1 = ((p + (k + 1) : Nat) : Int) := by omega
        simp only [x_set, v_bin, o_bor, o_con, v_con, List.getElem?_cons_succ, List.getElem?_cons_zero, borR_v, bind_ok, cont_s, cont_v, contS_v, deref_int, binR_s, bin_add, retR_some, Rs_v, List.set_cons_succ, List.set_cons_zero, Ok_ok, goes_nx, e2, exR_nil, turn_nx]
        refine ⟨fs.length - (p + (k + 1)), by omega, k + 1, rfl, by omega, fun j hj2 => ?_, trivial, rfl⟩
        by_cases e : j = k
        · rw [e]; exact hf
        · exact hj j (by omega)
      · rw [if_neg (by rw [decide_eq_false hn]; exact Bool.false_ne_true)]
        simp only [goes_nx]
        refine ok_cons ?_
        have e3 : ((p + k : Nat) : Int) - (p : Int) = (k : Int) := by omega
        simp only [x_ret, v_tup, a_cons', a_nil', v_glo, v_bin, o_bor, List.getElem?_cons_succ, List.getElem?_cons_zero, borR_v, bind_ok, cont_s, contS_v, deref_int, binR_s, bin_sub, e3, retR_some, Rd_v, tupR_2, Ok_ok, goes_rt]
        have k1 : 1 ≤ k := by
          rcases Nat.eq_zero_or_pos k with rfl | z
          · rw [Nat.add_zero, hp] at hf
            cases hf
            exact absurd rfl hn
          · exact z
        exact ⟨k, k1, hk, hj, fun _ z => hn (Option.some.inj (hf.symm.trans z)), rfl, rfl⟩
    · have hl' : decide (((p + k : Nat) : Int) < ((fs.map frD).length : Int)) = false := by
        rw [List.length_map]
        exact decide_eq_false (by omega)
      simp only [v_and, v_cmp, o_bor, o_f1, v_f1, List.getElem?_cons_succ, List.getElem?_cons_zero, borR_v, bind_ok, cont_s, cont_v, contS_v, deref_lst, deref_int, f1R_s, f_len_l, retR_some, cmpR_s, cmp_lt, retB_some, asB_ok, hl', ifR_f, Ok_ok]
      rw [if_neg Bool.false_ne_true]
      simp only [goes_nx]
      refine ok_cons ?_
      have e3 : ((p + k : Nat) : Int) - (p : Int) = (k : Int) := by omega
      simp only [x_ret, v_tup, a_cons', a_nil', v_glo, v_bin, o_bor, List.getElem?_cons_succ, List.getElem?_cons_zero, borR_v, bind_ok, cont_s, contS_v, deref_int, binR_s, bin_sub, e3, retR_some, Rd_v, tupR_2, Ok_ok, goes_rt]
      exact ⟨k, by omega, hk, hj, fun z => absurd z hl, rfl, rfl⟩
  obtain ⟨r, h', e, K, h1, h2, h3, h4, rfl, rfl⟩ := okC_ex q
  exact ⟨K, h1, h2, h3, h4, e⟩
end Lw

set_option Elab.async false
set_option linter.all false
set_option maxRecDepth 100000
set_option maxHeartbeats 400000
namespace Lw
open PySem PySem.Spec Pm
/-! ### pieces, rows that one piece shows -/
inductive Pc where
  | gap (K : Nat)
  | clip (s b : Int) (o : Go) (K : Nat)
def Pc.D : Pc → Pm.D
  | .gap K => .tup [.str "gap", .int (K : Int)]
  | .clip s b o K => clD s b K o
def Pc.len : Pc → Nat
  | .gap K => K
  | .clip _ _ _ K => K
def Pc.ok : Pc → Prop
  | .gap K => 1 ≤ K
  | .clip _ _ o K => 1 ≤ K ∧ o.ok
def Pc.fr : Pc → Nat → Fr
  | .gap _, _ => none
  | .clip s b o _, j => o.fr s b j
def Pc.frs (p : Pc) : List Fr := (List.range p.len).map p.fr
def Seg (l : List Fr) : Prop := ∃ p : Pc, p.ok ∧ p.frs = l
theorem Pc.frs_len {p : Pc} : p.frs.length = p.len := by simp [Pc.frs]
theorem Pc.frs_get {p : Pc} {j : Nat} (h : j < p.len) : p.frs[j]? = some (p.fr j) := by simp [Pc.frs, h]
theorem Pc.one {p : Pc} (h : p.ok) : 1 ≤ p.len := by
  cases p with
  | gap K => exact h
  | clip s b o K => exact h.1
/-- at the place q of fs stands p, as far as one goes -/
structure Mx (fs : List Fr) (q : Nat) (p : Pc) : Prop where
  ok : p.ok
  le : q + p.len ≤ fs.length
  sh : ∀ j < p.len, fs[q + j]? = some (p.fr j)
  mx : ∀ f, fs[q + p.len]? = some f → ¬ Seg (p.frs ++ [f])
theorem seg_get {p p' : Pc} {f : Fr} (e : p'.frs = p.frs ++ [f]) : p'.len = p.len + 1 ∧ (∀ j < p.len, p'.fr j = p.fr j) ∧ p'.fr p.len = f := by
  have hl : p'.len = p.len + 1 := by
    have := congrArg List.length e
    simpa [Pc.frs_len] using this
  refine ⟨hl, fun j hj => ?_, ?_⟩
  · have h1 := Pc.frs_get (p := p') (j := j) (by omega)
    rw [e, List.getElem?_append_left (by rw [Pc.frs_len]; exact hj), Pc.frs_get hj] at h1
    exact (Option.some.inj h1).symm
  · have h1 := Pc.frs_get (p := p') (j := p.len) (by omega)
    rw [e, List.getElem?_append_right (by rw [Pc.frs_len]; exact Nat.le_refl _), Pc.frs_len, Nat.sub_self] at h1
    exact (Option.some.inj h1).symm
theorem longest_at_ok {n : Nat} {fs : List Fr} {q : Nat} {h : List Ob} (hq : q < fs.length) : ∃ p : Pc, Mx fs q p ∧ callN T cf (n + 2) 116 [.lst (fs.map frD), .int (q : Int)] h = .ok (.v p.D) h := by
  obtain ⟨f, hf⟩ : ∃ f, fs[q]? = some f := ⟨fs[q], List.getElem?_eq_getElem hq⟩
  cases f with
  | none =>
    obtain ⟨K, h1, h2, h3, h4, e⟩ := longest_gap (n := n) (h := h) hf
    refine ⟨.gap K, ⟨h1, h2, fun j hj => h3 j hj, fun f hf' ⟨p', ok', e'⟩ => ?_⟩, e⟩
    obtain ⟨s1, s2, s3⟩ := seg_get e'
    have hlt : q + K < fs.length := (List.getElem?_eq_some_iff.mp hf').1
    cases p' with
    | gap K' =>
      have : f = none := s3.symm
      exact h4 hlt (by rw [← this]; exact hf')
    | clip s b o K' =>
      have := s2 0 h1
      cases this
  | some sb =>
    obtain ⟨s, b⟩ := sb
    obtain ⟨K, o, h1, h2, h3, h4, h5, e⟩ := longest_clip (n := n) (h := h) hf
    have h4' : ∀ j < K, fs[q + j]? = some (o.fr s b j) := fun j hj => by
      unfold fitB at h4
      rw [List.all_eq_true] at h4
      exact of_decide_eq_true (h4 j (List.mem_range.mpr hj))
    refine ⟨.clip s b o K, ⟨⟨h2, h1⟩, h3, h4', fun f hf' ⟨p', ok', e'⟩ => ?_⟩, e⟩
    obtain ⟨s1, s2, s3⟩ := seg_get e'
    have hlt : q + K < fs.length := (List.getElem?_eq_some_iff.mp hf').1
    have z0 : fs[q]? = some (p'.fr 0) := by
      have := h4' 0 h2
      rw [Nat.add_zero] at this
      rw [this]
      exact congrArg some (s2 0 h2).symm
    cases p' with
    | gap K' =>
      rw [hf] at z0
      cases z0
    | clip s' b' o' K' =>
      obtain ⟨ok1, ok2⟩ := ok'
      have z1 : some (s, b) = o'.fr s' b' 0 := Option.some.inj (hf.symm.trans z0)
      have z2 : o'.fr s' b' 0 = some (s', b') := by
        obtain ⟨a1, a2, a3, a4, a5, a6⟩ := ok2
        unfold Go.fr
        rw [Int.natCast_zero, Int.zero_mul, Int.add_zero, Int.ediv_eq_zero_of_lt a5 a6, Int.add_zero]
      rw [z2] at z1
      cases z1
      have mem : o' ∈ left fs q s b (K + 1) := left_ok.mpr ⟨ok2, by
        unfold fitB
        rw [List.all_eq_true]
        intro j hj
        have hj' := List.mem_range.mp hj
        refine decide_eq_true ?_
        by_cases e2 : j = K
        · rw [e2]
          exact hf'.trans (congrArg some s3.symm)
        · have hj2 : j < K := by omega
          rw [h4' j hj2]
          exact congrArg some (s2 j hj2).symm⟩
      rw [h5 hlt] at mem
      cases mem
end Lw

set_option Elab.async false
set_option linter.all false
set_option maxRecDepth 100000
set_option maxHeartbeats 400000
namespace Lw
open PySem PySem.Spec Pm
/-- pieces behind one another, each as long as it can be -/
def Ch (fs : List Fr) : Nat → List Pc → Nat → Prop
  | q, [], e => q = e
  | q, p :: r, e => Mx fs q p ∧ Ch fs (q + p.len) r e
theorem Ch.snoc {fs : List Fr} : ∀ {l : List Pc} {q e : Nat} {p : Pc}, Ch fs q l e → Mx fs e p → Ch fs q (l ++ [p]) (e + p.len)
  | [], q, e, p, h, m => by
    have h : q = e := h
    subst h
    exact ⟨m, rfl⟩
  | a :: l, q, e, p, h, m => ⟨h.1, Ch.snoc h.2 m⟩
theorem Ch.le {fs : List Fr} : ∀ {l : List Pc} {q e : Nat}, Ch fs q l e → q + l.length ≤ e
  | [], q, e, h => Nat.le_of_eq h
  | p :: l, q, e, h => by
    have := Ch.le h.2
    have := Pc.one h.1.ok
    rw [List.length_cons]
    omega
theorem last_D {p : Pc} : index p.D (.int (-1)) = some (.int (p.len : Int)) := by cases p <;> rfl
theorem deref_D {p : Pc} {h : List Ob} : derefD h p.D = some p.D := by cases p <;> rfl
theorem fewest_ok {n : Nat} {ss : List Int} {fs : List Fr} {h : List Ob} (h0 : ss ≠ []) (h1 : ss.length ≤ 6) (h2 : ∀ x ∈ ss, 1 ≤ x ∧ x ≤ 999) (h3 : fs.length ≤ 60) (h4 : ∀ f ∈ fs, FrOk ss f) :
    ∃ ps : List Pc, Ch fs 0 ps fs.length ∧ callN T cf (n + 4) 98 [.tup (ss.map D.int), .lst (fs.map frD)] h = .ok (.v (.tup (ps.map Pc.D))) h := by
  have q : OkC (callN T cf (n + 4) 98 [.tup (ss.map D.int), .lst (fs.map frD)] h) fun r h' => ∃ ps : List Pc, Ch fs 0 ps fs.length ∧ r = .v (.tup (ps.map Pc.D)) ∧ h' = h := by
    rw [call_fewest, b_fewest]
    refine ok_run rfl (ok_cons ?_)
    simp only [List.map_cons, List.map_nil, List.cons_append, List.nil_append, List.replicate_succ, List.replicate_zero, Nat.reduceSub]
    simp only [x_ex, v_cal, a_cons', a_nil', v_var, List.getElem?_cons_succ, List.getElem?_cons_zero, varR_v, bind_ok, Rd_v, need_frames_ok h0 h1 h2 h3 h4, ofC_ok, Ok_ok, goes_nx]
    refine ok_cons ?_
    simp only [x_set, v_tup, a_nil', tupR_0, bind_ok, Rs_v, List.set_cons_succ, List.set_cons_zero, Ok_ok, goes_nx]
    refine ok_cons ?_
    simp only [x_set, v_con, bind_ok, Rs_v, List.set_cons_succ, List.set_cons_zero, Ok_ok, goes_nx]
    refine ok_cons ?_
    refine ok_whl (fun m σ h' => ∃ ps q c, m = fs.length - q ∧ Ch fs 0 ps q ∧ q ≤ fs.length ∧ h' = h ∧ σ = [.v (.tup (ss.map D.int)), .v (.lst (fs.map frD)), .v (.tup (ps.map Pc.D)), .v (.int (q : Int)), c]) ?_ fs.length ⟨[], 0, .un, rfl, rfl, by omega, rfl, rfl⟩
    rintro m σ h' ⟨ps, q, c, rfl, hc, hq, rfl, rfl⟩
    by_cases hl : q < fs.length
    · have hl' : decide ((q : Int) < ((fs.map frD).length : Int)) = true := by
        rw [List.length_map]
        exact decide_eq_true (by omega)
      simp only [v_cmp, o_bor, o_f1, v_f1, List.getElem?_cons_succ, List.getElem?_cons_zero, borR_v, bind_ok, cont_s, cont_v, contS_v, deref_lst, deref_int, f1R_s, f_len_l, retR_some, cmpR_s, cmp_lt, retB_some, asB_ok, hl', Ok_ok, if_true]
      obtain ⟨p, mx, ep⟩ := longest_at_ok (n := n + 1) (h := h') hl
      refine ok_cons ?_
      simp only [x_set, v_cal, a_cons', a_nil', v_var, List.getElem?_cons_succ, List.getElem?_cons_zero, varR_v, bind_ok, Rd_v, ep, ofC_ok, Rs_v, List.set_cons_succ, List.set_cons_zero, Ok_ok, goes_nx]
      refine ok_cons ?_
      have hz : (ps.map Pc.D).length + [p.D].length ≤ sizeLine := by
        have := hc.le
        have := hundred
        simp only [List.length_map, List.length_cons, List.length_nil]
        omega
      simp only [x_set, v_bin, o_bor, o_tup, v_tup, a_cons', a_nil', v_var, List.getElem?_cons_succ, List.getElem?_cons_zero, borR_v, varR_v, bind_ok, Rd_v, tupR_1, cont_s, cont_v, contS_v, deref_tup, binR_s, bin_addt hz, retR_some, Rs_v, List.set_cons_succ, List.set_cons_zero, Ok_ok, goes_nx]
      refine ok_cons ?_
      have e2 : (q : Int) + (p.len : Int) = ((q + p.len : Nat) : Int) := by omega
      simp only [x_set, v_bin, o_bor, o_idx, v_idx, o_neg, v_neg, v_con, negR_s, List.getElem?_cons_succ, List.getElem?_cons_zero, borR_v, bind_ok, cont_s, cont_v, contS_v, deref_D, deref_int, idxR_s, last_D, Option.map_some, retR_some, binR_s, bin_add, e2, Rs_v, List.set_cons_succ, List.set_cons_zero, Ok_ok, goes_nx, exR_nil, turn_nx]
      have p1 := Pc.one mx.ok
      have := mx.le
      refine ⟨fs.length - (q + p.len), by omega, ps ++ [p], q + p.len, .v p.D, rfl, hc.snoc mx, mx.le, trivial, ?_⟩
      rw [List.map_append]
      rfl
    · have e : q = fs.length := by omega
      have hl' : decide ((q : Int) < ((fs.map frD).length : Int)) = false := by
        rw [List.length_map]
        exact decide_eq_false (by omega)
      simp only [v_cmp, o_bor, o_f1, v_f1, List.getElem?_cons_succ, List.getElem?_cons_zero, borR_v, bind_ok, cont_s, cont_v, contS_v, deref_lst, deref_int, f1R_s, f_len_l, retR_some, cmpR_s, cmp_lt, retB_some, asB_ok, hl', Ok_ok]
      rw [if_neg Bool.false_ne_true]
      simp only [goes_nx]
      refine ok_cons ?_
      simp only [x_ret, v_var, List.getElem?_cons_succ, List.getElem?_cons_zero, varR_v, bind_ok, Ok_ok, goes_rt, ends_rt]
      exact ⟨ps, by rw [← e]; exact hc, rfl, trivial⟩
  obtain ⟨r, h', e, ps, k1, rfl, rfl⟩ := okC_ex q
  exact ⟨ps, k1, e⟩
end Lw

set_option Elab.async false
set_option linter.all false
set_option maxRecDepth 100000
set_option maxHeartbeats 400000
namespace Lw
open PySem PySem.Spec Pm
theorem frs_ext {p : Pc} {l : List Fr} (hl : l.length = p.len) (h : ∀ j < p.len, l[j]? = some (p.fr j)) : p.frs = l := by
  refine List.ext_getElem? fun j => ?_
  by_cases hj : j < p.len
  · rw [Pc.frs_get hj, h j hj]
  · rw [List.getElem?_eq_none (by rw [Pc.frs_len]; omega), List.getElem?_eq_none (by omega)]
def Pc.cut (p : Pc) (k : Nat) : Pc := match p with
  | .gap _ => .gap k
  | .clip s b o _ => .clip s b o k
theorem seg_take {l : List Fr} {k : Nat} (h : Seg l) (hk : 1 ≤ k) (hk2 : k ≤ l.length) : Seg (l.take k) := by
  obtain ⟨p, ok, rfl⟩ := h
  rw [Pc.frs_len] at hk2
  have hl : (p.cut k).len = k := by cases p <;> rfl
  have hf : ∀ j, (p.cut k).fr j = p.fr j := by cases p <;> intro j <;> rfl
  refine ⟨p.cut k, ?_, frs_ext (by rw [List.length_take, Pc.frs_len, hl]; omega) fun j hj => ?_⟩
  · cases p with
    | gap K => exact hk
    | clip s b o K => exact ⟨hk, ok.2⟩
  · rw [hl] at hj
    rw [List.getElem?_take_of_lt hj, Pc.frs_get (by omega), hf]
/-- the going from the k-th frame on -/
def Go.on (o : Go) (k : Nat) : Go := ⟨o.st, o.of, (o.rs + (k : Int) * o.st) % o.of⟩
theorem Go.on_ok {o : Go} (h : o.ok) (k : Nat) : (o.on k).ok := by
  obtain ⟨a1, a2, a3, a4, a5, a6⟩ := h
  exact ⟨a1, a2, a3, a4, Int.emod_nonneg _ (by omega), Int.emod_lt_of_pos _ (by omega)⟩
theorem go_div {a q r d : Int} (hq : 0 < q) : (a + d) / q = a / q + (a % q + d) / q := by
  have h : a + d = (a % q + d) + q * (a / q) := by
    have := Int.mul_ediv_add_emod a q
    omega
  rw [h, Int.add_mul_ediv_left _ _ (by omega)]
  omega
theorem Go.on_fr {o : Go} (h : o.ok) {s b : Int} (k j : Nat) : (o.on k).fr s (b + (o.rs + (k : Int) * o.st) / o.of) j = o.fr s b (k + j) := by
  obtain ⟨a1, a2, a3, a4, a5, a6⟩ := h
  unfold Go.fr Go.on
  have e : o.rs + ((k + j : Nat) : Int) * o.st = (o.rs + (k : Int) * o.st) + (j : Int) * o.st := by
    rw [Int.natCast_add, Int.add_mul]
    omega
  rw [e, go_div (a := o.rs + (k : Int) * o.st) (r := 0) (show 0 < o.of by omega)]
  congr 2
  exact Int.add_assoc _ _ _
theorem seg_drop {l : List Fr} {k : Nat} (h : Seg l) (hk : k < l.length) : Seg (l.drop k) := by
  obtain ⟨p, ok, rfl⟩ := h
  rw [Pc.frs_len] at hk
  cases p with
  | gap K =>
    refine ⟨.gap (K - k), by show 1 ≤ K - k; have : k < K := hk; omega, frs_ext (by rw [List.length_drop, Pc.frs_len]; rfl) fun j hj => ?_⟩
    have hj : j < K - k := hj
    rw [List.getElem?_drop, Pc.frs_get (show k + j < K by omega)]
    rfl
  | clip s b o K =>
    have hk' : k < K := hk
    refine ⟨.clip s (b + (o.rs + (k : Int) * o.st) / o.of) (o.on k) (K - k), ⟨by omega, Go.on_ok ok.2 k⟩, frs_ext (by rw [List.length_drop, Pc.frs_len]; rfl) fun j hj => ?_⟩
    have hj : j < K - k := hj
    rw [List.getElem?_drop, Pc.frs_get (show k + j < K by omega)]
    exact congrArg some (Go.on_fr ok.2 k j).symm
/-- the going turned round, from the last of K frames -/
def Go.rev (o : Go) (K : Nat) : Go := ⟨-o.st, o.of, (o.rs + ((K - 1 : Nat) : Int) * o.st) % o.of⟩
theorem Go.rev_ok {o : Go} (h : o.ok) (K : Nat) : (o.rev K).ok := by
  obtain ⟨a1, a2, a3, a4, a5, a6⟩ := h
  refine ⟨?_, ?_, a3, a4, Int.emod_nonneg _ (by omega), Int.emod_lt_of_pos _ (by omega)⟩
  · show -9 ≤ -o.st
    omega
  · show -o.st ≤ 9
    omega
theorem Go.rev_fr {o : Go} (h : o.ok) {s b : Int} {K j : Nat} (hj : j < K) : (o.rev K).fr s (b + (o.rs + ((K - 1 : Nat) : Int) * o.st) / o.of) j = o.fr s b (K - 1 - j) := by
  obtain ⟨a1, a2, a3, a4, a5, a6⟩ := h
  unfold Go.fr Go.rev
  have e : o.rs + ((K - 1 - j : Nat) : Int) * o.st = (o.rs + ((K - 1 : Nat) : Int) * o.st) + (j : Int) * (-o.st) := by
    have : ((K - 1 : Nat) : Int) = ((K - 1 - j : Nat) : Int) + (j : Int) := by omega
    rw [this, Int.add_mul, Int.mul_neg]
    omega
  rw [e, go_div (a := o.rs + ((K - 1 : Nat) : Int) * o.st) (r := 0) (show 0 < o.of by omega)]
  congr 2
  exact Int.add_assoc _ _ _
theorem seg_rev {l : List Fr} (h : Seg l) : Seg l.reverse := by
  obtain ⟨p, ok, rfl⟩ := h
  cases p with
  | gap K =>
    refine ⟨.gap K, ok, frs_ext (by rw [List.length_reverse, Pc.frs_len]) fun j hj => ?_⟩
    have hj : j < K := hj
    rw [List.getElem?_reverse (by rw [Pc.frs_len]; exact hj), Pc.frs_len, Pc.frs_get (show K - 1 - j < K by omega)]
    rfl
  | clip s b o K =>
    refine ⟨.clip s (b + (o.rs + ((K - 1 : Nat) : Int) * o.st) / o.of) (o.rev K) K, ⟨ok.1, Go.rev_ok ok.2 K⟩, frs_ext (by rw [List.length_reverse, Pc.frs_len]; rfl) fun j hj => ?_⟩
    have hj : j < K := hj
    rw [List.getElem?_reverse (by rw [Pc.frs_len]; exact hj), Pc.frs_len, Pc.frs_get (show K - 1 - j < K by omega)]
    exact congrArg some (Go.rev_fr ok.2 hj).symm
end Lw

set_option Elab.async false
set_option linter.all false
set_option maxRecDepth 100000
set_option maxHeartbeats 400000
namespace Lw
open PySem PySem.Spec Pm
/-- n pieces show l -/
inductive Cov : Nat → List Fr → Prop
  | nil : Cov 0 []
  | cons {n : Nat} {x l : List Fr} : Seg x → Cov n l → Cov (n + 1) (x ++ l)
theorem seg_ne {l : List Fr} (h : Seg l) : 1 ≤ l.length := by
  obtain ⟨p, ok, rfl⟩ := h
  rw [Pc.frs_len]
  exact Pc.one ok
/-- any end of a row needs no more -/
theorem cov_drop {n : Nat} {l : List Fr} (h : Cov n l) : ∀ k, ∃ m, m ≤ n ∧ Cov m (l.drop k) := by
  induction h with
  | nil => intro k; exact ⟨0, Nat.le_refl _, by rw [List.drop_nil]; exact .nil⟩
  | @cons n x l hx hl ih =>
    intro k
    by_cases hk : k < x.length
    · refine ⟨n + 1, Nat.le_refl _, ?_⟩
      rw [List.drop_append_of_le_length (Nat.le_of_lt hk)]
      exact .cons (seg_drop hx hk) hl
    · obtain ⟨m, hm, c⟩ := ih (k - x.length)
      refine ⟨m, by omega, ?_⟩
      rw [List.drop_append, List.drop_eq_nil_of_le (by omega), List.nil_append]
      exact c
theorem cov_nil {n : Nat} {l : List Fr} (h : Cov n l) (hl : l ≠ []) : 1 ≤ n := by
  cases h with
  | nil => exact absurd rfl hl
  | cons _ _ => omega
/-- the row from a place on, told by its pieces: as few as can be -/
theorem ch_least {fs : List Fr} : ∀ {ps : List Pc} {q m : Nat}, Ch fs q ps fs.length → Cov m (fs.drop q) → ps.length ≤ m
  | [], q, m, h, c => Nat.zero_le _
  | p :: r, q, m, h, c => by
    have hp := Pc.one h.1.ok
    have hle := h.1.le
    cases hc : fs.drop q with
    | nil =>
      have := congrArg List.length hc
      rw [List.length_drop, List.length_nil] at this
      omega
    | cons f F =>
      rw [hc] at c
      generalize hL : f :: F = L at c
      cases c with
      | nil => cases hL
      | @cons n x l hx hl =>
        -- the first piece is no longer than p
        have hxl : x.length ≤ p.len := by
          refine Nat.le_of_not_lt fun z => ?_
          have hs := seg_take hx (show 1 ≤ p.len + 1 by omega) (by omega)
          have hd : fs.drop q = x ++ l := hc.trans hL
          have get : ∀ j < x.length, fs[q + j]? = x[j]? := fun j hj => by
            rw [← List.getElem?_drop, hd, List.getElem?_append_left hj]
          have e : x.take (p.len + 1) = p.frs ++ [x[p.len]] := by
            rw [List.take_succ_eq_append_getElem z]
            congr 1
            refine (frs_ext (by rw [List.length_take]; omega) fun j hj => ?_).symm
            rw [List.getElem?_take_of_lt hj, ← get j (by omega), h.1.sh j hj]
          rw [e] at hs
          exact h.1.mx x[p.len] (by rw [get p.len z, List.getElem?_eq_getElem z]) hs
        have hd : fs.drop q = x ++ l := hc.trans hL
        obtain ⟨m', hm, c'⟩ := cov_drop hl (p.len - x.length)
        have e2 : l.drop (p.len - x.length) = fs.drop (q + p.len) := by
          rw [← List.drop_drop, hd, List.drop_append, List.drop_eq_nil_of_le hxl, List.nil_append]
        rw [e2] at c'
        have := ch_least h.2 c'
        rw [List.length_cons]
        omega
/-- they show the row -/
theorem ch_cov {fs : List Fr} : ∀ {ps : List Pc} {q : Nat}, Ch fs q ps fs.length → Cov ps.length (fs.drop q)
  | [], q, h => by
    have h : q = fs.length := h
    rw [h, List.drop_length]
    exact .nil
  | p :: r, q, h => by
    have c := ch_cov h.2
    have hle := h.1.le
    have e : fs.drop q = p.frs ++ fs.drop (q + p.len) := by
      rw [← List.drop_drop]
      conv => lhs; rw [← List.take_append_drop p.len (fs.drop q)]
      congr 1
      refine (frs_ext (by rw [List.length_take, List.length_drop]; omega) fun j hj => ?_).symm
      rw [List.getElem?_take_of_lt hj, List.getElem?_drop, h.1.sh j hj]
    rw [e]
    exact .cons ⟨p, h.1.ok, rfl⟩ c
end Lw

set_option Elab.async false
set_option linter.all false
set_option maxRecDepth 100000
set_option maxHeartbeats 400000
namespace Lw
open PySem PySem.Spec Pm
theorem cov_app {n m : Nat} {l k : List Fr} (h : Cov n l) (c : Cov m k) : Cov (n + m) (l ++ k) := by
  induction h with
  | nil => rw [Nat.zero_add]; exact c
  | @cons n x l hx hl ih =>
    rw [List.append_assoc, show n + 1 + m = (n + m) + 1 by omega]
    exact .cons hx ih
theorem cov_one {x : List Fr} (h : Seg x) : Cov 1 x := by
  have := Cov.cons h .nil
  rw [List.append_nil] at this
  exact this
theorem cov_rev {n : Nat} {l : List Fr} (h : Cov n l) : Cov n l.reverse := by
  induction h with
  | nil => exact .nil
  | @cons n x l hx hl ih =>
    rw [List.reverse_append]
    exact cov_app ih (cov_one (seg_rev hx))
/-- a row cut: one piece more at most -/
theorem cov_split {n : Nat} {l : List Fr} (h : Cov n l) : ∀ k, ∃ a b, a ≤ n ∧ b ≤ n ∧ a + b ≤ n + 1 ∧ Cov a (l.take k) ∧ Cov b (l.drop k) := by
  induction h with
  | nil => intro k; exact ⟨0, 0, by omega, by omega, by omega, by rw [List.take_nil]; exact .nil, by rw [List.drop_nil]; exact .nil⟩
  | @cons n x l hx hl ih =>
    intro k
    by_cases hk0 : k = 0
    · subst hk0
      exact ⟨0, n + 1, by omega, by omega, by omega, .nil, .cons hx hl⟩
    · by_cases hk : k < x.length
      · refine ⟨1, n + 1, by omega, by omega, by omega, ?_, ?_⟩
        · rw [List.take_append_of_le_length (by omega)]
          exact cov_one (seg_take hx (by omega) (by omega))
        · rw [List.drop_append_of_le_length (by omega)]
          exact .cons (seg_drop hx hk) hl
      · obtain ⟨a, b, h1, h2, h3, c1, c2⟩ := ih (k - x.length)
        refine ⟨a + 1, b, by omega, by omega, by omega, ?_, ?_⟩
        · rw [List.take_append, List.take_of_length_le (by omega)]
          exact .cons hx c1
        · rw [List.drop_append, List.drop_eq_nil_of_le (by omega), List.nil_append]
          exact c2
theorem seg_same {s b : Int} {n : Nat} (hn : 1 ≤ n) : Seg (List.replicate n (some (s, b))) := by
  refine ⟨.clip s b ⟨0, 1, 0⟩ n, ⟨hn, by unfold Go.ok; dsimp only; omega⟩, frs_ext (by rw [List.length_replicate]; rfl) fun j hj => ?_⟩
  have hj : j < n := hj
  rw [List.getElem?_replicate, if_pos hj]
  show _ = some (Go.fr ⟨0, 1, 0⟩ s b j)
  unfold Go.fr
  simp
end Lw

set_option Elab.async false
set_option linter.all false
set_option maxRecDepth 100000
set_option maxHeartbeats 400000
namespace Lw
open PySem PySem.Spec Pm
theorem alike_non {n : Nat} {h : List Ob} : callN T cf (n + 1) 26 [.non, .non] h = .ok (.v (.bl true)) h := by
  rw [call__law_alike, b__law_alike]
  simp [runF]
theorem alike_int {n : Nat} {i : Int} {h : List Ob} : callN T cf (n + 1) 26 [.int i, .int i] h = .ok (.v (.bl true)) h := by
  rw [call__law_alike, b__law_alike]
  simp [runF]
theorem small_nat {n : Nat} (h : n ≤ 1000) : small62 (n : Int) = true := by
  unfold small62
  rw [Bool.and_eq_true]
  exact ⟨decide_eq_true (by omega), decide_eq_true (by omega)⟩
theorem bools_true : ∀ {l : List Pm.D}, (∀ d ∈ l, d = .bl true) → boolsD l = some (List.replicate l.length true)
  | [], _ => rfl
  | d :: l, h => by
    rw [h d List.mem_cons_self, boolsD, bools_true fun d hd => h d (List.mem_cons_of_mem _ hd)]
    rfl
/-- rows alike, part by part -/
theorem alike_all {n : Nat} {xs : List Pm.D} {A B : Pm.D} {h : List Ob} (hA : A = .lst xs ∨ A = .tup xs) (hl : xs.length ≤ 1000) (hx : ∀ x ∈ xs, ∀ h, callN T cf (n + 1) 26 [x, x] h = .ok (.v (.bl true)) h) :
    evE (callN T cf (n + 1)) cf (.fn1 .all (.com 2 (.cal 26 (.cons (.idx (.bor 0) (.bor 2)) (.cons (.idx (.bor 1) (.bor 2)) .nil))) (.rng1 (.fn1 .len (.bor 1))))) [.v A, .v A, .un] h = .ok (.v (.bl true)) [.v A, .v A, .un] h := by
  have hlen : f1R .len (derefD h A) [.v A, .v A, .un] h = .ok (.v (.int (xs.length : Int))) [.v A, .v A, .un] h := by rcases hA with rfl | rfl <;> rfl
  have hI : evI (callN T cf (n + 1)) cf (.rng1 (.fn1 .len (.bor 1))) [.v A, .v A, .un] h = .ok (rangeL 0 (xs.length : Int)) [.v A, .v A, .un] h := evI_rng1 (by
    simp only [v_f1, o_bor, List.getElem?_cons_succ, List.getElem?_cons_zero, borR_v, bind_ok, cont_s, contS_v]
    exact hlen) (small_nat hl)
  have q := com_map (Γ := callN T cf (n + 1)) (C := cf) (i := 2) (elt := .cal 26 (.cons (.idx (.bor 0) (.bor 2)) (.cons (.idx (.bor 1) (.bor 2)) .nil))) (g := fun _ => .bl true) hI (s := .un) rfl (by
    have := hundred
    have : (1000 : Nat) ≤ sizeLine := by decide +kernel
    simp only [rangeL, List.length_map, List.length_range]
    omega) (by
    intro d hd
    simp only [rangeL, List.mem_map, List.mem_range] at hd
    obtain ⟨k, hk, rfl⟩ := hd
    have hk : k < xs.length := by omega
    obtain ⟨x, ex⟩ : ∃ x, xs[k]? = some x := ⟨xs[k], List.getElem?_eq_getElem hk⟩
    have hix : ∀ σ h, idxR (derefD h A) (some (.int (0 + (k : Int)))) σ h = .ok (.v x) σ h := fun σ h => by
      rw [Int.zero_add]
      rcases hA with rfl | rfl
      · rw [deref_lst, idxR_s, ix_lst, ixD_nat, ex]; rfl
      · rw [deref_tup, idxR_s, ix_tup, ixD_nat, ex]; rfl
    refine ⟨.v (.bl true), ?_, rfl⟩
    simp only [List.set_cons_succ, List.set_cons_zero, v_cal, a_cons', a_nil', v_idx, o_bor, List.getElem?_cons_succ, List.getElem?_cons_zero, borR_v, bind_ok, cont_s, contS_v, deref_int, hix, Rd_v, hx x (List.mem_of_getElem? ex), ofC_ok])
  rw [v_f1, o_com, q]
  simp only [bind_ok, cont_o, f1R_s, f_all]
  rw [bools_true fun d hd => by
    obtain ⟨_, _, rfl⟩ := List.mem_map.mp hd
    rfl]
  simp
end Lw

set_option Elab.async false
set_option linter.all false
set_option maxRecDepth 100000
set_option maxHeartbeats 400000
namespace Lw
open PySem PySem.Spec Pm
theorem alike_tup {n : Nat} {xs : List Pm.D} {h : List Ob} (hl : xs.length ≤ 1000) (hx : ∀ x ∈ xs, ∀ h, callN T cf (n + 1) 26 [x, x] h = .ok (.v (.bl true)) h) : callN T cf (n + 2) 26 [.tup xs, .tup xs] h = .ok (.v (.bl true)) h := by
  have e := alike_all (n := n) (A := .tup xs) (B := .non) (h := h) (.inr rfl) hl hx
  rw [call__law_alike, b__law_alike]
  refine okC_eq (ok_run rfl (ok_cons ?_))
  simp
  refine ok_cons ?_
  simp
  refine ok_cons ?_
  simp
  refine ok_cons ?_
  simp
  refine ok_cons ?_
  simp
  refine ok_cons ?_
  simp
  refine ok_cons ?_
  rw [x_ret, e]
  simp
theorem alike_lst {n : Nat} {xs : List Pm.D} {h : List Ob} (hl : xs.length ≤ 1000) (hx : ∀ x ∈ xs, ∀ h, callN T cf (n + 1) 26 [x, x] h = .ok (.v (.bl true)) h) : callN T cf (n + 2) 26 [.lst xs, .lst xs] h = .ok (.v (.bl true)) h := by
  have e := alike_all (n := n) (A := .lst xs) (B := .non) (h := h) (.inl rfl) hl hx
  rw [call__law_alike, b__law_alike]
  refine okC_eq (ok_run rfl (ok_cons ?_))
  simp
  refine ok_cons ?_
  simp
  refine ok_cons ?_
  simp
  refine ok_cons ?_
  simp
  refine ok_cons ?_
  simp
  refine ok_cons ?_
  simp
  refine ok_cons ?_
  rw [x_ret, e]
  simp
theorem alike_frs {n : Nat} {fs : List Fr} {h : List Ob} (hl : fs.length ≤ 1000) : callN T cf (n + 3) 26 [.lst (fs.map frD), .lst (fs.map frD)] h = .ok (.v (.bl true)) h := by
  refine alike_lst (by rw [List.length_map]; exact hl) fun x hx h => ?_
  obtain ⟨f, hf, rfl⟩ := List.mem_map.mp hx
  cases f with
  | none => exact alike_non
  | some p =>
    rw [frD_some]
    refine alike_tup (show 2 ≤ 1000 by omega) fun x hx h => ?_
    rcases List.mem_cons.mp hx with rfl | hx
    · exact alike_int
    · rcases List.mem_cons.mp hx with rfl | hx
      · exact alike_int
      · cases hx
end Lw

set_option Elab.async false
set_option linter.all false
set_option maxRecDepth 100000
set_option maxHeartbeats 400000
namespace Lw
open PySem PySem.Spec Pm
theorem long_ok {n : Nat} {p : Pc} {h : List Ob} : callN T cf (n + 1) 62 [p.D] h = .ok (.v (.int (p.len : Int))) h := by
  have g : decide (("gap" : Str) = "lead") = false := by decide
  have c : decide (("clip" : Str) = "lead") = false := by decide
  have hl := last_D (p := p)
  rw [call__law_long, b__law_long]
  refine okC_eq (ok_run rfl (ok_cons ?_))
  cases p with
  | gap K =>
    unfold Pc.D at hl ⊢
    simp [hl, g]
  | clip s b o K =>
    unfold Pc.D clD at hl ⊢
    simp [hl, c]
def total (ps : List Pc) : Nat := (ps.map Pc.len).sum
theorem sum_len {ps : List Pc} : (ps.map fun p => (p.len : Int)).sum = (total ps : Int) := by
  induction ps with
  | nil => rfl
  | cons p r ih =>
    rw [List.map_cons, List.sum_cons, ih]
    unfold total
    rw [List.map_cons, List.sum_cons]
    omega
theorem size_ok {n : Nat} {ps : List Pc} {h : List Ob} (hl : ps.length ≤ 1000) : callN T cf (n + 2) 84 [.tup (ps.map Pc.D)] h = .ok (.v (.int (total ps : Int))) h := by
  rw [call__law_size, b__law_size]
  refine okC_eq (ok_run rfl (ok_cons ?_))
  have big : (1000 : Nat) ≤ sizeLine := by decide +kernel
  have q := com_map (Γ := callN T cf (n + 1)) (C := cf) (i := 1) (elt := .cal 62 (.cons (.var 1) .nil)) (it := .seq (.var 0)) (σz := [.v (.tup (ps.map Pc.D)), .un]) (hz0 := h) (σ := [.v (.tup (ps.map Pc.D)), .un]) (h := h) (ds := ps.map Pc.D) (s := .un)
    (g := fun d => match index d (.int (-1)) with | some z => z | none => .non) (by simp) rfl (by rw [List.length_map]; omega) (by
    intro d hd
    obtain ⟨p, hp, rfl⟩ := List.mem_map.mp hd
    refine ⟨.v (.int (p.len : Int)), by simp [long_ok], ?_⟩
    rw [last_D]
    rfl)
  have e : (ps.map Pc.D).map (fun d => match index d (.int (-1)) with | some z => z | none => .non) = (ps.map fun p => (p.len : Int)).map D.int := by
    rw [List.map_map, List.map_map]
    refine List.map_congr_left fun p _ => ?_
    show (match index p.D (.int (-1)) with | some z => z | none => .non) = _
    rw [last_D]
    rfl
  rw [e] at q
  simp only [List.map_cons, List.map_nil, List.cons_append, List.nil_append, List.replicate_succ, List.replicate_zero, Nat.reduceSub]
  simp only [x_ret, v_f1, o_com, q, bind_ok, cont_o, f1R_s, f_sum, ints_map, Option.map_some, retR_some, sum_len, Ok_ok, goes_rt, ends_rt]
  exact ⟨trivial, trivial⟩
end Lw

set_option Elab.async false
set_option linter.all false
set_option maxRecDepth 100000
set_option maxHeartbeats 400000
namespace Lw
open PySem PySem.Spec Pm
theorem fr_ok {p : Pc} (hp : p.ok) {n : Nat} {F : Pm.D} {j : Nat} {h : List Ob} : callN T cf (n + 1) 72 [F, p.D, .int (j : Int)] h = .ok (.v (frD (p.fr j))) h := by
  rw [call__law_piece_shows, b__law_piece_shows]
  have c : decide (("clip" : Str) = "clip") = true := by decide
  have g : decide (("gap" : Str) = "clip") = false := by decide
  have g2 : decide (("gap" : Str) = "list") = false := by decide
  have g3 : decide (("gap" : Str) = "gap") = true := by decide
  refine okC_eq (ok_run rfl (ok_cons ?_))
  simp only [List.map_cons, List.map_nil, List.cons_append, List.nil_append, List.replicate_succ, List.replicate_zero, Nat.reduceSub]
  cases p with
  | gap K =>
    unfold Pc.D
    simp only [x_if, v_cmp, o_idx, v_idx, o_bor, o_con, v_con, List.getElem?_cons_succ, List.getElem?_cons_zero, borR_v, bind_ok, cont_s, cont_v, contS_v, deref_tup, deref_int, deref_str, idxR_s, ix_tup, ixD_0, Option.map_some, retR_some, cmpR_s, cmp_eq, eqF_str, g, retB_some, asB_ok, ifR_f, x_nil, Ok_ok, goes_nx]
    refine ok_cons ?_
    simp only [x_if, v_cmp, o_idx, v_idx, o_bor, o_con, v_con, List.getElem?_cons_succ, List.getElem?_cons_zero, borR_v, bind_ok, cont_s, cont_v, contS_v, deref_tup, deref_int, deref_str, idxR_s, ix_tup, ixD_0, Option.map_some, retR_some, cmpR_s, cmp_eq, eqF_str, g2, retB_some, asB_ok, ifR_f, x_nil, Ok_ok, goes_nx]
    refine ok_cons ?_
    simp only [x_if, v_cmp, o_idx, v_idx, o_bor, o_con, v_con, List.getElem?_cons_succ, List.getElem?_cons_zero, borR_v, bind_ok, cont_s, cont_v, contS_v, deref_tup, deref_int, deref_str, idxR_s, ix_tup, ixD_0, Option.map_some, retR_some, cmpR_s, cmp_eq, eqF_str, g3, retB_some, asB_ok, ifR_t, x_cons, x_ret, nxt_rt, Ok_ok, goes_rt, ends_rt]
    exact ⟨rfl, rfl⟩
  | clip s b o K =>
    obtain ⟨a1, a2, a3, a4, a5, a6⟩ := hp.2
    have hm : binop .mul (.int (j : Int)) (.int o.st) = some (.v (.int ((j : Int) * o.st))) := bin_mulr (by unfold two64; omega) (by unfold two64; omega)
    have h4 : 0 < o.of := by omega
    have h5 : o.of < 1073741824 := by omega
    have hb : ∀ {x0 x1 x2 x3 x4 x5 x6 x7 x8 x9 x10 x11 : Pm.Slot} {d0 d1 d2 d3 d4 d5 d6 : Pm.D}, bindS [5, 6, 7, 8, 9, 10, 11] [d0, d1, d2, d3, d4, d5, d6] [x0, x1, x2, x3, x4, x5, x6, x7, x8, x9, x10, x11] = some [x0, x1, x2, x3, x4, .v d0, .v d1, .v d2, .v d3, .v d4, .v d5, .v d6] := rfl
    unfold Pc.D clD
    simp only [x_if, v_cmp, o_idx, v_idx, o_bor, o_con, v_con, List.getElem?_cons_succ, List.getElem?_cons_zero, borR_v, bind_ok, cont_s, cont_v, contS_v, deref_tup, deref_int, deref_str, idxR_s, ix_tup, ixD_0, Option.map_some, retR_some, cmpR_s, cmp_eq, eqF_str, c, retB_some, asB_ok, ifR_t]
    rw [x_cons, x_setT]
    simp only [v_var, List.getElem?_cons_succ, List.getElem?_cons_zero, varR_v, bind_ok, setTR_t hb, nxt_nx]
    rw [x_cons, x_ret]
    simp only [v_tup, a_cons', a_nil', v_var, v_bin, o_bin, o_bor, List.getElem?_cons_succ, List.getElem?_cons_zero, borR_v, varR_v, bind_ok, cont_s, cont_v, contS_v, deref_int, hm, binR_s, bin_add, bin_fdiv h4 h5, retR_some, Rd_v, tupR_2, nxt_rt, Ok_ok, goes_rt, ends_rt]
    refine ⟨?_, rfl⟩
    unfold Pc.fr Go.fr
    rw [frD_some]
def flat (ps : List Pc) : List Fr := ps.flatMap Pc.frs
theorem layer_ok {n : Nat} {F : Pm.D} {ps : List Pc} (hps : ∀ p ∈ ps, p.ok) {a : Nat} {f : Fr} (hf : (flat ps)[a]? = some f) {h : List Ob} : callN T cf (n + 2) 59 [F, .tup (ps.map Pc.D), .int (a : Int)] h = .ok (.v (frD f)) h := by
  rw [call__law_layer_shows, b__law_layer_shows]
  refine okC_eq (ok_run rfl (ok_cons ?_))
  simp only [List.map_cons, List.map_nil, List.cons_append, List.nil_append, List.replicate_succ, List.replicate_zero, Nat.reduceSub]
  refine ok_for1 (xs := ps) (g := Pc.D) (fun l r σ h' => ∃ (a : Nat) (c : Pm.Slot), (flat r)[a]? = some f ∧ h' = h ∧ σ = [.v F, .v (.tup (ps.map Pc.D)), .v (.int (a : Int)), c]) (σ1 := [.v F, .v (.tup (ps.map Pc.D)), .v (.int (a : Int)), .un]) (h1 := h) (by simp) ⟨a, .un, hf, rfl, rfl⟩ ?_ ?_
  · rintro l p r σ h' e ⟨a, c, ha, rfl, rfl⟩
    have hp : p ∈ ps := by rw [← e]; simp
    refine ok_cons ?_
    by_cases hl : a < p.len
    · have hl' : decide ((a : Int) < (p.len : Int)) = true := decide_eq_true (by omega)
      have ef : p.fr a = f := by
        unfold flat at ha
        rw [List.flatMap_cons, List.getElem?_append_left (by rw [Pc.frs_len]; exact hl), Pc.frs_get hl] at ha
        exact Option.some.inj ha
      simp only [List.set_cons_succ, List.set_cons_zero, x_if, v_cmp, o_bor, o_cal, v_cal, a_cons', a_nil', v_var, List.getElem?_cons_succ, List.getElem?_cons_zero, borR_v, varR_v, bind_ok, Rd_v, long_ok, ofC_ok, cont_s, cont_v, contS_v, deref_int, cmpR_s, cmp_lt, hl', retB_some, asB_ok, ifR_t, x_cons, x_ret, fr_ok (hps p hp), ef, nxt_rt, Ok_ok, goes_rt, turn_rt, ends_rt]
      exact ⟨trivial, trivial⟩
    · have hl' : decide ((a : Int) < (p.len : Int)) = false := decide_eq_false (by omega)
      simp only [List.set_cons_succ, List.set_cons_zero, x_if, v_cmp, o_bor, o_cal, v_cal, a_cons', a_nil', v_var, List.getElem?_cons_succ, List.getElem?_cons_zero, borR_v, varR_v, bind_ok, Rd_v, long_ok, ofC_ok, cont_s, cont_v, contS_v, deref_int, cmpR_s, cmp_lt, hl', retB_some, asB_ok, ifR_f, x_nil, Ok_ok, goes_nx]
      refine ok_cons ?_
      have e2 : (a : Int) - (p.len : Int) = ((a - p.len : Nat) : Int) := by omega
      simp only [List.set_cons_succ, List.set_cons_zero, x_set, v_bin, o_bor, o_cal, v_cal, a_cons', a_nil', v_var, List.getElem?_cons_succ, List.getElem?_cons_zero, borR_v, varR_v, bind_ok, Rd_v, long_ok, ofC_ok, cont_s, cont_v, contS_v, deref_int, binR_s, bin_sub, e2, retR_some, Rs_v, Ok_ok, goes_nx, exR_nil, turn_nx]
      refine ⟨a - p.len, _, ?_, trivial, rfl⟩
      unfold flat at ha ⊢
      rw [List.flatMap_cons, List.getElem?_append_right (by rw [Pc.frs_len]; omega), Pc.frs_len] at ha
      exact ha
  · rintro σ h' ⟨a, c, ha, _, _⟩
    simp [flat] at ha
theorem flat_len' {ps : List Pc} : (flat ps).length = total ps := by
  unfold flat total
  rw [List.length_flatMap]
  congr 1
  exact List.map_congr_left fun p _ => Pc.frs_len
end Lw

set_option Elab.async false
set_option linter.all false
set_option maxRecDepth 100000
set_option maxHeartbeats 4000000
/-! The pure machine: what a run comes to, exceptions too. -/
namespace Pm
open PySem PySem.Spec
abbrev XP : Type := Nat → D → List Slot → List Ob → Prop
abbrev XC : Type := Nat → D → List Ob → Prop
def X0 : XP := fun _ _ _ _ => False
def C0 : XC := fun _ _ _ => False
def WpM {α : Type} (m : Res α) (Q : α → List Slot → List Ob → Prop) (E : XP) : Prop :=
  match m with
  | .ok a σ h => Q a σ h
  | .exc c p σ h => E c p σ h
  | .stuck => False
/-- what is not to be looked into -/
inductive Shut {T : Type} (f : T) : Type where
  | mk
structure Wp {α : Type} (m : Res α) (Q : α → List Slot → List Ob → Prop) (E : XP) (t : Shut Q := .mk) (u : Shut E := .mk) : Prop where
  out : WpM m Q E
def WpCM (m : CRes) (P : R → List Ob → Prop) (X : XC) : Prop :=
  match m with
  | .ok r h => P r h
  | .exc c p h => X c p h
  | .stuck => False
structure WpC (m : CRes) (P : R → List Ob → Prop) (X : XC) (t : Shut P := .mk) (u : Shut X := .mk) : Prop where
  out : WpCM m P X
def Res.bd {α β : Type} (m : Res α) (f : α → List Slot → List Ob → Res β) (_ : Shut f := .mk) : Res β := m.bind f
def ifT {α : Type} (k : Bool) (m n : Res α) (_ : Shut m := .mk) (_ : Shut n := .mk) : Res α := ifR k m n
section
variable {α β : Type} {Γ : Calls} {C : Cf} {σ σ1 : List Slot} {h h1 : List Ob} {d : D} {xs : List D} {i j : Nat} {e a b c : E} {es : Es} {r : R} {m n : Res α} {Q Q' : α → List Slot → List Ob → Prop} {E E' : XP} {cr : CRes} {P P' : R → List Ob → Prop} {X X' : XC} {k : Bool}
theorem wp_ok {a : α} : Wp (.ok a σ h) Q E ↔ Q a σ h := ⟨fun q => q.out, fun q => ⟨q⟩⟩
theorem wp_exc {c : Nat} {p : D} : Wp (α := α) (.exc c p σ h) Q E ↔ E c p σ h := ⟨fun q => q.out, fun q => ⟨q⟩⟩
theorem wpC_ok : WpC (.ok r h) P X ↔ P r h := ⟨fun q => q.out, fun q => ⟨q⟩⟩
theorem wpC_exc {c : Nat} {p : D} : WpC (.exc c p h) P X ↔ X c p h := ⟨fun q => q.out, fun q => ⟨q⟩⟩
theorem to_bd {f : α → List Slot → List Ob → Res β} : m.bind f = m.bd f := rfl
theorem to_ifT : ifR k m n = ifT k m n := rfl
theorem bd_ok {a : α} {f : α → List Slot → List Ob → Res β} : (Res.ok a σ h).bd f = f a σ h := id rfl
theorem ifT_t : ifT true m n = m := id rfl
theorem ifT_f : ifT false m n = n := id rfl
theorem bd_exc {c : Nat} {p : D} {f : α → List Slot → List Ob → Res β} : (Res.exc c p σ h).bd f = .exc c p σ h := id rfl
theorem ofC_exc {c : Nat} {p : D} : ofC (.exc c p h) σ = .exc c p σ h := id rfl
theorem bind_bind {γ : Type} {f : α → List Slot → List Ob → Res β} {g : β → List Slot → List Ob → Res γ} : (m.bind f).bind g = m.bind fun a σ h => (f a σ h).bind g := by cases m <;> rfl
theorem bd_bd {γ : Type} {f : α → List Slot → List Ob → Res β} {g : β → List Slot → List Ob → Res γ} : (m.bd f).bd g = m.bd fun a σ h => (f a σ h).bd g := bind_bind
theorem wp_bind {f : α → List Slot → List Ob → Res β} {Q : β → List Slot → List Ob → Prop} : Wp (m.bind f) Q E ↔ Wp m (fun a σ h => Wp (f a σ h) Q E) E := by
  cases m with
  | ok a σ h => exact ⟨fun q => ⟨q⟩, fun q => q.out⟩
  | exc c p σ h => exact ⟨fun q => ⟨q.out⟩, fun q => ⟨q.out⟩⟩
  | stuck => exact ⟨fun q => q.out.elim, fun q => q.out.elim⟩
theorem wp_mono (q : Wp m Q E) (f : ∀ a σ h, Q a σ h → Q' a σ h) (g : ∀ c p σ h, E c p σ h → E' c p σ h) : Wp m Q' E' := by
  cases m with
  | ok a σ h => exact ⟨f _ _ _ q.out⟩
  | exc c p σ h => exact ⟨g _ _ _ _ q.out⟩
  | stuck => exact q.out.elim
theorem wpC_mono (q : WpC cr P X) (f : ∀ r h, P r h → P' r h) (g : ∀ c p h, X c p h → X' c p h) : WpC cr P' X' := by
  cases cr with
  | ok a h => exact ⟨f _ _ q.out⟩
  | exc c p h => exact ⟨g _ _ _ q.out⟩
  | stuck => exact q.out.elim
/-- a call, by its promise -/
theorem wp_call {F : R → List Slot → List Ob → Res β} {Q : β → List Slot → List Ob → Prop} (q : WpC cr P X) (f : ∀ r h', P r h' → Wp (F r σ h') Q E) (g : ∀ c p h', X c p h' → E c p σ h') : Wp ((ofC cr σ).bd F) Q E := by
  cases cr with
  | ok a h => exact f _ _ q.out
  | exc c p h => exact ⟨g _ _ _ q.out⟩
  | stuck => exact q.out.elim
/-- .. that lets nothing out -/
theorem wp_call0 {F : R → List Slot → List Ob → Res β} {Q : β → List Slot → List Ob → Prop} (q : WpC cr P C0) (f : ∀ r h', P r h' → Wp (F r σ h') Q E) : Wp ((ofC cr σ).bd F) Q E := wp_call q f fun _ _ _ z => z.elim
theorem wp_ofC {Q : R → List Slot → List Ob → Prop} : Wp (ofC cr σ) Q E ↔ Wp ((ofC cr σ).bd fun r σ h => .ok r σ h) Q E := by
  cases cr <;> exact ⟨fun q => ⟨q.out⟩, fun q => ⟨q.out⟩⟩
/-- of a promise an equation -/
theorem wpC_ex (q : WpC cr P C0) : ∃ r h, cr = .ok r h ∧ P r h := by
  cases cr with
  | ok a h => exact ⟨a, h, rfl, q.out⟩
  | exc c p h => exact q.out.elim
  | stuck => exact q.out.elim
theorem wpC_eq {r : R} (q : WpC cr (fun r' h' => r' = r ∧ h' = h) C0) : cr = .ok r h := by
  obtain ⟨r', h', e, rfl, rfl⟩ := wpC_ex q
  exact e
theorem wpC_of {r : R} (e : cr = .ok r h) (q : P r h) : WpC cr P X := by
  rw [e]
  exact ⟨q⟩
theorem wp_of {a : α} (e : m = .ok a σ h) (q : Q a σ h) : Wp m Q E := by
  rw [e]
  exact ⟨q⟩
theorem wp_ex (q : Wp m Q X0) : ∃ a σ h, m = .ok a σ h ∧ Q a σ h := by
  cases m with
  | ok a σ h => exact ⟨a, σ, h, rfl, q.out⟩
  | exc c p σ h => exact q.out.elim
  | stuck => exact q.out.elim
/-! what is looked at, pushed behind what is done ahead -/
theorem asB_bd {f : α → List Slot → List Ob → Res R} : asB (m.bd f) = m.bd fun a σ h => asB (f a σ h) := by unfold asB; exact bind_bind
theorem asB_ofC : asB (ofC cr σ) = (ofC cr σ).bd fun r σ h => asB (.ok r σ h) := by cases cr <;> rfl
theorem asB_if {m n : Res R} : asB (ifT k m n) = ifT k (asB m) (asB n) := by cases k <;> rfl
theorem asI_bd {f : α → List Slot → List Ob → Res R} : asI (m.bd f) = m.bd fun a σ h => asI (f a σ h) := by unfold asI; exact bind_bind
theorem asI_ofC : asI (ofC cr σ) = (ofC cr σ).bd fun r σ h => asI (.ok r σ h) := by cases cr <;> rfl
theorem tupR_bd {f : α → List Slot → List Ob → Res (List D)} : tupR (m.bd f) = m.bd fun a σ h => tupR (f a σ h) := by unfold tupR; exact bind_bind
theorem lstR_bd {f : α → List Slot → List Ob → Res (List D)} : lstR (m.bd f) = m.bd fun a σ h => lstR (f a σ h) := by unfold lstR; exact bind_bind
theorem if_bind {f : α → List Slot → List Ob → Res β} : (ifT k m n).bd f = ifT k (m.bd f) (n.bd f) := by cases k <;> rfl
theorem wp_if (f : k = true → Wp m Q E) (g : k = false → Wp n Q E) : Wp (ifT k m n) Q E := by
  cases k with
  | true => exact f rfl
  | false => exact g rfl
theorem chn_le {K : List Slot → List Ob → Res R} {i j : Int} : chnR .le K (some (.int i)) (some (.int j)) σ h = ifT (decide (i ≤ j)) (K σ h) (.ok (.v (.bl false)) σ h) := chnR_s rfl
theorem chn_lt {K : List Slot → List Ob → Res R} {i j : Int} : chnR .lt K (some (.int i)) (some (.int j)) σ h = ifT (decide (i < j)) (K σ h) (.ok (.v (.bl false)) σ h) := chnR_s rfl
/-! statements -/
def GoesW (Γ : Calls) (C : Cf) (r : Ss) (Q : Flow → List Slot → List Ob → Prop) (E : XP) : Flow → List Slot → List Ob → Prop
  | .nx, σ, h => Wp (exR Γ C r σ h) Q E
  | fl, σ, h => Q fl σ h
variable {QF : Flow → List Slot → List Ob → Prop} {u v : Ss} {s : S}
theorem gw_nx : GoesW Γ C u QF E .nx σ h ↔ Wp (exR Γ C u σ h) QF E := Iff.rfl
theorem gw_rt : GoesW Γ C u QF E (.rt r) σ h ↔ QF (.rt r) σ h := Iff.rfl
theorem gw_bk : GoesW Γ C u QF E .bk σ h ↔ QF .bk σ h := Iff.rfl
theorem gw_ct : GoesW Γ C u QF E .ct σ h ↔ QF .ct σ h := Iff.rfl
theorem wx_cons : Wp (exR Γ C (.cons s u) σ h) QF E ↔ Wp (exS Γ C s σ h) (GoesW Γ C u QF E) E := by
  unfold exR
  rw [exB]
  rw [wp_bind]
  constructor <;> refine fun q => wp_mono q (fun fl σ h z => ?_) fun _ _ _ _ z => z
  · cases fl with
    | nx => exact z
    | bk => exact z.out
    | ct => exact z.out
    | rt v => exact z.out
  · cases fl with
    | nx => exact z
    | bk => exact ⟨z⟩
    | ct => exact ⟨z⟩
    | rt v => exact ⟨z⟩
theorem wx_nil : exR Γ C .nil σ h = .ok .nx σ h := exR_nil
theorem wx_if : exS Γ C (.iff c u v) σ h = (asB (evE Γ C c σ h)).bind fun k σ h => ifR k (exR Γ C u σ h) (exR Γ C v σ h) := x_if
def EndsW (P : R → List Ob → Prop) : Flow → List Slot → List Ob → Prop
  | .nx, _, h => P (.v .non) h
  | .rt r, _, h => P r h
  | _, _, _ => False
theorem ew_nx : EndsW P .nx σ h ↔ P (.v .non) h := Iff.rfl
theorem ew_rt : EndsW P (.rt r) σ h ↔ P r h := Iff.rfl
/-- a def's body -/
theorem wp_run {fd : Fd} {ds : List D} (hl : ds.length = fd.np) (q : Wp (exR Γ C fd.body (ds.map Slot.v ++ List.replicate (fd.ns - fd.np) .un) h) (EndsW P) fun c p _ h => X c p h) : WpC (runF Γ C fd ds h) P X := by
  unfold runF
  rw [if_pos hl]
  have q : Wp (exB Γ C fd.body (ds.map Slot.v ++ List.replicate (fd.ns - fd.np) .un) h) (EndsW P) fun c p _ h => X c p h := q
  cases e : exB Γ C fd.body (ds.map Slot.v ++ List.replicate (fd.ns - fd.np) .un) h with
  | stuck => rw [e] at q; exact q.out.elim
  | exc c p σ h => rw [e] at q; exact ⟨q.out⟩
  | ok fl σ h =>
    rw [e] at q
    cases fl with
    | nx => exact ⟨q.out⟩
    | rt r => exact ⟨q.out⟩
    | bk => exact q.out.elim
    | ct => exact q.out.elim
/-! loops -/
noncomputable def forR (Γ : Calls) (C : Cf) (bnd : D → List Slot → Option (List Slot)) (b : Ss) (ds : List D) (σ : List Slot) (h : List Ob) : Res Flow :=
  forL (fun d σ h => match bnd d σ with
    | some σ => exB Γ C b σ h
    | none => .stuck) ds σ h
def bnd1 (i : Nat) : D → List Slot → Option (List Slot) := fun d σ => some (σ.set i (.v d))
def bndT (is : List Nat) : D → List Slot → Option (List Slot)
  | .tup xs, σ => bindS is xs σ
  | _, _ => none
theorem wx_for1 {it : I} : exS Γ C (.for1 i it u) σ h = (evI Γ C it σ h).bind fun ds σ h => forR Γ C (bnd1 i) u ds σ h := by
  rw [exS]
  rfl
theorem wx_forT {is : List Nat} {it : I} : exS Γ C (.forT is it u) σ h = (evI Γ C it σ h).bind fun ds σ h => forR Γ C (bndT is) u ds σ h := by
  rw [exS]
  congr 1
  funext ds σ h
  unfold forR
  congr 1
  funext d σ h
  cases d <;> rfl
def TurnW (J : List Slot → List Ob → Prop) (Q : Flow → List Slot → List Ob → Prop) : Flow → List Slot → List Ob → Prop
  | .nx, σ, h => J σ h
  | .ct, σ, h => J σ h
  | .bk, σ, h => Q .nx σ h
  | .rt r, σ, h => Q (.rt r) σ h
variable {J : List Slot → List Ob → Prop}
theorem tw_nx : TurnW J QF .nx σ h ↔ J σ h := Iff.rfl
theorem tw_ct : TurnW J QF .ct σ h ↔ J σ h := Iff.rfl
theorem tw_bk : TurnW J QF .bk σ h ↔ QF .nx σ h := Iff.rfl
theorem tw_rt : TurnW J QF (.rt r) σ h ↔ QF (.rt r) σ h := Iff.rfl
theorem wp_forL {g : α → D} {xs : List α} {f : D → List Slot → List Ob → Res Flow} (I : List α → List α → List Slot → List Ob → Prop)
    (step : ∀ l a r σ h, l ++ a :: r = xs → I l (a :: r) σ h → Wp (f (g a) σ h) (TurnW (I (l ++ [a]) r) QF) E) (fin : ∀ σ h, I xs [] σ h → QF .nx σ h) :
    ∀ (l r : List α) (σ : List Slot) (h : List Ob), l ++ r = xs → I l r σ h → Wp (forL f (r.map g) σ h) QF E
  | l, [], σ, h, e, i => ⟨fin σ h (by rw [List.append_nil] at e; rw [← e]; exact i)⟩
  | l, a :: r, σ, h, e, i => by
    have q := step l a r σ h e i
    rw [List.map_cons, forL, wp_bind]
    refine wp_mono q (fun fl σ' h' z => ?_) fun _ _ _ _ z => z
    cases fl with
    | nx => exact wp_forL I step fin (l ++ [a]) r σ' h' (by rw [List.append_assoc]; exact e) z
    | ct => exact wp_forL I step fin (l ++ [a]) r σ' h' (by rw [List.append_assoc]; exact e) z
    | bk => exact ⟨z⟩
    | rt v => exact ⟨z⟩
theorem wp_for {bnd : D → List Slot → Option (List Slot)} {ds : List D} {g : α → D} {xs : List α} (I : List α → List α → List Slot → List Ob → Prop) (e : ds = xs.map g) (i0 : I [] xs σ h)
    (step : ∀ l a r σ h, l ++ a :: r = xs → I l (a :: r) σ h → ∃ σ0, bnd (g a) σ = some σ0 ∧ Wp (exR Γ C u σ0 h) (TurnW (I (l ++ [a]) r) QF) E) (fin : ∀ σ h, I xs [] σ h → QF .nx σ h) : Wp (forR Γ C bnd u ds σ h) QF E := by
  rw [e]
  unfold forR
  refine wp_forL I (fun l a r σ h e i => ?_) fin [] xs σ h rfl i0
  obtain ⟨σ0, e1, q⟩ := step l a r σ h e i
  rw [e1]
  exact q
def WhW (Γ : Calls) (C : Cf) (b : Ss) (J : List Slot → List Ob → Prop) (Q : Flow → List Slot → List Ob → Prop) (E : XP) : Bool → List Slot → List Ob → Prop
  | true, σ, h => Wp (exR Γ C b σ h) (TurnW J Q) E
  | false, σ, h => Q .nx σ h
theorem ww_t : WhW Γ C u J QF E true σ h ↔ Wp (exR Γ C u σ h) (TurnW J QF) E := Iff.rfl
theorem ww_f : WhW Γ C u J QF E false σ h ↔ QF .nx σ h := Iff.rfl
theorem wp_whl (I : Nat → List Slot → List Ob → Prop) (m : Nat) (i0 : I m σ h)
    (step : ∀ m σ h, I m σ h → Wp (asB (evE Γ C c σ h)) (WhW Γ C u (fun σ h => ∃ m', m' < m ∧ I m' σ h) QF E) E) : Wp (exS Γ C (.whl c u) σ h) QF E := by
  have key : ∀ m σ h, I m σ h → ∃ n r, whlN (fun σ h => asB (evE Γ C c σ h)) (exB Γ C u) n σ h = some r ∧ Wp r QF E := by
    intro m
    induction m using Nat.strongRecOn with
    | _ m ih =>
      intro σ h i
      have q := step m σ h i
      cases e : asB (evE Γ C c σ h) with
      | stuck => rw [e] at q; exact q.out.elim
      | exc k p σ1 h1 => rw [e] at q; exact ⟨1, _, by unfold whlN; rw [e], ⟨q.out⟩⟩
      | ok t σ1 h1 =>
        rw [e] at q
        cases t with
        | false => exact ⟨1, _, by unfold whlN; rw [e], ⟨q.out⟩⟩
        | true =>
          have q : Wp (exB Γ C u σ1 h1) (TurnW (fun σ h => ∃ m', m' < m ∧ I m' σ h) QF) E := q.out
          cases e2 : exB Γ C u σ1 h1 with
          | stuck => rw [e2] at q; exact q.out.elim
          | exc k p σ1 h1 => rw [e2] at q; exact ⟨1, _, by unfold whlN; rw [e]; dsimp only; rw [e2], ⟨q.out⟩⟩
          | ok fl σ2 h2 =>
            rw [e2] at q
            cases fl with
            | nx =>
              obtain ⟨m', hm, i2⟩ := q.out
              obtain ⟨n, r, e3, q3⟩ := ih m' hm σ2 h2 i2
              exact ⟨n + 1, r, by unfold whlN; rw [e]; dsimp only; rw [e2]; exact e3, q3⟩
            | ct =>
              obtain ⟨m', hm, i2⟩ := q.out
              obtain ⟨n, r, e3, q3⟩ := ih m' hm σ2 h2 i2
              exact ⟨n + 1, r, by unfold whlN; rw [e]; dsimp only; rw [e2]; exact e3, q3⟩
            | bk => exact ⟨1, _, by unfold whlN; rw [e]; dsimp only; rw [e2], ⟨q.out⟩⟩
            | rt v => exact ⟨1, _, by unfold whlN; rw [e]; dsimp only; rw [e2], ⟨q.out⟩⟩
  obtain ⟨n, r, e, q⟩ := key m σ h i0
  rw [exS, whl_of e]
  exact q
/-! comprehensions -/
def comR (Γ : Calls) (C : Cf) (i : Nat) (elt : Pm.E) (ds : List D) (σ : List Slot) (h : List Ob) : Res R :=
  match plainSlot σ[i]? with
  | some s => (noexc (comL i (fun σ h => (evE Γ C elt σ h).bind fun r σ h => .ok (some r.d) σ h) ds [] σ h)).bind fun xs σ' h' => .ok (.o xs) (σ'.set i s) h'
  | none => .stuck
def comfR (Γ : Calls) (C : Cf) (i : Nat) (elt c : Pm.E) (ds : List D) (σ : List Slot) (h : List Ob) : Res R :=
  match plainSlot σ[i]? with
  | some s => (noexc (comL i (fun σ h => (asB (evE Γ C c σ h)).bind fun k σ h => if k then (evE Γ C elt σ h).bind fun r σ h => .ok (some r.d) σ h else .ok none σ h) ds [] σ h)).bind fun xs σ' h' => .ok (.o xs) (σ'.set i s) h'
  | none => .stuck
theorem v_com {elt : Pm.E} {it : I} : evE Γ C (.com i elt it) σ h = (evI Γ C it σ h).bind fun ds σ h => comR Γ C i elt ds σ h := by
  rw [evE]
  rfl
theorem v_comf {elt : Pm.E} {it : I} : evE Γ C (.comf i elt it c) σ h = (evI Γ C it σ h).bind fun ds σ h => comfR Γ C i elt c ds σ h := by
  rw [evE]
  rfl
theorem wp_comL {f : List Slot → List Ob → Res (Option D)} {g : α → D} {xs : List α} {σ0 : List Slot} (I : List α → List α → List D → List Ob → Prop)
    (step : ∀ l a r acc h, l ++ a :: r = xs → I l (a :: r) acc h → acc.length < sizeLine ∧ Wp (f (σ0.set i (.v (g a))) h) (fun o σ' h' => σ' = σ0.set i (.v (g a)) ∧ I (l ++ [a]) r (match o with | some x => acc ++ [x] | none => acc) h') X0) :
    ∀ (l r : List α) (acc : List D) (s : Slot) (h : List Ob), l ++ r = xs → I l r acc h → ∃ acc' s' h', comL i f (r.map g) acc (σ0.set i s) h = .ok acc' (σ0.set i s') h' ∧ I xs [] acc' h'
  | l, [], acc, s, h, e, i0 => ⟨acc, s, h, rfl, by rw [List.append_nil] at e; rw [← e]; exact i0⟩
  | l, a :: r, acc, s, h, e, i0 => by
    obtain ⟨hz, q⟩ := step l a r acc h e i0
    obtain ⟨o, σ', h', e1, rfl, i1⟩ := wp_ex q
    rw [List.map_cons]
    unfold comL
    rw [List.set_set, e1]
    have e' : (l ++ [a]) ++ r = xs := by rw [List.append_assoc]; exact e
    cases o with
    | none => exact wp_comL I step (l ++ [a]) r acc (.v (g a)) h' e' i1
    | some x =>
      obtain ⟨acc', s', h'', e2, i2⟩ := wp_comL I step (l ++ [a]) r (acc ++ [x]) (.v (g a)) h' e' i1
      refine ⟨acc', s', h'', ?_, i2⟩
      show (if acc.length < sizeLine then comL i f (r.map g) (acc ++ [x]) (σ0.set i (.v (g a))) h' else .stuck) = _
      rw [if_pos hz]
      exact e2
theorem set_same {s : Slot} (hs : σ[i]? = some s) : σ.set i s = σ := by
  have := set_back hs s
  rw [List.set_set] at this
  exact this
/-- a comprehension, by an invariant -/
theorem wp_com {elt : Pm.E} {ds : List D} {g : α → D} {xs : List α} {s : Slot} {F : R → List Slot → List Ob → Res β} {Q : β → List Slot → List Ob → Prop} (I : List α → List α → List D → List Ob → Prop) (e : ds = xs.map g) (hs : plainSlot σ[i]? = some s) (i0 : I [] xs [] h)
    (step : ∀ l a r acc h, l ++ a :: r = xs → I l (a :: r) acc h → acc.length < sizeLine ∧ Wp (evE Γ C elt (σ.set i (.v (g a))) h) (fun r' σ' h' => σ' = σ.set i (.v (g a)) ∧ I (l ++ [a]) r (acc ++ [r'.d]) h') X0)
    (fin : ∀ acc h', I xs [] acc h' → Wp (F (.o acc) σ h') Q E) : Wp ((comR Γ C i elt ds σ h).bd F) Q E := by
  have hg := plain_get hs
  subst e
  obtain ⟨acc, s', h', e1, i1⟩ := wp_comL (i := i) (f := fun σ h => (evE Γ C elt σ h).bind fun r σ h => .ok (some r.d) σ h) (σ0 := σ) I (fun l a r acc h e i => by
    obtain ⟨q1, q2⟩ := step l a r acc h e i
    refine ⟨q1, wp_bind.mpr (wp_mono q2 (fun r' σ' h' z => ⟨z⟩) fun _ _ _ _ z => z)⟩) [] xs [] s h rfl i0
  unfold comR
  rw [hs]
  dsimp only
  rw [set_same hg] at e1
  rw [e1]
  show Wp (F (.o acc) ((σ.set i s').set i s) h') Q E
  rw [set_back hg]
  exact fin acc h' i1
theorem wp_comf {elt c : Pm.E} {ds : List D} {g : α → D} {xs : List α} {s : Slot} {F : R → List Slot → List Ob → Res β} {Q : β → List Slot → List Ob → Prop} (I : List α → List α → List D → List Ob → Prop) (e : ds = xs.map g) (hs : plainSlot σ[i]? = some s) (i0 : I [] xs [] h)
    (step : ∀ l a r acc h, l ++ a :: r = xs → I l (a :: r) acc h → acc.length < sizeLine ∧ Wp (asB (evE Γ C c (σ.set i (.v (g a))) h)) (fun k σ' h' => σ' = σ.set i (.v (g a)) ∧ (if k then Wp (evE Γ C elt (σ.set i (.v (g a))) h') (fun r' σ' h' => σ' = σ.set i (.v (g a)) ∧ I (l ++ [a]) r (acc ++ [r'.d]) h') X0 else I (l ++ [a]) r acc h')) X0)
    (fin : ∀ acc h', I xs [] acc h' → Wp (F (.o acc) σ h') Q E) : Wp ((comfR Γ C i elt c ds σ h).bd F) Q E := by
  have hg := plain_get hs
  subst e
  obtain ⟨acc, s', h', e1, i1⟩ := wp_comL (i := i) (f := fun σ h => (asB (evE Γ C c σ h)).bind fun k σ h => if k then (evE Γ C elt σ h).bind fun r σ h => .ok (some r.d) σ h else .ok none σ h) (σ0 := σ) I (fun l a r acc h e i => by
    obtain ⟨q1, q2⟩ := step l a r acc h e i
    refine ⟨q1, wp_bind.mpr (wp_mono q2 (fun k σ' h' z => ?_) fun _ _ _ _ z => z)⟩
    obtain ⟨rfl, z⟩ := z
    cases k with
    | true =>
      rw [if_pos rfl] at z
      rw [if_pos rfl]
      exact wp_bind.mpr (wp_mono z (fun r' σ' h' z => ⟨z⟩) fun _ _ _ _ z => z)
    | false => exact ⟨rfl, z⟩) [] xs [] s h rfl i0
  unfold comfR
  rw [hs]
  dsimp only
  rw [set_same hg] at e1
  rw [e1]
  show Wp (F (.o acc) ((σ.set i s').set i s) h') Q E
  rw [set_back hg]
  exact fin acc h' i1
/-- .. that leaves all else as it is -/
theorem wp_comM {elt : Pm.E} {ds : List D} {g f : α → D} {xs : List α} {s : Slot} {F : R → List Slot → List Ob → Res β} {Q : β → List Slot → List Ob → Prop} (e : ds = xs.map g) (hs : plainSlot σ[i]? = some s) (hl : xs.length ≤ sizeLine)
    (step : ∀ a ∈ xs, Wp (evE Γ C elt (σ.set i (.v (g a))) h) (fun r' σ' h' => σ' = σ.set i (.v (g a)) ∧ r'.d = f a ∧ h' = h) X0)
    (fin : Wp (F (.o (xs.map f)) σ h) Q E) : Wp ((comR Γ C i elt ds σ h).bd F) Q E := by
  refine wp_com (fun l r acc h' => acc = l.map f ∧ h' = h) e hs ⟨rfl, rfl⟩ (fun l a r acc h' e2 ⟨i1, i2⟩ => ?_) fun acc h' ⟨i1, i2⟩ => ?_
  · subst i1 i2
    have ha : a ∈ xs := by rw [← e2]; simp
    refine ⟨?_, wp_mono (step a ha) (fun r' σ' h' ⟨z1, z2, z3⟩ => ⟨z1, by rw [z2]; simp, z3⟩) fun _ _ _ _ z => z⟩
    have := congrArg List.length e2
    simp at this ⊢
    omega
  · subst i1 i2
    exact fin
theorem wp_comfM {elt c : Pm.E} {ds : List D} {p : α → Bool} {g f : α → D} {xs : List α} {s : Slot} {F : R → List Slot → List Ob → Res β} {Q : β → List Slot → List Ob → Prop} (e : ds = xs.map g) (hs : plainSlot σ[i]? = some s) (hl : xs.length ≤ sizeLine)
    (hc : ∀ a ∈ xs, Wp (asB (evE Γ C c (σ.set i (.v (g a))) h)) (fun k σ' h' => σ' = σ.set i (.v (g a)) ∧ k = p a ∧ h' = h) X0)
    (step : ∀ a ∈ xs, p a = true → Wp (evE Γ C elt (σ.set i (.v (g a))) h) (fun r' σ' h' => σ' = σ.set i (.v (g a)) ∧ r'.d = f a ∧ h' = h) X0)
    (fin : Wp (F (.o ((xs.filter p).map f)) σ h) Q E) : Wp ((comfR Γ C i elt c ds σ h).bd F) Q E := by
  refine wp_comf (fun l r acc h' => acc = (l.filter p).map f ∧ h' = h) e hs ⟨rfl, rfl⟩ (fun l a r acc h' e2 ⟨i1, i2⟩ => ?_) fun acc h' ⟨i1, i2⟩ => ?_
  · subst i1 i2
    have ha : a ∈ xs := by rw [← e2]; simp
    refine ⟨?_, wp_mono (hc a ha) (fun k σ' h'' ⟨z1, z2, z3⟩ => ⟨z1, ?_⟩) fun _ _ _ _ z => z⟩
    · have := congrArg List.length e2
      have := List.length_filter_le p l
      simp at *
      omega
    · subst z2 z3
      cases q : p a with
      | true => exact wp_mono (step a ha q) (fun r' σ' h' ⟨z1, z2, z3⟩ => ⟨z1, by rw [z2]; simp [q], z3⟩) fun _ _ _ _ z => z
      | false => exact ⟨by simp [q], rfl⟩
  · subst i1 i2
    exact fin
end
section
variable {Γ : Calls} {C : Cf} {σ : List Slot} {h : List Ob} {i j : Int} {xs : List D} {n : Nat} {a b : E} {is : List Nat}
def setO : Option (List Slot) → List Ob → Res Flow
  | some σ, h => .ok .nx σ h
  | none, _ => .stuck
theorem setTR_o : setTR is (.v (.tup xs)) σ h = setO (bindS is xs σ) h := by
  cases e : bindS is xs σ with
  | none =>
    show (match bindS is xs σ with | some σ => Res.ok Flow.nx σ h | none => .stuck) = _
    rw [e]
    rfl
  | some σ' =>
    rw [setTR_t e]
    rfl
theorem setO_s : setO (some σ) h = .ok .nx σ h := rfl
theorem eqI : eqF n (.int i) (.int j) = some (decide (i = j)) := by cases n <;> rfl
def rngR : R → List Slot → List Ob → Res (List D)
  | .v (.int j), σ, h => if small62 j then .ok (rangeL 0 j) σ h else .stuck
  | _, _, _ => .stuck
theorem rngR_s (hj : small62 j = true) : rngR (.v (.int j)) σ h = .ok (rangeL 0 j) σ h := if_pos hj
theorem it_rng1 : evI Γ C (.rng1 a) σ h = (evE Γ C a σ h).bind fun r σ h => rngR r σ h := by
  rw [evI]
  congr 1; funext r σ h
  rcases r with d | xs
  · cases d <;> rfl
  · rfl
def rngR2 : R → R → List Slot → List Ob → Res (List D)
  | .v (.int i), .v (.int j), σ, h => if small62 i && small62 j then .ok (rangeL i j) σ h else .stuck
  | _, _, _, _ => .stuck
theorem rngR2_s (hi : small62 i = true) (hj : small62 j = true) : rngR2 (.v (.int i)) (.v (.int j)) σ h = .ok (rangeL i j) σ h := if_pos (by rw [hi, hj]; rfl)
theorem it_rng2 : evI Γ C (.rng2 a b) σ h = (evE Γ C a σ h).bind fun r σ h => (evE Γ C b σ h).bind fun q σ h => rngR2 r q σ h := by
  rw [evI]
  congr 1; funext r σ h
  congr 1; funext q σ h
  rcases r with d | xs
  · cases d with
    | int i =>
      rcases q with e | ys
      · cases e <;> rfl
      · rfl
    | _ => rfl
  · rfl
theorem small_of (h0 : -4611686018427387904 ≤ i) (h1 : i < 4611686018427387904) : small62 i = true := by
  unfold small62
  rw [Bool.and_eq_true]
  exact ⟨decide_eq_true h0, decide_eq_true h1⟩
theorem rangeL_map {k : Nat} : rangeL 0 (k : Int) = (List.range k).map fun j : Nat => D.int j := by
  unfold rangeL
  rw [Int.sub_zero, Int.toNat_natCast]
  refine List.map_congr_left fun j _ => ?_
  rw [Int.zero_add]
theorem decT {p : Prop} [Decidable p] (hp : p) : decide p = true := decide_eq_true hp
theorem decF {p : Prop} [Decidable p] (hp : ¬ p) : decide p = false := decide_eq_false hp
end
theorem kw_clip_clip : decide (("clip" : Str) = "clip") = true := by decide
theorem kw_clip_gap : decide (("clip" : Str) = "gap") = false := by decide
theorem kw_clip_list : decide (("clip" : Str) = "list") = false := by decide
theorem kw_clip_lead : decide (("clip" : Str) = "lead") = false := by decide
theorem kw_gap_clip : decide (("gap" : Str) = "clip") = false := by decide
theorem kw_gap_gap : decide (("gap" : Str) = "gap") = true := by decide
theorem kw_gap_list : decide (("gap" : Str) = "list") = false := by decide
theorem kw_gap_lead : decide (("gap" : Str) = "lead") = false := by decide
theorem kw_list_clip : decide (("list" : Str) = "clip") = false := by decide
theorem kw_list_gap : decide (("list" : Str) = "gap") = false := by decide
theorem kw_list_list : decide (("list" : Str) = "list") = true := by decide
theorem kw_list_lead : decide (("list" : Str) = "lead") = false := by decide
theorem kw_lead_clip : decide (("lead" : Str) = "clip") = false := by decide
theorem kw_lead_gap : decide (("lead" : Str) = "gap") = false := by decide
theorem kw_lead_list : decide (("lead" : Str) = "list") = false := by decide
theorem kw_lead_lead : decide (("lead" : Str) = "lead") = true := by decide
section
variable {Γ : Calls} {C : Cf} {σ : List Slot} {h : List Ob} {v i : Int} {xs : List D} {e : E} {ns : List Int}
def promR : R → List Slot → List Ob → Res R
  | .o xs, σ, h => .ok (.v (.ref h.length)) σ (h ++ [.lst xs])
  | _, _, _ => .stuck
theorem promR_o : promR (.o xs) σ h = .ok (.v (.ref h.length)) σ (h ++ [.lst xs]) := rfl
theorem v_prom : evE Γ C (.prom e) σ h = (evE Γ C e σ h).bind fun r σ h => promR r σ h := by
  rw [evE]
  congr 1; funext r σ h
  cases r <;> rfl
theorem ixP {P : D → Prop} (h0 : 0 ≤ v) (h1 : v < xs.length) (hP : ∀ x ∈ xs, P x) : ∃ x, ixD xs v = some x ∧ P x := by
  have hlt : v.toNat < xs.length := by omega
  exact ⟨xs[v.toNat], by rw [ixD_pos h0]; exact List.getElem?_eq_getElem hlt, hP _ (List.getElem_mem hlt)⟩
theorem bin_mulrS (h0 : -1000000 ≤ i) (h1 : i ≤ 1000000) : binop .mul (.int v) (.int i) = some (.v (.int (v * i))) := bin_mulr (by unfold two64; omega) (by unfold two64; omega)
theorem bin_mullS (h0 : -1000000 ≤ i) (h1 : i ≤ 1000000) : binop .mul (.int i) (.int v) = some (.v (.int (i * v))) := bin_mull (by unfold two64; omega) (by unfold two64; omega)
theorem bin_pow (h0 : 0 ≤ i) (h1 : i ≤ 1000) (h2 : -1000 ≤ v) (h3 : v ≤ 1000) : binop .pow (.int v) (.int i) = some (.v (.int (v ^ i.toNat))) := if_pos ⟨h0, h1, h2, h3⟩
theorem szA {a b : Nat} (h : a + b ≤ 100000) : a + b ≤ sizeLine := Nat.le_trans h (by decide +kernel)
theorem szB {a : Nat} (h : a < 100000) : a < sizeLine := Nat.lt_of_lt_of_le h (by decide +kernel)
theorem szC {a : Nat} (h : a ≤ 100000) : a ≤ sizeLine := Nat.le_trans h (by decide +kernel)
end
section
variable {i k : Int} {n d : Nat} {α : Type} {xs : List α} {ds : List D}
theorem sIx_n : sIx n d none = d := rfl
theorem sIx_p (h0 : 0 ≤ i) : sIx n d (some i) = min i.toNat n := if_neg (by omega)
theorem sIx_m (h0 : i < 0) : sIx n d (some i) = (i + n).toNat := if_pos h0
theorem take_min {m : Nat} : xs.take (min m xs.length) = xs.take m := by
  rcases Nat.le_total m xs.length with h | h
  · rw [Nat.min_eq_left h]
  · rw [Nat.min_eq_right h, List.take_length, List.take_of_length_le h]
theorem drop_min {m : Nat} : xs.drop (min m xs.length) = xs.drop m := by
  rcases Nat.le_total m xs.length with h | h
  · rw [Nat.min_eq_left h]
  · rw [Nat.min_eq_right h, List.drop_length, List.drop_eq_nil_of_le h]
theorem cut_take (h0 : 0 ≤ k) : cutL xs none (some k) = xs.take k.toNat := by
  unfold cutL
  rw [sIx_n, sIx_p h0, List.drop_zero, Nat.sub_zero, take_min]
theorem cut_drop (h0 : 0 ≤ k) : cutL xs (some k) none = xs.drop k.toNat := by
  unfold cutL
  rw [sIx_n, sIx_p h0, drop_min]
  refine List.take_of_length_le ?_
  rw [List.length_drop]
  omega
theorem cut_mid (h0 : 0 ≤ i) (h1 : i ≤ k) : cutL xs (some i) (some k) = (xs.drop i.toNat).take (k.toNat - i.toNat) := by
  unfold cutL
  rw [sIx_p h0, sIx_p (by omega), drop_min]
  rcases Nat.le_total k.toNat xs.length with h | h
  · rw [Nat.min_eq_left h, Nat.min_eq_left (by omega)]
  · rw [Nat.min_eq_right h]
    rw [List.take_of_length_le (by rw [List.length_drop]; omega), List.take_of_length_le (by rw [List.length_drop]; omega)]
theorem cut_init : cutL xs none (some (-1)) = xs.dropLast := by
  unfold cutL
  rw [sIx_n, sIx_m (by omega), List.drop_zero, Nat.sub_zero, List.dropLast_eq_take]
  congr 1
  omega
theorem bin_mulL (h0 : -1000000 ≤ k) (h1 : k ≤ 1000000) (h2 : ds.length * k.toNat ≤ sizeLine) : binop .mul (.lst ds) (.int k) = some (.o (List.replicate k.toNat ds).flatten) := if_pos ⟨by omega, by omega, h2⟩
end
end Pm

set_option Elab.async false
set_option linter.all false
set_option maxRecDepth 100000
set_option maxHeartbeats 400000
namespace Lw
open PySem PySem.Spec Pm
local macro_rules | `(tactic| push_cast [$xs,*]) => `(tactic| simp only [wx_cons, wx_nil, wx_if, wx_for1, wx_forT, ↓gw_nx, ↓gw_rt, ↓gw_bk, ↓gw_ct, ↓ew_nx, ↓ew_rt, ↓tw_nx, ↓tw_ct, ↓tw_bk, ↓tw_rt, ↓ww_t, ↓ww_f, ↓to_bd, ↓to_ifT, bd_ok, bd_exc, bd_bd, ifT_t, ifT_f, wp_ok, wp_exc, wpC_ok, wpC_exc, ofC_exc, asB_bd, asB_ofC, asB_if, asI_bd, asI_ofC, tupR_bd, lstR_bd, if_bind, chn_le, chn_lt, v_com, v_comf, v_prom, promR_o, wp_ofC,
  x_set, x_setT, x_par2, x_ex, x_ret, x_retN, x_pass, x_brk, x_cnt, setTR_o, setO_s, bindS_nil, bindS_cons, v_con, v_glo, v_var, v_tup, v_lst, v_bin, v_cmp, v_cmp2, v_neg, v_and, v_or, v_not, v_ite, v_idx, v_sli, v_rev, v_f1, v_f2, v_isi, v_cal, a_nil', a_cons', o_no', o_so', it_seq, it_enu, it_rng1, it_rng2, seqR_l, seqR_t, seqR_s, seqR_o, enuR_l, enuR_t, enuR_o,
  o_bor, o_con, o_glo, o_tup, o_lst, o_bin, o_neg, o_idx, o_sli, o_rev, o_f1, o_f2, o_isi, o_cal, o_com, o_comf, o_ite, varR_v, varR_o, borR_v, borR_o, binR_s, cmpR_s, idxR_s, f1R_s, sliR_s, revR_s, isiR_s, negR_s, asB_ok, asI_ok, retR_some, retB_some, ofC_ok, Rd_v, Rd_o, Rs_v, Rs_o, cont_s, cont_v, cont_o, contS_v, contS_o,
  deref_int, deref_str, deref_bl, deref_non, deref_tup, deref_lst, deref_ref, derefR_lst, bin_add, bin_sub, cmp_eq, cmp_ne, cmp_lt, cmp_le, cmp_gt, cmp_ge, cmp_isn, cmp_isnn, eqI, eqF_str, eqF_nn, eqF_nt, eqF_tn, isNon_non, isNon_int, isNon_tup, isNon_lst, isNon_str, isNon_bl, ix_lst, ix_tup, ixD_0, ixD_1, ixD_2, ixD_3, sl_lst, sl_tup, rev_lst, f_len_l, f_len_t, f_sum, f_all, f_list_l, f_list_t, f_tup_l, f_tup_t, f_max2, f_min2, ints_map, bools_map,
  ty_ii, ty_ib, ty_in, ty_is, ty_it, ty_il, ty_bi, ty_bb, ty_bn, ty_bs, ty_bt, ty_bl, ty_ti, ty_tb, ty_tn, ty_ts, ty_tt, ty_tl, ty_si, ty_sb, ty_sn, ty_ss, ty_st, ty_sl, ty_li, ty_lb, ty_ln, ty_ls, ty_lt, ty_ll, kn_i, kn_b, kn_n, kn_s, kn_t, kn_l, tupR_0, tupR_1, tupR_2, tupR_3, tupR_4, tupR_5, tupR_6, tupR_7, tupR_8, lstR_0, lstR_1, lstR_2, lstR_3, lstR_4, lstR_5, lstR_6, lstR_7, lstR_8,
  List.getElem?_cons_succ, List.getElem?_cons_zero, List.set_cons_succ, List.set_cons_zero, List.map_cons, List.map_nil, List.cons_append, List.nil_append, List.replicate_succ, List.replicate_zero, Nat.reduceSub, Option.map_some, Bool.not_true, Bool.not_false, decide_true, decide_false, not_true_eq_false, not_false_eq_true, and_true, true_and, Int.reduceLT, Int.reduceLE, Int.reduceNeg,
  kw_clip_clip, kw_clip_gap, kw_clip_list, kw_clip_lead, kw_gap_clip, kw_gap_gap, kw_gap_list, kw_gap_lead, kw_list_clip, kw_list_gap, kw_list_list, kw_list_lead, kw_lead_clip, kw_lead_gap, kw_lead_list, kw_lead_lead, $xs,*])
theorem big4 : (1000 : Nat) ≤ sizeLine := by decide +kernel
theorem flat_one {ps : List Pc} {j : Nat} (h : j < (flat ps).length) : (flat ps)[j]? = some ((flat ps)[j]) := List.getElem?_eq_getElem h
theorem all_ok {n m : Nat} {F : Pm.D} {ps : List Pc} (hps : ∀ p ∈ ps, p.ok) (hl : ps.length ≤ 1000) (hm : m ≤ 1000) {h : List Ob} : callN T cf (n + 3) 27 [F, .tup (ps.map Pc.D), .int (m : Int)] h = .ok (.o (((flat ps).take m).map frD)) h := by
  have es := fun h => size_ok (n := n) (h := h) hl
  have e1 : (if (total ps : Int) < (m : Int) then (total ps : Int) else (m : Int)) = ((min (total ps) m : Nat) : Int) := by
    split <;> omega
  have sm : small62 ((min (total ps) m : Nat) : Int) = true := small_of (by omega) (by omega)
  refine wpC_eq ?_
  rw [call__law_all, b__law_all]
  refine wp_run rfl ?_
  push_cast [es, e1, rngR_s sm, rangeL_map]
  refine wp_comM (g := fun j : Nat => D.int j) (f := fun j : Nat => frD ((flat ps)[j]?.getD none)) (s := .un) rfl rfl (by have := big4; rw [List.length_range]; omega) (fun j hj => ?_) ?_
  · have hj := List.mem_range.mp hj
    have hlt : j < (flat ps).length := by rw [flat_len']; omega
    have e2 := fun h => layer_ok (n := n) (F := F) hps (flat_one hlt) (h := h)
    push_cast [e2, flat_one hlt, Option.getD_some]
  · push_cast []
    refine congrArg (fun z => R.o z) ?_
    refine List.ext_getElem? fun j => ?_
    by_cases hj : j < min (total ps) m
    · have hlt : j < (flat ps).length := by rw [flat_len']; omega
      simp [List.getElem?_map, List.getElem?_range, hj, List.getElem?_take_of_lt (show j < m by omega), hlt]
    · rw [List.getElem?_eq_none (by simp; omega), List.getElem?_eq_none (by simp [flat_len']; omega)]
end Lw

set_option Elab.async false
set_option linter.all false
set_option maxRecDepth 100000
set_option maxHeartbeats 400000
namespace Lw
open PySem PySem.Spec Pm
local macro_rules | `(tactic| push_cast [$xs,*]) => `(tactic| simp only [wx_cons, wx_nil, wx_if, wx_for1, wx_forT, ↓gw_nx, ↓gw_rt, ↓gw_bk, ↓gw_ct, ↓ew_nx, ↓ew_rt, ↓tw_nx, ↓tw_ct, ↓tw_bk, ↓tw_rt, ↓ww_t, ↓ww_f, ↓to_bd, ↓to_ifT, bd_ok, bd_exc, bd_bd, ifT_t, ifT_f, wp_ok, wp_exc, wpC_ok, wpC_exc, ofC_exc, asB_bd, asB_ofC, asB_if, asI_bd, asI_ofC, tupR_bd, lstR_bd, if_bind, chn_le, chn_lt, v_com, v_comf, v_prom, promR_o, wp_ofC,
  x_set, x_setT, x_par2, x_ex, x_ret, x_retN, x_pass, x_brk, x_cnt, setTR_o, setO_s, bindS_nil, bindS_cons, v_con, v_glo, v_var, v_tup, v_lst, v_bin, v_cmp, v_cmp2, v_neg, v_and, v_or, v_not, v_ite, v_idx, v_sli, v_rev, v_f1, v_f2, v_isi, v_cal, a_nil', a_cons', o_no', o_so', it_seq, it_enu, it_rng1, it_rng2, seqR_l, seqR_t, seqR_s, seqR_o, enuR_l, enuR_t, enuR_o,
  o_bor, o_con, o_glo, o_tup, o_lst, o_bin, o_neg, o_idx, o_sli, o_rev, o_f1, o_f2, o_isi, o_cal, o_com, o_comf, o_ite, varR_v, varR_o, borR_v, borR_o, binR_s, cmpR_s, idxR_s, f1R_s, sliR_s, revR_s, isiR_s, negR_s, asB_ok, asI_ok, retR_some, retB_some, ofC_ok, Rd_v, Rd_o, Rs_v, Rs_o, cont_s, cont_v, cont_o, contS_v, contS_o,
  deref_int, deref_str, deref_bl, deref_non, deref_tup, deref_lst, deref_ref, derefR_lst, bin_add, bin_sub, cmp_eq, cmp_ne, cmp_lt, cmp_le, cmp_gt, cmp_ge, cmp_isn, cmp_isnn, eqI, eqF_str, eqF_nn, eqF_nt, eqF_tn, isNon_non, isNon_int, isNon_tup, isNon_lst, isNon_str, isNon_bl, ix_lst, ix_tup, ixD_0, ixD_1, ixD_2, ixD_3, sl_lst, sl_tup, rev_lst, f_len_l, f_len_t, f_sum, f_all, f_list_l, f_list_t, f_tup_l, f_tup_t, f_max2, f_min2, ints_map, bools_map,
  ty_ii, ty_ib, ty_in, ty_is, ty_it, ty_il, ty_bi, ty_bb, ty_bn, ty_bs, ty_bt, ty_bl, ty_ti, ty_tb, ty_tn, ty_ts, ty_tt, ty_tl, ty_si, ty_sb, ty_sn, ty_ss, ty_st, ty_sl, ty_li, ty_lb, ty_ln, ty_ls, ty_lt, ty_ll, kn_i, kn_b, kn_n, kn_s, kn_t, kn_l, tupR_0, tupR_1, tupR_2, tupR_3, tupR_4, tupR_5, tupR_6, tupR_7, tupR_8, lstR_0, lstR_1, lstR_2, lstR_3, lstR_4, lstR_5, lstR_6, lstR_7, lstR_8,
  List.getElem?_cons_succ, List.getElem?_cons_zero, List.set_cons_succ, List.set_cons_zero, List.map_cons, List.map_nil, List.cons_append, List.nil_append, List.replicate_succ, List.replicate_zero, Nat.reduceSub, Option.map_some, Bool.not_true, Bool.not_false, decide_true, decide_false, not_true_eq_false, not_false_eq_true, and_true, true_and, Int.reduceLT, Int.reduceLE, Int.reduceNeg,
  kw_clip_clip, kw_clip_gap, kw_clip_list, kw_clip_lead, kw_gap_clip, kw_gap_gap, kw_gap_list, kw_gap_lead, kw_list_clip, kw_list_gap, kw_list_list, kw_list_lead, kw_lead_clip, kw_lead_gap, kw_lead_list, kw_lead_lead, $xs,*])
theorem off_w {n : Nat} {m : Int} {h : List Ob} (hd : Dz h) (hm : 0 < m) (hm2 : m < 1073741824) : WpC (callN T cf (n + 1) 68 [.ref 0, .int m] h) (fun r h' => ∃ v, r = .v (.int v) ∧ 0 ≤ v ∧ v < m ∧ Dz h') C0 := by
  obtain ⟨v, h', e, h1, h2, h3⟩ := off_ok (n := n) hd hm hm2
  exact wpC_of e ⟨v, rfl, h1, h2, h3⟩
theorem dice_w {n : Nat} {ns : List Int} {k : Int} {h : List Ob} (hl : ns.length ≤ 63) : WpC (callN T cf (n + 1) 43 [.scr ns, .int k] h) (fun r h' => ∃ a xs, r = .o ((a :: 0 :: xs).map D.int) ∧ xs.length ≤ 63 ∧ h' = h) C0 := by
  rw [call__law_dice, b__law_dice]
  refine wp_run rfl ?_
  push_cast []
  refine wp_for (xs := ns) (g := D.int) (fun l r σ h' => (∃ (a : Int) (c : Slot), σ = [.v (.scr ns), .v (.int k), .v (.int a), c] ∧ plainSlot (some c) = some c) ∧ h' = h) rfl ⟨⟨k, .un, rfl, rfl⟩, rfl⟩ ?_ ?_
  · rintro l x r σ h' e ⟨⟨a, c, rfl, hc⟩, rfl⟩
    refine ⟨_, rfl, ?_⟩
    have h31 : binop .mul (.int a) (.int 31) = some (.v (.int (a * 31))) := bin_mulrS (by omega) (by omega)
    have hmd : ∀ i, binop .mod (.int i) (.int 2147483647) = some (.v (.int (i % 2147483647))) := fun i => bin_mod (by omega)
    push_cast [h31, f_abs, hmd]
    exact ⟨_, _, rfl, rfl⟩
  · rintro σ h' ⟨⟨a, c, rfl, hc⟩, rfl⟩
    push_cast []
    refine wp_comfM (xs := ns) (g := D.int) (f := D.int) (p := fun x => decide ((10 : Int) ^ 18 ≤ x)) (s := c) rfl hc (szC (by omega)) (fun a ha => ?_) (fun a ha hp => ?_) ?_
    · have hpw : binop .pow (.int 10) (.int 18) = some (.v (.int (10 ^ 18))) := bin_pow (by omega) (by omega) (by omega) (by omega)
      push_cast [hpw]
    · push_cast []
    · have hz : ([.int a, .int 0] : List Pm.D).length + ((ns.filter fun x => decide ((10 : Int) ^ 18 ≤ x)).map D.int).length ≤ sizeLine := szA (by
        have := List.length_filter_le (fun x => decide ((10 : Int) ^ 18 ≤ x)) ns
        simp only [List.length_cons, List.length_nil, List.length_map]
        omega)
      push_cast [bin_addl hz]
      refine ⟨a, ns.filter fun x => decide ((10 : Int) ^ 18 ≤ x), rfl, ?_⟩
      have := List.length_filter_le (fun x => decide ((10 : Int) ^ 18 ≤ x)) ns
      omega
theorem sources_w {n : Nat} {h : List Ob} (hd : Dz h) : WpC (callN T cf (n + 2) 86 [.ref 0] h) (fun r h' => ∃ ss : List Int, r = .v (.tup (ss.map D.int)) ∧ ss ≠ [] ∧ ss.length ≤ 6 ∧ (∀ x ∈ ss, 1 ≤ x ∧ x ≤ 999) ∧ Dz h') C0 := by
  rw [call__law_sources, b__law_sources]
  refine wp_run rfl ?_
  push_cast []
  refine wp_call0 (off_w hd (by omega) (by omega)) ?_
  rintro _ h1 ⟨v, rfl, v0, v1, hd1⟩
  obtain ⟨_, e, z, rfl, z0, z1⟩ := ixP (xs := [.int 2, .int 6]) (P := fun d => ∃ z, d = .int z ∧ 0 < z ∧ z ≤ 6) v0 v1 (by
    intro x hx
    simp only [List.mem_cons, List.not_mem_nil, or_false] at hx
    rcases hx with rfl | rfl
    · exact ⟨2, rfl, by omega, by omega⟩
    · exact ⟨6, rfl, by omega, by omega⟩)
  push_cast [e]
  refine wp_call0 (off_w hd1 (by omega) (by omega)) ?_
  rintro _ h2 ⟨k, rfl, k0, k1, hd2⟩
  obtain ⟨m, rfl⟩ : ∃ m : Nat, k = (m : Int) := ⟨k.toNat, by omega⟩
  have ek : 1 + (m : Int) = ((m + 1 : Nat) : Int) := by omega
  have sm : small62 ((m + 1 : Nat) : Int) = true := small_of (by omega) (by omega)
  push_cast [ek, rngR_s sm, rangeL_map]
  refine wp_com (xs := List.range (m + 1)) (g := fun j : Nat => D.int j) (s := .un) (fun l r acc h' => Dz h' ∧ ∃ ns : List Int, acc = ns.map D.int ∧ ns.length = l.length ∧ ∀ x ∈ ns, 1 ≤ x ∧ x ≤ 999) rfl rfl ⟨hd2, [], rfl, rfl, fun x hx => nomatch hx⟩ ?_ ?_
  · rintro l j r acc h3 el ⟨hd3, ns, rfl, hn, hx⟩
    have hll : l.length ≤ 6 := by
      have := congrArg List.length el
      simp at this
      omega
    refine ⟨szB (by rw [List.length_map]; omega), ?_⟩
    push_cast []
    refine wp_call0 (off_w hd3 (by omega) (by omega)) ?_
    rintro _ h4 ⟨a, rfl, a0, a1, hd4⟩
    push_cast []
    refine wp_call0 (off_w hd4 (by omega) (by omega)) ?_
    rintro _ h5 ⟨b, rfl, b0, b1, hd5⟩
    push_cast []
    refine wp_call0 (off_w hd5 (by omega) (by omega)) ?_
    rintro _ h6 ⟨c, rfl, c0, c1, hd6⟩
    obtain ⟨_, e, w, rfl, w0, w1⟩ := ixP (xs := [.int (1 + a), .int 999, .int (1 + b)]) (P := fun d => ∃ z, d = .int z ∧ 1 ≤ z ∧ z ≤ 999) c0 c1 (by
      intro x hx
      simp only [List.mem_cons, List.not_mem_nil, or_false] at hx
      rcases hx with rfl | rfl | rfl
      · exact ⟨_, rfl, by omega, by omega⟩
      · exact ⟨_, rfl, by omega, by omega⟩
      · exact ⟨_, rfl, by omega, by omega⟩)
    push_cast [e]
    refine ⟨hd6, ns ++ [w], by simp, by simp [hn], fun x hx' => ?_⟩
    rcases List.mem_append.mp hx' with hx' | hx'
    · exact hx x hx'
    · rw [List.mem_singleton.mp hx']
      exact ⟨w0, w1⟩
  · rintro acc h3 ⟨hd3, ns, rfl, hn, hx⟩
    push_cast []
    refine ⟨ns, rfl, ?_, ?_, hx, hd3⟩
    · rintro rfl
      simp at hn
    · simp at hn
      omega
end Lw

set_option Elab.async false
set_option linter.all false
set_option maxRecDepth 100000
set_option maxHeartbeats 400000
namespace Lw
open PySem PySem.Spec Pm
local macro_rules | `(tactic| push_cast [$xs,*]) => `(tactic| simp only [wx_cons, wx_nil, wx_if, wx_for1, wx_forT, ↓gw_nx, ↓gw_rt, ↓gw_bk, ↓gw_ct, ↓ew_nx, ↓ew_rt, ↓tw_nx, ↓tw_ct, ↓tw_bk, ↓tw_rt, ↓ww_t, ↓ww_f, ↓to_bd, ↓to_ifT, bd_ok, bd_exc, bd_bd, ifT_t, ifT_f, wp_ok, wp_exc, wpC_ok, wpC_exc, ofC_exc, asB_bd, asB_ofC, asB_if, asI_bd, asI_ofC, tupR_bd, lstR_bd, if_bind, chn_le, chn_lt, v_com, v_comf, v_prom, promR_o, wp_ofC,
  x_set, x_setT, x_par2, x_ex, x_ret, x_retN, x_pass, x_brk, x_cnt, setTR_o, setO_s, bindS_nil, bindS_cons, v_con, v_glo, v_var, v_tup, v_lst, v_bin, v_cmp, v_cmp2, v_neg, v_and, v_or, v_not, v_ite, v_idx, v_sli, v_rev, v_f1, v_f2, v_isi, v_cal, a_nil', a_cons', o_no', o_so', it_seq, it_enu, it_rng1, it_rng2, seqR_l, seqR_t, seqR_s, seqR_o, enuR_l, enuR_t, enuR_o,
  o_bor, o_con, o_glo, o_tup, o_lst, o_bin, o_neg, o_idx, o_sli, o_rev, o_f1, o_f2, o_isi, o_cal, o_com, o_comf, o_ite, varR_v, varR_o, borR_v, borR_o, binR_s, cmpR_s, idxR_s, f1R_s, sliR_s, revR_s, isiR_s, negR_s, asB_ok, asI_ok, retR_some, retB_some, ofC_ok, Rd_v, Rd_o, Rs_v, Rs_o, cont_s, cont_v, cont_o, contS_v, contS_o,
  deref_int, deref_str, deref_bl, deref_non, deref_tup, deref_lst, deref_ref, derefR_lst, bin_add, bin_sub, cmp_eq, cmp_ne, cmp_lt, cmp_le, cmp_gt, cmp_ge, cmp_isn, cmp_isnn, eqI, eqF_str, eqF_nn, eqF_nt, eqF_tn, isNon_non, isNon_int, isNon_tup, isNon_lst, isNon_str, isNon_bl, ix_lst, ix_tup, ixD_0, ixD_1, ixD_2, ixD_3, sl_lst, sl_tup, rev_lst, f_len_l, f_len_t, f_sum, f_all, f_list_l, f_list_t, f_tup_l, f_tup_t, f_max2, f_min2, ints_map, bools_map,
  ty_ii, ty_ib, ty_in, ty_is, ty_it, ty_il, ty_bi, ty_bb, ty_bn, ty_bs, ty_bt, ty_bl, ty_ti, ty_tb, ty_tn, ty_ts, ty_tt, ty_tl, ty_si, ty_sb, ty_sn, ty_ss, ty_st, ty_sl, ty_li, ty_lb, ty_ln, ty_ls, ty_lt, ty_ll, kn_i, kn_b, kn_n, kn_s, kn_t, kn_l, tupR_0, tupR_1, tupR_2, tupR_3, tupR_4, tupR_5, tupR_6, tupR_7, tupR_8, lstR_0, lstR_1, lstR_2, lstR_3, lstR_4, lstR_5, lstR_6, lstR_7, lstR_8,
  List.getElem?_cons_succ, List.getElem?_cons_zero, List.set_cons_succ, List.set_cons_zero, List.map_cons, List.map_nil, List.cons_append, List.nil_append, List.replicate_succ, List.replicate_zero, Nat.reduceSub, Option.map_some, Bool.not_true, Bool.not_false, decide_true, decide_false, not_true_eq_false, not_false_eq_true, and_true, true_and, Int.reduceLT, Int.reduceLE, Int.reduceNeg,
  kw_clip_clip, kw_clip_gap, kw_clip_list, kw_clip_lead, kw_gap_clip, kw_gap_gap, kw_gap_list, kw_gap_lead, kw_list_clip, kw_list_gap, kw_list_list, kw_list_lead, kw_lead_clip, kw_lead_gap, kw_lead_list, kw_lead_lead, $xs,*])
theorem lin_mono {rs st of : Int} (hof : 0 < of) {j k : Int} (hjk : j ≤ k) (hst : 0 ≤ st) : (rs + j * st) / of ≤ (rs + k * st) / of := by
  refine Int.ediv_le_ediv hof ?_
  have := Int.mul_le_mul_of_nonneg_right hjk hst
  omega
theorem lin_anti {rs st of : Int} (hof : 0 < of) {j k : Int} (hjk : j ≤ k) (hst : st ≤ 0) : (rs + k * st) / of ≤ (rs + j * st) / of := by
  refine Int.ediv_le_ediv hof ?_
  have := Int.mul_le_mul_of_nonpos_right hjk hst
  omega
/-- a clip whose first and last frames are of its source -/
theorem clip_in {ss : List Int} {s b x : Int} {o : Go} {K : Nat} (ho : o.ok) (hs : 0 ≤ s) (hx : ss[s.toNat]? = some x) (hb : 0 ≤ b) (hb2 : b < x) (hK : 1 ≤ K) (he : 0 ≤ b + (o.rs + ((K : Int) - 1) * o.st) / o.of) (he2 : b + (o.rs + ((K : Int) - 1) * o.st) / o.of < x) :
    ∀ j < K, FrOk ss (o.fr s b j) := by
  intro j hj p hp
  obtain ⟨a1, a2, a3, a4, a5, a6⟩ := ho
  have e0 : (o.rs + 0 * o.st) / o.of = 0 := by
    rw [Int.zero_mul, Int.add_zero]
    exact Int.ediv_eq_zero_of_lt a5 a6
  have hof : 0 < o.of := by omega
  unfold Go.fr at hp
  cases hp
  refine ⟨hs, ?_, x, hx, ?_⟩ <;> dsimp only
  · rcases Int.le_total 0 o.st with h | h
    · have := lin_mono (rs := o.rs) hof (show (0 : Int) ≤ (j : Int) by omega) h
      omega
    · have := lin_anti (rs := o.rs) hof (show (j : Int) ≤ (K : Int) - 1 by omega) h
      omega
  · rcases Int.le_total 0 o.st with h | h
    · have := lin_mono (rs := o.rs) hof (show (j : Int) ≤ (K : Int) - 1 by omega) h
      omega
    · have := lin_anti (rs := o.rs) hof (show (0 : Int) ≤ (j : Int) by omega) h
      omega
theorem clip_w {n : Nat} {ss : List Int} {L : Int} {h : List Ob} (hd : Dz h) (q0 : ss ≠ []) (q1 : ss.length ≤ 6) (q2 : ∀ x ∈ ss, 1 ≤ x ∧ x ≤ 999) (hL : 1 ≤ L) (hL2 : L ≤ 1000) :
    WpC (callN T cf (n + 2) 41 [.ref 0, .tup (ss.map D.int), .int L] h) (fun r h' => ∃ p : Pc, r = .v p.D ∧ p.ok ∧ (p.len : Int) ≤ L ∧ (∀ j < p.len, FrOk ss (p.fr j)) ∧ Dz h') C0 := by
  have hl0 : 0 < ss.length := List.length_pos_iff.mpr q0
  rw [call__law_clip, b__law_clip]
  refine wp_run rfl ?_
  push_cast [List.length_map]
  refine wp_call0 (off_w hd (by omega) (by omega)) ?_
  rintro _ h1 ⟨s, rfl, s0, s1, hd⟩
  push_cast []
  refine wp_call0 (off_w hd (by omega) (by omega)) ?_
  rintro _ h2 ⟨a, rfl, a0, a1, hd⟩
  push_cast []
  refine wp_call0 (off_w hd (by omega) (by omega)) ?_
  rintro _ h3 ⟨b, rfl, b0, b1, hd⟩
  push_cast []
  refine wp_call0 (off_w hd (by omega) (by omega)) ?_
  rintro _ h4 ⟨v, rfl, v0, v1, hd⟩
  obtain ⟨_, e, st, rfl, st0, st1⟩ := ixP (xs := [.int 1, .int 1, .int a, .int (0 - b)]) (P := fun d => ∃ z, d = .int z ∧ -9 ≤ z ∧ z ≤ 9) v0 v1 (by
    intro x hx
    simp only [List.mem_cons, List.not_mem_nil, or_false] at hx
    rcases hx with rfl | rfl | rfl | rfl <;> exact ⟨_, rfl, by omega, by omega⟩)
  push_cast [e]
  refine wp_call0 (off_w hd (by omega) (by omega)) ?_
  rintro _ h5 ⟨a, rfl, a0, a1, hd⟩
  push_cast []
  refine wp_call0 (off_w hd (by omega) (by omega)) ?_
  rintro _ h6 ⟨v, rfl, v0, v1, hd⟩
  obtain ⟨_, e, of, rfl, of0, of1⟩ := ixP (xs := [.int 1, .int 1, .int (1 + a)]) (P := fun d => ∃ z, d = .int z ∧ 1 ≤ z ∧ z ≤ 9) v0 v1 (by
    intro x hx
    simp only [List.mem_cons, List.not_mem_nil, or_false] at hx
    rcases hx with rfl | rfl | rfl <;> exact ⟨_, rfl, by omega, by omega⟩)
  push_cast [e]
  refine wp_call0 (off_w hd (by omega) (by omega)) ?_
  rintro _ h7 ⟨rs, rfl, rs0, rs1, hd⟩
  have hst : s.toNat < ss.length := by omega
  have hix : ixD (ss.map D.int) s = some (.int ss[s.toNat]) := by
    rw [ixD_pos s0, List.getElem?_map, List.getElem?_eq_getElem hst]
    rfl
  obtain ⟨x0, x1⟩ := q2 _ (List.getElem_mem hst)
  have hx : ss[s.toNat]? = some ss[s.toNat] := List.getElem?_eq_getElem hst
  generalize ss[s.toNat] = x at hix x0 x1 hx
  push_cast [hix]
  refine wp_call0 (off_w hd (by omega) (by omega)) ?_
  rintro _ h8 ⟨b, rfl, b0, b1, hd⟩
  have ho : Go.ok ⟨st, of, rs⟩ := ⟨st0, st1, of0, of1, rs0, rs1⟩
  have hm : ∀ i, binop .mul (.int i) (.int st) = some (.v (.int (i * st))) := fun i => bin_mulrS (by omega) (by omega)
  have hf : ∀ i, binop .fdiv (.int i) (.int of) = some (.v (.int (i / of))) := fun i => bin_fdiv (by omega) (by omega)
  have hf2 : ∀ i, binop .fdiv (.int i) (.int 2) = some (.v (.int (i / 2))) := fun i => bin_fdiv (by omega) (by omega)
  push_cast []
  refine wp_whl (fun m σ h' => ∃ K : Nat, m = K ∧ 1 ≤ K ∧ (K : Int) ≤ L ∧ σ = [.v (.ref 0), .v (.tup (ss.map D.int)), .v (.int (K : Int)), .v (.int s), .v (.int st), .v (.int of), .v (.int rs), .v (.int b)] ∧ h' = h8) L.toNat ⟨L.toNat, rfl, by omega, by omega, by rw [show ((L.toNat : Nat) : Int) = L by omega], rfl⟩ ?_
  rintro m σ h' ⟨K, rfl, K1, K2, rfl, rfl⟩
  have fin : 0 ≤ b + (rs + ((m : Int) - 1) * st) / of → b + (rs + ((m : Int) - 1) * st) / of < x → ∃ p : Pc, R.v (.tup [.str "clip", .int s, .int b, .int st, .int of, .int rs, .int (m : Int)]) = .v p.D ∧ p.ok ∧ (p.len : Int) ≤ L ∧ (∀ j < p.len, FrOk ss (p.fr j)) ∧ Dz h' := fun w1 w2 =>
    ⟨.clip s b ⟨st, of, rs⟩ m, rfl, ⟨K1, ho⟩, K2, clip_in ho s0 hx b0 b1 K1 w1 w2, hd⟩
  push_cast []
  by_cases hK : (1 : Int) < (m : Int)
  · push_cast [hK, hm, hf, hix]
    by_cases hA : 0 ≤ b + (rs + ((m : Int) - 1) * st) / of
    · by_cases hB : b + (rs + ((m : Int) - 1) * st) / of < x
      · push_cast [hA, hB, hix]
        exact fin hA hB
      · push_cast [hA, hB, hix, hf2]
        refine ⟨m / 2, by omega, m / 2, rfl, by omega, by omega, ?_⟩
        congr 4
    · push_cast [hA, hf2]
      refine ⟨m / 2, by omega, m / 2, rfl, by omega, by omega, ?_⟩
      congr 4
  · push_cast [hK]
    obtain rfl : m = 1 := by omega
    have e0 : (rs + (((1 : Nat) : Int) - 1) * st) / of = 0 := by
      rw [show ((1 : Nat) : Int) - 1 = 0 by omega, Int.zero_mul, Int.add_zero]
      exact Int.ediv_eq_zero_of_lt rs0 rs1
    exact fin (by omega) (by omega)
end Lw

set_option Elab.async false
set_option linter.all false
set_option maxRecDepth 100000
set_option maxHeartbeats 400000
namespace Lw
open PySem PySem.Spec Pm
local macro_rules | `(tactic| push_cast [$xs,*]) => `(tactic| simp only [wx_cons, wx_nil, wx_if, wx_for1, wx_forT, ↓gw_nx, ↓gw_rt, ↓gw_bk, ↓gw_ct, ↓ew_nx, ↓ew_rt, ↓tw_nx, ↓tw_ct, ↓tw_bk, ↓tw_rt, ↓ww_t, ↓ww_f, ↓to_bd, ↓to_ifT, bd_ok, bd_exc, bd_bd, ifT_t, ifT_f, wp_ok, wp_exc, wpC_ok, wpC_exc, ofC_exc, asB_bd, asB_ofC, asB_if, asI_bd, asI_ofC, tupR_bd, lstR_bd, if_bind, chn_le, chn_lt, v_com, v_comf, v_prom, promR_o, wp_ofC,
  x_set, x_setT, x_par2, x_ex, x_ret, x_retN, x_pass, x_brk, x_cnt, setTR_o, setO_s, bindS_nil, bindS_cons, v_con, v_glo, v_var, v_tup, v_lst, v_bin, v_cmp, v_cmp2, v_neg, v_and, v_or, v_not, v_ite, v_idx, v_sli, v_rev, v_f1, v_f2, v_isi, v_cal, a_nil', a_cons', o_no', o_so', it_seq, it_enu, it_rng1, it_rng2, seqR_l, seqR_t, seqR_s, seqR_o, enuR_l, enuR_t, enuR_o,
  o_bor, o_con, o_glo, o_tup, o_lst, o_bin, o_neg, o_idx, o_sli, o_rev, o_f1, o_f2, o_isi, o_cal, o_com, o_comf, o_ite, varR_v, varR_o, borR_v, borR_o, binR_s, cmpR_s, idxR_s, f1R_s, sliR_s, revR_s, isiR_s, negR_s, asB_ok, asI_ok, retR_some, retB_some, ofC_ok, Rd_v, Rd_o, Rs_v, Rs_o, cont_s, cont_v, cont_o, contS_v, contS_o,
  deref_int, deref_str, deref_bl, deref_non, deref_tup, deref_lst, deref_ref, derefR_lst, bin_add, bin_sub, cmp_eq, cmp_ne, cmp_lt, cmp_le, cmp_gt, cmp_ge, cmp_isn, cmp_isnn, eqI, eqF_str, eqF_nn, eqF_nt, eqF_tn, isNon_non, isNon_int, isNon_tup, isNon_lst, isNon_str, isNon_bl, ix_lst, ix_tup, ixD_0, ixD_1, ixD_2, ixD_3, sl_lst, sl_tup, rev_lst, f_len_l, f_len_t, f_sum, f_all, f_list_l, f_list_t, f_tup_l, f_tup_t, f_max2, f_min2, ints_map, bools_map,
  ty_ii, ty_ib, ty_in, ty_is, ty_it, ty_il, ty_bi, ty_bb, ty_bn, ty_bs, ty_bt, ty_bl, ty_ti, ty_tb, ty_tn, ty_ts, ty_tt, ty_tl, ty_si, ty_sb, ty_sn, ty_ss, ty_st, ty_sl, ty_li, ty_lb, ty_ln, ty_ls, ty_lt, ty_ll, kn_i, kn_b, kn_n, kn_s, kn_t, kn_l, tupR_0, tupR_1, tupR_2, tupR_3, tupR_4, tupR_5, tupR_6, tupR_7, tupR_8, lstR_0, lstR_1, lstR_2, lstR_3, lstR_4, lstR_5, lstR_6, lstR_7, lstR_8,
  List.getElem?_cons_succ, List.getElem?_cons_zero, List.set_cons_succ, List.set_cons_zero, List.map_cons, List.map_nil, List.cons_append, List.nil_append, List.replicate_succ, List.replicate_zero, Nat.reduceSub, Option.map_some, Bool.not_true, Bool.not_false, decide_true, decide_false, not_true_eq_false, not_false_eq_true, and_true, true_and, Int.reduceLT, Int.reduceLE, Int.reduceNeg,
  kw_clip_clip, kw_clip_gap, kw_clip_list, kw_clip_lead, kw_gap_clip, kw_gap_gap, kw_gap_list, kw_gap_lead, kw_list_clip, kw_list_gap, kw_list_list, kw_list_lead, kw_lead_clip, kw_lead_gap, kw_lead_list, kw_lead_lead, $xs,*])
theorem plain_w {n : Nat} {ss : List Int} {L : Int} {h : List Ob} (hd : Dz h) (q0 : ss ≠ []) (q1 : ss.length ≤ 6) (q2 : ∀ x ∈ ss, 1 ≤ x ∧ x ≤ 999) (hL : 1 ≤ L) (hL2 : L ≤ 1000) :
    WpC (callN T cf (n + 3) 74 [.ref 0, .tup (ss.map D.int), .int L, .lst []] h) (fun r h' => ∃ p : Pc, r = .v p.D ∧ p.ok ∧ (p.len : Int) ≤ L ∧ (∀ j < p.len, FrOk ss (p.fr j)) ∧ Dz h') C0 := by
  rw [call__law_plain, b__law_plain]
  refine wp_run rfl ?_
  push_cast []
  refine wp_call0 (off_w hd (by omega) (by omega)) ?_
  rintro _ h1 ⟨k, rfl, k0, k1, hd⟩
  by_cases hk : k = 0
  · push_cast [hk]
    refine ⟨.gap L.toNat, ?_, ?_, ?_, fun j hj p hp => (by cases hp), hd⟩
    · show _ = R.v (.tup [.str "gap", .int ((L.toNat : Nat) : Int)])
      rw [show ((L.toNat : Nat) : Int) = L by omega]
    · show 1 ≤ L.toNat
      omega
    · show ((L.toNat : Nat) : Int) ≤ L
      omega
  · by_cases hk3 : k < 3
    · push_cast [hk, hk3, eqF_lst60, eqL_nn]
      refine wp_call0 (clip_w hd q0 q1 q2 hL hL2) ?_
      rintro _ h2 ⟨p, rfl, p1, p2, p3, hd⟩
      push_cast []
      exact ⟨p, rfl, p1, p2, p3, hd⟩
    · push_cast [hk, hk3, eqF_lst60, eqL_nn]
      refine wp_call0 (clip_w hd q0 q1 q2 hL hL2) ?_
      rintro _ h2 ⟨p, rfl, p1, p2, p3, hd⟩
      push_cast []
      exact ⟨p, rfl, p1, p2, p3, hd⟩
theorem ch_flat {fs : List Fr} : ∀ {ps : List Pc} {q : Nat}, Ch fs q ps fs.length → flat ps = fs.drop q
  | [], q, h => by
    have h : q = fs.length := h
    rw [h, List.drop_length]
    rfl
  | p :: r, q, h => by
    have c := ch_flat h.2
    have hle := h.1.le
    unfold flat at c ⊢
    rw [List.flatMap_cons, c, ← List.drop_drop]
    conv => rhs; rw [← List.take_append_drop p.len (fs.drop q)]
    congr 1
    refine frs_ext (by rw [List.length_take, List.length_drop]; omega) fun j hj => ?_
    rw [List.getElem?_take_of_lt hj, List.getElem?_drop, h.1.sh j hj]
theorem ch_ok {fs : List Fr} : ∀ {ps : List Pc} {q : Nat}, Ch fs q ps fs.length → ∀ p ∈ ps, p.ok
  | [], q, h => fun p hp => nomatch hp
  | p :: r, q, h => fun a ha => by
    rcases List.mem_cons.mp ha with rfl | ha
    · exact h.1.ok
    · exact ch_ok h.2 a ha
theorem cov_flat : ∀ {ps : List Pc}, (∀ p ∈ ps, p.ok) → Cov ps.length (flat ps)
  | [], _ => .nil
  | p :: r, h => .cons ⟨p, h p List.mem_cons_self, rfl⟩ (cov_flat fun a ha => h a (List.mem_cons_of_mem _ ha))
structure Src (ss : List Int) : Prop where
  ne : ss ≠ []
  len : ss.length ≤ 6
  all : ∀ x ∈ ss, 1 ≤ x ∧ x ≤ 999
theorem few {n : Nat} {ss : List Int} {fs : List Fr} (hs : Src ss) (hl : fs.length ≤ 60) (hf : ∀ f ∈ fs, FrOk ss f) (h : List Ob) :
    ∃ ps : List Pc, callN T cf (n + 4) 98 [.tup (ss.map D.int), .lst (fs.map frD)] h = .ok (.v (.tup (ps.map Pc.D))) h ∧ flat ps = fs ∧ (∀ p ∈ ps, p.ok) ∧ Cov ps.length fs ∧ (∀ m, Cov m fs → ps.length ≤ m) ∧ ps.length ≤ 60 := by
  obtain ⟨ps, c, e⟩ := fewest_ok (n := n) (h := h) hs.ne hs.len hs.all hl hf
  have z := ch_flat c
  have z2 := ch_cov c
  rw [List.drop_zero] at z z2
  refine ⟨ps, e, z, ch_ok c, z2, fun m hm => ch_least c (by rw [List.drop_zero]; exact hm), ?_⟩
  have := c.le
  omega
/-- what a row is -/
structure RowOk (ss : List Int) (ps : List Pc) : Prop where
  ok : ∀ p ∈ ps, p.ok
  fr : ∀ p ∈ ps, ∀ j < p.len, FrOk ss (p.fr j)
theorem row_fr {ss : List Int} {ps : List Pc} (h : RowOk ss ps) : ∀ f ∈ flat ps, FrOk ss f := by
  intro f hf
  obtain ⟨p, hp, hf⟩ := List.mem_flatMap.mp hf
  obtain ⟨j, hj, rfl⟩ := List.mem_map.mp hf
  exact h.fr p hp j (List.mem_range.mp hj)
theorem maxL2 {a b : Int} : maxL a [b] = if b > a then b else a := rfl
theorem mul60 {d : Pm.D} : binop .mul (.lst [d]) (.int 60) = some (.o (List.replicate 60 d)) := by
  rw [bin_mulL (by omega) (by omega) (Nat.le_trans (show [d].length * (60 : Int).toNat ≤ 100000 by simp) (szC (Nat.le_refl _))), List.flatten_replicate_singleton]
  rfl
end Lw

set_option Elab.async false
set_option linter.all false
set_option maxRecDepth 100000
set_option maxHeartbeats 400000
namespace Lw
open PySem PySem.Spec Pm
local macro_rules | `(tactic| push_cast [$xs,*]) => `(tactic| simp only [wx_cons, wx_nil, wx_if, wx_for1, wx_forT, ↓gw_nx, ↓gw_rt, ↓gw_bk, ↓gw_ct, ↓ew_nx, ↓ew_rt, ↓tw_nx, ↓tw_ct, ↓tw_bk, ↓tw_rt, ↓ww_t, ↓ww_f, ↓to_bd, ↓to_ifT, bd_ok, bd_exc, bd_bd, ifT_t, ifT_f, wp_ok, wp_exc, wpC_ok, wpC_exc, ofC_exc, asB_bd, asB_ofC, asB_if, asI_bd, asI_ofC, tupR_bd, lstR_bd, if_bind, chn_le, chn_lt, v_com, v_comf, v_prom, promR_o, wp_ofC,
  x_set, x_setT, x_par2, x_ex, x_ret, x_retN, x_pass, x_brk, x_cnt, setTR_o, setO_s, bindS_nil, bindS_cons, v_con, v_glo, v_var, v_tup, v_lst, v_bin, v_cmp, v_cmp2, v_neg, v_and, v_or, v_not, v_ite, v_idx, v_sli, v_rev, v_f1, v_f2, v_isi, v_cal, a_nil', a_cons', o_no', o_so', it_seq, it_enu, it_rng1, it_rng2, seqR_l, seqR_t, seqR_s, seqR_o, enuR_l, enuR_t, enuR_o,
  o_bor, o_con, o_glo, o_tup, o_lst, o_bin, o_neg, o_idx, o_sli, o_rev, o_f1, o_f2, o_isi, o_cal, o_com, o_comf, o_ite, varR_v, varR_o, borR_v, borR_o, binR_s, cmpR_s, idxR_s, f1R_s, sliR_s, revR_s, isiR_s, negR_s, asB_ok, asI_ok, retR_some, retB_some, ofC_ok, Rd_v, Rd_o, Rs_v, Rs_o, cont_s, cont_v, cont_o, contS_v, contS_o,
  deref_int, deref_str, deref_bl, deref_non, deref_tup, deref_lst, deref_ref, derefR_lst, bin_add, bin_sub, cmp_eq, cmp_ne, cmp_lt, cmp_le, cmp_gt, cmp_ge, cmp_isn, cmp_isnn, eqI, eqF_str, eqF_nn, eqF_nt, eqF_tn, isNon_non, isNon_int, isNon_tup, isNon_lst, isNon_str, isNon_bl, ix_lst, ix_tup, ixD_0, ixD_1, ixD_2, ixD_3, sl_lst, sl_tup, rev_lst, f_len_l, f_len_t, f_sum, f_all, f_list_l, f_list_t, f_tup_l, f_tup_t, f_max2, f_min2, ints_map, bools_map,
  ty_ii, ty_ib, ty_in, ty_is, ty_it, ty_il, ty_bi, ty_bb, ty_bn, ty_bs, ty_bt, ty_bl, ty_ti, ty_tb, ty_tn, ty_ts, ty_tt, ty_tl, ty_si, ty_sb, ty_sn, ty_ss, ty_st, ty_sl, ty_li, ty_lb, ty_ln, ty_ls, ty_lt, ty_ll, kn_i, kn_b, kn_n, kn_s, kn_t, kn_l, tupR_0, tupR_1, tupR_2, tupR_3, tupR_4, tupR_5, tupR_6, tupR_7, tupR_8, lstR_0, lstR_1, lstR_2, lstR_3, lstR_4, lstR_5, lstR_6, lstR_7, lstR_8,
  List.getElem?_cons_succ, List.getElem?_cons_zero, List.set_cons_succ, List.set_cons_zero, List.map_cons, List.map_nil, List.cons_append, List.nil_append, List.replicate_succ, List.replicate_zero, Nat.reduceSub, Option.map_some, Bool.not_true, Bool.not_false, decide_true, decide_false, not_true_eq_false, not_false_eq_true, and_true, true_and, Int.reduceLT, Int.reduceLE, Int.reduceNeg,
  kw_clip_clip, kw_clip_gap, kw_clip_list, kw_clip_lead, kw_gap_clip, kw_gap_gap, kw_gap_list, kw_gap_lead, kw_list_clip, kw_list_gap, kw_list_list, kw_list_lead, kw_lead_clip, kw_lead_gap, kw_lead_list, kw_lead_lead, $xs,*])
theorem total_app {a b : List Pc} : total (a ++ b) = total a + total b := by
  unfold total
  rw [List.map_append, List.sum_append]
theorem Src.row {ss : List Int} {fs : List Fr} (hf : ∀ f ∈ fs, FrOk ss f) {gs : List Fr} (h : ∀ f ∈ gs, f ∈ fs) : ∀ f ∈ gs, FrOk ss f := fun f hg => hf f (h f hg)
def turnB : Pm.Ss := match b_law with
  | .cons _ (.cons (.for1 _ _ (.cons _ (.cons _ (.cons _ b)))) _) => b
  | _ => .nil
/-- one turn's pieces -/
theorem turn_w {n : Nat} {ns : List Int} {ss : List Int} {ps : List Pc} {s2 s5 s6 s7 s8 s9 s10 : Slot} {h : List Ob} {J : List Slot → List Ob → Prop} {Q : Pm.Flow → List Slot → List Ob → Prop} {rest : Pm.Ss}
    (hs : Src ss) (hp : RowOk ss ps) (hl : ps.length ≤ 9) (hd : Dz h)
    (fin : ∀ s5 s6 s7 s8 s9 s10 h', Dz h' → J [.v (.scr ns), .v (.ref 0), s2, .v (.tup (ss.map D.int)), .v (.tup (ps.map Pc.D)), s5, s6, s7, s8, s9, s10, .un] h') :
    Wp (exR (callN T cf (n + 10)) cf turnB [.v (.scr ns), .v (.ref 0), s2, .v (.tup (ss.map D.int)), .v (.tup (ps.map Pc.D)), s5, s6, s7, s8, s9, s10, .un] h) (TurnW J Q) X0 := by
  have hrow := row_fr hp
  have c0 := cov_flat hp.ok
  generalize hfs : (flat ps).take 60 = fs
  have hl60 : fs.length ≤ 60 := by rw [← hfs, List.length_take]; omega
  have hfr : ∀ f ∈ fs, FrOk ss f := fun f hf => hrow f (by rw [← hfs] at hf; exact List.mem_of_mem_take hf)
  have e1 := all_ok (n := n + 7) (m := 60) (F := .tup []) hp.ok (by omega) (by omega) (h := h)
  replace e1 : callN T cf (n + 10) _ [_, _, .int 60] _ = _ := e1
  rw [hfs] at e1
  obtain ⟨w, ew, fw, ow, cw, mw, lw⟩ := few (n := n + 6) hs hl60 hfr h
  replace ew : callN T cf (n + 10) _ _ _ = _ := ew
  have w1 : w.length ≤ ps.length := by
    obtain ⟨a, b, a1, b1, ab, ca, cb⟩ := cov_split c0 60
    rw [hfs] at ca
    exact Nat.le_trans (mw _ ca) a1
  have e2 : callN T cf (n + 10) _ [_, _, .int 99] _ = _ := all_ok (n := n + 7) (m := 99) (F := .tup []) ow (by omega) (by omega) (h := h)
  rw [fw, List.take_of_length_le (by omega)] at e2
  have e3 : ∀ h, callN T cf (n + 10) _ _ h = .ok (.v (.bl true)) h := fun h => alike_frs (n := n + 7) (fs := fs) (h := h) (by omega)
  have g1 : decide ((ps.length : Int) < (w.length : Int)) = false := decF (by omega)
  dsimp only [turnB, b_law]
  push_cast [e1, ew, List.length_map, g1, e2, e3]
  have hoff : 0 < (fs.length : Int) + 1 := by omega
  refine wp_call0 (off_w (n := n + 9) hd hoff (by omega)) ?_
  rintro _ h2 ⟨k, rfl, k0, k1, hd⟩
  obtain ⟨p, ep, fp, op, cp, mp, lp⟩ := few (n := n + 6) hs (fs := fs.take k.toNat) (by rw [List.length_take]; omega) (Src.row hfr fun f hf => List.mem_of_mem_take hf) h2
  replace ep : callN T cf (n + 10) _ _ _ = _ := ep
  obtain ⟨q, eq, fq, oq, cq, mq, lq⟩ := few (n := n + 6) hs (fs := fs.drop k.toNat) (by rw [List.length_drop]; omega) (Src.row hfr fun f hf => List.mem_of_mem_drop hf) h2
  replace eq : callN T cf (n + 10) _ _ _ = _ := eq
  obtain ⟨a, b, a1, b1, ab, ca, cb⟩ := cov_split cw k.toNat
  have z1 := mp _ ca
  have z2 := mq _ cb
  have z3 : w.length ≤ p.length + q.length := mw _ (by rw [← List.take_append_drop k.toNat fs]; exact cov_app cp cq)
  have et : (fs.map frD).take k.toNat = (fs.take k.toNat).map frD := List.map_take.symm
  have ed : (fs.map frD).drop k.toNat = (fs.drop k.toNat).map frD := List.map_drop.symm
  push_cast [cut_take k0, cut_drop k0, et, ed, ep, eq]
  refine wp_comM (xs := [D.tup (p.map Pc.D), D.tup (q.map Pc.D)]) (g := fun d => d) (f := fun d => match d with | .tup xs => .int xs.length | _ => .non) (s := .un) rfl rfl (szC (show 2 ≤ 100000 by omega)) (fun d hd => ?_) ?_
  · simp only [List.mem_cons, List.not_mem_nil, or_false] at hd
    rcases hd with rfl | rfl <;> push_cast []
  have emx : fn1 .max (.lst [.int (p.length : Int), .int (q.length : Int)]) = some (.v (.int (if (q.length : Int) > (p.length : Int) then (q.length : Int) else (p.length : Int)))) := rfl
  have g2 : decide ((w.length : Int) < (if (q.length : Int) > (p.length : Int) then (q.length : Int) else (p.length : Int))) = false := decF (by split <;> omega)
  have esm : intsD [.int (p.length : Int), .int (q.length : Int)] = some [(p.length : Int), (q.length : Int)] := rfl
  have g3 : decide ((w.length : Int) ≤ ([(p.length : Int), (q.length : Int)] : List Int).sum) = true := decT (by simp; omega)
  have g4 : decide (([(p.length : Int), (q.length : Int)] : List Int).sum ≤ (w.length : Int) + 1) = true := decT (by simp; omega)
  have er : (fs.map frD).reverse = fs.reverse.map frD := List.map_reverse.symm
  obtain ⟨v, ev, fv, ov, cv, mv, lv⟩ := few (n := n + 6) hs (fs := fs.reverse) (by rw [List.length_reverse]; omega) (Src.row hfr fun f hf => List.mem_reverse.mp hf) h2
  replace ev : callN T cf (n + 10) _ _ _ = _ := ev
  have v1 := mv _ (cov_rev cw)
  have v2 := mw _ (by have := cov_rev cv; rw [List.reverse_reverse] at this; exact this)
  have g5 : decide ((v.length : Int) = (w.length : Int)) = true := decT (by omega)
  have e4 : callN T cf (n + 10) _ [_, _, .int 99] _ = _ := all_ok (n := n + 7) (m := 99) (F := .tup []) ov (by omega) (by omega) (h := h2)
  rw [fv, List.take_of_length_le (by rw [List.length_reverse]; omega)] at e4
  have e5 : ∀ h, callN T cf (n + 10) _ _ h = .ok (.v (.bl true)) h := fun h => alike_frs (n := n + 7) (fs := fs.reverse) (h := h) (by rw [List.length_reverse]; omega)
  push_cast [List.length_map, emx, g2, esm, g3, g4, er, ev, g5, e4, e5]
  cases hfs0 : fs with
  | nil =>
    push_cast [eqF_lst60, eqL_nn]
    exact fin _ _ _ _ _ _ _ hd
  | cons f0 fr =>
    cases f0 with
    | none =>
      push_cast [eqF_lst60, eqL_cn, frD_none]
      exact fin _ _ _ _ _ _ _ hd
    | some p0 =>
      obtain ⟨rp, hrp⟩ : ∃ rp, List.replicate 60 (some p0) = rp := ⟨_, rfl⟩
      have h60 : binop .mul (.lst [D.tup [.int p0.1, .int p0.2]]) (.int 60) = some (.o (rp.map frD)) := by rw [mul60, ← hrp, List.map_replicate]; rfl
      have hrl : rp.length = 60 := by rw [← hrp, List.length_replicate]
      obtain ⟨u, eu, fu, ou, cu, mu, lu⟩ := few (n := n + 6) hs (fs := rp) (by omega) (Src.row hfr fun f hf => by rw [← hrp] at hf; rw [List.eq_of_mem_replicate hf, hfs0]; exact List.mem_cons_self) h2
      replace eu : callN T cf (n + 10) _ _ _ = _ := eu
      have u1 := mu _ (cov_one (by rw [← hrp]; exact seg_same (n := 60) (by omega)))
      have u2 := cov_nil cu (by rintro rfl; simp at hrl)
      have g6 : decide ((u.length : Int) = 1) = true := decT (by omega)
      push_cast [eqF_lst60, eqL_cn, frD_some, h60, eu, List.length_map, g6]
      exact fin _ _ _ _ _ _ _ hd
end Lw

set_option Elab.async false
set_option linter.all false
set_option maxRecDepth 100000
set_option maxHeartbeats 400000
namespace Lw
open PySem PySem.Spec Pm
local macro_rules | `(tactic| push_cast [$xs,*]) => `(tactic| simp only [wx_cons, wx_nil, wx_if, wx_for1, wx_forT, ↓gw_nx, ↓gw_rt, ↓gw_bk, ↓gw_ct, ↓ew_nx, ↓ew_rt, ↓tw_nx, ↓tw_ct, ↓tw_bk, ↓tw_rt, ↓ww_t, ↓ww_f, ↓to_bd, ↓to_ifT, bd_ok, bd_exc, bd_bd, ifT_t, ifT_f, wp_ok, wp_exc, wpC_ok, wpC_exc, ofC_exc, asB_bd, asB_ofC, asB_if, asI_bd, asI_ofC, tupR_bd, lstR_bd, if_bind, chn_le, chn_lt, v_com, v_comf, v_prom, promR_o, wp_ofC,
  x_set, x_setT, x_par2, x_ex, x_ret, x_retN, x_pass, x_brk, x_cnt, setTR_o, setO_s, bindS_nil, bindS_cons, v_con, v_glo, v_var, v_tup, v_lst, v_bin, v_cmp, v_cmp2, v_neg, v_and, v_or, v_not, v_ite, v_idx, v_sli, v_rev, v_f1, v_f2, v_isi, v_cal, a_nil', a_cons', o_no', o_so', it_seq, it_enu, it_rng1, it_rng2, seqR_l, seqR_t, seqR_s, seqR_o, enuR_l, enuR_t, enuR_o,
  o_bor, o_con, o_glo, o_tup, o_lst, o_bin, o_neg, o_idx, o_sli, o_rev, o_f1, o_f2, o_isi, o_cal, o_com, o_comf, o_ite, varR_v, varR_o, borR_v, borR_o, binR_s, cmpR_s, idxR_s, f1R_s, sliR_s, revR_s, isiR_s, negR_s, asB_ok, asI_ok, retR_some, retB_some, ofC_ok, Rd_v, Rd_o, Rs_v, Rs_o, cont_s, cont_v, cont_o, contS_v, contS_o,
  deref_int, deref_str, deref_bl, deref_non, deref_tup, deref_lst, deref_ref, derefR_lst, bin_add, bin_sub, cmp_eq, cmp_ne, cmp_lt, cmp_le, cmp_gt, cmp_ge, cmp_isn, cmp_isnn, eqI, eqF_str, eqF_nn, eqF_nt, eqF_tn, isNon_non, isNon_int, isNon_tup, isNon_lst, isNon_str, isNon_bl, ix_lst, ix_tup, ixD_0, ixD_1, ixD_2, ixD_3, sl_lst, sl_tup, rev_lst, f_len_l, f_len_t, f_sum, f_all, f_list_l, f_list_t, f_tup_l, f_tup_t, f_max2, f_min2, ints_map, bools_map,
  ty_ii, ty_ib, ty_in, ty_is, ty_it, ty_il, ty_bi, ty_bb, ty_bn, ty_bs, ty_bt, ty_bl, ty_ti, ty_tb, ty_tn, ty_ts, ty_tt, ty_tl, ty_si, ty_sb, ty_sn, ty_ss, ty_st, ty_sl, ty_li, ty_lb, ty_ln, ty_ls, ty_lt, ty_ll, kn_i, kn_b, kn_n, kn_s, kn_t, kn_l, tupR_0, tupR_1, tupR_2, tupR_3, tupR_4, tupR_5, tupR_6, tupR_7, tupR_8, lstR_0, lstR_1, lstR_2, lstR_3, lstR_4, lstR_5, lstR_6, lstR_7, lstR_8,
  List.getElem?_cons_succ, List.getElem?_cons_zero, List.set_cons_succ, List.set_cons_zero, List.map_cons, List.map_nil, List.cons_append, List.nil_append, List.replicate_succ, List.replicate_zero, Nat.reduceSub, Option.map_some, Bool.not_true, Bool.not_false, decide_true, decide_false, not_true_eq_false, not_false_eq_true, and_true, true_and, Int.reduceLT, Int.reduceLE, Int.reduceNeg,
  kw_clip_clip, kw_clip_gap, kw_clip_list, kw_clip_lead, kw_gap_clip, kw_gap_gap, kw_gap_list, kw_gap_lead, kw_list_clip, kw_list_gap, kw_list_list, kw_list_lead, kw_lead_clip, kw_lead_gap, kw_lead_list, kw_lead_lead, $xs,*])
theorem law_w {n : Nat} {ns : List Int} (hl : ns.length ≤ 63) : WpC (callN T cf (n + 11) 109 [.scr ns] []) (fun r _ => r = .v (.bl true)) C0 := by
  rw [call_law, b_law]
  refine wp_run rfl ?_
  push_cast []
  refine wp_call0 (dice_w (n := n + 9) hl) ?_
  rintro _ h1 ⟨a, xs, rfl, hx, rfl⟩
  have sm3 : small62 3 = true := small_of (by omega) (by omega)
  have r3 : rangeL 0 3 = (List.range 3).map fun j : Nat => D.int j := rangeL_map (k := 3)
  push_cast [rngR_s sm3, List.length_nil]
  refine wp_for (xs := List.range 3) (g := fun j : Nat => D.int j) (fun l r σ h' => Dz h' ∧ ∃ s2 s3 s4 s5 s6 s7 s8 s9 s10, σ = [.v (.scr ns), .v (.ref 0), s2, s3, s4, s5, s6, s7, s8, s9, s10, .un]) r3 ⟨⟨a, 0, xs, rfl, by omega⟩, _, _, _, _, _, _, _, _, _, rfl⟩ ?_ ?_
  · rintro l k r σ h e ⟨hd, s2, s3, s4, s5, s6, s7, s8, s9, s10, rfl⟩
    refine ⟨_, rfl, ?_⟩
    push_cast []
    refine wp_call0 (sources_w (n := n + 8) hd) ?_
    rintro _ h2 ⟨ss, rfl, q0, q1, q2, hd⟩
    push_cast []
    refine wp_whl (fun m σ h' => Dz h' ∧ ∃ ps : List Pc, m = 9 - ps.length ∧ RowOk ss ps ∧ ps.length ≤ 9 ∧ σ = [.v (.scr ns), .v (.ref 0), .v (.int (k : Int)), .v (.tup (ss.map D.int)), .v (.tup (ps.map Pc.D)), s5, s6, s7, s8, s9, s10, .un]) 9 ⟨hd, [], rfl, ⟨fun p hp => (nomatch hp), fun p hp => (nomatch hp)⟩, by simp, rfl⟩ ?_
    rintro m σ h' ⟨hd, ps, rfl, hp, hl9, rfl⟩
    have es : callN T cf (n + 10) 84 [.tup (ps.map Pc.D)] h' = _ := size_ok (n := n + 8) (ps := ps) (h := h') (by omega)
    have fin := @turn_w n ns ss ps (.v (.int (k : Int))) s5 s6 s7 s8 s9 s10 h' (fun σ h' => Dz h' ∧ ∃ s2 s3 s4 s5 s6 s7 s8 s9 s10, σ = [.v (.scr ns), .v (.ref 0), s2, s3, s4, s5, s6, s7, s8, s9, s10, .un])
      (GoesW (callN T cf (n + 10)) cf (.cons (.ret (.con (.bl true))) .nil) (EndsW fun r _ => r = .v (.bl true)) fun c p _ h => C0 c p h) .nil ⟨q0, q1, q2⟩ hp hl9 hd (fun t5 t6 t7 t8 t9 t10 h3 hd3 => ⟨hd3, _, _, _, _, _, _, _, _, _, rfl⟩)
    obtain ⟨B, eB⟩ : ∃ B, B = turnB := ⟨_, rfl⟩
    rw [← eB] at fin
    dsimp only [turnB, b_law] at eB
    rw [← eB]
    clear eB
    by_cases h40 : (total ps : Int) < 40
    · by_cases h9 : (ps.length : Int) < 9
      · push_cast [es, h40, h9, List.length_map]
        refine wp_call0 (off_w (n := n + 9) hd (by omega) (by omega)) ?_
        rintro _ h3 ⟨v, rfl, v0, v1, hd⟩
        push_cast []
        refine wp_call0 (plain_w (n := n + 7) hd q0 q1 q2 (by omega) (by omega)) ?_
        rintro _ h4 ⟨p, rfl, p1, p2, p3, hd⟩
        have hz : (ps.map Pc.D).length + [p.D].length ≤ sizeLine := szA (by simp; omega)
        push_cast [bin_addt hz]
        refine ⟨9 - (ps ++ [p]).length, by simp; omega, hd, ps ++ [p], rfl, ⟨?_, ?_⟩, by simp; omega, by simp⟩
        · intro a ha
          rcases List.mem_append.mp ha with ha | ha
          · exact hp.ok a ha
          · rw [List.mem_singleton.mp ha]; exact p1
        · intro a ha
          rcases List.mem_append.mp ha with ha | ha
          · exact hp.fr a ha
          · rw [List.mem_singleton.mp ha]; exact p3
      · push_cast [es, h40, h9, List.length_map]
        exact fin
    · push_cast [es, h40]
      exact fin
  · rintro σ h ⟨hd, s2, s3, s4, s5, s6, s7, s8, s9, s10, rfl⟩
    push_cast []
def lev : Nat := 11
theorem law_true : ∀ ns : List Int, ns.length ≤ 63 → ∃ h', callN (tabOf defs) cf lev 109 [.scr ns] [] = .ok (.v (.bl true)) h' := by
  intro ns hl
  obtain ⟨r, h', e, rfl⟩ := wpC_ex (law_w (n := 0) hl)
  exact ⟨h', e⟩
end Lw

set_option maxHeartbeats 0
namespace Hd
open PySem PySem.Spec PyProof.Rows L2
def names0 : List PySem.Str := ["CutError", "BadSources", "BadFrames", "MOST_SOURCES", "MOST_FRAMES_pieces", "MOST_STEP", "CLIP", "GAP", "is_between", "need_sources", "source_frame", "MOST_FRAMES_fewest", "is_frame", "need_frames", "clips_at", "longest_at", "fewest", "_law_dice", "_law_off", "_law_alike", "_law_sources", "_law_clip", "_law_plain", "_law_long", "_law_piece_shows", "_law_layer_shows", "_law_list_shows", "_law_size", "_law_all"]
def names : List PySem.Str := names0
def fa : List He.Fa := Pm.faOf Lw.defs Lw.glo
def fn : List He.DefD := Lw.defs.map Pm.DefI.d
abbrev R : PySem.W.OpenRow := PySem.W.OpenLaw.row PySem.Challenge.rw_cutlist_k16_whole_the_fewest_hang_togeth
abbrev hk : PySem.W.Hook := He.hookD 4 fa fn
def ob (s : PySem.W.SharedT) : He.AlD := He.obsDG 4 fa fn (HandSHeadRun.getT s)
theorem ob_eq (s : PySem.W.SharedT) : ob s = hk.obs s.abs := He.obsDG_eq (HandSHeadRun.getT_eq s)
theorem run (w : World) : HandSHeadRun.RunEq R (PySem.W.view R.prog [33]) hk ob 4000 names w := by
  intro os
  kernel_rfl
end Hd
open PySem PySem.W PySem.Calls PyProof.Rows
theorem PySem.Challenge.cw_cutlist_k16_whole_the_fewest_hang_togeth_holds : PySem.Challenge.rw_cutlist_k16_whole_the_fewest_hang_togeth.Holds := by
  w_on; o_law
  refine HandSHeadRun.head_any (r := OpenLaw.row PySem.Challenge.rw_cutlist_k16_whole_the_fewest_hang_togeth) (q := view (OpenLaw.row PySem.Challenge.rw_cutlist_k16_whole_the_fewest_hang_togeth).prog [33]) (H := Hd.hk) (ob := Hd.ob) (M := 4000) (loose := Hd.names) (d := HandSHeadRun.topDef (OpenLaw.row PySem.Challenge.rw_cutlist_k16_whole_the_fewest_hang_togeth).prog 33) (kwd := []) Hd.ob_eq
    (by kernel_rfl) (fun s => by kernel_rfl) Hd.run (by kernel_rfl) (by kernel_rfl) (by kernel_rfl) (by rfl) (by first | assumption | decide +kernel) (by decide +kernel) ⟨rfl, rfl, rfl, rfl, rfl, by decide +kernel⟩ ?hw ?hc
  case hw => w_witness2
  case hc =>
    refine L2.walk_ofE (l := PySem.Challenge.rw_cutlist_k16_whole_the_fewest_hang_togeth) (n := 63) (k := Lw.lev) (x := "_law_script") (CX := L2.CX0) rfl (by decide) (by kernel_rfl) ⟨rfl, by decide, by decide⟩ ?F (fun _ _ _ _ z => z)
    intro w mg fa h Y G hmg0
    obtain ⟨K, KX, c⟩ := Y
    have hmg : mg Lw.D_law.name = some (.ref fa) := by
      have e : (HandSHeadRun.topDef (OpenLaw.row PySem.Challenge.rw_cutlist_k16_whole_the_fewest_hang_togeth).prog 33).name = Lw.D_law.name := by kernel_rfl
      rw [← e]
      exact hmg0
    exact Pm.law_end (cs := Lw.cs) (C := Lw.cf) (DL := Lw.D_law) (fl := 109) KX G c (by decide +kernel) Lw.q_all Lw.c_all rfl rfl hmg Lw.law_true
