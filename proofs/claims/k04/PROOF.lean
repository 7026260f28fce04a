import PyProof.Rows.All
import Wide.All
import OpenK.AllK
import Wide.FinOn
import KE.KStateDown
import Lean
import HandS.ForMost
import HandS.Exc
import PyProof.NeData
import PyProof.NeKinds
import HandS.TupAny
import HandS.TupMul
import HandS.Style
import HandS.IsInst
import HandS.ExcOwn
import HandS.SortInts
import KE.GoesMore
import KE.GoesEnum
import HandS.WordsExc
import HandS.Strs
import HandS.SetFor
import HandS.Conv
import HandS.Defaults
import HandS.Head0
import HandS.Head1
import HandS.Head2
import HandS.HeadEnd
import HandS.HeadHook1
import HandS.HeadHook2
import HandS.HeadHook4
import PySem.Challenge.RW_cutlist_k04_put_and_cut
set_option maxHeartbeats 0
set_option Elab.async false
set_option linter.all false
set_option maxRecDepth 100000
namespace Hd
open PySem PySem.Spec PyProof.Rows L2
def names0 : List PySem.Str := ["_wall", "CutError", "BadSources", "BadFilm", "BadRing", "BadPiece", "BadPlace", "NoWay", "Full", "MOST_SOURCES", "MOST_FRAMES", "MOST_STEP", "MOST_LONG", "MOST_LISTS", "MOST_OF", "MOST_END", "CLIP", "GAP", "LIST", "LEAD", "is_between", "need_sources", "source_frame", "is_clip", "is_lead", "is_piece", "long_of", "part_of", "lists_in", "MOST_PIECES"]
def names1 : List PySem.Str := ["total", "stretch_of", "put_in", "place_at", "MOST_LAYERS", "need_shape", "need_layer", "shown_in", "ring_from", "need_no_ring", "need_film", "need_list", "Editor", "_law_dice", "_law_off", "_law_alike", "_law_mixed", "_law_sources", "_law_clip", "_law_plain", "_law_long", "_law_piece", "_law_layer", "_law_film", "_law_piece_shows", "_law_layer_shows", "_law_list_shows", "_law_size", "_law_all", "_law_cases"]
def names2 : List PySem.Str := ["_law_free", "_law_shows", "_law_others_stay"]
def names : List PySem.Str := names0 ++ names1 ++ names2
def top (i : Nat) : Stmt := PySem.Challenge.pw_cutlist_k04_put_and_cut.main.body.getD i (.Pass ⟨0, 0, 0, 0⟩)
def fa : List He.Fa := [.glo "_wall", .glo "is_between", .glo "need_sources", .glo "source_frame", .glo "is_clip", .glo "is_lead", .glo "is_piece", .glo "long_of", .glo "part_of", .glo "lists_in", .glo "total", .glo "stretch_of", .glo "put_in", .glo "place_at", .glo "need_shape", .glo "need_layer", .glo "shown_in", .glo "ring_from", .glo "need_no_ring", .glo "need_film", .glo "need_list", .glo "_law_dice", .glo "_law_off", .glo "_law_alike", .glo "_law_mixed", .glo "_law_sources", .glo "_law_clip", .glo "_law_plain", .glo "_law_long", .glo "_law_piece", .glo "_law_layer", .glo "_law_film", .glo "_law_piece_shows", .glo "_law_layer_shows", .glo "_law_list_shows", .glo "_law_size", .glo "_law_all", .glo "_law_cases", .glo "_law_free", .glo "_law_shows", .glo "_law_others_stay", .glo "law", .meth "Editor" "__init__", .meth "Editor" "shown", .meth "Editor" "layer_of", .meth "Editor" "need_frames", .meth "Editor" "need_piece", .meth "Editor" "take", .meth "Editor" "put", .meth "Editor" "lay", .meth "Editor" "cut", .meth "Editor" "lift", .meth "Editor" "slip", .meth "Editor" "edge", .meth "Editor" "need_part", .meth "Editor" "roll", .meth "Editor" "lead", .meth "Editor" "tidy", .meth "Editor" "back", .meth "Editor" "forth", .meth "Editor" "stretch", .free "len", .free "abs", .free "sum", .free "max", .free "min", .free "all", .free "list", .free "tuple", .free "int", .free "str", .free "bool", .free "isinstance", .free "range", .free "enumerate", .free "sorted", .free "set", .int "MOST_SOURCES" 6, .int "MOST_FRAMES" 999, .int "MOST_STEP" 9, .int "MOST_LONG" 500, .int "MOST_LISTS" 5, .int "MOST_OF" 600, .int "MOST_END" 1500, .str "CLIP" "clip", .str "GAP" "gap", .str "LIST" "list", .str "LEAD" "lead", .int "MOST_PIECES" 60, .int "MOST_LAYERS" 3, .glo "Editor", .cls "Editor", .mkr "Editor", .noat "Editor" "sources", .noat "Editor" "film", .noat "Editor" "ahead", .noat "Editor" "undone"]
def fn : List He.DefD := [⟨("_wall", none), "_wall", "_wall", L2.defArgs (top 0), L2.defBody (top 0), L2.defScope (top 0), [], []⟩, ⟨("is_between", none), "is_between", "is_between", L2.defArgs (top 22), L2.defBody (top 22), L2.defScope (top 22), [], []⟩, ⟨("need_sources", none), "need_sources", "need_sources", L2.defArgs (top 23), L2.defBody (top 23), L2.defScope (top 23), [], []⟩, ⟨("source_frame", none), "source_frame", "source_frame", L2.defArgs (top 24), L2.defBody (top 24), L2.defScope (top 24), [], []⟩, ⟨("is_clip", none), "is_clip", "is_clip", L2.defArgs (top 25), L2.defBody (top 25), L2.defScope (top 25), [], []⟩, ⟨("is_lead", none), "is_lead", "is_lead", L2.defArgs (top 26), L2.defBody (top 26), L2.defScope (top 26), [], []⟩, ⟨("is_piece", none), "is_piece", "is_piece", L2.defArgs (top 27), L2.defBody (top 27), L2.defScope (top 27), [], []⟩, ⟨("long_of", none), "long_of", "long_of", L2.defArgs (top 28), L2.defBody (top 28), L2.defScope (top 28), [], []⟩, ⟨("part_of", none), "part_of", "part_of", L2.defArgs (top 29), L2.defBody (top 29), L2.defScope (top 29), [], []⟩, ⟨("lists_in", none), "lists_in", "lists_in", L2.defArgs (top 30), L2.defBody (top 30), L2.defScope (top 30), [], []⟩, ⟨("total", none), "total", "total", L2.defArgs (top 33), L2.defBody (top 33), L2.defScope (top 33), [], []⟩, ⟨("stretch_of", none), "stretch_of", "stretch_of", L2.defArgs (top 34), L2.defBody (top 34), L2.defScope (top 34), [], []⟩, ⟨("put_in", none), "put_in", "put_in", L2.defArgs (top 35), L2.defBody (top 35), L2.defScope (top 35), [], []⟩, ⟨("place_at", none), "place_at", "place_at", L2.defArgs (top 36), L2.defBody (top 36), L2.defScope (top 36), [], []⟩, ⟨("need_shape", none), "need_shape", "need_shape", L2.defArgs (top 39), L2.defBody (top 39), L2.defScope (top 39), [], []⟩, ⟨("need_layer", none), "need_layer", "need_layer", L2.defArgs (top 40), L2.defBody (top 40), L2.defScope (top 40), [], []⟩, ⟨("shown_in", none), "shown_in", "shown_in", L2.defArgs (top 41), L2.defBody (top 41), L2.defScope (top 41), [], []⟩, ⟨("ring_from", none), "ring_from", "ring_from", L2.defArgs (top 42), L2.defBody (top 42), L2.defScope (top 42), [], []⟩, ⟨("need_no_ring", none), "need_no_ring", "need_no_ring", L2.defArgs (top 43), L2.defBody (top 43), L2.defScope (top 43), [], []⟩, ⟨("need_film", none), "need_film", "need_film", L2.defArgs (top 44), L2.defBody (top 44), L2.defScope (top 44), [], []⟩, ⟨("need_list", none), "need_list", "need_list", L2.defArgs (top 45), L2.defBody (top 45), L2.defScope (top 45), [], []⟩, ⟨("_law_dice", none), "_law_dice", "_law_dice", L2.defArgs (top 49), L2.defBody (top 49), L2.defScope (top 49), [], []⟩, ⟨("_law_off", none), "_law_off", "_law_off", L2.defArgs (top 50), L2.defBody (top 50), L2.defScope (top 50), [], []⟩, ⟨("_law_alike", none), "_law_alike", "_law_alike", L2.defArgs (top 51), L2.defBody (top 51), L2.defScope (top 51), [], []⟩, ⟨("_law_mixed", none), "_law_mixed", "_law_mixed", L2.defArgs (top 52), L2.defBody (top 52), L2.defScope (top 52), [], []⟩, ⟨("_law_sources", none), "_law_sources", "_law_sources", L2.defArgs (top 53), L2.defBody (top 53), L2.defScope (top 53), [], []⟩, ⟨("_law_clip", none), "_law_clip", "_law_clip", L2.defArgs (top 54), L2.defBody (top 54), L2.defScope (top 54), [], []⟩, ⟨("_law_plain", none), "_law_plain", "_law_plain", L2.defArgs (top 55), L2.defBody (top 55), L2.defScope (top 55), [], []⟩, ⟨("_law_long", none), "_law_long", "_law_long", L2.defArgs (top 56), L2.defBody (top 56), L2.defScope (top 56), [], []⟩, ⟨("_law_piece", none), "_law_piece", "_law_piece", L2.defArgs (top 57), L2.defBody (top 57), L2.defScope (top 57), [], []⟩, ⟨("_law_layer", none), "_law_layer", "_law_layer", L2.defArgs (top 58), L2.defBody (top 58), L2.defScope (top 58), [], []⟩, ⟨("_law_film", none), "_law_film", "_law_film", L2.defArgs (top 59), L2.defBody (top 59), L2.defScope (top 59), [], []⟩, ⟨("_law_piece_shows", none), "_law_piece_shows", "_law_piece_shows", L2.defArgs (top 60), L2.defBody (top 60), L2.defScope (top 60), [], []⟩, ⟨("_law_layer_shows", none), "_law_layer_shows", "_law_layer_shows", L2.defArgs (top 61), L2.defBody (top 61), L2.defScope (top 61), [], []⟩, ⟨("_law_list_shows", none), "_law_list_shows", "_law_list_shows", L2.defArgs (top 62), L2.defBody (top 62), L2.defScope (top 62), [], []⟩, ⟨("_law_size", none), "_law_size", "_law_size", L2.defArgs (top 63), L2.defBody (top 63), L2.defScope (top 63), [], []⟩, ⟨("_law_all", none), "_law_all", "_law_all", L2.defArgs (top 64), L2.defBody (top 64), L2.defScope (top 64), [], []⟩, ⟨("_law_cases", none), "_law_cases", "_law_cases", L2.defArgs (top 65), L2.defBody (top 65), L2.defScope (top 65), [], []⟩, ⟨("_law_free", none), "_law_free", "_law_free", L2.defArgs (top 66), L2.defBody (top 66), L2.defScope (top 66), [], []⟩, ⟨("_law_shows", none), "_law_shows", "_law_shows", L2.defArgs (top 67), L2.defBody (top 67), L2.defScope (top 67), [], []⟩, ⟨("_law_others_stay", none), "_law_others_stay", "_law_others_stay", L2.defArgs (top 68), L2.defBody (top 68), L2.defScope (top 68), [], []⟩, ⟨("law", none), "law", "law", L2.defArgs (top 69), L2.defBody (top 69), L2.defScope (top 69), [], []⟩, ⟨("Editor", some "__init__"), "__init__", "Editor.__init__", L2.defArgs (L2.inClass (top 47) 0), L2.defBody (L2.inClass (top 47) 0), L2.defScope (L2.inClass (top 47) 0), [], []⟩, ⟨("Editor", some "shown"), "shown", "Editor.shown", L2.defArgs (L2.inClass (top 47) 1), L2.defBody (L2.inClass (top 47) 1), L2.defScope (L2.inClass (top 47) 1), [], []⟩, ⟨("Editor", some "layer_of"), "layer_of", "Editor.layer_of", L2.defArgs (L2.inClass (top 47) 2), L2.defBody (L2.inClass (top 47) 2), L2.defScope (L2.inClass (top 47) 2), [], []⟩, ⟨("Editor", some "need_frames"), "need_frames", "Editor.need_frames", L2.defArgs (L2.inClass (top 47) 3), L2.defBody (L2.inClass (top 47) 3), L2.defScope (L2.inClass (top 47) 3), [], []⟩, ⟨("Editor", some "need_piece"), "need_piece", "Editor.need_piece", L2.defArgs (L2.inClass (top 47) 4), L2.defBody (L2.inClass (top 47) 4), L2.defScope (L2.inClass (top 47) 4), [], []⟩, ⟨("Editor", some "take"), "take", "Editor.take", L2.defArgs (L2.inClass (top 47) 5), L2.defBody (L2.inClass (top 47) 5), L2.defScope (L2.inClass (top 47) 5), [], []⟩, ⟨("Editor", some "put"), "put", "Editor.put", L2.defArgs (L2.inClass (top 47) 6), L2.defBody (L2.inClass (top 47) 6), L2.defScope (L2.inClass (top 47) 6), [], []⟩, ⟨("Editor", some "lay"), "lay", "Editor.lay", L2.defArgs (L2.inClass (top 47) 7), L2.defBody (L2.inClass (top 47) 7), L2.defScope (L2.inClass (top 47) 7), [], []⟩, ⟨("Editor", some "cut"), "cut", "Editor.cut", L2.defArgs (L2.inClass (top 47) 8), L2.defBody (L2.inClass (top 47) 8), L2.defScope (L2.inClass (top 47) 8), [], []⟩, ⟨("Editor", some "lift"), "lift", "Editor.lift", L2.defArgs (L2.inClass (top 47) 9), L2.defBody (L2.inClass (top 47) 9), L2.defScope (L2.inClass (top 47) 9), [], []⟩, ⟨("Editor", some "slip"), "slip", "Editor.slip", L2.defArgs (L2.inClass (top 47) 10), L2.defBody (L2.inClass (top 47) 10), L2.defScope (L2.inClass (top 47) 10), [], []⟩, ⟨("Editor", some "edge"), "edge", "Editor.edge", L2.defArgs (L2.inClass (top 47) 11), L2.defBody (L2.inClass (top 47) 11), L2.defScope (L2.inClass (top 47) 11), [], []⟩, ⟨("Editor", some "need_part"), "need_part", "Editor.need_part", L2.defArgs (L2.inClass (top 47) 12), L2.defBody (L2.inClass (top 47) 12), L2.defScope (L2.inClass (top 47) 12), [], []⟩, ⟨("Editor", some "roll"), "roll", "Editor.roll", L2.defArgs (L2.inClass (top 47) 13), L2.defBody (L2.inClass (top 47) 13), L2.defScope (L2.inClass (top 47) 13), [], []⟩, ⟨("Editor", some "lead"), "lead", "Editor.lead", L2.defArgs (L2.inClass (top 47) 14), L2.defBody (L2.inClass (top 47) 14), L2.defScope (L2.inClass (top 47) 14), [], []⟩, ⟨("Editor", some "tidy"), "tidy", "Editor.tidy", L2.defArgs (L2.inClass (top 47) 15), L2.defBody (L2.inClass (top 47) 15), L2.defScope (L2.inClass (top 47) 15), [], []⟩, ⟨("Editor", some "back"), "back", "Editor.back", L2.defArgs (L2.inClass (top 47) 16), L2.defBody (L2.inClass (top 47) 16), L2.defScope (L2.inClass (top 47) 16), [], []⟩, ⟨("Editor", some "forth"), "forth", "Editor.forth", L2.defArgs (L2.inClass (top 47) 17), L2.defBody (L2.inClass (top 47) 17), L2.defScope (L2.inClass (top 47) 17), [], []⟩, ⟨("Editor", some "stretch"), "stretch", "Editor.stretch", L2.defArgs (L2.inClass (top 47) 18), L2.defBody (L2.inClass (top 47) 18), L2.defScope (L2.inClass (top 47) 18), [], []⟩]
abbrev R : PySem.W.OpenRow := PySem.W.OpenLaw.row PySem.Challenge.rw_cutlist_k04_put_and_cut
abbrev hk : PySem.W.Hook := He.hookD 5 fa fn
def ob (s : PySem.W.SharedT) : He.AlD := He.obsDG 5 fa fn (HandSHeadRun.getT s)
theorem ob_eq (s : PySem.W.SharedT) : ob s = hk.obs s.abs := He.obsDG_eq (HandSHeadRun.getT_eq s)
theorem run (w : World) : HandSHeadRun.RunEq R (PySem.W.view R.prog [69]) hk ob 30000 names w := by
  intro os
  kernel_rfl
theorem opened (h : PySem.W.OpenRow.wellSaid PySem.Challenge.rw_cutlist_k04_put_and_cut.row = true → PySem.Challenge.rw_cutlist_k04_put_and_cut.row.Holds) : PySem.Challenge.rw_cutlist_k04_put_and_cut.Holds := by
  w_on; o_law
  exact h (by assumption)
theorem bare : (PySem.W.OpenLaw.row PySem.Challenge.rw_cutlist_k04_put_and_cut).prog.bare := ⟨rfl, rfl, rfl, rfl, rfl, by decide +kernel⟩
end Hd
set_option maxHeartbeats 200000
set_option Elab.async false
set_option linter.all false
/-! The pure machine: data, terms, evaluation. -/
namespace Pm
open PySem

/-- data: no addresses; ref j is the j-th object of the pure heap -/
inductive D where
  | non | bl (b : Bool) | int (i : Int) | str (s : Str) | tup (xs : List D) | lst (xs : List D) | scr (ns : List Int) | ref (j : Nat)

/-- what an expression gives: data, or a new list that nobody else holds -/
inductive R where
  | v (d : D) | o (xs : List D)
def R.d : R → D
  | .v d => d
  | .o xs => .lst xs

/-- a name of the frame: unset, data, a list of its own, an exception caught -/
inductive Slot where
  | un | v (d : D) | o (xs : List D) | x (c : Nat) (p : D)
def R.slot : R → Slot
  | .v d => .v d
  | .o xs => .o xs

/-- an object of the pure heap -/
inductive Ob where
  | lst (xs : List D) | ins (c : Nat) (fs : List (Str × R))

inductive Res (α : Type) where
  | ok (a : α) (σ : List Slot) (h : List Ob)
  | exc (c : Nat) (p : D) (σ : List Slot) (h : List Ob)
  | stuck
def Res.bind {α β : Type} (m : Res α) (f : α → List Slot → List Ob → Res β) : Res β :=
  match m with
  | .ok a σ h => f a σ h
  | .exc c p σ h => .exc c p σ h
  | .stuck => .stuck
@[simp] theorem Res.bind_ok {α β : Type} (a : α) (σ : List Slot) (h : List Ob) (f : α → List Slot → List Ob → Res β) : (Res.ok a σ h).bind f = f a σ h := rfl
@[simp] theorem Res.bind_exc {α β : Type} (c : Nat) (p : D) (σ : List Slot) (h : List Ob) (f : α → List Slot → List Ob → Res β) : (Res.exc c p σ h).bind f = .exc c p σ h := rfl
@[simp] theorem Res.bind_stuck {α β : Type} (f : α → List Slot → List Ob → Res β) : (Res.stuck).bind f = .stuck := rfl

/-- what a call gives -/
inductive CRes where
  | ok (r : R) (h : List Ob)
  | exc (c : Nat) (p : D) (h : List Ob)
  | stuck
abbrev Calls := Nat → List D → List Ob → CRes

inductive Flow where
  | nx | rt (r : R) | bk | ct

inductive BOp where
  | add | sub | mul | fdiv | mod | pow
inductive COp where
  | eq | ne | lt | le | gt | ge | isn | isnn | isb | isnb | mem | nmem
inductive Ty where
  | int | bool | tuple | str | list
inductive F1 where
  | len | abs | sum | max | min | list | tuple | int | str | all | sset | sorted | sortK | lrange
inductive F2 where
  | max | min

mutual
inductive E where
  | con (d : D)
  | glo (x : Str) (d : D)
  | var (i : Nat)
  | bor (i : Nat)
  | tup (es : Es)
  | lst (es : Es)
  | bin (op : BOp) (a b : E)
  | neg (a : E)
  | cmp (op : COp) (a b : E)
  | cmp2 (op op' : COp) (a b c : E)
  | and (a b : E)
  | or (a b : E)
  | not (a : E)
  | ite (c a b : E)
  | idx (a b : E)
  | sli (a : E) (lo hi : Eo)
  | rev (a : E)
  | fn1 (f : F1) (a : E)
  | fn2 (f : F2) (a b : E)
  | isi (a : E) (t : Ty)
  | isx (i : Nat) (c : Nat)
  | xfl (i : Nat) (f : Str)
  | cal (f : Nat) (es : Es)
  | new (c f : Nat) (es : Es)
  | met (m : Str) (o : E) (es : Es)
  | fld (o : E) (f : Str)
  | fln (i : Nat) (f : Str)
  | pop (i : Nat)
  | popA (i : Nat) (a : E)
  | popF (i : Nat) (f : Str)
  | com (i : Nat) (elt : E) (it : I)
  | comf (i : Nat) (elt : E) (it : I) (c : E)
  | prom (e : E)
  | join (sep : Str) (a : E)
  | split (a : E) (sep : Str)
  | tabin (t : List (Str × Int)) (a : E)
  | tabget (t : List (Str × Int)) (a : E)
inductive Es where
  | nil | cons (e : E) (es : Es)
inductive Eo where
  | no | so (e : E)
inductive I where
  | seq (e : E) | rng1 (a : E) | rng2 (a b : E) | rng3 (a b c : E) | enu (e : E)
end

mutual
inductive S where
  | set (i : Nat) (e : E)
  | setT (is : List Nat) (e : E)
  | par2 (i j : Nat) (a b : E)
  | sti (i : Nat) (k e : E)
  | stf (i : Nat) (f : Str) (e : E)
  | app (i : Nat) (e : E)
  | ext (i : Nat) (e : E)
  | appF (i : Nat) (f : Str) (e : E)
  | ex (e : E)
  | ret (e : E)
  | retN
  | retM (i : Nat)
  | iff (c : E) (a b : Ss)
  | whl (c : E) (b : Ss)
  | for1 (i : Nat) (it : I) (b : Ss)
  | forT (is : List Nat) (it : I) (b : Ss)
  | brk | cnt | pass | nev
  | rai (c : Nat) (e : E)
  | tryE (b : Ss) (c : Nat) (s : Ss)
  | tryA (b : Ss) (c : Nat) (i : Nat) (s : Ss)
inductive Ss where
  | nil | cons (s : S) (r : Ss)
end

/-! ### values -/
def eq0 : D → D → Option Bool
  | .ref _, _ => none
  | _, .ref _ => none
  | .tup _, .tup _ => none
  | .lst _, .lst _ => none
  | .scr _, _ => none
  | _, .scr _ => none
  | .non, .non => some true
  | .bl a, .bl b => some (a == b)
  | .bl a, .int j => some ((if a then 1 else 0) == j)
  | .int i, .bl b => some (i == (if b then 1 else 0))
  | .int i, .int j => some (i == j)
  | .str x, .str y => some (decide (x = y))
  | _, _ => some false
def eqL (f : D → D → Option Bool) : List D → List D → Option Bool
  | [], [] => some true
  | x :: xs, y :: ys => match f x y, eqL f xs ys with
    | some a, some b => some (a && b)
    | _, _ => none
  | [], _ :: _ => some false
  | _ :: _, [] => some false
def eqF : Nat → D → D → Option Bool
  | 0, a, b => eq0 a b
  | n + 1, .tup xs, .tup ys => eqL (eqF n) xs ys
  | n + 1, .lst xs, .lst ys => eqL (eqF n) xs ys
  | _ + 1, a, b => eq0 a b
/-- the depth that an equality may have -/
abbrev F60 : Nat := 60
def flatD : D → Bool
  | .non => true
  | .bl _ => true
  | .int _ => true
  | .str _ => true
  | _ => false
/-- in, of flat things -/
def inL (x : D) (xs : List D) : Option Bool := if flatD x && xs.all flatD then some (xs.any fun y => (eq0 y x).getD false) else none

/-- places of a sequence: an index -/
def ixD (xs : List D) (i : Int) : Option D := if 0 ≤ i then xs[i.toNat]? else if -(xs.length : Int) ≤ i then xs[(i + xs.length).toNat]? else none
/-- a slice's end -/
def sIx (n d : Nat) : Option Int → Nat
  | none => d
  | some i => if i < 0 then (i + n).toNat else min i.toNat n
def cutL {α : Type} (xs : List α) (lo hi : Option Int) : List α := (xs.drop (sIx xs.length 0 lo)).take (sIx xs.length xs.length hi - sIx xs.length 0 lo)

def two64 : Int := 18446744073709551616
def binop : BOp → D → D → Option R
  | .add, .int i, .int j => some (.v (.int (i + j)))
  | .add, .str x, .str y => if x.length + y.length ≤ sizeLine then some (.v (.str (x ++ y))) else none
  | .add, .lst xs, .lst ys => if xs.length + ys.length ≤ sizeLine then some (.o (xs ++ ys)) else none
  | .add, .tup xs, .tup ys => if xs.length + ys.length ≤ sizeLine then some (.v (.tup (xs ++ ys))) else none
  | .sub, .int i, .int j => some (.v (.int (i - j)))
  | .mul, .int i, .int j => if (-two64 < i ∧ i < two64) ∨ (-two64 < j ∧ j < two64) then some (.v (.int (i * j))) else none
  | .mul, .lst xs, .int k => if -9223372036854775808 ≤ k ∧ k < 9223372036854775808 ∧ xs.length * k.toNat ≤ sizeLine then some (.o (List.replicate k.toNat xs).flatten) else none
  | .mul, .tup xs, .int k => if xs ≠ [] ∧ 2 ≤ k ∧ k ≤ 1000 ∧ xs.length ≤ 1000 then some (.v (.tup (List.replicate k.toNat xs).flatten)) else none
  | .fdiv, .int i, .int j => if 0 < j ∧ j < 1073741824 then some (.v (.int (i / j))) else none
  | .mod, .int i, .int j => if 0 < j then some (.v (.int (i % j))) else none
  | .pow, .int i, .int j => if 0 ≤ j ∧ j ≤ 1000 ∧ -1000 ≤ i ∧ i ≤ 1000 then some (.v (.int (i ^ j.toNat))) else none
  | _, _, _ => none
def isNon : D → Bool
  | .non => true
  | _ => false
def cmpop : COp → D → D → Option Bool
  | .eq, a, b => eqF F60 a b
  | .ne, a, b => (eqF F60 a b).map (!·)
  | .lt, .int i, .int j => some (decide (i < j))
  | .le, .int i, .int j => some (decide (i ≤ j))
  | .gt, .int i, .int j => some (decide (j < i))
  | .ge, .int i, .int j => some (decide (j ≤ i))
  | .isn, a, .non => some (isNon a)
  | .isnn, a, .non => some (!isNon a)
  | .isb, .bl a, .bl b => some (a == b)
  | .isnb, .bl a, .bl b => some (!(a == b))
  | .mem, a, .lst xs => inL a xs
  | .mem, a, .tup xs => inL a xs
  | .nmem, a, .lst xs => (inL a xs).map (!·)
  | .nmem, a, .tup xs => (inL a xs).map (!·)
  | _, _, _ => none
def index : D → D → Option D
  | .lst xs, .int i => ixD xs i
  | .tup xs, .int i => ixD xs i
  | _, _ => none
def slice : D → Option Int → Option Int → Option R
  | .lst xs, lo, hi => some (.o (cutL xs lo hi))
  | .tup xs, lo, hi => some (.v (.tup (cutL xs lo hi)))
  | _, _, _ => none
def revD : D → Option R
  | .lst xs => some (.o xs.reverse)
  | _ => none
def isTy : Ty → D → Bool
  | .int, .int _ => true
  | .int, .bl _ => true
  | .bool, .bl _ => true
  | .tuple, .tup _ => true
  | .str, .str _ => true
  | .list, .lst _ => true
  | _, _ => false
def knownTy : D → Bool
  | .scr _ => false
  | .ref _ => false
  | _ => true
/-- all ints -/
def intsD : List D → Option (List Int)
  | [] => some []
  | .int i :: r => (intsD r).map (i :: ·)
  | _ :: _ => none
def boolsD : List D → Option (List Bool)
  | [] => some []
  | .bl b :: r => (boolsD r).map (b :: ·)
  | _ :: _ => none
def strsD : List D → Option (List Str)
  | [] => some []
  | .str b :: r => (strsD r).map (b :: ·)
  | _ :: _ => none
def maxL : Int → List Int → Int
  | a, [] => a
  | a, b :: r => maxL (if b > a then b else a) r
def minL : Int → List Int → Int
  | a, [] => a
  | a, b :: r => minL (if b < a then b else a) r
def insI (a : Int) : List Int → List Int
  | [] => [a]
  | b :: r => if a ≤ b then a :: b :: r else b :: insI a r
def sortI : List Int → List Int
  | [] => []
  | a :: r => insI a (sortI r)
def dedup : List Int → List Int
  | [] => []
  | a :: r => if a ∈ r then dedup r else a :: dedup r
def rangeL (lo hi : Int) : List D := (List.range (hi - lo).toNat).map fun (k : Nat) => .int (lo + k)
def small62 (i : Int) : Bool := decide (-4611686018427387904 ≤ i) && decide (i < 4611686018427387904)
def fn1 : F1 → D → Option R
  | .len, .lst xs => some (.v (.int xs.length))
  | .len, .tup xs => some (.v (.int xs.length))
  | .len, .str s => if s.length ≤ sizeLine then some (.v (.int s.length)) else none
  | .abs, .int i => some (.v (.int (if i < 0 then -i else i)))
  | .sum, .lst xs => (intsD xs).map fun ns => .v (.int ns.sum)
  | .max, .lst xs => match intsD xs with
    | some (a :: r) => some (.v (.int (maxL a r)))
    | _ => none
  | .min, .lst xs => match intsD xs with
    | some (a :: r) => some (.v (.int (minL a r)))
    | _ => none
  | .all, .lst xs => (boolsD xs).map fun bs => .v (.bl (bs.all id))
  | .list, .lst xs => some (.o xs)
  | .list, .tup xs => some (.o xs)
  | .tuple, .lst xs => some (.v (.tup xs))
  | .tuple, .tup xs => some (.v (.tup xs))
  | .int, .bl b => some (.v (.int (if b then 1 else 0)))
  | .int, .int i => some (.v (.int i))
  | .int, .str s => if s.length ≤ 640 then (intText? s).map fun n => .v (.int n) else none
  | .str, .int i => if i.natAbs.log2 < 1920 then some (.v (.str (Str.ofString (toString i)))) else none
  | .str, .str s => some (.v (.str s))
  | .lrange, .int n => if small62 n && decide (n.toNat ≤ sizeLine) then some (.o (rangeL 0 n)) else none
  | .sset, .lst xs => (intsD xs).bind fun ns => if ns.length + 1 < scanBound ∧ (dedup ns).length < 64 then some (.o ((sortI (dedup ns)).map D.int)) else none
  | .sorted, .lst xs => (intsD xs).map fun ns => .o ((sortI ns).map D.int)
  | _, _ => none
def fn2 : F2 → D → D → Option R
  | .max, .int i, .int j => some (.v (.int (if j > i then j else i)))
  | .min, .int i, .int j => some (.v (.int (if j < i then j else i)))
  | _, _, _ => none
def truth : D → Option Bool
  | .bl b => some b
  | _ => none

/-! ### operands: the value, or the name whose list is looked at when the operation is done -/
inductive Opd where
  | r (r : R) | s (i : Nat)
def opd (e : E) (m : List Slot → List Ob → Res R) (σ : List Slot) (h : List Ob) : Res Opd :=
  match e with
  | .bor i => match σ[i]? with
    | some (.v _) => .ok (.s i) σ h
    | some (.o _) => .ok (.s i) σ h
    | _ => .stuck
  | _ => (m σ h).bind fun r σ h => .ok (.r r) σ h
def derefD (h : List Ob) : D → Option D
  | .ref j => match h[j]? with
    | some (.lst xs) => some (.lst xs)
    | _ => none
  | d => some d
def cont (σ : List Slot) (h : List Ob) : Opd → Option D
  | .r (.v d) => derefD h d
  | .r (.o xs) => some (.lst xs)
  | .s i => match σ[i]? with
    | some (.v d) => derefD h d
    | some (.o xs) => some (.lst xs)
    | _ => none
/-- a field stored: in its place, or behind all -/
def putR (f : Str) (r : R) : List (Str × R) → List (Str × R)
  | [] => [(f, r)]
  | p :: fs => if p.1 = f then (f, r) :: fs else p :: putR f r fs
/-- no two fields of one name -/
def keysOk (fs : List (Str × R)) : Bool := decide (fs.map (·.1)).Nodup
/-- a place to store at -/
def ixN (n : Nat) (i : Int) : Option Nat := if 0 ≤ i then (if i < n then some i.toNat else none) else if -(n : Int) ≤ i then some (i + n).toNat else none
def retR (o : Option R) (σ : List Slot) (h : List Ob) : Res R :=
  match o with
  | some r => .ok r σ h
  | none => .stuck
/-- a name that holds a list -/
def lstSlot (σ : List Slot) (h : List Ob) (i : Nat) : Bool := match cont σ h (.s i) with
  | some (.lst _) => true
  | _ => false
def retB (o : Option Bool) (σ : List Slot) (h : List Ob) : Res R :=
  match o with
  | some b => .ok (.v (.bl b)) σ h
  | none => .stuck
def asB (m : Res R) : Res Bool := m.bind fun r σ h => match r with
  | .v (.bl b) => .ok b σ h
  | _ => .stuck
/-- an optional end of a slice -/
def asI (m : Res R) : Res (Option Int) := m.bind fun r σ h => match r with
  | .v (.int i) => .ok (some i) σ h
  | _ => .stuck
/-- a comprehension's loop -/
def comL (i : Nat) (f : List Slot → List Ob → Res (Option D)) : List D → List D → List Slot → List Ob → Res (List D)
  | [], acc, σ, h => .ok acc σ h
  | d :: ds, acc, σ, h => (f (σ.set i (.v d)) h).bind fun o σ h => match o with
    | some x => if acc.length < sizeLine then comL i f ds (acc ++ [x]) σ h else .stuck
    | none => comL i f ds acc σ h
/-- a name that a comprehension may borrow -/
def plainSlot : Option Slot → Option Slot
  | some .un => some .un
  | some (.v d) => some (.v d)
  | _ => none
def noexc {α : Type} : Res α → Res α
  | .exc _ _ _ _ => .stuck
  | m => m
def ofC (c : CRes) (σ : List Slot) : Res R :=
  match c with
  | .ok r h => .ok r σ h
  | .exc c p h => .exc c p σ h
  | .stuck => .stuck

/-- classes: a method's def; which exception is under which; an exception's field -/
structure Cf where
  M : Nat → Str → Option Nat
  sub : Nat → Nat → Bool
  fl : Nat → Option Str
variable (Γ : Calls) (C : Cf)
mutual
def evE : E → List Slot → List Ob → Res R
  | .con d, σ, h => .ok (.v d) σ h
  | .glo _ d, σ, h => .ok (.v d) σ h
  | .var i, σ, h => match σ[i]? with
    | some (.v d) => .ok (.v d) σ h
    | some (.o xs) => .ok (.v (.lst xs)) (σ.set i (.v (.lst xs))) h
    | _ => .stuck
  | .bor _, _, _ => .stuck
  | .tup es, σ, h => (evA es σ h).bind fun ds σ h => if ds.length ≤ sizeLine then .ok (.v (.tup ds)) σ h else .stuck
  | .lst es, σ, h => (evA es σ h).bind fun ds σ h => if ds.length ≤ sizeLine then .ok (.o ds) σ h else .stuck
  | .bin op a b, σ, h => (opd a (evE a) σ h).bind fun x σ h => (opd b (evE b) σ h).bind fun y σ h =>
    match cont σ h x, cont σ h y with
    | some c, some d => retR (binop op c d) σ h
    | _, _ => .stuck
  | .neg a, σ, h => (evE a σ h).bind fun r σ h => match r with
    | .v (.int i) => .ok (.v (.int (-i))) σ h
    | _ => .stuck
  | .cmp op a b, σ, h => (opd a (evE a) σ h).bind fun x σ h => (opd b (evE b) σ h).bind fun y σ h =>
    match cont σ h x, cont σ h y with
    | some c, some d => retB (cmpop op c d) σ h
    | _, _ => .stuck
  | .cmp2 op op' a b c, σ, h => (opd a (evE a) σ h).bind fun x σ h => (opd b (evE b) σ h).bind fun y σ h =>
    match cont σ h x, cont σ h y with
    | some u, some v => match cmpop op u v with
      | some true => (opd c (evE c) σ h).bind fun z σ h => match cont σ h y, cont σ h z with
        | some v, some w => retB (cmpop op' v w) σ h
        | _, _ => .stuck
      | some false => .ok (.v (.bl false)) σ h
      | none => .stuck
    | _, _ => .stuck
  | .and a b, σ, h => (asB (evE a σ h)).bind fun k σ h => if k then (asB (evE b σ h)).bind fun k σ h => .ok (.v (.bl k)) σ h else .ok (.v (.bl false)) σ h
  | .or a b, σ, h => (asB (evE a σ h)).bind fun k σ h => if k then .ok (.v (.bl true)) σ h else (asB (evE b σ h)).bind fun k σ h => .ok (.v (.bl k)) σ h
  | .not a, σ, h => (asB (evE a σ h)).bind fun k σ h => .ok (.v (.bl (!k))) σ h
  | .ite c a b, σ, h => (asB (evE c σ h)).bind fun k σ h => if k then evE a σ h else evE b σ h
  | .idx a b, σ, h => (opd a (evE a) σ h).bind fun x σ h => (opd b (evE b) σ h).bind fun y σ h =>
    match cont σ h x, cont σ h y with
    | some c, some d => retR ((index c d).map .v) σ h
    | _, _ => .stuck
  | .sli a lo hi, σ, h => (opd a (evE a) σ h).bind fun x σ h => (evO lo σ h).bind fun l σ h => (evO hi σ h).bind fun u σ h =>
    match cont σ h x with
    | some c => retR (slice c l u) σ h
    | none => .stuck
  | .rev a, σ, h => (opd a (evE a) σ h).bind fun x σ h => match cont σ h x with
    | some c => retR (revD c) σ h
    | none => .stuck
  | .fn1 f a, σ, h => (opd a (evE a) σ h).bind fun x σ h => match cont σ h x with
    | some c => retR (fn1 f c) σ h
    | none => .stuck
  | .fn2 f a b, σ, h => (evE a σ h).bind fun x σ h => (evE b σ h).bind fun y σ h => retR (fn2 f x.d y.d) σ h
  | .isi a t, σ, h => (opd a (evE a) σ h).bind fun x σ h => match cont σ h x with
    | some c => if knownTy c then .ok (.v (.bl (isTy t c))) σ h else .stuck
    | none => .stuck
  | .cal f es, σ, h => (evA es σ h).bind fun ds σ h => ofC (Γ f ds h) σ
  | .new c f es, σ, h => (evA es σ h).bind fun ds σ h => match Γ f (.ref h.length :: ds) (h ++ [.ins c []]) with
    | .ok (.v .non) h' => .ok (.v (.ref h.length)) σ h'
    | .ok _ _ => .stuck
    | .exc c p h' => .exc c p σ h'
    | .stuck => .stuck
  | .met m o es, σ, h => (evE o σ h).bind fun r σ h => match r with
    | .v (.ref j) => match h[j]? with
      | some (.ins c fs) => match C.M c m with
        | some f => if (fs.lookup m).isNone then (evA es σ h).bind fun ds σ h => ofC (Γ f (.ref j :: ds) h) σ else .stuck
        | none => .stuck
      | _ => .stuck
    | _ => .stuck
  | .fld o f, σ, h => (evE o σ h).bind fun r σ h => match r with
    | .v (.ref j) => match h[j]? with
      | some (.ins _ fs) => match fs.lookup f with
        | some (.v d) => .ok (.v d) σ h
        | _ => .stuck
      | _ => .stuck
    | _ => .stuck
  | .fln i f, σ, h => match σ[i]? with
    | some (.v (.ref j)) => match h[j]? with
      | some (.ins _ fs) => match fs.lookup f with
        | some (.o xs) => .ok (.v (.bl xs.isEmpty)) σ h
        | _ => .stuck
      | _ => .stuck
    | _ => .stuck
  | .isx i c, σ, h => match σ[i]? with
    | some (.x c' _) => .ok (.v (.bl (C.sub c' c))) σ h
    | _ => .stuck
  | .xfl i f, σ, h => match σ[i]? with
    | some (.x c p) => if C.fl c = some f then .ok (.v p) σ h else .stuck
    | _ => .stuck
  | .pop i, σ, h => match σ[i]? with
    | some (.o xs) => match xs.getLast? with
      | some d => .ok (.v d) (σ.set i (.o xs.dropLast)) h
      | none => .stuck
    | some (.v (.ref j)) => match h[j]? with
      | some (.lst xs) => match xs.getLast? with
        | some d => .ok (.v d) σ (h.set j (.lst xs.dropLast))
        | none => .stuck
      | _ => .stuck
    | _ => .stuck
  | .popA i a, σ, h => if lstSlot σ h i then (evE a σ h).bind fun r σ h => match r with
    | .v (.int k) => match σ[i]? with
      | some (.o xs) => if 0 ≤ k ∧ k < xs.length ∧ xs.length ≤ sizeLine then match xs[k.toNat]? with
          | some d => .ok (.v d) (σ.set i (.o (xs.eraseIdx k.toNat))) h
          | none => .stuck
        else .stuck
      | some (.v (.ref j)) => match h[j]? with
        | some (.lst xs) => if 0 ≤ k ∧ k < xs.length ∧ xs.length ≤ sizeLine then match xs[k.toNat]? with
            | some d => .ok (.v d) σ (h.set j (.lst (xs.eraseIdx k.toNat)))
            | none => .stuck
          else .stuck
        | _ => .stuck
      | _ => .stuck
    | _ => .stuck
    else .stuck
  | .popF i f, σ, h => match σ[i]? with
    | some (.v (.ref j)) => match h[j]? with
      | some (.ins c fs) => match fs.lookup f with
        | some (.o xs) => if keysOk fs then match xs.getLast? with
            | some d => .ok (.v d) σ (h.set j (.ins c (putR f (.o xs.dropLast) fs)))
            | none => .stuck
          else .stuck
        | _ => .stuck
      | _ => .stuck
    | _ => .stuck
  | .com i elt it, σ, h => (evI it σ h).bind fun ds σ h => match plainSlot σ[i]? with
    | some s => (noexc (comL i (fun σ h => (evE elt σ h).bind fun r σ h => .ok (some r.d) σ h) ds [] σ h)).bind fun xs σ' h' => .ok (.o xs) (σ'.set i s) h'
    | none => .stuck
  | .comf i elt it c, σ, h => (evI it σ h).bind fun ds σ h => match plainSlot σ[i]? with
    | some s => (noexc (comL i (fun σ h => (asB (evE c σ h)).bind fun k σ h => if k then (evE elt σ h).bind fun r σ h => .ok (some r.d) σ h else .ok none σ h) ds [] σ h)).bind fun xs σ' h' => .ok (.o xs) (σ'.set i s) h'
    | none => .stuck
  | .prom e, σ, h => (evE e σ h).bind fun r σ h => match r with
    | .o xs => .ok (.v (.ref h.length)) σ (h ++ [.lst xs])
    | _ => .stuck
  | .join sep a, σ, h => (opd a (evE a) σ h).bind fun x σ h => match cont σ h x with
    | some (.lst xs) => match strsD xs with
      | some ys => if (ys.map Str.length).sum + ys.length * sep.length ≤ 16777216 then .ok (.v (.str (Txt.join sep ys))) σ h else .stuck
      | none => .stuck
    | _ => .stuck
  | .split a sep, σ, h => (evE a σ h).bind fun r σ h => match r with
    | .v (.str x) => if sep.length ≠ 0 ∧ x.length + 2 ≤ sizeLine then .ok (.o ((Txt.split x sep).map D.str)) σ h else .stuck
    | _ => .stuck
  | .tabin t a, σ, h => (evE a σ h).bind fun r σ h => match r with
    | .v (.str x) => .ok (.v (.bl (t.lookup x).isSome)) σ h
    | _ => .stuck
  | .tabget t a, σ, h => (evE a σ h).bind fun r σ h => match r with
    | .v (.str x) => match t.lookup x with
      | some i => .ok (.v (.int i)) σ h
      | none => .stuck
    | _ => .stuck
/-- arguments: their data -/
def evA : Es → List Slot → List Ob → Res (List D)
  | .nil, σ, h => .ok [] σ h
  | .cons e es, σ, h => (evE e σ h).bind fun r σ h => (evA es σ h).bind fun ds σ h => .ok (r.d :: ds) σ h
def evO : Eo → List Slot → List Ob → Res (Option Int)
  | .no, σ, h => .ok none σ h
  | .so e, σ, h => asI (evE e σ h)
/-- what a for walks -/
def evI : I → List Slot → List Ob → Res (List D)
  | .seq e, σ, h => (evE e σ h).bind fun r σ h => match r.d with
    | .lst xs => .ok xs σ h
    | .tup xs => .ok xs σ h
    | .scr ns => .ok (ns.map D.int) σ h
    | _ => .stuck
  | .rng1 a, σ, h => (evE a σ h).bind fun r σ h => match r with
    | .v (.int j) => if small62 j then .ok (rangeL 0 j) σ h else .stuck
    | _ => .stuck
  | .rng2 a b, σ, h => (evE a σ h).bind fun r σ h => (evE b σ h).bind fun q σ h => match r, q with
    | .v (.int i), .v (.int j) => if small62 i && small62 j then .ok (rangeL i j) σ h else .stuck
    | _, _ => .stuck
  | .rng3 _ _ _, _, _ => .stuck
  | .enu e, σ, h => (evE e σ h).bind fun r σ h => match r.d with
    | .lst xs => .ok (xs.zipIdx.map fun p => .tup [.int p.2, p.1]) σ h
    | .tup xs => .ok (xs.zipIdx.map fun p => .tup [.int p.2, p.1]) σ h
    | _ => .stuck
end

/-! ### statements -/
def bindS (is : List Nat) (ds : List D) (σ : List Slot) : Option (List Slot) :=
  match is, ds with
  | [], [] => some σ
  | i :: is, d :: ds => bindS is ds (σ.set i (.v d))
  | _, _ => none
/-- a for's loop: what each item's turn gives -/
def forL (f : D → List Slot → List Ob → Res Flow) : List D → List Slot → List Ob → Res Flow
  | [], σ, h => .ok .nx σ h
  | d :: ds, σ, h => (f d σ h).bind fun fl σ h => match fl with
    | .nx => forL f ds σ h
    | .ct => forL f ds σ h
    | .bk => .ok .nx σ h
    | .rt r => .ok (.rt r) σ h
/-- a while of at most n turns -/
def whlN (c : List Slot → List Ob → Res Bool) (b : List Slot → List Ob → Res Flow) : Nat → List Slot → List Ob → Option (Res Flow)
  | 0, _, _ => none
  | n + 1, σ, h => match c σ h with
    | .ok true σ h => match b σ h with
      | .ok .nx σ h => whlN c b n σ h
      | .ok .ct σ h => whlN c b n σ h
      | .ok .bk σ h => some (.ok .nx σ h)
      | .ok (.rt r) σ h => some (.ok (.rt r) σ h)
      | .exc k p σ h => some (.exc k p σ h)
      | .stuck => some .stuck
    | .ok false σ h => some (.ok .nx σ h)
    | .exc k p σ h => some (.exc k p σ h)
    | .stuck => some .stuck
open Classical in
noncomputable def whl (c : List Slot → List Ob → Res Bool) (b : List Slot → List Ob → Res Flow) (σ : List Slot) (h : List Ob) : Res Flow :=
  if e : ∃ n r, whlN c b n σ h = some r then (Classical.choose_spec e).choose else .stuck

variable (Γ : Calls) (C : Cf)
mutual
noncomputable def exS : S → List Slot → List Ob → Res Flow
  | .set i e, σ, h => (evE Γ C e σ h).bind fun r σ h => .ok .nx (σ.set i r.slot) h
  | .setT is e, σ, h => (evE Γ C e σ h).bind fun r σ h => match r with
    | .v (.tup ds) => match bindS is ds σ with
      | some σ => .ok .nx σ h
      | none => .stuck
    | _ => .stuck
  | .par2 i j a b, σ, h => (evE Γ C a σ h).bind fun x σ h => (evE Γ C b σ h).bind fun y σ h => .ok .nx ((σ.set i (.v x.d)).set j (.v y.d)) h
  | .sti i k e, σ, h => (evE Γ C e σ h).bind fun r σ h => if lstSlot σ h i then (evE Γ C k σ h).bind fun q σ h => match q with
    | .v (.int z) => match σ[i]? with
      | some (.o xs) => match ixN xs.length z with
        | some n => .ok .nx (σ.set i (.o (xs.set n r.d))) h
        | none => .stuck
      | some (.v (.ref j)) => match h[j]? with
        | some (.lst xs) => match ixN xs.length z with
          | some n => .ok .nx σ (h.set j (.lst (xs.set n r.d)))
          | none => .stuck
        | _ => .stuck
      | _ => .stuck
    | _ => .stuck
    else .stuck
  | .stf i f e, σ, h => (evE Γ C e σ h).bind fun r σ h => match σ[i]? with
    | some (.v (.ref j)) => match h[j]? with
      | some (.ins c fs) => if fs.length < 100 then .ok .nx σ (h.set j (.ins c (putR f r fs))) else .stuck
      | _ => .stuck
    | _ => .stuck
  | .app i e, σ, h => if lstSlot σ h i then (evE Γ C e σ h).bind fun r σ h => match σ[i]? with
    | some (.o xs) => if xs.length < sizeLine then .ok .nx (σ.set i (.o (xs ++ [r.d]))) h else .stuck
    | some (.v (.ref j)) => match h[j]? with
      | some (.lst xs) => if xs.length < sizeLine then .ok .nx σ (h.set j (.lst (xs ++ [r.d]))) else .stuck
      | _ => .stuck
    | _ => .stuck
    else .stuck
  | .ext i e, σ, h => if lstSlot σ h i then (evE Γ C e σ h).bind fun r σ h => match r.d, σ[i]? with
    | .lst ys, some (.o xs) => if xs.length + ys.length ≤ sizeLine then .ok .nx (σ.set i (.o (xs ++ ys))) h else .stuck
    | _, _ => .stuck
    else .stuck
  | .appF i f e, σ, h => (evE Γ C e σ h).bind fun r σ h => match σ[i]? with
    | some (.v (.ref j)) => match h[j]? with
      | some (.ins c fs) => match fs.lookup f with
        | some (.o xs) => if keysOk fs && decide (xs.length < sizeLine) then .ok .nx σ (h.set j (.ins c (putR f (.o (xs ++ [r.d])) fs))) else .stuck
        | _ => .stuck
      | _ => .stuck
    | _ => .stuck
  | .ex e, σ, h => (evE Γ C e σ h).bind fun _ σ h => .ok .nx σ h
  | .ret e, σ, h => (evE Γ C e σ h).bind fun r σ h => .ok (.rt r) σ h
  | .retN, σ, h => .ok (.rt (.v .non)) σ h
  | .retM i, σ, h => match σ[i]? with
    | some (.o xs) => .ok (.rt (.o xs)) σ h
    | some (.v d) => .ok (.rt (.v d)) σ h
    | _ => .stuck
  | .iff c a b, σ, h => (asB (evE Γ C c σ h)).bind fun k σ h => if k then exB a σ h else exB b σ h
  | .whl c b, σ, h => whl (fun σ h => asB (evE Γ C c σ h)) (exB b) σ h
  | .for1 i it b, σ, h => (evI Γ C it σ h).bind fun ds σ h => forL (fun d σ h => exB b (σ.set i (.v d)) h) ds σ h
  | .forT is it b, σ, h => (evI Γ C it σ h).bind fun ds σ h => forL (fun d σ h => match d with
      | .tup xs => match bindS is xs σ with
        | some σ => exB b σ h
        | none => .stuck
      | _ => .stuck) ds σ h
  | .brk, σ, h => .ok .bk σ h
  | .cnt, σ, h => .ok .ct σ h
  | .pass, σ, h => .ok .nx σ h
  | .nev, _, _ => .stuck
  | .rai c e, σ, h => (evE Γ C e σ h).bind fun r σ h => .exc c r.d σ h
  | .tryE b c s, σ, h => match exB b σ h with
    | .exc k p σ h => if C.sub k c then exB s σ h else .exc k p σ h
    | m => m
  | .tryA b c i s, σ, h => match exB b σ h with
    | .exc k p σ h => if C.sub k c then match exB s (σ.set i (.x k p)) h with
        | .ok f σ h => .ok f (σ.set i .un) h
        | .exc _ _ _ _ => .stuck
        | .stuck => .stuck
      else .exc k p σ h
    | m => m
noncomputable def exB : Ss → List Slot → List Ob → Res Flow
  | .nil, σ, h => .ok .nx σ h
  | .cons s r, σ, h => (exS s σ h).bind fun f σ h => match f with
    | .nx => exB r σ h
    | _ => .ok f σ h
end

/-- a def: how many parameters, how many names, its body -/
structure Fd where
  np : Nat
  ns : Nat
  body : Ss
noncomputable def runF (Γ : Calls) (C : Cf) (fd : Fd) (ds : List D) (h : List Ob) : CRes :=
  if ds.length = fd.np then
    match exB Γ C fd.body (ds.map Slot.v ++ List.replicate (fd.ns - fd.np) .un) h with
    | .ok .nx _ h => .ok (.v .non) h
    | .ok (.rt r) _ h => .ok r h
    | .ok _ _ _ => .stuck
    | .exc c p _ h => .exc c p h
    | .stuck => .stuck
  else .stuck
/-- the defs by level: a call goes one level down -/
noncomputable def callN (T : Nat → Option Fd) (C : Cf) : Nat → Calls
  | 0 => fun _ _ _ => .stuck
  | n + 1 => fun f ds h => match T f with
    | some fd => runF (callN T C n) C fd ds h
    | none => .stuck
end Pm

set_option Elab.async false
set_option linter.all false
set_option maxRecDepth 100000
/-! The pure machine: how its data stand in the abstract heap. -/
namespace Pm
open PySem PySem.Spec PyProof.Rows L2

/-- what an address is for us: free (nobody changes it), frozen (data lean on it), a list of the i-th name's own, an object of the pure heap, a list that an object's field owns -/
inductive Tag where
  | free | froz | slot (i : Nat) | obj (j : Nat) | fld (j : Nat) (f : Str)
  deriving DecidableEq
structure Gh where
  tag : Addr → Tag
  rho : List Addr

/-- the script: a list that nobody writes -/
def SqS (K : PySem.W.Frag) (H : Hp) (a : Addr) (xs : List V) : Prop := (∃ o, H a = some (.frz o (.lst xs))) ∨
  ∃ (o : Obj) (its : Array Value) (n : Nat), K.lookup a = some o ∧ o.cls = .type "list" ∧ o.dict = none ∧ o.data = .seq its n ∧ its.size ≤ sizeLine ∧ Vals xs its.toList
theorem SqS.seq {K : PySem.W.Frag} {H : Hp} {a : Addr} {xs : List V} (h : SqS K H a xs) : SqL K H a xs := by
  rcases h with ⟨o, h⟩ | h
  · exact .inl (.inr ⟨o, h⟩)
  · exact .inr h
section
variable (K : PySem.W.Frag) (g : Gh) (H : Hp)
mutual
inductive RD : V → D → Prop
  | non : RD .non .non
  | bl (b : Bool) : RD (.bl b) (.bl b)
  | int (i : Int) : RD (.int i) (.int i)
  | str (x : Str) : RD (.str x) (.str x)
  | tup {a : Addr} {vs : List V} {ds : List D} : SqT K H a vs → RDs vs ds → RD (.ref a) (.tup ds)
  | lst {a : Addr} {vs : List V} {ds : List D} : H a = some (.lst vs) → g.tag a = .froz → RDs vs ds → RD (.ref a) (.lst ds)
  | scr {a : Addr} {ns : List Int} : SqS K H a (ns.map V.int) → RD (.ref a) (.scr ns)
  | ref {a : Addr} {j : Nat} : g.rho[j]? = some a → RD (.ref a) (.ref j)
inductive RDs : List V → List D → Prop
  | nil : RDs [] []
  | cons {v : V} {vs : List V} {d : D} {ds : List D} : RD v d → RDs vs ds → RDs (v :: vs) (d :: ds)
end
end

/-- a step within a frame: what is free or frozen stands, objects stay objects -/
structure Stp (H : Hp) (g : Gh) (H' : Hp) (g' : Gh) : Prop where
  rho : g.rho <+: g'.rho
  there : ∀ a o, H a = some o → ∃ o', H' a = some o'
  stay : ∀ a o, H a = some o → g.tag a = .free ∨ g.tag a = .froz → g'.tag a = g.tag a ∧ H' a = some o
  objs : ∀ a j, g.tag a = .obj j → g'.tag a = .obj j
  flds : ∀ a j f, g.tag a = .fld j f → g'.tag a = .fld j f
  tups : ∀ a xs, H a = some (.tup xs) → H' a = some (.tup xs)
  frzs : ∀ a o u, H a = some (.frz o u) → H' a = some (.frz o u)
  nons : ∀ a, H a = none → g.tag a = .free

/-- what data lean on -/
structure Stw (H : Hp) (g : Gh) (H' : Hp) (g' : Gh) : Prop where
  rho : g.rho <+: g'.rho
  froz : ∀ a xs, H a = some (.lst xs) → g.tag a = .froz → g'.tag a = .froz ∧ H' a = some (.lst xs)
  tups : ∀ a xs, H a = some (.tup xs) → H' a = some (.tup xs)
  frzs : ∀ a o u, H a = some (.frz o u) → H' a = some (.frz o u)
theorem Stp.w {H H' : Hp} {g g' : Gh} (s : Stp H g H' g') : Stw H g H' g' := ⟨s.rho, fun a xs e z => by
  obtain ⟨e1, e2⟩ := s.stay a _ e (.inr z)
  exact ⟨e1.trans z, e2⟩, s.tups, s.frzs⟩
theorem Stw.trans {H H' H'' : Hp} {g g' g'' : Gh} (s : Stw H g H' g') (t : Stw H' g' H'' g'') : Stw H g H'' g'' := ⟨s.rho.trans t.rho, fun a xs e z => by
  obtain ⟨e1, e2⟩ := s.froz a xs e z
  exact t.froz a xs e2 e1, fun a xs e => t.tups a xs (s.tups a xs e), fun a o u e => t.frzs a o u (s.frzs a o u e)⟩
def nob : Tag → Bool
  | .obj _ => false
  | .fld _ _ => false
  | _ => true
/-- a step of a whole frame, for its caller -/
structure FrS (H : Hp) (g : Gh) (H' : Hp) (g' : Gh) : Prop where
  rho : g.rho <+: g'.rho
  there : ∀ a o, H a = some o → ∃ o', H' a = some o'
  tag : ∀ a o, H a = some o → g'.tag a = g.tag a
  keep : ∀ a o, H a = some o → nob (g.tag a) = true → H' a = some o

section
variable {K : PySem.W.Frag} {g g' g'' : Gh} {H H' H'' : Hp}
theorem Stp.trans (s : Stp H g H' g') (t : Stp H' g' H'' g'') : Stp H g H'' g'' where
  rho := s.rho.trans t.rho
  there := fun a o e => by
    obtain ⟨o', e'⟩ := s.there a o e
    exact t.there a o' e'
  stay := fun a o e h => by
    obtain ⟨e1, e2⟩ := s.stay a o e h
    obtain ⟨e3, e4⟩ := t.stay a o e2 (by rw [e1]; exact h)
    exact ⟨e3.trans e1, e4⟩
  objs := fun a j e => t.objs a j (s.objs a j e)
  flds := fun a j f e => t.flds a j f (s.flds a j f e)
  tups := fun a xs e => t.tups a xs (s.tups a xs e)
  frzs := fun a o u e => t.frzs a o u (s.frzs a o u e)
  nons := s.nons
theorem Stp.refl (n : ∀ a, H a = none → g.tag a = .free) : Stp H g H g := ⟨List.prefix_refl _, fun _ o e => ⟨o, e⟩, fun _ _ e _ => ⟨rfl, e⟩, fun _ _ e => e, fun _ _ _ e => e, fun _ _ e => e, fun _ _ _ e => e, n⟩
theorem FrS.refl : FrS H g H g := ⟨List.prefix_refl _, fun _ o e => ⟨o, e⟩, fun _ _ _ => rfl, fun _ _ e _ => e⟩
theorem FrS.trans (s : FrS H g H' g') (t : FrS H' g' H'' g'') : FrS H g H'' g'' where
  rho := s.rho.trans t.rho
  there := fun a o e => by
    obtain ⟨o', e'⟩ := s.there a o e
    exact t.there a o' e'
  tag := fun a o e => by
    obtain ⟨o', e'⟩ := s.there a o e
    exact (t.tag a o' e').trans (s.tag a o e)
  keep := fun a o e h => t.keep a o (s.keep a o e h) (by rw [s.tag a o e]; exact h)

theorem pre_get {α : Type} {l l' : List α} (p : l <+: l') {i : Nat} {x : α} (e : l[i]? = some x) : l'[i]? = some x := by
  obtain ⟨r, rfl⟩ := p
  have hi : i < l.length := (List.getElem?_eq_some_iff.mp e).1
  rw [List.getElem?_append_left hi]
  exact e
theorem seqT_keep {a : Addr} {xs : List V} (t : ∀ xs, H a = some (.tup xs) → H' a = some (.tup xs)) (f : ∀ o u, H a = some (.frz o u) → H' a = some (.frz o u)) (h : SqT K H a xs) : SqT K H' a xs := by
  rcases h with (h | ⟨o, h⟩) | h
  · exact .inl (.inl (t _ h))
  · exact .inl (.inr ⟨o, f _ _ h⟩)
  · exact .inr h
mutual
theorem RD.monoW (s : Stw H g H' g') : ∀ {d : D} {v : V}, RD K g H v d → RD K g' H' v d
  | .non, _, h => by cases h; exact .non
  | .bl _, _, h => by cases h; exact .bl _
  | .int _, _, h => by cases h; exact .int _
  | .str _, _, h => by cases h; exact .str _
  | .tup ds, _, h => by
    cases h with
    | tup h1 h2 => exact .tup (seqT_keep (s.tups _) (s.frzs _) h1) (RDs.monoW s h2)
  | .lst ds, _, h => by
    cases h with
    | lst h1 h2 h3 =>
      obtain ⟨e1, e2⟩ := s.froz _ _ h1 h2
      exact .lst e2 e1 (RDs.monoW s h3)
  | .scr ns, _, h => by
    cases h with
    | scr h1 =>
      rcases h1 with ⟨o, h1⟩ | h1
      · exact .scr (.inl ⟨o, s.frzs _ _ _ h1⟩)
      · exact .scr (.inr h1)
  | .ref _, _, h => by
    cases h with
    | ref h1 => exact .ref (pre_get s.rho h1)
theorem RDs.monoW (s : Stw H g H' g') : ∀ {ds : List D} {vs : List V}, RDs K g H vs ds → RDs K g' H' vs ds
  | [], _, h => by cases h; exact .nil
  | _ :: _, _, h => by
    cases h with
    | cons h1 h2 => exact .cons (RD.monoW s h1) (RDs.monoW s h2)
end
theorem RD.mono (s : Stp H g H' g') {d : D} {v : V} (h : RD K g H v d) : RD K g' H' v d := h.monoW s.w
theorem RDs.mono (s : Stp H g H' g') {d : List D} {v : List V} (h : RDs K g H v d) : RDs K g' H' v d := RDs.monoW s.w h
end

/-! ### the pure heap, the frame -/
/-- what the classes are: addresses by number; the field of an exception's class -/
structure Cls0 where
  adr : Nat → Addr
  fld : Nat → Option Str
  own : Addr

def FR (K : PySem.W.Frag) (g : Gh) (H : Hp) (j : Nat) (f : Str) (v : V) : R → Prop
  | .v d => RD K g H v d
  | .o xs => ∃ b vs, v = .ref b ∧ H b = some (.lst vs) ∧ g.tag b = .fld j f ∧ RDs K g H vs xs
inductive FsR (K : PySem.W.Frag) (g : Gh) (H : Hp) (j : Nat) : List (Str × V) → List (Str × R) → Prop
  | nil : FsR K g H j [] []
  | cons {f : Str} {v : V} {r : R} {fv : List (Str × V)} {fs : List (Str × R)} : FR K g H j f v r → FsR K g H j fv fs → FsR K g H j ((f, v) :: fv) ((f, r) :: fs)
def ObR (K : PySem.W.Frag) (cs : Cls0) (g : Gh) (H : Hp) (j : Nat) (a : Addr) : Ob → Prop
  | .lst xs => ∃ vs, H a = some (.lst vs) ∧ RDs K g H vs xs
  | .ins c fs => ∃ dx fv, H a = some (.ins cs.own dx fv) ∧ FsR K g H j fv fs

structure HSim (K : PySem.W.Frag) (cs : Cls0) (H : Hp) (g : Gh) (h : List Ob) : Prop where
  len : g.rho.length = h.length
  ob : ∀ j o, h[j]? = some o → ∃ a, g.rho[j]? = some a ∧ g.tag a = .obj j ∧ ObR K cs g H j a o
  nofr : ∀ a, H a = none → g.tag a = .free
  shp : ∀ a o, H a = some o → (∀ xs, o ≠ .lst xs) → (∀ C dx fs, o ≠ .ins C dx fs) → g.tag a = .free

def SltR (K : PySem.W.Frag) (cs : Cls0) (H0 : Hp) (σr : List (Option V)) (g : Gh) (H : Hp) (i : Nat) : Slot → Prop
  | .un => True
  | .v d => ∃ v, σr[i]? = some (some v) ∧ RD K g H v d
  | .o xs => ∃ a vs, σr[i]? = some (some (.ref a)) ∧ H a = some (.lst vs) ∧ g.tag a = .slot i ∧ H0 a = none ∧ RDs K g H vs xs
  | .x c p => True

structure Sim (K : PySem.W.Frag) (cs : Cls0) (H0 : Hp) (g0 : Gh) (σr : List (Option V)) (H : Hp) (g : Gh) (σ : List Slot) (h : List Ob) : Prop where
  hs : HSim K cs H g h
  fr : FrS H0 g0 H g
  len : σr.length = σ.length
  sl : ∀ i s, σ[i]? = some s → SltR K cs H0 σr g H i s

/-- what a result is: data, or a new list (not there at Hb) that nobody else holds -/
def RR (K : PySem.W.Frag) (Hb H : Hp) (g : Gh) (v : V) : R → Prop
  | .v d => RD K g H v d
  | .o xs => ∃ a vs, v = .ref a ∧ Hb a = none ∧ H a = some (.lst vs) ∧ g.tag a = .free ∧ RDs K g H vs xs

section
variable {K : PySem.W.Frag} {cs : Cls0} {g g' g'' g0 : Gh} {H H' H'' H0 Hb : Hp} {σr : List (Option V)} {σ : List Slot} {h h' : List Ob}
theorem HSim.stp (s : HSim K cs H g h) (t : FrS H g H' g') : Stp H g H' g' where
  rho := t.rho
  there := t.there
  stay := fun a o e z => ⟨t.tag a o e, t.keep a o e (by rcases z with z | z <;> rw [z] <;> rfl)⟩
  objs := fun a j e => by
    cases q : H a with
    | none =>
      rw [s.nofr a q] at e
      cases e
    | some o => exact (t.tag a o q).trans e
  flds := fun a j f e => by
    cases q : H a with
    | none =>
      rw [s.nofr a q] at e
      cases e
    | some o => exact (t.tag a o q).trans e
  tups := fun a xs e => t.keep a _ e (by rw [s.shp a _ e (by intro _ z; cases z) (by intro _ _ _ z; cases z)]; rfl)
  frzs := fun a o u e => t.keep a _ e (by rw [s.shp a _ e (by intro _ z; cases z) (by intro _ _ _ z; cases z)]; rfl)
  nons := s.nofr
theorem RR.mono {v : V} {r : R} (t : Stp H g H' g') (x : RR K Hb H g v r) : RR K Hb H' g' v r := by
  cases r with
  | v d => exact RD.mono t x
  | o xs =>
    obtain ⟨a, vs, e, e0, e1, e2, r⟩ := x
    obtain ⟨z1, z2⟩ := t.stay a _ e1 (.inl e2)
    exact ⟨a, vs, e, e0, z2, z1.trans e2, RDs.mono t r⟩
theorem RR.base {v : V} {r : R} (t : ∀ a o, H0 a = some o → ∃ o', Hb a = some o') (x : RR K Hb H g v r) : RR K H0 H g v r := by
  cases r with
  | v d => exact x
  | o xs =>
    obtain ⟨a, vs, e, e0, e1, e2, r⟩ := x
    refine ⟨a, vs, e, ?_, e1, e2, r⟩
    cases q : H0 a with
    | none => rfl
    | some o =>
      obtain ⟨o', z⟩ := t a o q
      rw [e0] at z
      cases z
/-- behind a callee's frame -/
theorem Sim.call (s : Sim K cs H0 g0 σr H g σ h) (t : FrS H g H' g') (s' : HSim K cs H' g' h') : Sim K cs H0 g0 σr H' g' σ h' where
  hs := s'
  fr := s.fr.trans t
  len := s.len
  sl := fun i x e => by
    have st := s.hs.stp t
    have q := s.sl i x e
    cases x with
    | un => trivial
    | v d =>
      obtain ⟨v, e1, r⟩ := q
      exact ⟨v, e1, r.mono st⟩
    | o xs =>
      obtain ⟨a, vs, e1, e2, e3, e4, r⟩ := q
      exact ⟨a, vs, e1, t.keep a _ e2 (by rw [e3]; rfl), (t.tag a _ e2).trans e3, e4, RDs.mono st r⟩
    | x c p => trivial
end

section
variable {K : PySem.W.Frag} {cs : Cls0} {g g' g'' g0 : Gh} {H H' H'' H0 Hb : Hp} {σr : List (Option V)} {σ : List Slot} {h h' : List Ob} {a p : Addr} {o : HO}
theorem FR.mono {j : Nat} {f : Str} {v : V} {r : R} (t : Stp H g H' g') (k : ∀ b vs, H b = some (.lst vs) → g.tag b = .fld j f → H' b = some (.lst vs)) (x : FR K g H j f v r) : FR K g' H' j f v r := by
  cases r with
  | v d => exact RD.mono t x
  | o xs =>
    obtain ⟨b, vs, e, e1, e2, r⟩ := x
    exact ⟨b, vs, e, k b vs e1 e2, t.flds b j f e2, RDs.mono t r⟩
theorem FsR.mono {j : Nat} {fv : List (Str × V)} {fs : List (Str × R)} (t : Stp H g H' g') (k : ∀ b vs f, H b = some (.lst vs) → g.tag b = .fld j f → H' b = some (.lst vs)) (x : FsR K g H j fv fs) : FsR K g' H' j fv fs := by
  induction x with
  | nil => exact .nil
  | cons x _ ih => exact .cons (x.mono t fun b vs => k b vs _) ih
theorem ObR.mono {j : Nat} {ob : Ob} (t : Stp H g H' g') (k1 : ∀ o, H a = some o → H' a = some o) (k : ∀ b vs f, H b = some (.lst vs) → g.tag b = .fld j f → H' b = some (.lst vs)) (x : ObR K cs g H j a ob) : ObR K cs g' H' j a ob := by
  cases ob with
  | lst xs =>
    obtain ⟨vs, e, r⟩ := x
    exact ⟨vs, k1 _ e, RDs.mono t r⟩
  | ins c fs =>
    obtain ⟨dx, fv, e, r⟩ := x
    exact ⟨dx, fv, k1 _ e, r.mono t k⟩
/-- nothing of the pure heap's objects is touched -/
theorem HSim.keep (s : HSim K cs H g h) (t : Stp H g H' g') (hr : g'.rho = g.rho) (k : ∀ a o, H a = some o → nob (g.tag a) = false → H' a = some o) (nofr : ∀ a, H' a = none → g'.tag a = .free)
    (shp : ∀ a o, H' a = some o → (∀ xs, o ≠ .lst xs) → (∀ C dx fs, o ≠ .ins C dx fs) → g'.tag a = .free) : HSim K cs H' g' h where
  len := by rw [hr]; exact s.len
  ob := fun j ob e => by
    obtain ⟨a, e1, e2, x⟩ := s.ob j ob e
    exact ⟨a, by rw [hr]; exact e1, t.objs a j e2, x.mono t (fun o z => k a o z (by rw [e2]; rfl)) fun b vs f z q => k b _ z (by rw [q]; rfl)⟩
  nofr := nofr
  shp := shp
theorem Stp.new (s : HSim K cs H g h) (hp : H p = none) : Stp H g (upd H p o) g where
  rho := List.prefix_refl _
  there := fun a o e => ⟨o, by rw [upd_ne (ne_of_none e hp)]; exact e⟩
  stay := fun a o e _ => ⟨rfl, by rw [upd_ne (ne_of_none e hp)]; exact e⟩
  objs := fun _ _ e => e
  flds := fun _ _ _ e => e
  tups := fun a xs e => by rw [upd_ne (ne_of_none e hp)]; exact e
  frzs := fun a o u e => by rw [upd_ne (ne_of_none e hp)]; exact e
  nons := s.nofr
/-- a new thing is laid -/
theorem HSim.new (s : HSim K cs H g h) (hp : H p = none) : HSim K cs (upd H p o) g h :=
  s.keep (Stp.new s hp) rfl (fun a o e _ => by rw [upd_ne (ne_of_none e hp)]; exact e) (fun a e => by
    by_cases z : a = p
    · subst z; exact s.nofr _ hp
    · rw [upd_ne z] at e; exact s.nofr _ e) fun a o e h1 h2 => by
    by_cases z : a = p
    · subst z; exact s.nofr _ hp
    · rw [upd_ne z] at e; exact s.shp _ _ e h1 h2
theorem FrS.new (hp : H p = none) : FrS H g (upd H p o) g where
  rho := List.prefix_refl _
  there := fun a o e => ⟨o, by rw [upd_ne (ne_of_none e hp)]; exact e⟩
  tag := fun _ _ _ => rfl
  keep := fun a o e _ => by rw [upd_ne (ne_of_none e hp)]; exact e
theorem Sim.new (s : Sim K cs H0 g0 σr H g σ h) (hp : H p = none) : Sim K cs H0 g0 σr (upd H p o) g σ h := s.call (FrS.new hp) (s.hs.new hp)
theorem Sim.fresh0 (s : Sim K cs H0 g0 σr H g σ h) (hp : H p = none) : H0 p = none := by
  cases q : H0 p with
  | none => rfl
  | some o =>
    obtain ⟨o', z⟩ := s.fr.there p o q
    rw [hp] at z
    cases z

def Gh.set (g : Gh) (a : Addr) (t : Tag) : Gh := ⟨fun b => if b = a then t else g.tag b, g.rho⟩
theorem Gh.set_same {t : Tag} : (g.set a t).tag a = t := if_pos rfl
theorem Gh.set_ne {t : Tag} {b : Addr} (hb : b ≠ a) : (g.set a t).tag b = g.tag b := if_neg hb
/-- a list that nobody else holds is tagged anew: the base Hb did not have it -/
theorem Stp.retag {t : Tag} {gb : Gh} (st : Stp Hb gb H g) (hb : Hb a = none) (ho : nob (g.tag a) = true) : Stp Hb gb H (g.set a t) where
  rho := st.rho
  there := st.there
  stay := fun b o e z => by
    have hne : b ≠ a := fun q => by subst q; rw [hb] at e; cases e
    rw [Gh.set_ne hne]
    exact st.stay b o e z
  objs := fun b j e => by
    have hne : b ≠ a := fun q => by
      subst q
      have z := st.objs b j e
      rw [z] at ho
      cases ho
    rw [Gh.set_ne hne]
    exact st.objs b j e
  flds := fun b j f e => by
    have hne : b ≠ a := fun q => by
      subst q
      have z := st.flds b j f e
      rw [z] at ho
      cases ho
    rw [Gh.set_ne hne]
    exact st.flds b j f e
  tups := st.tups
  frzs := st.frzs
  nons := st.nons
/-- retagging keeps what leans on frozen and objects: what is needed of the old tag is that it is free (or the slot's own) -/
theorem RD.retag {t : Tag} (ht : g.tag a ≠ .froz) : ∀ {d : D} {v : V}, RD K g H v d → RD K (g.set a t) H v d := by
  have key : ∀ (d : D) (v : V), RD K g H v d → RD K (g.set a t) H v d := by
    intro d v x
    refine RD.rec (K := K) (g := g) (H := H) (motive_1 := fun v d _ => RD K (g.set a t) H v d) (motive_2 := fun vs ds _ => RDs K (g.set a t) H vs ds) ?_ ?_ ?_ ?_ ?_ ?_ ?_ ?_ ?_ ?_ x
    · exact .non
    · exact fun b => .bl b
    · exact fun i => .int i
    · exact fun z => .str z
    · exact fun h1 _ ih => .tup h1 ih
    · intro b vs ds h1 h2 _ ih
      refine .lst h1 ?_ ih
      rw [Gh.set_ne (fun e => ht (by rw [← e]; exact h2))]
      exact h2
    · exact fun h1 => .scr h1
    · exact fun h1 => .ref h1
    · exact .nil
    · exact fun _ _ h1 h2 => .cons h1 h2
  exact fun {d v} => key d v
theorem RDs.retag {t : Tag} (ht : g.tag a ≠ .froz) : ∀ {ds : List D} {vs : List V}, RDs K g H vs ds → RDs K (g.set a t) H vs ds
  | [], _, h => by cases h; exact .nil
  | _ :: _, _, h => by
    cases h with
    | cons h1 h2 => exact .cons (RD.retag ht h1) (RDs.retag ht h2)
theorem FsR.retag {t : Tag} {j : Nat} {fv : List (Str × V)} {fs : List (Str × R)} (ht : g.tag a ≠ .froz) (ho : nob (g.tag a) = true) (x : FsR K g H j fv fs) : FsR K (g.set a t) H j fv fs := by
  induction x with
  | nil => exact .nil
  | cons x _ ih =>
    refine .cons ?_ ih
    rename_i r _ _ _
    cases r with
    | v d => exact RD.retag ht x
    | o xs =>
      obtain ⟨b, vs, e, e1, e2, r⟩ := x
      refine ⟨b, vs, e, e1, ?_, RDs.retag ht r⟩
      rw [Gh.set_ne]
      · exact e2
      · intro z
        rw [← z, e2] at ho
        cases ho
theorem HSim.retag {t : Tag} {vs : List V} (s : HSim K cs H g h) (ht : g.tag a ≠ .froz) (ho : nob (g.tag a) = true) (e : H a = some (.lst vs)) (hn : nob t = true) : HSim K cs H (g.set a t) h where
  len := s.len
  ob := fun j ob z => by
    obtain ⟨b, e1, e2, x⟩ := s.ob j ob z
    refine ⟨b, e1, ?_, ?_⟩
    · rw [Gh.set_ne]
      · exact e2
      · intro q
        rw [← q, e2] at ho
        cases ho
    · cases ob with
      | lst xs =>
        obtain ⟨vs, q, r⟩ := x
        exact ⟨vs, q, RDs.retag ht r⟩
      | ins c fs =>
        obtain ⟨dx, fv, q, r⟩ := x
        exact ⟨dx, fv, q, r.retag ht ho⟩
  nofr := fun b z => by
    rw [Gh.set_ne (fun q => by rw [q, e] at z; cases z)]
    exact s.nofr b z
  shp := fun b o z h1 h2 => by
    rw [Gh.set_ne (fun q => by rw [q, e] at z; cases z; exact h1 _ rfl)]
    exact s.shp b o z h1 h2
theorem FrS.retag {t : Tag} (s : FrS H0 g0 H g) (e : H0 a = none) : FrS H0 g0 H (g.set a t) where
  rho := s.rho
  there := s.there
  tag := fun b o z => by
    rw [Gh.set_ne (fun q => by rw [q, e] at z; cases z)]
    exact s.tag b o z
  keep := s.keep
/-- a free list is tagged -/
theorem Sim.retag {t : Tag} {vs : List V} (s : Sim K cs H0 g0 σr H g σ h) (ht : g.tag a = .free) (e : H a = some (.lst vs)) (e0 : H0 a = none) (hn : nob t = true) : Sim K cs H0 g0 σr H (g.set a t) σ h where
  hs := s.hs.retag (by rw [ht]; intro z; cases z) (by rw [ht]; rfl) e hn
  fr := s.fr.retag e0
  len := s.len
  sl := fun i x z => by
    have ht' : g.tag a ≠ .froz := by rw [ht]; intro z; cases z
    have q := s.sl i x z
    cases x with
    | un => trivial
    | v d =>
      obtain ⟨v, e1, r⟩ := q
      exact ⟨v, e1, r.retag ht'⟩
    | o xs =>
      obtain ⟨b, us, e1, e2, e3, e4, r⟩ := q
      refine ⟨b, us, e1, e2, ?_, e4, RDs.retag ht' r⟩
      rw [Gh.set_ne (fun q => by rw [q, ht] at e3; cases e3)]
      exact e3
    | x c p => trivial
/-- a result becomes data -/
theorem Sim.freeze {gb : Gh} {v : V} {r : R} (s : Sim K cs H0 g0 σr H g σ h) (st : Stp Hb gb H g) (x : RR K Hb H g v r) (e0 : ∀ a, Hb a = none → H0 a = none) :
    ∃ g', Sim K cs H0 g0 σr H g' σ h ∧ Stp Hb gb H g' ∧ RD K g' H v r.d ∧ (∀ b, Hb b ≠ none → g'.tag b = g.tag b) := by
  cases r with
  | v d => exact ⟨g, s, st, x, fun _ _ => rfl⟩
  | o xs =>
    obtain ⟨a, vs, e, eb, e1, e2, r⟩ := x
    subst e
    refine ⟨g.set a .froz, s.retag e2 e1 (e0 a eb) rfl, st.retag eb (by rw [e2]; rfl), .lst e1 Gh.set_same (RDs.retag (by rw [e2]; intro z; cases z) r), fun b hb => Gh.set_ne fun q => hb (by rw [q]; exact eb)⟩
/-- a name gets a result -/
theorem Sim.bind {v : V} {r : R} {i : Nat} (s : Sim K cs H0 g0 σr H g σ h) (x : RR K H0 H g v r) (hi : i < σ.length) : ∃ g', Sim K cs H0 g0 (σr.set i (some v)) H g' (σ.set i r.slot) h := by
  have hir : i < σr.length := by rw [s.len]; exact hi
  have other : ∀ {g' : Gh} {k : Nat} {z : Slot}, k ≠ i → SltR K cs H0 σr g' H k z → SltR K cs H0 (σr.set i (some v)) g' H k z := fun {g' k z} hk q => by
    cases z with
    | un => trivial
    | v d =>
      obtain ⟨u, e1, r⟩ := q
      exact ⟨u, by rw [List.getElem?_set_ne (Ne.symm hk)]; exact e1, r⟩
    | o xs =>
      obtain ⟨b, us, e1, e2⟩ := q
      exact ⟨b, us, by rw [List.getElem?_set_ne (Ne.symm hk)]; exact e1, e2⟩
    | x c p => trivial
  cases r with
  | v d =>
    refine ⟨g, s.hs, s.fr, by simpa using s.len, fun k z e => ?_⟩
    by_cases hk : k = i
    · subst hk
      rw [List.getElem?_set_self hi] at e
      cases e
      exact ⟨v, List.getElem?_set_self hir, x⟩
    · rw [List.getElem?_set_ne (Ne.symm hk)] at e
      exact other hk (s.sl k z e)
  | o xs =>
    obtain ⟨a, vs, e, eb, e1, e2, r⟩ := x
    subst e
    have s' := s.retag (t := .slot i) e2 e1 eb rfl
    refine ⟨g.set a (.slot i), s'.hs, s'.fr, by simpa using s.len, fun k z e => ?_⟩
    by_cases hk : k = i
    · subst hk
      rw [List.getElem?_set_self hi] at e
      cases e
      exact ⟨a, vs, List.getElem?_set_self hir, e1, Gh.set_same, eb, RDs.retag (by rw [e2]; intro z; cases z) r⟩
    · rw [List.getElem?_set_ne (Ne.symm hk)] at e
      exact other hk (s'.sl k z e)
/-- a name's own list becomes data -/
theorem Sim.unown {i : Nat} {xs : List D} {gb : Gh} (s : Sim K cs H0 g0 σr H g σ h) (st : Stp Hb gb H g) (hi : σ[i]? = some (.o xs)) :
    ∃ g' v, Sim K cs H0 g0 σr H g' (σ.set i (.v (.lst xs))) h ∧ Stp Hb gb H g' ∧ σr[i]? = some (some v) ∧ RD K g' H v (.lst xs) := by
  have hlt : i < σ.length := (List.getElem?_eq_some_iff.mp hi).1
  obtain ⟨a, vs, e1, e2, e3, e4, r⟩ := s.sl i _ hi
  have ht : g.tag a ≠ .froz := by rw [e3]; intro z; cases z
  have rd : RD K (g.set a .froz) H (.ref a) (.lst xs) := .lst e2 Gh.set_same (RDs.retag ht r)
  refine ⟨g.set a .froz, .ref a, ⟨s.hs.retag ht (by rw [e3]; rfl) e2 rfl, s.fr.retag e4, by simpa using s.len, fun k z e => ?_⟩, ?_, e1, rd⟩
  · by_cases hk : k = i
    · subst hk
      rw [List.getElem?_set_self hlt] at e
      cases e
      exact ⟨_, e1, rd⟩
    · rw [List.getElem?_set_ne (Ne.symm hk)] at e
      have q := s.sl k z e
      cases z with
      | un => trivial
      | v d =>
        obtain ⟨u, e1, r⟩ := q
        exact ⟨u, e1, r.retag ht⟩
      | o ys =>
        obtain ⟨b, us, f1, f2, f3, f4, r'⟩ := q
        refine ⟨b, us, f1, f2, ?_, f4, RDs.retag ht r'⟩
        rw [Gh.set_ne (fun q => by rw [q, e3] at f3; cases f3; exact hk rfl)]
        exact f3
      | x c p => trivial
  · refine ⟨st.rho, st.there, fun b o e z => ?_, fun b j e => ?_, fun b j f e => ?_, st.tups, st.frzs, st.nons⟩
    · have hne : b ≠ a := fun q => by
        subst q
        have w := (st.stay b o e z).1
        rw [e3] at w
        rw [← w] at z
        rcases z with z | z <;> cases z
      rw [Gh.set_ne hne]
      exact st.stay b o e z
    · rw [Gh.set_ne (fun q => by subst q; rw [st.objs b j e] at e3; cases e3)]
      exact st.objs b j e
    · rw [Gh.set_ne (fun q => by subst q; rw [st.flds b j f e] at e3; cases e3)]
      exact st.flds b j f e

/-! ### writes -/
theorem Stp.upd {gb : Gh} (st : Stp Hb gb H g) {vs : List V} {o' : HO} (e : H a = some o) (hk : (∃ xs, o = .lst xs) ∨ ∃ C dx fs, o = .ins C dx fs) (ht : g.tag a ≠ .free) (hz : g.tag a ≠ .froz) : Stp Hb gb (L2.upd H a o') g where
  rho := st.rho
  there := fun b u q => by
    by_cases hb : b = a
    · exact ⟨o', by rw [hb]; exact upd_same⟩
    · obtain ⟨u', z⟩ := st.there b u q
      exact ⟨u', by rw [upd_ne hb]; exact z⟩
  stay := fun b u q z => by
    have hb : b ≠ a := fun w => by
      subst w
      have w := (st.stay b u q z).1
      rw [← w] at z
      rcases z with z | z
      · exact ht z
      · exact hz z
    rw [upd_ne hb]
    exact st.stay b u q z
  objs := st.objs
  flds := st.flds
  tups := fun b xs q => by
    have z := st.tups b xs q
    have hb : b ≠ a := fun w => by
      subst w
      rw [e] at z
      rcases hk with ⟨ys, rfl⟩ | ⟨C, dx, fs, rfl⟩ <;> cases z
    rw [upd_ne hb]
    exact z
  frzs := fun b o u q => by
    have z := st.frzs b o u q
    have hb : b ≠ a := fun w => by
      subst w
      rw [e] at z
      rcases hk with ⟨ys, rfl⟩ | ⟨C, dx, fs, rfl⟩ <;> cases z
    rw [upd_ne hb]
    exact z
  nons := st.nons
theorem FrS.upd {o' : HO} (s : FrS H0 g0 H g) (h0 : H0 a = none ∨ nob (g0.tag a) = false) (e : H a = some o) : FrS H0 g0 (L2.upd H a o') g where
  rho := s.rho
  there := fun b u q => by
    by_cases hb : b = a
    · exact ⟨o', by rw [hb]; exact upd_same⟩
    · obtain ⟨u', z⟩ := s.there b u q
      exact ⟨u', by rw [upd_ne hb]; exact z⟩
  tag := s.tag
  keep := fun b u q z => by
    have hb : b ≠ a := fun w => by
      subst w
      rcases h0 with h0 | h0
      · rw [h0] at q; cases q
      · rw [h0] at z; cases z
    rw [upd_ne hb]
    exact s.keep b u q z
/-- a name's own list is written -/
theorem Sim.mutS {i : Nat} {xs : List D} (s : Sim K cs H0 g0 σr H g σ h) (hi : σ[i]? = some (.o xs)) :
    ∃ a vs, σr[i]? = some (some (.ref a)) ∧ H a = some (.lst vs) ∧ RDs K g H vs xs ∧
      ∀ vs' xs', RDs K g H vs' xs' → Sim K cs H0 g0 σr (L2.upd H a (.lst vs')) g (σ.set i (.o xs')) h ∧ ∀ Hb gb, Stp Hb gb H g → Stp Hb gb (L2.upd H a (.lst vs')) g := by
  have hlt : i < σ.length := (List.getElem?_eq_some_iff.mp hi).1
  obtain ⟨a, vs, e1, e2, e3, e4, r⟩ := s.sl i _ hi
  refine ⟨a, vs, e1, e2, r, fun vs' xs' r' => ?_⟩
  have ht : g.tag a ≠ .free := by rw [e3]; intro z; cases z
  have hz : g.tag a ≠ .froz := by rw [e3]; intro z; cases z
  have stp : ∀ Hb gb, Stp Hb gb H g → Stp Hb gb (L2.upd H a (.lst vs')) g := fun Hb gb st => st.upd (vs := vs) e2 (.inl ⟨_, rfl⟩) ht hz
  have st := stp H g (Stp.refl s.hs.nofr)
  refine ⟨⟨s.hs.keep st rfl (fun b o q z => ?_) (fun b q => ?_) (fun b o q z1 z2 => ?_), s.fr.upd (.inl e4) e2, by simpa using s.len, fun k z e => ?_⟩, stp⟩
  · rw [upd_ne (fun w => by rw [w, e3] at z; cases z)]
    exact q
  · by_cases hb : b = a
    · rw [hb, upd_same] at q; cases q
    · rw [upd_ne hb] at q
      exact s.hs.nofr b q
  · by_cases hb : b = a
    · subst hb
      rw [upd_same] at q
      cases q
      exact absurd rfl (z1 _)
    · rw [upd_ne hb] at q
      exact s.hs.shp b o q z1 z2
  · by_cases hk : k = i
    · subst hk
      rw [List.getElem?_set_self hlt] at e
      cases e
      exact ⟨a, vs', e1, upd_same, e3, e4, RDs.mono st r'⟩
    · rw [List.getElem?_set_ne (Ne.symm hk)] at e
      have q := s.sl k z e
      cases z with
      | un => trivial
      | v d =>
        obtain ⟨u, f1, r⟩ := q
        exact ⟨u, f1, RD.mono st r⟩
      | o ys =>
        obtain ⟨b, us, f1, f2, f3, f4, r2⟩ := q
        refine ⟨b, us, f1, ?_, f3, f4, RDs.mono st r2⟩
        rw [upd_ne (fun w => by rw [w, e3] at f3; cases f3; exact hk rfl)]
        exact f2
      | x c p => trivial
/-- an object of the pure heap is written -/
theorem Sim.mutO {j : Nat} {ob : Ob} (s : Sim K cs H0 g0 σr H g σ h) (hj : h[j]? = some ob) :
    ∃ a, g.rho[j]? = some a ∧ ObR K cs g H j a ob ∧
      ∀ o' ob', ((∃ xs, o' = .lst xs) ∨ ∃ C dx fs, o' = .ins C dx fs) → ObR K cs g (L2.upd H a o') j a ob' → Sim K cs H0 g0 σr (L2.upd H a o') g σ (h.set j ob') ∧ ∀ Hb gb, Stp Hb gb H g → Stp Hb gb (L2.upd H a o') g := by
  obtain ⟨a, e1, e2, x⟩ := s.hs.ob j ob hj
  refine ⟨a, e1, x, fun o' ob' ko x' => ?_⟩
  obtain ⟨o, eo, hk⟩ : ∃ o, H a = some o ∧ ((∃ xs, o = .lst xs) ∨ ∃ C dx fs, o = .ins C dx fs) := by
    cases ob with
    | lst xs =>
      obtain ⟨vs, e, _⟩ := x
      exact ⟨_, e, .inl ⟨_, rfl⟩⟩
    | ins c fs =>
      obtain ⟨dx, fv, e, _⟩ := x
      exact ⟨_, e, .inr ⟨_, _, _, rfl⟩⟩
  have ht : g.tag a ≠ .free := by rw [e2]; intro z; cases z
  have hz : g.tag a ≠ .froz := by rw [e2]; intro z; cases z
  have stp : ∀ Hb gb, Stp Hb gb H g → Stp Hb gb (L2.upd H a o') g := fun Hb gb st => st.upd (vs := []) eo hk ht hz
  have st := stp H g (Stp.refl s.hs.nofr)
  have h0 : H0 a = none ∨ nob (g0.tag a) = false := by
    cases q : H0 a with
    | none => exact .inl rfl
    | some u =>
      refine .inr ?_
      rw [← s.fr.tag a u q, e2]
      rfl
  refine ⟨⟨⟨by rw [List.length_set]; exact s.hs.len, fun k z e => ?_, fun b q => ?_, fun b u q z1 z2 => ?_⟩, s.fr.upd h0 eo, s.len, fun k z e => ?_⟩, stp⟩
  · by_cases hk' : k = j
    · subst hk'
      rw [List.getElem?_set_self (List.getElem?_eq_some_iff.mp hj).1] at e
      cases e
      exact ⟨a, e1, e2, x'⟩
    · rw [List.getElem?_set_ne (Ne.symm hk')] at e
      obtain ⟨b, f1, f2, y⟩ := s.hs.ob k z e
      have hne : b ≠ a := fun w => by
        rw [w, e2] at f2
        cases f2
        exact hk' rfl
      exact ⟨b, f1, f2, y.mono st (fun o w => by rw [upd_ne hne]; exact w) fun c vs f w1 w2 => by
        rw [upd_ne (fun w => by rw [w, e2] at w2; cases w2)]
        exact w1⟩
  · by_cases hb : b = a
    · rw [hb, upd_same] at q; cases q
    · rw [upd_ne hb] at q
      exact s.hs.nofr b q
  · by_cases hb : b = a
    · subst hb
      rw [upd_same] at q
      cases q
      rcases ko with ⟨xs, rfl⟩ | ⟨C, dx, fs, rfl⟩
      · exact absurd rfl (z1 _)
      · exact absurd rfl (z2 _ _ _)
    · rw [upd_ne hb] at q
      exact s.hs.shp b u q z1 z2
  · have q := s.sl k z e
    cases z with
    | un => trivial
    | v d =>
      obtain ⟨u, f1, r⟩ := q
      exact ⟨u, f1, RD.mono st r⟩
    | o ys =>
      obtain ⟨b, us, f1, f2, f3, f4, r2⟩ := q
      refine ⟨b, us, f1, ?_, f3, f4, RDs.mono st r2⟩
      rw [upd_ne (fun w => by rw [w, e2] at f3; cases f3)]
      exact f2
    | x c p => trivial
/-- a new list, that nobody else holds, becomes an object of the pure heap -/
theorem Sim.prom {v : V} {xs : List D} {gb : Gh} (s : Sim K cs H0 g0 σr H g σ h) (st : Stp Hb gb H g) (x : RR K Hb H g v (.o xs)) (e0 : ∀ a, Hb a = none → H0 a = none) :
    ∃ g', Sim K cs H0 g0 σr H g' σ (h ++ [.lst xs]) ∧ Stp Hb gb H g' ∧ RD K g' H v (.ref h.length) := by
  obtain ⟨a, vs, rfl, eb, e1, e2, r⟩ := x
  have ht : g.tag a ≠ .froz := by rw [e2]; intro z; cases z
  have ho : nob (g.tag a) = true := by rw [e2]; rfl
  have stu : Stp H (g.set a (.obj h.length)) H ⟨(g.set a (.obj h.length)).tag, g.rho ++ [a]⟩ := ⟨⟨[a], rfl⟩, fun _ o e => ⟨o, e⟩, fun _ _ e _ => ⟨rfl, e⟩, fun _ _ e => e, fun _ _ _ e => e, fun _ _ e => e, fun _ _ _ e => e, fun b e => by
    rw [Gh.set_ne (fun q => by rw [q, e1] at e; cases e)]
    exact s.hs.nofr b e⟩
  have up : ∀ {d : D} {v : V}, RD K (g.set a (.obj h.length)) H v d → RD K ⟨(g.set a (.obj h.length)).tag, g.rho ++ [a]⟩ H v d := fun {d v} q =>
    RD.mono (K := K) (g := g.set a (.obj h.length)) (H := H) (H' := H) (g' := ⟨(g.set a (.obj h.length)).tag, g.rho ++ [a]⟩) stu q
  have ups : ∀ {d : List D} {v : List V}, RDs K (g.set a (.obj h.length)) H v d → RDs K ⟨(g.set a (.obj h.length)).tag, g.rho ++ [a]⟩ H v d := fun {d v} q =>
    RDs.mono (K := K) (g := g.set a (.obj h.length)) (H := H) (H' := H) (g' := ⟨(g.set a (.obj h.length)).tag, g.rho ++ [a]⟩) stu q
  have st1 := st.retag (t := .obj h.length) eb ho
  have hlen : (g.rho ++ [a])[h.length]? = some a := by
    rw [← s.hs.len, List.getElem?_append_right (Nat.le_refl _)]
    simp
  refine ⟨⟨(g.set a (.obj h.length)).tag, g.rho ++ [a]⟩, ⟨⟨by simp [s.hs.len], fun j ob e => ?_, fun b q => ?_, fun b u q z1 z2 => ?_⟩, ?_, s.len, fun k z e => ?_⟩, ?_, .ref hlen⟩
  · by_cases hj : j < h.length
    · rw [List.getElem?_append_left hj] at e
      obtain ⟨b, f1, f2, y⟩ := s.hs.ob j ob e
      refine ⟨b, by rw [List.getElem?_append_left (by rw [s.hs.len]; exact hj)]; exact f1, ?_, ?_⟩
      · show (g.set a _).tag b = _
        rw [Gh.set_ne (fun q => by rw [q, e2] at f2; cases f2)]
        exact f2
      · cases ob with
        | lst ys =>
          obtain ⟨us, q, r⟩ := y
          exact ⟨us, q, ups (RDs.retag ht r)⟩
        | ins c fs =>
          obtain ⟨dx, fv, q, r⟩ := y
          refine ⟨dx, fv, q, ?_⟩
          have r1 := r.retag (t := .obj h.length) ht ho
          clear r q e
          induction r1 with
          | nil => exact .nil
          | cons x _ ih =>
            refine .cons ?_ ih
            rename_i r _ _ _
            cases r with
            | v d => exact up x
            | o xs =>
              obtain ⟨b, vs, e, e1, e2, r⟩ := x
              exact ⟨b, vs, e, e1, e2, ups r⟩
    · have hj' : j = h.length := by
        have := (List.getElem?_eq_some_iff.mp e).1
        simp at this
        omega
      subst hj'
      rw [List.getElem?_append_right (Nat.le_refl _)] at e
      simp at e
      subst e
      exact ⟨a, hlen, Gh.set_same, vs, e1, ups (RDs.retag ht r)⟩
  · show (g.set a _).tag b = _
    rw [Gh.set_ne (fun w => by rw [w, e1] at q; cases q)]
    exact s.hs.nofr b q
  · show (g.set a _).tag b = _
    rw [Gh.set_ne (fun w => by rw [w, e1] at q; cases q; exact z1 _ rfl)]
    exact s.hs.shp b u q z1 z2
  · have f := s.fr.retag (t := .obj h.length) (e0 a eb)
    exact ⟨f.rho.trans ⟨[a], rfl⟩, f.there, f.tag, f.keep⟩
  · have q := s.sl k z e
    cases z with
    | un => trivial
    | v d =>
      obtain ⟨u, f1, r⟩ := q
      exact ⟨u, f1, up (r.retag ht)⟩
    | o ys =>
      obtain ⟨b, us, f1, f2, f3, f4, r2⟩ := q
      refine ⟨b, us, f1, f2, ?_, f4, ups (RDs.retag ht r2)⟩
      show (g.set a _).tag b = _
      rw [Gh.set_ne (fun w => by rw [w, e2] at f3; cases f3)]
      exact f3
    | x c p => trivial
  · exact ⟨st1.rho.trans ⟨[a], rfl⟩, st1.there, st1.stay, st1.objs, st1.flds, st1.tups, st1.frzs, st1.nons⟩
/-- a free list (nobody else holds it) is written -/
theorem Stw.free {o' : HO} (ht : g.tag a = .free) {vs : List V} (e : H a = some (.lst vs)) : Stw H g (L2.upd H a o') g where
  rho := List.prefix_refl _
  froz := fun b xs q z => by
    rw [upd_ne (fun w => by rw [w, ht] at z; cases z)]
    exact ⟨z, q⟩
  tups := fun b xs q => by rw [upd_ne (fun w => by rw [w, e] at q; cases q)]; exact q
  frzs := fun b o u q => by rw [upd_ne (fun w => by rw [w, e] at q; cases q)]; exact q
theorem Stp.updNew {gb : Gh} {o' : HO} {vs : List V} (st : Stp Hb gb H g) (hb : Hb a = none) (e : H a = some (.lst vs)) : Stp Hb gb (L2.upd H a o') g where
  rho := st.rho
  there := fun b u q => by
    have hne : b ≠ a := ne_of_none q hb
    obtain ⟨u', z⟩ := st.there b u q
    exact ⟨u', by rw [upd_ne hne]; exact z⟩
  stay := fun b u q z => by
    have hne : b ≠ a := ne_of_none q hb
    rw [upd_ne hne]
    exact st.stay b u q z
  objs := st.objs
  flds := st.flds
  tups := fun b xs q => by
    rw [upd_ne (ne_of_none q hb)]
    exact st.tups b xs q
  frzs := fun b o u q => by
    rw [upd_ne (ne_of_none q hb)]
    exact st.frzs b o u q
  nons := st.nons
theorem Sim.mutFree {vs vs' : List V} (s : Sim K cs H0 g0 σr H g σ h) (e : H a = some (.lst vs)) (ht : g.tag a = .free) (h0 : H0 a = none) : Sim K cs H0 g0 σr (L2.upd H a (.lst vs')) g σ h := by
  have w : Stw H g (L2.upd H a (.lst vs')) g := Stw.free ht e
  have same : ∀ b o, H b = some o → g.tag b ≠ .free → L2.upd H a (.lst vs') b = some o := fun b o q z => by
    rw [upd_ne (fun y => z (by rw [y]; exact ht))]
    exact q
  refine ⟨⟨s.hs.len, fun j ob q => ?_, fun b q => ?_, fun b o q z1 z2 => ?_⟩, ⟨s.fr.rho, fun b u q => ?_, s.fr.tag, fun b u q z => ?_⟩, s.len, fun i x q => ?_⟩
  · obtain ⟨b, e1, e2, x⟩ := s.hs.ob j ob q
    refine ⟨b, e1, e2, ?_⟩
    have nf : g.tag b ≠ .free := by rw [e2]; intro z; cases z
    cases ob with
    | lst xs =>
      obtain ⟨us, f1, r⟩ := x
      exact ⟨us, same b _ f1 nf, RDs.monoW w r⟩
    | ins c fs =>
      obtain ⟨dx, fv, f1, r⟩ := x
      refine ⟨dx, fv, same b _ f1 nf, ?_⟩
      clear f1 q
      induction r with
      | nil => exact .nil
      | cons x _ ih =>
        refine .cons ?_ ih
        rename_i r _ _ _
        cases r with
        | v d => exact RD.monoW w x
        | o xs =>
          obtain ⟨b', us, y1, y2, y3, y4⟩ := x
          exact ⟨b', us, y1, same b' _ y2 (by rw [y3]; intro z; cases z), y3, RDs.monoW w y4⟩
  · by_cases hb : b = a
    · rw [hb, upd_same] at q; cases q
    · rw [upd_ne hb] at q
      exact s.hs.nofr b q
  · by_cases hb : b = a
    · rw [hb]; exact ht
    · rw [upd_ne hb] at q
      exact s.hs.shp b o q z1 z2
  · by_cases hb : b = a
    · exact ⟨_, by rw [hb]; exact upd_same⟩
    · obtain ⟨u', z⟩ := s.fr.there b u q
      exact ⟨u', by rw [upd_ne hb]; exact z⟩
  · rw [upd_ne (ne_of_none q h0)]
    exact s.fr.keep b u q z
  · have y := s.sl i x q
    cases x with
    | un => trivial
    | v d =>
      obtain ⟨v, e1, r⟩ := y
      exact ⟨v, e1, RD.monoW w r⟩
    | o xs =>
      obtain ⟨b, us, e1, e2, e3, e4, r⟩ := y
      exact ⟨b, us, e1, same b _ e2 (by rw [e3]; intro z; cases z), e3, e4, RDs.monoW w r⟩
    | x c p => trivial
end
end Pm

set_option Elab.async false
set_option linter.all false
set_option maxRecDepth 100000
set_option maxHeartbeats 4000000
/-! The pure machine: == and != of data. -/
namespace Pm
open PySem PySem.Spec PyProof.Rows L2

/-- the content of an operand: data, or a list that is looked at now -/
def CR (K : PySem.W.Frag) (g : Gh) (H : Hp) (v : V) (c : D) : Prop := RD K g H v c ∨ ∃ a vs xs, v = .ref a ∧ c = .lst xs ∧ H a = some (.lst vs) ∧ RDs K g H vs xs

theorem eqL_spec {f : D → D → Option Bool} : ∀ {xs ys : List D} {b : Bool}, eqL f xs ys = some b →
    ∃ e : Nat → Bool, (∀ j x y, xs[j]? = some x → ys[j]? = some y → f x y = some (e j)) ∧ b = ((List.range (min xs.length ys.length)).all e && xs.length == ys.length)
  | [], [], b, h => by
    cases h
    exact ⟨fun _ => true, fun j x y e => by simp at e, rfl⟩
  | [], _ :: _, b, h => by
    cases h
    exact ⟨fun _ => true, fun j x y e => by simp at e, by simp⟩
  | _ :: _, [], b, h => by
    cases h
    exact ⟨fun _ => true, fun j x y _ e => by simp at e, by simp⟩
  | x :: xs, y :: ys, b, h => by
    unfold eqL at h
    cases h1 : f x y with
    | none => rw [h1] at h; simp at h
    | some a =>
      rw [h1] at h
      cases h2 : eqL f xs ys with
      | none => rw [h2] at h; simp at h
      | some c =>
        rw [h2] at h
        simp at h
        obtain ⟨e, he, hb⟩ := eqL_spec h2
        refine ⟨fun j => match j with | 0 => a | j + 1 => e j, fun j x' y' e1 e2 => ?_, ?_⟩
        · cases j with
          | zero =>
            simp at e1 e2
            subst e1 e2
            exact h1
          | succ j =>
            simp at e1 e2
            exact he j x' y' e1 e2
        · rw [← h, hb]
          have e3 : min (x :: xs).length (y :: ys).length = min xs.length ys.length + 1 := by simp
          rw [e3, List.range_succ_eq_map, List.all_cons, List.all_map]
          simp [Function.comp_def, Bool.and_assoc]

section
variable {X : Cx} {pins : List (Addr × Obj)} {σ : L2.St} {H : Hp} {s : Shared} {g : Gh}
theorem RDs.len {K : PySem.W.Frag} : ∀ {ds : List D} {vs : List V}, RDs K g H vs ds → vs.length = ds.length
  | [], _, h => by cases h; rfl
  | _ :: _, _, h => by
    cases h with
    | cons _ h2 => simp [RDs.len h2]
theorem RDs.get {K : PySem.W.Frag} : ∀ {ds : List D} {vs : List V} {i : Nat} {d : D}, RDs K g H vs ds → ds[i]? = some d → ∃ v, vs[i]? = some v ∧ RD K g H v d
  | [], _, _, _, _, e => by simp at e
  | _ :: _, _, 0, _, h, e => by
    cases h with
    | cons h1 _ =>
      simp at e
      subst e
      exact ⟨_, rfl, h1⟩
  | _ :: _, _, i + 1, _, h, e => by
    cases h with
    | cons _ h2 =>
      obtain ⟨v, e1, r⟩ := RDs.get h2 (by simpa using e)
      exact ⟨v, by simpa using e1, r⟩
/-- what is seen of a value, by its data -/
inductive Seen (X : Cx) (g : Gh) (H : Hp) (s : Shared) : Value → D → Prop
  | non : Seen X g H s .none .non
  | bl (b : Bool) : Seen X g H s (.bool b) (.bl b)
  | int (i : Int) (t : Tok) : Seen X g H s (.int i t) (.int i)
  | str (x : Str) (t : Tok) : Seen X g H s (.str x t) (.str x)
  | tup {a : Addr} {its : List Value} {vs : List V} {ds : List D} : s.heap.IsTuple a its.toArray → Vals vs its → RDs X.K g H vs ds → Seen X g H s (.ref a) (.tup ds)
  | lst {a : Addr} {its : List Value} {vs : List V} {ds : List D} : s.heap.IsList a its.toArray → Vals vs its → RDs X.K g H vs ds → Seen X g H s (.ref a) (.lst ds)
  | oth {v : Value} {d : D} : (∀ c, eq0 d c = none) → (∀ c, eq0 c d = none) → (∀ xs, d ≠ .tup xs) → (∀ xs, d ≠ .lst xs) → Seen X g H s v d
theorem eq0_scr_r {ns : List Int} : ∀ c : D, eq0 c (.scr ns) = none := fun c => by cases c <;> rfl
theorem eq0_ref_r {j : Nat} : ∀ c : D, eq0 c (.ref j) = none := fun c => by cases c <;> rfl
theorem eq0_scr_l {ns : List Int} : ∀ c : D, eq0 (.scr ns) c = none := fun c => by cases c <;> rfl
theorem eq0_ref_l {j : Nat} : ∀ c : D, eq0 (.ref j) c = none := fun c => by cases c <;> rfl
theorem seen_of (I : Inv X pins σ H s) {v : V} {u : Value} {c : D} (r : RelV v u) (x : CR X.K g H v c) : Seen X g H s u c := by
  rcases x with x | ⟨a, vs, xs, rfl, rfl, e, rs⟩
  · cases x with
    | non => cases r; exact .non
    | bl b => cases r; exact .bl b
    | int i => obtain ⟨t, rfl⟩ := r; exact .int i t
    | str x => obtain ⟨t, rfl⟩ := r; exact .str x t
    | tup h1 h2 =>
      cases r
      obtain ⟨its, rv, p, _⟩ := I.tuple h1
      exact .tup p rv h2
    | lst h1 _ h3 =>
      cases r
      obtain ⟨its, rv, p, _⟩ := I.list (SqL.of h1)
      exact .lst p.isList rv h3
    | scr _ => exact .oth eq0_scr_l eq0_scr_r (fun _ z => by cases z) (fun _ z => by cases z)
    | ref _ => exact .oth eq0_ref_l eq0_ref_r (fun _ z => by cases z) (fun _ z => by cases z)
  · cases r
    obtain ⟨its, rv, p, _⟩ := I.list (SqL.of e)
    exact .lst p.isList rv rs
theorem vals_get {vs : List V} {its : List Value} {ds : List D} (rv : Vals vs its) (rs : RDs X.K g H vs ds) {j : Nat} (hj : j < its.toArray.size) : ∃ v d, vs[j]? = some v ∧ ds[j]? = some d ∧ RelV v its.toArray[j] ∧ RD X.K g H v d := by
  have h1 : j < ds.length := by
    rw [← rs.len, rv.length]
    simpa using hj
  obtain ⟨v, e1, r1⟩ := rs.get (List.getElem?_eq_getElem h1)
  obtain ⟨u, e2, r2⟩ := rv.get e1
  refine ⟨v, ds[j], e1, List.getElem?_eq_getElem h1, ?_, r1⟩
  have e3 : its.toArray[j] = u := by
    have e4 := (List.getElem?_eq_some_iff.mp e2).2
    simpa using e4
  rw [e3]
  exact r2

/-- data are told by their value -/
theorem RD.inj (I : Inv X pins σ H s) : ∀ {d : D} {v : V} {e : D}, RD X.K g H v d → RD X.K g H v e → (∀ n b, eqF n d e = some b → b = true) := by
  have key : ∀ (v : V) (d : D), RD X.K g H v d → ∀ e, RD X.K g H v e → ∀ n b, eqF n d e = some b → b = true := by
    intro v d x
    refine RD.rec (K := X.K) (g := g) (H := H) (motive_1 := fun v d _ => ∀ e, RD X.K g H v e → ∀ n b, eqF n d e = some b → b = true)
      (motive_2 := fun vs ds _ => ∀ es, RDs X.K g H vs es → ∀ n b, eqL (eqF n) ds es = some b → b = true) ?_ ?_ ?_ ?_ ?_ ?_ ?_ ?_ ?_ ?_ x
    · intro e y n b h
      cases y
      cases n <;> (cases h; rfl)
    · intro k e y n b h
      cases y
      cases n <;> (simp [eqF, eq0] at h; first | exact h | exact h.symm)
    · intro k e y n b h
      cases y
      cases n <;> (simp [eqF, eq0] at h; first | exact h | exact h.symm)
    · intro k e y n b h
      cases y
      cases n <;> (simp [eqF, eq0] at h; first | exact h | exact h.symm)
    · intro a vs ds h1 h2 ih e y n b h
      cases y with
      | tup h3 h4 =>
        have ev := I.tuple_inj h1 h3
        subst ev
        cases n with
        | zero => simp [eqF, eq0] at h
        | succ n => exact ih _ h4 n b h
      | lst h3 _ _ =>
        obtain ⟨its, _, p, _⟩ := I.tuple h1
        obtain ⟨its', _, p', _⟩ := I.list (SqL.of h3)
        exact absurd rfl (SeqAt.ne_of_list_tuple p'.isList p)
      | scr h3 => cases n <;> simp [eqF, eq0] at h
      | ref h3 => cases n <;> simp [eqF, eq0] at h
    · intro a vs ds h1 h2 h3 ih e y n b h
      cases y with
      | tup h4 _ =>
        obtain ⟨its, _, p, _⟩ := I.tuple h4
        obtain ⟨its', _, p', _⟩ := I.list (SqL.of h1)
        exact absurd rfl (SeqAt.ne_of_list_tuple p'.isList p)
      | lst h4 _ h5 =>
        rw [h1] at h4
        cases h4
        cases n with
        | zero => simp [eqF, eq0] at h
        | succ n => exact ih _ h5 n b h
      | scr h3 => cases n <;> simp [eqF, eq0] at h
      | ref h3 => cases n <;> simp [eqF, eq0] at h
    · intro a ns h1 e y n b h
      cases n <;> (cases e <;> simp [eqF, eq0] at h)
    · intro a ns h1 e y n b h
      cases n <;> (cases e <;> simp [eqF, eq0] at h)
    · intro es y n b h
      cases y
      cases h
      rfl
    · intro v vs d ds h1 h2 ih1 ih2 es y n b h
      cases y with
      | cons y1 y2 =>
        rename_i d' ds'
        unfold eqL at h
        cases q1 : eqF n d d' with
        | none => rw [q1] at h; simp at h
        | some b1 =>
          rw [q1] at h
          cases q2 : eqL (eqF n) ds ds' with
          | none => rw [q2] at h; simp at h
          | some b2 =>
            rw [q2] at h
            simp at h
            rw [← h, ih1 _ y1 n _ q1, ih2 _ y2 n _ q2]
            rfl
  exact fun {d v e} x => key v d x e

theorem eqF_succ_tup {n : Nat} {xs ys : List D} : eqF (n + 1) (.tup xs) (.tup ys) = eqL (eqF n) xs ys := rfl
theorem eqF_succ_lst {n : Nat} {xs ys : List D} : eqF (n + 1) (.lst xs) (.lst ys) = eqL (eqF n) xs ys := rfl
theorem in1_units (A : Around) : A.in1.units = A.units + 1 := rfl

/-- what == and != give -/
theorem eq_ok (I : Inv X pins σ H s) : ∀ (n : Nat) (c d : D) (u u' : Value) (b : Bool), eqF n c d = some b → Seen X g H s u c → Seen X g H s u' d → ∀ A : Around, A.units + n < cLine → SeqAt.RcAt A s u u' b ∧ SeqAt.RcNeAt A s u u' (!b) := by
  have base : ∀ (c d : D) (u u' : Value) (b : Bool), eq0 c d = some b → Seen X g H s u c → Seen X g H s u' d → ∀ A : Around, A.units < cLine → SeqAt.RcAt A s u u' b ∧ SeqAt.RcNeAt A s u u' (!b) ∧ SeqAt.EqAt A s u u' b := by
    intro c d u u' b h x y A hu
    cases x with
    | non =>
      cases y with
      | non => cases h; exact ⟨.none_none, .none_none, .same _⟩
      | bl b => cases h; exact ⟨.none_bool _, .none_bool _, .none_bool _⟩
      | int i t => cases h; exact ⟨.none_int _ _, .none_int _ _, .none_int _ _⟩
      | str z t => cases h; exact ⟨.none_str _ _, .none_str _ _, .none_str _ _⟩
      | tup p _ _ => cases h; exact ⟨.none_tuple p hu, .none_tuple p hu, .none_tuple p hu⟩
      | lst p _ _ => cases h; exact ⟨.none_list p hu, .none_list p hu, .none_list p hu⟩
      | oth _ o _ _ => rw [o] at h; cases h
    | bl a =>
      cases y with
      | non => cases h; exact ⟨.bool_none _, .bool_none _, .bool_none _⟩
      | bl b => cases h; exact ⟨.bool_bool _ _, .bool_bool _ _, .bool_bool _ _⟩
      | int i t => cases h; exact ⟨.bool_int _ _ _, .bool_int _ _ _, .bool_int _ _ _⟩
      | str z t => cases h; exact ⟨.bool_str _ _ _, .bool_str _ _ _, .bool_str _ _ _⟩
      | tup p _ _ => cases h; exact ⟨.bool_tuple _ p hu, .bool_tuple _ p hu, .bool_tuple _ p hu⟩
      | lst p _ _ => cases h; exact ⟨.bool_list _ p hu, .bool_list _ p hu, .bool_list _ p hu⟩
      | oth _ o _ _ => rw [o] at h; cases h
    | int a t' =>
      cases y with
      | non => cases h; exact ⟨.int_none _ _, .int_none _ _, .int_none _ _⟩
      | bl b => cases h; exact ⟨.int_bool _ _ _, .int_bool _ _ _, .int_bool _ _ _⟩
      | int i t => cases h; exact ⟨.int_int _ _ _ _, .int_int _ _ _ _, .int_int _ _ _ _⟩
      | str z t => cases h; exact ⟨.int_str _ _ _ _, .int_str _ _ _ _, .int_str _ _ _ _⟩
      | tup p _ _ => cases h; exact ⟨.int_tuple _ _ p hu, .int_tuple _ _ p hu, .int_tuple _ _ p hu⟩
      | lst p _ _ => cases h; exact ⟨.int_list _ _ p hu, .int_list _ _ p hu, .int_list _ _ p hu⟩
      | oth _ o _ _ => rw [o] at h; cases h
    | str a t' =>
      cases y with
      | non => cases h; exact ⟨.str_none _ _, .str_none _ _, .str_none _ _⟩
      | bl b => cases h; exact ⟨.str_bool _ _ _, .str_bool _ _ _, .str_bool _ _ _⟩
      | int i t => cases h; exact ⟨.str_int _ _ _ _, .str_int _ _ _ _, .str_int _ _ _ _⟩
      | str z t =>
        have e : (decide (a = z)) = (a == z) := rfl
        cases h
        rw [e]
        exact ⟨.str_str _ _ _ _, .str_str _ _ _ _, .str_str _ _ _ _⟩
      | tup p _ _ => cases h; exact ⟨.str_tuple _ _ p hu, .str_tuple _ _ p hu, .str_tuple _ _ p hu⟩
      | lst p _ _ => cases h; exact ⟨.str_list _ _ p hu, .str_list _ _ p hu, .str_list _ _ p hu⟩
      | oth _ o _ _ => rw [o] at h; cases h
    | tup p _ _ =>
      cases y with
      | non => cases h; exact ⟨.tuple_none p hu, .tuple_none p hu, .tuple_none p hu⟩
      | bl b => cases h; exact ⟨.tuple_bool _ p hu, .tuple_bool _ p hu, .tuple_bool _ p hu⟩
      | int i t => cases h; exact ⟨.tuple_int _ _ p hu, .tuple_int _ _ p hu, .tuple_int _ _ p hu⟩
      | str z t => cases h; exact ⟨.tuple_str _ _ p hu, .tuple_str _ _ p hu, .tuple_str _ _ p hu⟩
      | tup p _ _ => cases h
      | lst p' _ _ => cases h; exact ⟨.tuple_list p p' hu, .tuple_list p p' hu, .tuple_list p p' hu⟩
      | oth _ o _ _ => rw [o] at h; cases h
    | lst p _ _ =>
      cases y with
      | non => cases h; exact ⟨.list_none p hu, .list_none p hu, .list_none p hu⟩
      | bl b => cases h; exact ⟨.list_bool _ p hu, .list_bool _ p hu, .list_bool _ p hu⟩
      | int i t => cases h; exact ⟨.list_int _ _ p hu, .list_int _ _ p hu, .list_int _ _ p hu⟩
      | str z t => cases h; exact ⟨.list_str _ _ p hu, .list_str _ _ p hu, .list_str _ _ p hu⟩
      | tup p' _ _ => cases h; exact ⟨.list_tuple p p' hu, .list_tuple p p' hu, .list_tuple p p' hu⟩
      | lst p' _ _ => cases h
      | oth _ o _ _ => rw [o] at h; cases h
    | oth o _ _ _ => rw [o] at h; cases h
  -- items' equality from the items' answers
  have item : ∀ (n : Nat), (∀ (c d : D) (u u' : Value) (b : Bool), eqF n c d = some b → Seen X g H s u c → Seen X g H s u' d → ∀ A : Around, A.units + n < cLine → SeqAt.RcAt A s u u' b ∧ SeqAt.RcNeAt A s u u' (!b)) →
      ∀ (c d : D) (v v' : V) (u u' : Value) (b : Bool), eqF n c d = some b → RD X.K g H v c → RD X.K g H v' d → RelV v u → RelV v' u' → ∀ A : Around, A.units + n < cLine → SeqAt.EqAt A s u u' b := by
    intro n ih c d v v' u u' b h r r' q q' A hu
    have x := seen_of (g := g) I q (.inl r)
    have y := seen_of (g := g) I q' (.inl r')
    have refs : ∀ {l l' : Addr}, v = .ref l → v' = .ref l' → SeqAt.EqAt A s u u' b := fun {l l'} e e' => by
      subst e e'
      cases q
      cases q'
      by_cases same : l = l'
      · subst same
        have ev := RD.inj I r r' n b h
        subst ev
        exact .same _
      · exact .of_refs same (ih c d _ _ b h x y A hu).1
    have hu0 : A.units < cLine := by omega
    have b3 : eq0 c d = some b → SeqAt.EqAt A s u u' b := fun z => (base c d u u' b z x y A hu0).2.2
    cases c with
    | tup xs =>
      cases d with
      | tup ys =>
        cases r
        cases r'
        exact refs rfl rfl
      | _ => cases n <;> exact b3 h
    | lst xs =>
      cases d with
      | lst ys =>
        cases r
        cases r'
        exact refs rfl rfl
      | _ => cases n <;> exact b3 h
    | _ => cases n <;> cases d <;> exact b3 h
  intro n
  induction n with
  | zero =>
    intro c d u u' b h x y A hu
    have z := base c d u u' b h x y A (by omega)
    exact ⟨z.1, z.2.1⟩
  | succ n ih =>
    intro c d u u' b h x y A hu
    have hu1 : A.in1.units + n < cLine := by rw [in1_units]; omega
    have hu0 : A.units < cLine := by omega
    have two : ∀ {xs ys : List D}, (c = .tup xs ∧ d = .tup ys → SeqAt.RcAt A s u u' b ∧ SeqAt.RcNeAt A s u u' (!b)) := fun {xs ys} ⟨ec, ed⟩ => by
      subst ec ed
      cases x with
      | oth _ _ o _ => exact absurd rfl (o _)
      | tup p rv rs =>
        cases y with
        | oth _ _ o _ => exact absurd rfl (o _)
        | tup p' rv' rs' =>
          obtain ⟨e, he, hb⟩ := eqL_spec h
          have items : ∀ j (h1 : j < _) (h2 : j < _), SeqAt.EqAt A.in1 s _ _ (e j) := fun j h1 h2 => by
            obtain ⟨v, d1, _, ed, rr, rd⟩ := vals_get rv rs h1
            obtain ⟨v', d2, _, ed', rr', rd'⟩ := vals_get rv' rs' h2
            exact item n ih d1 d2 v v' _ _ _ (he j d1 d2 ed ed') rd rd' rr rr' A.in1 hu1
          have sz1 := rv.length
          have sz2 := rv'.length
          have l1 := rs.len
          have l2 := rs'.len
          have e1 := SeqAt.RcAt.tuples p p' hu0 items
          have e2 := SeqAt.RcNeAt.tuples p p' hu0 items
          simp only [List.size_toArray] at e1 e2
          rw [← sz1, ← sz2, l1, l2, ← hb] at e1 e2
          exact ⟨e1, e2⟩
    have three : ∀ {xs ys : List D}, (c = .lst xs ∧ d = .lst ys → SeqAt.RcAt A s u u' b ∧ SeqAt.RcNeAt A s u u' (!b)) := fun {xs ys} ⟨ec, ed⟩ => by
      subst ec ed
      cases x with
      | oth _ _ _ o => exact absurd rfl (o _)
      | lst p rv rs =>
        cases y with
        | oth _ _ _ o => exact absurd rfl (o _)
        | lst p' rv' rs' =>
          rename_i a its vs a' its' vs'
          obtain ⟨e, he, hb⟩ := eqL_spec h
          have items : ∀ j (h1 : j < its.toArray.size) (h2 : j < its'.toArray.size), SeqAt.EqAt A.in1 s its.toArray[j] its'.toArray[j] (e j) := fun j h1 h2 => by
            obtain ⟨v, d1, _, ed, rr, rd⟩ := vals_get rv rs h1
            obtain ⟨v', d2, _, ed', rr', rd'⟩ := vals_get rv' rs' h2
            exact item n ih d1 d2 v v' _ _ _ (he j d1 d2 ed ed') rd rd' rr rr' A.in1 hu1
          have sz1 := rv.length
          have sz2 := rv'.length
          have l1 := rs.len
          have l2 := rs'.len
          by_cases hl : its.toArray.size = its'.toArray.size
          · have e1 := SeqAt.RcAt.lists p p' hl hu0 items
            have e2 := SeqAt.RcNeAt.lists p p' hl hu0 items
            have hb' : b = (List.range its.toArray.size).all e := by
              simp only [List.size_toArray] at hl ⊢
              have hl' : xs.length = ys.length := by omega
              rw [hb, ← hl', Nat.min_self, ← l1, sz1]
              simp
            rw [← hb'] at e1 e2
            exact ⟨e1, e2⟩
          · have hn : (its.toArray.size != its'.toArray.size) = true := by simpa using hl
            have e1 := SeqAt.RcAt.lists_lengths p p' hn hu0
            have e2 := SeqAt.RcNeAt.lists_lengths p p' hn hu0
            have hb' : b = false := by
              rw [hb]
              simp only [List.size_toArray] at hl
              have hl' : ¬ xs.length = ys.length := by omega
              simp [hl']
            subst hb'
            exact ⟨e1, e2⟩
    cases c with
    | tup xs =>
      cases d with
      | tup ys => exact two ⟨rfl, rfl⟩
      | _ => exact ⟨(base _ _ _ _ b h x y A hu0).1, (base _ _ _ _ b h x y A hu0).2.1⟩
    | lst xs =>
      cases d with
      | lst ys => exact three ⟨rfl, rfl⟩
      | _ => exact ⟨(base _ _ _ _ b h x y A hu0).1, (base _ _ _ _ b h x y A hu0).2.1⟩
    | _ => cases d <;> exact ⟨(base _ _ _ _ b h x y A hu0).1, (base _ _ _ _ b h x y A hu0).2.1⟩
end
end Pm

set_option Elab.async false
set_option linter.all false
set_option maxRecDepth 100000
set_option maxHeartbeats 4000000
/-! The pure machine: readings of expressions. -/
namespace Pm
open PySem PySem.Spec L2

theorem PE.imp {X : Cx} {e : Expr} {t t' : TE} (h : PE X e t) (i : ∀ σ H Q, t' σ H Q → t σ H Q) : PE X e t' := ⟨fun pins s σ H Q I q => h.run pins s σ H Q I (i _ _ _ q)⟩
theorem PT.imp {X : Cx} {e : Expr} {t t' : TT} (h : PT X e t) (i : ∀ σ H Q, t' σ H Q → t σ H Q) : PT X e t' := ⟨fun pins s σ H Q I q => h.run pins s σ H Q I (i _ _ _ q)⟩
theorem PA.imp {X : Cx} {e : List Expr} {t t' : TA} (h : PA X e t) (i : ∀ σ H Q, t' σ H Q → t σ H Q) : PA X e t' := ⟨fun pos pins s σ H Q I q => h.run pos pins s σ H Q I (i _ _ _ q)⟩
theorem PO.imp {X : Cx} {e : Option Expr} {t t' : TO} (h : PO X e t) (i : ∀ σ H Q, t' σ H Q → t σ H Q) : PO X e t' := ⟨fun pins s σ H Q I q => h.run pins s σ H Q I (i _ _ _ q)⟩

/-- the weakest readings of an operation on values -/
def rW (X : Cx) (f : Value → Value → Sem Value) : R2 := fun x y H Q => ∃ r, OpR X f r ∧ r x y H Q
theorem opW {X : Cx} {f : Value → Value → Sem Value} : OpR X f (rW X f) := fun pins s σ H x y v u Q I rx ry ⟨r, ok, q⟩ => ok pins s σ H x y v u Q I rx ry q
def iW (X : Cx) : R2 := fun x y H Q => ∃ r, IxR X r ∧ r x y H Q
theorem ixW {X : Cx} : IxR X (iW X) := fun value slice pins s σ H x y v u Q I rx ry ⟨r, ok, q⟩ hs => ok value slice pins s σ H x y v u Q I rx ry q hs
def sW (X : Cx) : V → Option Int → Option Int → Hp → VK → Prop := fun x lo hi H Q => ∃ r, SlR X r ∧ r x lo hi H Q
theorem slW {X : Cx} : SlR X (sW X) := fun pins s σ H x v vl vu lo hi sl Q I rx hs pl pu ⟨r, ok, q⟩ => ok pins s σ H x v vl vu lo hi sl Q I rx hs pl pu q
def cW (X : Cx) (f : Value) : List V → Hp → VK → Prop := fun xs H Q => ∃ r, CallR X f r ∧ r xs H Q
theorem callW {X : Cx} {f : Value} : CallR X f (cW X f) := fun pins s σ H xs us Q I r ⟨q, ok, z⟩ => ok pins s σ H xs us Q I r z

/-- an exception's class and payload -/
def XR (K : PySem.W.Frag) (cs : Cls0) (g : Gh) (H : Hp) (c : Nat) (p : D) (cl : Value) (d : Option Addr) : Prop :=
  cl = .ref (cs.adr c) ∧ match cs.fld c with
  | some f => ∃ dx v, d = some dx ∧ H dx = some (.xd [(f, v)]) ∧ RD K g H v p
  | none => True

section
variable (K : PySem.W.Frag) (cs : Cls0)
def Post {α : Type} (H0 : Hp) (g0 : Gh) (σr : L2.St) (H : Hp) (g : Gh) (W : WX) (m : Res α) (k : α → List Slot → List Ob → Hp → Gh → Prop) : Prop :=
  match m with
  | .ok a σ h => ∀ H' g', Sim K cs H0 g0 σr H' g' σ h → Stp H g H' g' → k a σ h H' g'
  | .exc c p σ h => ∀ H' g' cl d, Sim K cs H0 g0 σr H' g' σ h → Stp H g H' g' → XR K cs g' H' c p cl d → W cl d σr H'
  | .stuck => False
end
section
variable {K : PySem.W.Frag} {cs : Cls0} {α β : Type} {H0 H H1 : Hp} {g0 g g1 : Gh} {σr : L2.St} {W : WX}
theorem Post.bind {m : Res α} {f : α → List Slot → List Ob → Res β} {k : β → List Slot → List Ob → Hp → Gh → Prop} {k1 : α → List Slot → List Ob → Hp → Gh → Prop} (P : Post K cs H0 g0 σr H g W (m.bind f) k) (st : Stp H g H1 g1)
    (h : ∀ a σ2 h2 H2 g2, Sim K cs H0 g0 σr H2 g2 σ2 h2 → Stp H1 g1 H2 g2 → Stp H g H2 g2 → Post K cs H0 g0 σr H g W (f a σ2 h2) k → k1 a σ2 h2 H2 g2) : Post K cs H0 g0 σr H1 g1 W m k1 := by
  cases m with
  | ok a σ hh => exact fun H2 g2 S st2 => h a σ hh H2 g2 S st2 (st.trans st2) P
  | exc c p σ hh => exact fun H2 g2 cl d S st2 x => P H2 g2 cl d S (st.trans st2) x
  | stuck => exact P.elim
theorem Post.sub {m : Res α} {k k1 : α → List Slot → List Ob → Hp → Gh → Prop} (P : Post K cs H0 g0 σr H g W m k) (st : Stp H g H1 g1)
    (h : ∀ a σ2 h2 H2 g2, Sim K cs H0 g0 σr H2 g2 σ2 h2 → Stp H1 g1 H2 g2 → k a σ2 h2 H2 g2 → k1 a σ2 h2 H2 g2) : Post K cs H0 g0 σr H1 g1 W m k1 := by
  cases m with
  | ok a σ hh => exact fun H2 g2 S st2 => h a σ hh H2 g2 S st2 (P H2 g2 S (st.trans st2))
  | exc c p σ hh => exact fun H2 g2 cl d S st2 x => P H2 g2 cl d S (st.trans st2) x
  | stuck => exact P.elim
theorem Post.mono {m : Res α} {k k1 : α → List Slot → List Ob → Hp → Gh → Prop} (P : Post K cs H0 g0 σr H g W m k)
    (h : ∀ a σ2 h2 H2 g2, m = .ok a σ2 h2 → Sim K cs H0 g0 σr H2 g2 σ2 h2 → Stp H g H2 g2 → k a σ2 h2 H2 g2 → k1 a σ2 h2 H2 g2) : Post K cs H0 g0 σr H g W m k1 := by
  cases m with
  | ok a σ hh => exact fun H2 g2 S st2 => h a σ hh H2 g2 rfl S st2 (P H2 g2 S st2)
  | exc c p σ hh => exact P
  | stuck => exact P.elim
end

/-- what an operand is -/
def OR (K : PySem.W.Frag) (σr : L2.St) (Hb H : Hp) (g : Gh) (v : V) : Opd → Prop
  | .r r => RR K Hb H g v r
  | .s i => σr[i]? = some (some v)

section
variable {K : PySem.W.Frag} {cs : Cls0} {H0 H Hb H' : Hp} {g0 g gb g' : Gh} {σr : L2.St} {σ : List Slot} {h : List Ob} {v : V} {Q : VK}
theorem OR.mono {o : Opd} (t : Stp H g H' g') (x : OR K σr Hb H g v o) : OR K σr Hb H' g' v o := by
  cases o with
  | r r => exact RR.mono t x
  | s i => exact x
theorem OR.base {o : Opd} {Ha : Hp} (t : ∀ a o, Ha a = some o → ∃ o', Hb a = some o') (x : OR K σr Hb H g v o) : OR K σr Ha H g v o := by
  cases o with
  | r r => exact RR.base t x
  | s i => exact x
theorem CR.of_ref {j : Nat} {ob : Ob} {xs : List D} (S : Sim K cs H0 g0 σr H g σ h) (e : h[j]? = some (.lst xs)) (r : RD K g H v (.ref j)) : CR K g H v (.lst xs) := by
  obtain ⟨a, e1, e2, vs, e3, rs⟩ := S.hs.ob j _ e
  cases r with
  | ref q =>
    rw [e1] at q
    cases q
    exact .inr ⟨a, vs, xs, rfl, rfl, e3, rs⟩
theorem CR.deref {d c : D} (S : Sim K cs H0 g0 σr H g σ h) (e : derefD h d = some c) (r : RD K g H v d) : CR K g H v c := by
  cases d with
  | ref j =>
    cases q : h[j]? with
    | none => simp [derefD, q] at e
    | some ob =>
      cases ob with
      | lst xs =>
        simp only [derefD, q, Option.some.injEq] at e
        subst e
        exact CR.of_ref (ob := .lst xs) S q r
      | ins _ _ => simp [derefD, q] at e
  | _ => cases e; exact .inl r
theorem CR.of {o : Opd} {c : D} (S : Sim K cs H0 g0 σr H g σ h) (e : cont σ h o = some c) (x : OR K σr Hb H g v o) : CR K g H v c := by
  cases o with
  | r r =>
    cases r with
    | v d => exact CR.deref S e x
    | o xs =>
      cases e
      obtain ⟨a, vs, e1, _, e2, _, rs⟩ := x
      exact .inr ⟨a, vs, xs, e1, rfl, e2, rs⟩
  | s i =>
    cases q : σ[i]? with
    | none => simp [cont, q] at e
    | some sl =>
      simp only [cont, q] at e
      have z := S.sl i _ q
      have x' : σr[i]? = some (some v) := x
      cases sl with
      | un => cases e
      | v d =>
        obtain ⟨v', e1, r⟩ := z
        rw [x'] at e1
        cases e1
        exact CR.deref S e r
      | o xs =>
        cases e
        obtain ⟨a, vs, e1, e2, _, _, rs⟩ := z
        rw [x'] at e1
        cases e1
        exact .inr ⟨a, vs, xs, rfl, rfl, e2, rs⟩
      | x c p => cases e
theorem CR.int {i : Int} (x : CR K g H v (.int i)) : v = .int i := by
  rcases x with x | ⟨_, _, _, _, e, _⟩
  · cases x; rfl
  · cases e
theorem CR.bl {i : Bool} (x : CR K g H v (.bl i)) : v = .bl i := by
  rcases x with x | ⟨_, _, _, _, e, _⟩
  · cases x; rfl
  · cases e
theorem CR.non (x : CR K g H v .non) : v = .non := by
  rcases x with x | ⟨_, _, _, _, e, _⟩
  · cases x; rfl
  · cases e
theorem CR.str {i : Str} (x : CR K g H v (.str i)) : v = .str i := by
  rcases x with x | ⟨_, _, _, _, e, _⟩
  · cases x; rfl
  · cases e
theorem CR.tup {ds : List D} (x : CR K g H v (.tup ds)) : ∃ a vs, v = .ref a ∧ SqT K H a vs ∧ RDs K g H vs ds := by
  rcases x with x | ⟨_, _, _, _, e, _⟩
  · cases x with
    | tup h1 h2 => exact ⟨_, _, rfl, h1, h2⟩
  · cases e
theorem CR.lst {ds : List D} (x : CR K g H v (.lst ds)) : ∃ a vs, v = .ref a ∧ H a = some (.lst vs) ∧ RDs K g H vs ds := by
  rcases x with x | ⟨a, vs, xs, e1, e, e2, rs⟩
  · cases x with
    | lst h1 _ h2 => exact ⟨_, _, rfl, h1, h2⟩
  · cases e
    exact ⟨a, vs, e1, e2, rs⟩
/-- a new tuple, a new list -/
theorem new_tup {vs : List V} {ds : List D} (S : Sim K cs H0 g0 σr H g σ h) (st : Stp Hb gb H g) (rs : RDs K g H vs ds) (F : ∀ H' g', Sim K cs H0 g0 σr H' g' σ h → Stp Hb gb H' g' → ∀ w, RR K Hb H' g' w (.v (.tup ds)) → Q w H') :
    ∀ p, H p = none → Q (.ref p) (upd H p (.tup vs)) := fun p hp =>
  F _ g (S.new hp) (st.trans (Stp.new S.hs hp)) _ (RD.tup (SqT.of upd_same) (RDs.mono (Stp.new S.hs hp) rs))
theorem none_base (st : Stp Hb gb H g) {p : Addr} (hp : H p = none) : Hb p = none := by
  cases q : Hb p with
  | none => rfl
  | some o =>
    obtain ⟨o', z⟩ := st.there p o q
    rw [hp] at z
    cases z
theorem new_lst {vs : List V} {ds : List D} (S : Sim K cs H0 g0 σr H g σ h) (st : Stp Hb gb H g) (rs : RDs K g H vs ds) (F : ∀ H' g', Sim K cs H0 g0 σr H' g' σ h → Stp Hb gb H' g' → ∀ w, RR K Hb H' g' w (.o ds) → Q w H') :
    ∀ p, H p = none → Q (.ref p) (upd H p (.lst vs)) := fun p hp =>
  F _ g (S.new hp) (st.trans (Stp.new S.hs hp)) _ ⟨p, vs, rfl, none_base st hp, upd_same, S.hs.nofr p hp, RDs.mono (Stp.new S.hs hp) rs⟩
theorem RDs.append : ∀ {xs ys : List V} {ds es : List D}, RDs K g H xs ds → RDs K g H ys es → RDs K g H (xs ++ ys) (ds ++ es)
  | _, _, _, _, .nil, h => h
  | _, _, _, _, .cons h1 h2, h => .cons h1 (RDs.append h2 h)
theorem RDs.rep {xs : List V} {ds : List D} (r : RDs K g H xs ds) : ∀ k : Nat, RDs K g H (List.replicate k xs).flatten (List.replicate k ds).flatten
  | 0 => .nil
  | k + 1 => by
    rw [List.replicate_succ, List.replicate_succ, List.flatten_cons, List.flatten_cons]
    exact RDs.append r (RDs.rep r k)
theorem RDs.drop {xs : List V} {ds : List D} (r : RDs K g H xs ds) : ∀ k : Nat, RDs K g H (xs.drop k) (ds.drop k) := by
  intro k
  induction k generalizing xs ds with
  | zero => exact r
  | succ k ih =>
    cases r with
    | nil => exact .nil
    | cons _ h2 => exact ih h2
theorem RDs.take {xs : List V} {ds : List D} (r : RDs K g H xs ds) : ∀ k : Nat, RDs K g H (xs.take k) (ds.take k) := by
  intro k
  induction k generalizing xs ds with
  | zero => exact .nil
  | succ k ih =>
    cases r with
    | nil => exact .nil
    | cons h1 h2 => exact .cons h1 (ih h2)
theorem RDs.reverse {xs : List V} {ds : List D} (r : RDs K g H xs ds) : RDs K g H xs.reverse ds.reverse := by
  induction r using RDs.rec (motive_1 := fun _ _ _ => True) with
  | nil => exact .nil
  | cons h1 h2 _ ih =>
    rw [List.reverse_cons, List.reverse_cons]
    exact RDs.append ih (.cons h1 .nil)
  | _ => trivial
theorem RDs.set {xs : List V} {ds : List D} {d : D} (r : RDs K g H xs ds) (q : RD K g H v d) : ∀ k : Nat, RDs K g H (xs.set k v) (ds.set k d) := by
  intro k
  induction k generalizing xs ds with
  | zero =>
    cases r with
    | nil => exact .nil
    | cons h1 h2 => exact .cons q h2
  | succ k ih =>
    cases r with
    | nil => exact .nil
    | cons h1 h2 => exact .cons h1 (ih h2)
theorem RDs.eraseIdx {xs : List V} {ds : List D} (r : RDs K g H xs ds) : ∀ k : Nat, RDs K g H (xs.eraseIdx k) (ds.eraseIdx k) := by
  intro k
  induction k generalizing xs ds with
  | zero =>
    cases r with
    | nil => exact .nil
    | cons h1 h2 => exact h2
  | succ k ih =>
    cases r with
    | nil => exact .nil
    | cons h1 h2 => exact .cons h1 (ih h2)
theorem RDs.nil_iff {xs : List V} {ds : List D} (r : RDs K g H xs ds) : xs = [] ↔ ds = [] := by
  cases r with
  | nil => simp
  | cons _ _ => simp
theorem flatten_length_rep {α : Type} (xs : List α) (k : Nat) : ((List.replicate k xs).flatten).length = xs.length * k := by simp [Nat.mul_comm]
end

/-! ### operators -/
section
variable {X : Cx} {cs : Cls0} {H0 H Hb : Hp} {g0 g gb : Gh} {σr : L2.St} {σ : List Slot} {h : List Ob} {v u : V} {Q : VK} {c d : D} {r : R}
/-- the end of an operation: what is wanted of its result -/
abbrev Fin (K : PySem.W.Frag) (cs : Cls0) (H0 : Hp) (g0 : Gh) (σr : L2.St) (Hb : Hp) (gb : Gh) (σ : List Slot) (h : List Ob) (r : R) (Q : VK) : Prop :=
  ∀ H' g', Sim K cs H0 g0 σr H' g' σ h → Stp Hb gb H' g' → ∀ w, RR K Hb H' g' w r → Q w H'
theorem binop_ok {op : BOp} {o : Operator} (ho : o = match op with | .add => .Add | .sub => .Sub | .mul => .Mult | .fdiv => .FloorDiv | .mod => .Mod | .pow => .Pow) (e : binop op c d = some r)
    (S : Sim X.K cs H0 g0 σr H g σ h) (st : Stp Hb gb H g) (x : CR X.K g H v c) (y : CR X.K g H u d) (F : Fin X.K cs H0 g0 σr Hb gb σ h r Q) : rW X (binaryOp o) v u H Q := by
  unfold binop at e
  split at e
  · -- int + int
    rename_i i j
    cases e
    subst ho
    exact ⟨_, op_add, i, j, x.int, y.int, F H g S st _ (.int _)⟩
  · rename_i i j
    split at e
    · cases e
      subst ho
      rename_i hz
      exact ⟨_, op_add_str, i, j, x.str, y.str, hz, F H g S st _ (.str _)⟩
    · cases e
  · rename_i i j
    split at e
    · cases e
      subst ho
      rename_i hz
      obtain ⟨a, vs, rfl, e1, r1⟩ := x.lst
      obtain ⟨b, us, rfl, e2, r2⟩ := y.lst
      exact ⟨_, op_cat, a, b, vs, us, rfl, rfl, e1, e2, by rw [r1.len, r2.len]; exact hz, new_lst S st (r1.append r2) F⟩
    · cases e
  · rename_i i j
    split at e
    · cases e
      subst ho
      rename_i hz
      obtain ⟨a, vs, rfl, e1, r1⟩ := x.tup
      obtain ⟨b, us, rfl, e2, r2⟩ := y.tup
      refine ⟨_, op_catA, a, b, vs, us, rfl, rfl, e1, e2, by rw [r1.len, r2.len]; exact hz, fun z => ?_, fun _ z => ?_, fun _ _ => new_tup S st (r1.append r2) F⟩
      · subst z
        have z' := r1.nil_iff.mp rfl
        subst z'
        exact F H g S st _ (.tup e2 r2)
      · subst z
        have z' := r2.nil_iff.mp rfl
        subst z'
        rw [List.append_nil] at F
        exact F H g S st _ (.tup e1 r1)
    · cases e
  · rename_i i j
    cases e
    subst ho
    exact ⟨_, op_sub, i, j, x.int, y.int, F H g S st _ (.int _)⟩
  · rename_i i j
    split at e
    · cases e
      subst ho
      rename_i hz
      exact ⟨_, op_mul, i, j, x.int, y.int, hz, F H g S st _ (.int _)⟩
    · cases e
  · rename_i xs k
    split at e
    · cases e
      subst ho
      rename_i hz
      obtain ⟨z1, z2, z3⟩ := hz
      obtain ⟨a, vs, rfl, e1, r1⟩ := x.lst
      have e2 := y.int
      subst e2
      exact ⟨_, op_rep, a, k, vs, rfl, rfl, e1, z1, z2, by rw [r1.len]; exact z3, new_lst S st (r1.rep _) F⟩
    · cases e
  · rename_i xs k
    split at e
    · cases e
      subst ho
      rename_i hz
      obtain ⟨z1, z2, z3, z4⟩ := hz
      obtain ⟨a, vs, rfl, e1, r1⟩ := x.tup
      have e2 := y.int
      subst e2
      exact ⟨_, op_repT, a, k, vs, rfl, rfl, e1, fun w => z1 (r1.nil_iff.mp w), z2, z3, by rw [r1.len]; exact z4, new_tup S st (r1.rep _) F⟩
    · cases e
  · rename_i i j
    split at e
    · cases e
      subst ho
      rename_i hz
      exact ⟨_, op_fdiv, i, j, x.int, y.int, hz, F H g S st _ (.int _)⟩
    · cases e
  · rename_i i j
    split at e
    · cases e
      subst ho
      rename_i hz
      exact ⟨_, op_mod, i, j, x.int, y.int, hz, F H g S st _ (.int _)⟩
    · cases e
  · rename_i i j
    split at e
    · cases e
      subst ho
      rename_i hz
      obtain ⟨z1, z2, z3, z4⟩ := hz
      exact ⟨_, op_pow, i, j, x.int, y.int, ⟨z1, by omega, by omega⟩, F H g S st _ (.int _)⟩
    · cases e
  · cases e

/-! ### comparisons -/
def rEqX (K : PySem.W.Frag) (k : Bool) : R2 := fun x y H Q => ∃ g c d b, CR K g H x c ∧ CR K g H y d ∧ eqF F60 c d = some b ∧ Q (.bl (if k then b else !b)) H
theorem op_eqX (hu : X.A.units + F60 < cLine) : OpR X (compareOp .Eq) (rEqX X.K true) := by
  intro pins s σ H x y v u Q I rx ry ⟨g, c, d, b, hc, hd, e, q⟩
  have z := (eq_ok I F60 c d v u b e (seen_of I rx hc) (seen_of I ry hd) X.A hu).1
  exact z X.prog X.w X.xe _ ⟨.bl b, H, I, rfl, q⟩
theorem op_neX (hu : X.A.units + F60 < cLine) : OpR X (compareOp .NotEq) (rEqX X.K false) := by
  intro pins s σ H x y v u Q I rx ry ⟨g, c, d, b, hc, hd, e, q⟩
  have z := (eq_ok I F60 c d v u b e (seen_of I rx hc) (seen_of I ry hd) X.A hu).2
  exact z X.prog X.w X.xe _ ⟨.bl (!b), H, I, rfl, q⟩
theorem flat_of {K : PySem.W.Frag} {d : D} (f : flatD d = true) (x : RD K g H v d) : flatV v = true := by
  cases x <;> first | rfl | cases f
theorem eqV_of {K : PySem.W.Frag} {c d : D} (f : flatD c = true) (f' : flatD d = true) (x : RD K g H v c) (y : RD K g H u d) : eqV v u = (eq0 c d).getD false := by
  cases x <;> cases y <;> first | rfl | cases f | cases f'
theorem flats_of {K : PySem.W.Frag} : ∀ {ds : List D} {vs : List V}, ds.all flatD = true → RDs K g H vs ds → vs.all flatV = true
  | _, _, _, .nil => rfl
  | _, _, f, .cons h1 h2 => by
    rw [List.all_cons, Bool.and_eq_true] at f ⊢
    exact ⟨flat_of f.1 h1, flats_of f.2 h2⟩
theorem inV_of {K : PySem.W.Frag} {c : D} (fc : flatD c = true) (x : RD K g H u c) : ∀ {ds : List D} {vs : List V}, ds.all flatD = true → RDs K g H vs ds → inV u vs = ds.any fun y => (eq0 y c).getD false
  | _, _, _, .nil => rfl
  | _, _, f, .cons h1 h2 => by
    rw [List.all_cons, Bool.and_eq_true] at f
    have ih := inV_of fc x f.2 h2
    show (eqV _ u || _) = _
    rw [List.any_cons, eqV_of f.1 fc h1 x, ← ih]
    rfl
theorem CR.flat {K : PySem.W.Frag} {c : D} (f : flatD c = true) (x : CR K g H v c) : RD K g H v c := by
  rcases x with x | ⟨_, _, _, _, e, _⟩
  · exact x
  · subst e; cases f
theorem inL_ok {K : PySem.W.Frag} {neg b : Bool} {xs : List D} {p : Addr} {vs : List V} (e : inL c xs = some b) (x : CR K g H v c) (hp : SqL K H p vs ∨ SqT K H p vs) (rs : RDs K g H vs xs) (q : Q (.bl (if neg then !b else b)) H) : rIn K neg v (.ref p) H Q := by
  unfold inL at e
  split at e
  · rename_i f
    rw [Bool.and_eq_true] at f
    cases e
    have x' := x.flat f.1
    refine ⟨p, vs, rfl, hp, flat_of f.1 x', flats_of f.2 rs, ?_⟩
    rw [inV_of f.1 x' f.2 rs]
    exact q
  · cases e
theorem isNon_of {K : PySem.W.Frag} (x : CR K g H v c) : decide (v = V.non) = isNon c := by
  rcases x with x | ⟨_, _, _, e1, e, _⟩
  · cases x <;> first | rfl | simp [isNon]
  · subst e1 e; simp [isNon]
theorem cmpop_ok {op : COp} {o : CmpOp} {b : Bool} (hu : X.A.units + F60 < cLine)
    (ho : o = match op with | .eq => .Eq | .ne => .NotEq | .lt => .Lt | .le => .LtE | .gt => .Gt | .ge => .GtE | .isn => .Is | .isnn => .IsNot | .isb => .Is | .isnb => .IsNot | .mem => .In | .nmem => .NotIn)
    (e : cmpop op c d = some b) (x : CR X.K g H v c) (y : CR X.K g H u d) (q : Q (.bl b) H) : rW X (compareOp o) v u H Q := by
  unfold cmpop at e
  split at e
  · subst ho
    exact ⟨_, op_eqX hu, g, _, _, b, x, y, e, q⟩
  · subst ho
    cases z : eqF F60 c d with
    | none => rw [z] at e; cases e
    | some k =>
      rw [z] at e
      cases e
      exact ⟨_, op_neX hu, g, _, _, k, x, y, z, q⟩
  · subst ho; rename_i i j; cases e; exact ⟨_, op_lt, i, j, x.int, y.int, q⟩
  · subst ho; rename_i i j; cases e; exact ⟨_, op_le, i, j, x.int, y.int, q⟩
  · subst ho; rename_i i j; cases e; exact ⟨_, op_gt, i, j, x.int, y.int, q⟩
  · subst ho; rename_i i j; cases e; exact ⟨_, op_ge, i, j, x.int, y.int, q⟩
  · subst ho
    cases e
    refine ⟨_, op_isN, y.non, ?_⟩
    rw [isNon_of x]
    exact q
  · subst ho
    cases e
    refine ⟨_, op_notN, y.non, ?_⟩
    rw [isNon_of x]
    exact q
  · subst ho
    rename_i a b'
    cases e
    exact ⟨_, op_isBl, a, b', x.bl, y.bl, by rw [show decide (a = b') = (a == b') from rfl]; exact q⟩
  · subst ho
    rename_i a b'
    cases e
    exact ⟨_, op_notBl, a, b', x.bl, y.bl, by rw [show decide (a = b') = (a == b') from rfl]; exact q⟩
  · subst ho
    obtain ⟨a, vs, rfl, e1, r1⟩ := y.lst
    exact ⟨_, op_in_seq, inL_ok (neg := false) e x (.inl (SqL.of e1)) r1 q⟩
  · subst ho
    obtain ⟨a, vs, rfl, e1, r1⟩ := y.tup
    exact ⟨_, op_in_seq, inL_ok (neg := false) e x (.inr e1) r1 q⟩
  · subst ho
    rename_i xs
    obtain ⟨a', vs, rfl, e1, r1⟩ := y.lst
    cases z : inL c xs with
    | none => rw [z] at e; cases e
    | some k =>
      rw [z] at e
      cases e
      exact ⟨_, op_notIn_seq, inL_ok (neg := true) z x (.inl (SqL.of e1)) r1 q⟩
  · subst ho
    rename_i xs
    obtain ⟨a', vs, rfl, e1, r1⟩ := y.tup
    cases z : inL c xs with
    | none => rw [z] at e; cases e
    | some k =>
      rw [z] at e
      cases e
      exact ⟨_, op_notIn_seq, inL_ok (neg := true) z x (.inr e1) r1 q⟩
  · cases e

/-! ### items and slices -/
theorem ixD_at {K : PySem.W.Frag} {xs : List D} {vs : List V} {i : Int} (rs : RDs K g H vs xs) (e : ixD xs i = some d) : ∃ w, atI vs i = some w ∧ RD K g H w d := by
  unfold ixD at e
  have hl := rs.len
  split at e
  · rename_i h0
    have hlt := (List.getElem?_eq_some_iff.mp e).1
    obtain ⟨w, e1, r⟩ := rs.get e
    refine ⟨w, ?_, r⟩
    unfold atI L2.ixN
    rw [if_pos h0, if_pos (by omega)]
    exact e1
  · rename_i h0
    split at e
    · rename_i h1
      obtain ⟨w, e1, r⟩ := rs.get e
      refine ⟨w, ?_, r⟩
      unfold atI L2.ixN
      rw [if_neg h0, if_pos (by omega)]
      show vs[(i + (vs.length : Int)).toNat]? = _
      rw [hl]
      exact e1
    · cases e
theorem index_ok {w : D} (e : index c d = some w) (x : CR X.K g H v c) (y : CR X.K g H u d) (q : ∀ z, RD X.K g H z w → Q z H) : iW X v u H Q := by
  unfold index at e
  split at e
  · rename_i xs i
    obtain ⟨a, vs, rfl, e1, r1⟩ := x.lst
    obtain ⟨z, e2, r2⟩ := ixD_at r1 e
    exact ⟨_, ix_list, a, vs, i, z, rfl, y.int, SqL.of e1, e2, q z r2⟩
  · rename_i xs i
    obtain ⟨a, vs, rfl, e1, r1⟩ := x.tup
    obtain ⟨z, e2, r2⟩ := ixD_at r1 e
    exact ⟨_, ix_tup, a, vs, i, z, rfl, y.int, e1, e2, q z r2⟩
  · cases e
theorem sIx_eq (n d : Nat) (o : Option Int) : HT.sIx n d o = sIx n d o := by
  cases o with
  | none => rfl
  | some i =>
    unfold sIx HT.sIx
    first
      | rfl
      | (split <;> split <;> omega)
      | (simp only []; split <;> omega)
theorem cut_ok {K : PySem.W.Frag} {xs : List D} {vs : List V} {lo hi : Option Int} (rs : RDs K g H vs xs) : RDs K g H (cutV vs lo hi) (cutL xs lo hi) := by
  unfold cutV cutL
  rw [sIx_eq, sIx_eq, rs.len]
  exact (rs.drop _).take _
theorem slice_ok {lo hi : Option Int} (e : slice c lo hi = some r) (S : Sim X.K cs H0 g0 σr H g σ h) (st : Stp Hb gb H g) (x : CR X.K g H v c) (F : Fin X.K cs H0 g0 σr Hb gb σ h r Q) : sW X v lo hi H Q := by
  unfold slice at e
  split at e
  · cases e
    obtain ⟨a, vs, rfl, e1, r1⟩ := x.lst
    exact ⟨_, sl_list, a, vs, rfl, SqL.of e1, new_lst S st (cut_ok r1) F⟩
  · cases e
    rename_i xs
    obtain ⟨a, vs, rfl, e1, r1⟩ := x.tup
    refine ⟨_, sl_tupA, a, vs, rfl, e1, fun ⟨w1, w2⟩ => ?_, fun _ => new_tup S st (cut_ok r1) F⟩
    have whole : cutL xs lo hi = xs := by
      unfold cutL
      rw [sIx_eq, r1.len] at w1 w2
      rw [w1, w2]
      simp
    rw [whole] at F
    exact F H g S st _ (.tup e1 r1)
  · cases e
end
end Pm

set_option Elab.async false
set_option linter.all false
/-! The pure machine: ints in order. -/
namespace Pm
theorem dedup_mem : ∀ (l : List Int) (k : Int), k ∈ dedup l ↔ k ∈ l
  | [], k => Iff.rfl
  | a :: r, k => by
    unfold dedup
    by_cases h : a ∈ r
    · rw [if_pos h, dedup_mem r k, List.mem_cons]
      exact ⟨.inr, fun q => q.elim (fun e => e ▸ h) id⟩
    · rw [if_neg h, List.mem_cons, List.mem_cons, dedup_mem r k]
theorem dedup_nd : ∀ (l : List Int), (dedup l).Nodup
  | [] => List.Pairwise.nil
  | a :: r => by
    unfold dedup
    by_cases h : a ∈ r
    · rw [if_pos h]; exact dedup_nd r
    · rw [if_neg h]
      exact List.nodup_cons.mpr ⟨fun q => h ((dedup_mem r a).mp q), dedup_nd r⟩
theorem nd_perm {l m : List Int} (h1 : l.Nodup) (h2 : m.Nodup) (h : ∀ k, k ∈ l ↔ k ∈ m) : l.Perm m := (List.perm_ext_iff_of_nodup h1 h2).mpr h
theorem insI_perm (a : Int) : ∀ l, (insI a l).Perm (a :: l)
  | [] => .refl _
  | b :: r => by
    unfold insI
    by_cases h : a ≤ b
    · rw [if_pos h]
    · rw [if_neg h]
      exact ((insI_perm a r).cons b).trans (.swap a b r)
theorem sortI_perm : ∀ l, (sortI l).Perm l
  | [] => .refl _
  | a :: r => (insI_perm a (sortI r)).trans ((sortI_perm r).cons a)
theorem insI_srt (a : Int) : ∀ {l : List Int}, l.Pairwise (· ≤ ·) → (insI a l).Pairwise (· ≤ ·)
  | [], _ => List.pairwise_singleton _ _
  | b :: r, h => by
    have h' := List.pairwise_cons.mp h
    unfold insI
    by_cases q : a ≤ b
    · rw [if_pos q]
      refine List.pairwise_cons.mpr ⟨fun x hx => ?_, h⟩
      rcases List.mem_cons.mp hx with rfl | hx
      · exact q
      · exact Int.le_trans q (h'.1 x hx)
    · rw [if_neg q]
      refine List.pairwise_cons.mpr ⟨fun x hx => ?_, insI_srt a h'.2⟩
      rcases List.mem_cons.mp ((insI_perm a r).mem_iff.mp hx) with rfl | hx
      · omega
      · exact h'.1 x hx
theorem sortI_srt : ∀ l, (sortI l).Pairwise (· ≤ ·)
  | [] => List.Pairwise.nil
  | a :: r => insI_srt a (sortI_srt r)
theorem srt_one : ∀ {l m : List Int}, l.Pairwise (· ≤ ·) → m.Pairwise (· ≤ ·) → l.Perm m → l = m
  | [], m, _, _, p => (List.nil_perm.mp p).symm
  | a :: r, [], _, _, p => (List.not_mem_nil (p.mem_iff.mp List.mem_cons_self)).elim
  | a :: r, b :: t, h, g, p => by
    have h' := List.pairwise_cons.mp h
    have g' := List.pairwise_cons.mp g
    have e : a = b := by
      have ha := p.mem_iff.mp (List.mem_cons_self (a := a) (l := r))
      have hb := p.mem_iff.mpr (List.mem_cons_self (a := b) (l := t))
      rcases List.mem_cons.mp ha with q | q
      · exact q
      · rcases List.mem_cons.mp hb with q2 | q2
        · exact q2.symm
        · exact Int.le_antisymm (h'.1 b q2) (g'.1 a q)
    subst e
    rw [srt_one h'.2 g'.2 p.cons_inv]
end Pm

set_option Elab.async false
set_option linter.all false
set_option maxRecDepth 100000
set_option maxHeartbeats 4000000
/-! The pure machine: built-in functions. -/
namespace Pm
open PySem PySem.Spec L2
section
variable {X : Cx} {cs : Cls0} {H0 H Hb : Hp} {g0 g gb : Gh} {σr : L2.St} {σ : List Slot} {h : List Ob} {v u : V} {Q : VK} {c d : D} {r : R}

theorem ints_vs {K : PySem.W.Frag} : ∀ {ds : List D} {vs : List V} {ns : List Int}, intsD ds = some ns → RDs K g H vs ds → vs = ns.map V.int
  | _, _, _, e, .nil => by cases e; rfl
  | _, _, _, e, .cons h1 h2 => by
    cases h1 with
    | int i =>
      rename_i vs' ds' 
      unfold intsD at e
      cases q : intsD _ with
      | none => rw [q] at e; cases e
      | some ms =>
        rw [q] at e
        cases e
        rw [ints_vs q h2]
        rfl
    | _ => cases e
theorem ints_rd {K : PySem.W.Frag} : ∀ {ns : List Int}, RDs K g H (ns.map V.int) (ns.map D.int)
  | [] => .nil
  | _ :: _ => .cons (.int _) ints_rd
theorem bools_vs {K : PySem.W.Frag} : ∀ {ds : List D} {vs : List V} {ns : List Bool}, boolsD ds = some ns → RDs K g H vs ds → vs = ns.map V.bl
  | _, _, _, e, .nil => by cases e; rfl
  | _, _, _, e, .cons h1 h2 => by
    cases h1 with
    | bl i =>
      unfold boolsD at e
      cases q : boolsD _ with
      | none => rw [q] at e; cases e
      | some ms =>
        rw [q] at e
        cases e
        rw [bools_vs q h2]
        rfl
    | _ => cases e
theorem maxL_mem : ∀ (r : List Int) (a : Int), maxL a r ∈ a :: r ∧ ∀ y ∈ a :: r, y ≤ maxL a r
  | [], a => by simp [maxL]
  | b :: r, a => by
    obtain ⟨h1, h2⟩ := maxL_mem r (if b > a then b else a)
    unfold maxL
    constructor
    · rcases List.mem_cons.mp h1 with e | e
      · rw [e]; split <;> simp
      · exact List.mem_cons_of_mem _ (List.mem_cons_of_mem _ e)
    · intro y hy
      have h3 := h2 _ List.mem_cons_self
      rcases List.mem_cons.mp hy with e | e
      · rw [e]
        revert h3
        generalize maxL (if b > a then b else a) r = M
        intro h3
        split at h3 <;> omega
      · rcases List.mem_cons.mp e with e | e
        · rw [e]
          revert h3
          generalize maxL (if b > a then b else a) r = M
          intro h3
          split at h3 <;> omega
        · exact h2 _ (List.mem_cons_of_mem _ e)
theorem minL_mem : ∀ (r : List Int) (a : Int), minL a r ∈ a :: r ∧ ∀ y ∈ a :: r, minL a r ≤ y
  | [], a => by simp [minL]
  | b :: r, a => by
    obtain ⟨h1, h2⟩ := minL_mem r (if b < a then b else a)
    unfold minL
    constructor
    · rcases List.mem_cons.mp h1 with e | e
      · rw [e]; split <;> simp
      · exact List.mem_cons_of_mem _ (List.mem_cons_of_mem _ e)
    · intro y hy
      have h3 := h2 _ List.mem_cons_self
      rcases List.mem_cons.mp hy with e | e
      · rw [e]
        revert h3
        generalize minL (if b < a then b else a) r = M
        intro h3
        split at h3 <;> omega
      · rcases List.mem_cons.mp e with e | e
        · rw [e]
          revert h3
          generalize minL (if b < a then b else a) r = M
          intro h3
          split at h3 <;> omega
        · exact h2 _ (List.mem_cons_of_mem _ e)

/-- the built-in that is called -/
def fval : F1 → Option (Str × Value)
  | .len => some ("len", .builtin "len")
  | .abs => some ("abs", .builtin "abs")
  | .sum => some ("sum", .builtin "sum")
  | .max => some ("max", .builtin "max")
  | .min => some ("min", .builtin "min")
  | .all => some ("all", .builtin "all")
  | .list => some ("list", .type "list")
  | .tuple => some ("tuple", .type "tuple")
  | .int => some ("int", .type "int")
  | .sorted => some ("sorted", .builtin "sorted")
  | .str => none
  | _ => none
theorem fn1_ok {f : F1} {nm : Str} {fv : Value} (hc : X.calm = true) (hf : fval f = some (nm, fv)) (e : fn1 f c = some r) (S : Sim X.K cs H0 g0 σr H g σ h) (st : Stp Hb gb H g) (x : CR X.K g H v c) (F : Fin X.K cs H0 g0 σr Hb gb σ h r Q) : cW X fv [v] H Q := by
  unfold fn1 at e
  split at e
  · cases e; cases hf
    obtain ⟨a, vs, rfl, e1, r1⟩ := x.lst
    refine ⟨_, call_len_seq, a, vs, rfl, .inl (SqL.of e1), ?_⟩
    rw [r1.len]
    exact F H g S st _ (.int _)
  · cases e; cases hf
    obtain ⟨a, vs, rfl, e1, r1⟩ := x.tup
    refine ⟨_, call_len_seq, a, vs, rfl, .inr e1, ?_⟩
    rw [r1.len]
    exact F H g S st _ (.int _)
  · split at e
    · cases e; cases hf
      rename_i hz
      exact ⟨_, call_len_str, _, by rw [x.str], hz, F H g S st _ (.int _)⟩
    · cases e
  · cases e; cases hf
    exact ⟨_, call_abs, _, by rw [x.int], F H g S st _ (.int _)⟩
  · cases hf
    rename_i xs
    cases q : intsD xs with
    | none => rw [q] at e; cases e
    | some ns =>
      rw [q] at e
      cases e
      obtain ⟨a, vs, rfl, e1, r1⟩ := x.lst
      have e2 := ints_vs q r1
      subst e2
      exact ⟨_, cr_sum hc, a, ns, rfl, SqL.of e1, F H g S st _ (.int _)⟩
  · cases hf
    rename_i xs
    split at e
    · rename_i a0 r0 q
      cases e
      obtain ⟨a, vs, rfl, e1, r1⟩ := x.lst
      have e2 := ints_vs q r1
      subst e2
      refine ⟨_, cr_max hc, a, _, rfl, SqL.of e1, by simp, fun m hm hle => ?_⟩
      obtain ⟨h1, h2⟩ := maxL_mem r0 a0
      have em : m = maxL a0 r0 := Int.le_antisymm (h2 m hm) (hle _ h1)
      rw [em]
      exact F H g S st _ (.int _)
    · cases e
  · cases hf
    rename_i xs
    split at e
    · rename_i a0 r0 q
      cases e
      obtain ⟨a, vs, rfl, e1, r1⟩ := x.lst
      have e2 := ints_vs q r1
      subst e2
      refine ⟨_, cr_min hc, a, _, rfl, SqL.of e1, by simp, fun m hm hle => ?_⟩
      obtain ⟨h1, h2⟩ := minL_mem r0 a0
      have em : m = minL a0 r0 := Int.le_antisymm (hle _ h1) (h2 m hm)
      rw [em]
      exact F H g S st _ (.int _)
    · cases e
  · cases hf
    rename_i xs
    cases q : boolsD xs with
    | none => rw [q] at e; cases e
    | some ns =>
      rw [q] at e
      cases e
      obtain ⟨a, vs, rfl, e1, r1⟩ := x.lst
      have e2 := bools_vs q r1
      subst e2
      exact ⟨_, cr_all hc, a, ns, rfl, SqL.of e1, F H g S st _ (.bl _)⟩
  · cases e; cases hf
    obtain ⟨a, vs, rfl, e1, r1⟩ := x.lst
    exact ⟨_, call_list_of, a, vs, rfl, .inl (SqL.of e1), new_lst S st r1 F⟩
  · cases e; cases hf
    obtain ⟨a, vs, rfl, e1, r1⟩ := x.tup
    exact ⟨_, call_list_of, a, vs, rfl, .inr e1, new_lst S st r1 F⟩
  · cases e; cases hf
    obtain ⟨a, vs, rfl, e1, r1⟩ := x.lst
    exact ⟨_, call_tuple_of, a, vs, rfl, .inl ⟨SqL.of e1, new_tup S st r1 F⟩⟩
  · cases e; cases hf
    obtain ⟨a, vs, rfl, e1, r1⟩ := x.tup
    exact ⟨_, call_tuple_of, a, vs, rfl, .inr ⟨e1, F H g S st _ (.tup e1 r1)⟩⟩
  · cases e; cases hf
    exact ⟨_, call_int1, .inr ⟨_, by rw [x.bl], F H g S st _ (.int _)⟩⟩
  · cases e; cases hf
    exact ⟨_, call_int1, .inl ⟨_, by rw [x.int], F H g S st _ (.int _)⟩⟩
  · split at e
    · rename_i z hz
      cases hf
      cases q : intText? z with
      | none => rw [q] at e; cases e
      | some n =>
        rw [q] at e
        cases e
        exact ⟨_, call_int_str, z, n, by rw [x.str], q, hz, F H g S st _ (.int _)⟩
    · cases e
  · cases hf
  · cases hf
  · cases hf
  · cases hf
  · cases hf
    rename_i xs
    cases q : intsD xs with
    | none => rw [q] at e; cases e
    | some ns =>
      rw [q] at e
      cases e
      obtain ⟨a, vs, rfl, e1, r1⟩ := x.lst
      have e2 := ints_vs q r1
      subst e2
      refine ⟨_, cr_sortedI, a, ns, rfl, SqL.of e1, fun ms p hp hs hq => ?_⟩
      have em : ms = sortI ns := srt_one hs (sortI_srt _) (hp.trans (sortI_perm _).symm)
      subst em
      exact new_lst S st ints_rd F p hq
  · cases e

/-- isinstance -/
def tyName : Ty → String
  | .int => "int"
  | .bool => "bool"
  | .tuple => "tuple"
  | .str => "str"
  | .list => "list"
def tyOfD : D → Option String
  | .non => some "NoneType"
  | .bl _ => some "bool"
  | .int _ => some "int"
  | .str _ => some "str"
  | .tup _ => some "tuple"
  | .lst _ => some "list"
  | _ => none
theorem sqT_ty {K : PySem.W.Frag} {a : Addr} {vs : List V} (h : SqT K H a vs) : TyX K H (.ref a) (.type "tuple") := by
  rcases h with (h | ⟨o, h⟩) | ⟨o, _, _, h1, h2, _⟩
  · exact .base (.tup h)
  · exact .fTuple h
  · exact .kTuple h1 h2
theorem tyx_of {K : PySem.W.Frag} {n : String} (e : tyOfD c = some n) (x : CR K g H v c) : TyX K H v (.type n) := by
  rcases x with x | ⟨a, vs, xs, rfl, rfl, e2, _⟩
  · cases x with
    | non => cases e; exact .base .non
    | bl _ => cases e; exact .base (.bl _)
    | int _ => cases e; exact .base (.int _)
    | str _ => cases e; exact .base (.str _)
    | tup h1 _ => cases e; exact sqT_ty h1
    | lst h1 _ _ => cases e; exact .base (.lst h1)
    | scr _ => cases e
    | ref _ => cases e
  · cases e; exact .base (.lst e2)
def tyB (n : String) : Ty → Bool
  | .int => n == "int" || n == "bool"
  | .bool => n == "bool"
  | .tuple => n == "tuple"
  | .str => n == "str"
  | .list => n == "list"
theorem isTy_eq {t : Ty} {n : String} (e : tyOfD c = some n) : isTy t c = tyB n t := by
  cases c <;> cases e <;> cases t <;> rfl
theorem kitB_eq {t : Ty} {n : String} (e : n = "NoneType" ∨ n = "bool" ∨ n = "int" ∨ n = "str" ∨ n = "tuple" ∨ n = "list") : kitB n (tyName t) = some (tyB n t) := by
  rcases e with rfl | rfl | rfl | rfl | rfl | rfl <;> cases t <;> decide +kernel
theorem isi_ok {t : Ty} {n : String} (e : tyOfD c = some n) (x : CR X.K g H v c) (q : Q (.bl (isTy t c)) H) : cW X (.builtin "isinstance") [v, .ty (tyName t)] H Q := by
  refine ⟨_, call_isi, v, .ty (tyName t), .type n, .type (tyName t), isTy t c, rfl, .ty _, tyx_of e x, ?_, q⟩
  refine kit_ty ?_
  rw [isTy_eq e]
  refine kitB_eq ?_
  cases c <;> cases e <;> simp
end
end Pm

set_option Elab.async false
set_option linter.all false
set_option maxRecDepth 100000
set_option maxHeartbeats 4000000
/-! The pure machine: what a for walks: lists and tuples alike, ranges, enumerate over both. -/
namespace Pm
open PySem PySem.Spec PyProof.Rows L2

/-- enumerate(v) for any v that begins an iterator -/
theorem enum_new {v : Value} {o : Obj} {Hv : Heap → Prop} (B : Begins v o Hv) : Meets (Builtin.«enumerate.__new__» ⟨[.type "enumerate", v], []⟩) (fun _ R s => Hv s.heap ∧
    R (.ok (.ret (.ref (s.heap.push o).objs.size))) { s with heap := (s.heap.push o).push { cls := .type "enumerate", data := .fields #[.none, .bool false, .ref s.heap.objs.size, rawInt 0, .none, .none] } }) :=
  .of_wp fun prog w A R ⟨hp, gs, dr, tk, os⟩ ⟨hv, hr⟩ => by
    have sub0 := sub_enumerate
    have begin_ : ∀ {A' : Around} {E : Value → Shared → Prop} {Q : Value → Shared → Prop}, Q (.ref hp.objs.size) ⟨hp.push o, gs, dr, tk, os⟩ → wpAny (model prog w) A' (pyIter v) Q E ⟨hp, gs, dr, tk, os⟩ :=
      fun hq => B.iter prog w _ _ ⟨hp, gs, dr, tk, os⟩ _ hv hq
    wp_walk using begin_
    refine wpAny_stack_any fun below => wpAny_pure ?_
    split
    case h_1 c _ _ _ _ _ => cases (c == Value.type "enumerate") <;> (wp_walk using begin_; exact ⟨_, rfl, hr⟩)
    case h_2 => wp_walk using begin_; exact ⟨_, rfl, hr⟩
section
variable {prog : Program} {w : World} {A : Around} {E : Value → Shared → Prop} {s : Shared}
theorem call_enum {v : Value} {o : Obj} {Hv : Heap → Prop} {Q : Value → Shared → Prop} (B : Begins v o Hv) (hv : Hv s.heap)
    (hq : ∀ h', IsEnum h' (s.heap.objs.size + 1) s.heap.objs.size 0 .none → h'.get? s.heap.objs.size = some o → (∀ b ob, s.heap.get? b = some ob → h'.get? b = some ob) → Q (.ref (s.heap.objs.size + 1)) { s with heap := h' }) :
    wpAny (model prog w) A (PySem.call (.type "enumerate") [v]) Q E s := by
  have size1 : (s.heap.push o).objs.size = s.heap.objs.size + 1 := Heap.size_push ..
  have made : IsEnum ((s.heap.push o).push { cls := .type "enumerate", data := .fields #[.none, .bool false, .ref s.heap.objs.size, rawInt 0, .none, .none] }) (s.heap.objs.size + 1) s.heap.objs.size 0 .none := by
    have q := Heap.get?_push_size (s.heap.push o) (o := { cls := .type "enumerate", data := .fields #[.none, .bool false, .ref s.heap.objs.size, rawInt 0, .none, .none] }) rfl
    rwa [size1] at q
  refine callType_new F.called_enumerate (by decide) (F.typeCall_enumerate_1 _) (F.newCall_enumerate_1 _) (fun obj => F.args_object_init_2 obj _) F.entry_enumerate_new (enum_new B) ⟨hv, ?_⟩
  show _ ∧ _
  rw [size1]
  exact ⟨⟨_, made, rfl⟩, hq _ made (Heap.get?_push_of_some _ (Heap.get?_push_size _ B.free)) fun b ob x => Heap.get?_push_of_some _ (Heap.get?_push_of_some _ x)⟩
end
/-- the tuple at a, each item in a new pair -/
def Ten (K : PySem.W.Frag) (a : Addr) : It :=
  ⟨fun i H => ∃ (xs : List V) (x : V), SqT K H a xs ∧ xs[i]? = some x, fun i H v H' => ∃ T x, v = .ref T ∧ H T = none ∧ H' = upd H T (.tup [.int (i : Nat), x]) ∧ ∀ xs, SqT K H a xs → xs[i]? = some x, fun i H => ∃ xs : List V, SqT K H a xs ∧ xs.length ≤ i⟩
theorem turn_ten {P : Program} {w : World} {K : PySem.W.Frag} {elts : List Expr} {kk : Nat} {tpos : Pos} (a e it : Addr) :
    Turn P w K (.Tuple elts kk tpos) (Ten K a) [e, it] e (fun i h => (∃ old, IsEnum h e it ((i : Nat) : Int) old) ∧ h.IsTupleIter it a i ∧ e ≠ it) where
  mem := by simp
  obj := fun i h st b hb => by
    obtain ⟨⟨old, he⟩, ⟨o, ho, hc, hd⟩, _⟩ := st
    rcases (by simpa using hb : b = e ∨ b = it) with z | z
    · subst z
      exact ⟨_, he, fun v q => nomatch q⟩
    · subst z
      exact ⟨o, ho, fun v q => by rw [hd] at q; cases q⟩
  keep := fun i h h' st k => by
    obtain ⟨⟨old, he⟩, hi, hne⟩ := st
    exact ⟨⟨old, k e (by simp) _ he⟩, hi.at fun o q => k it (by simp) o q, hne⟩
  item := by
    intro X hP hw hK hc i pins s σ H E I hf st hg
    subst hP hw hK
    obtain ⟨⟨old, he⟩, hit, hne⟩ := st
    obtain ⟨xs, x, hq, hx⟩ := hg
    obtain ⟨its, rv, p, hz⟩ := I.tuple hq
    obtain ⟨u, hu, ru⟩ := rv.get hx
    have p' : s.heap.IsTuple a its.toArray := p
    have hea : e ≠ a := fun z => by
      obtain ⟨o, ho, hcl, _⟩ := p'
      rw [← z] at ho
      rw [show s.heap.get? e = some _ from he] at ho
      cases ho
      exact absurd (Value.type.inj hcl) (by decide)
    have hia : a ≠ it := fun z => by
      obtain ⟨o, ho, hcl, _⟩ := p'
      obtain ⟨o2, ho2, hcl2, _⟩ := hit
      rw [z] at ho
      rw [ho] at ho2
      cases ho2
      rw [hcl] at hcl2
      exact absurd (Value.type.inj hcl2) (by decide)
    have hel : e < s.heap.objs.size := Heap.lt_size he
    have hil : it < s.heap.objs.size := by obtain ⟨_, q, _⟩ := hit; exact Heap.lt_size q
    have hlt : i < its.toArray.size := by
      have := (List.getElem?_eq_some_iff.mp hu).1
      simpa using this
    refine wpAny_pyNext_enum_itemD (Draws.tuple (A := X.A.in1) (show X.A.in1.handled = none from I.ok.hd hc) it a hia its.toArray) he ⟨hit, p'⟩ hlt hne (by simp [hne, hea]) fun y h' tk hy ho st' hT hsz hk => ?_
    have ey : y = u := by
      have hy' : its[i]? = some y := by simpa using hy
      rw [hu] at hy'
      exact (Option.some.inj hy').symm
    subst ey
    refine ⟨_, rfl, wpAny_letOwnedTupleGo_enum (s := { s with heap := h', toks := tk + 1 }) ho fun h'' he' sb => ?_⟩
    have hT2 := (sb.2 _ (Nat.ne_of_gt hel)).trans hT
    have new : ObjOk X.prog X.w (upd H s.heap.objs.size (.tup [.int (i : Nat), x])) h'' s.heap.objs.size (.tup [.int (i : Nat), x]) :=
      ⟨by show 2 ≤ sizeLine; decide, [.int i tk, y], .cons ⟨_, rfl⟩ (.cons ru .nil), ⟨_, hT2, rfl, _, rfl⟩⟩
    have I1 : Inv X pins σ (upd H s.heap.objs.size (.tup [.int (i : Nat), x])) { s with heap := h'', toks := tk + 1 } :=
      I.turnedNew (ch := [e, it]) (fun b ob hb q => (sb.2 b (fun z => hb (by simp [z]))).trans (hk b ob (fun z => hb (by simp [z])) (fun z => hb (by simp [z])) q)) hf (Nat.le_refl _) new
    refine ⟨.ref s.heap.objs.size, _, I1, rfl, ⟨_, x, rfl, I.hok.fresh (Nat.le_refl _), rfl, fun ys hy => by rw [I.tuple_inj hy hq]; exact hx⟩, ⟨⟨y, ?_⟩, st'.1.at fun o q => (sb.2 it (Ne.symm hne)).trans q, hne⟩, fun b hb => ?_⟩
    · have e1 : ((i + 1 : Nat) : Int) = (i : Int) + 1 := by omega
      rw [e1]; exact he'
    · have hb' : b < s.heap.objs.size := by
        rcases (by simpa using hb : b = e ∨ b = it) with z | z
        · rw [z]; exact hel
        · rw [z]; exact hil
      rw [upd_ne (Nat.ne_of_lt hb')]
      exact (hf b hb).1
  done := by
    intro X hP hw hK hc i pins s σ H E I hf st hg
    subst hP hw hK
    obtain ⟨⟨old, he⟩, hit, hne⟩ := st
    obtain ⟨xs, hq, hx⟩ := hg
    obtain ⟨its, rv, p, hz⟩ := I.tuple hq
    have p' : s.heap.IsTuple a its.toArray := p
    obtain ⟨f0, f1, f2, f3, f4, f5⟩ := hf it (by simp)
    have hl := rv.length
    have D0 : Draws X.prog X.w X.A.in1 it [it, a] 0 (fun _ _ => True) (fun _ h => h.IsTupleIter it a i ∧ h.IsTuple a its.toArray) :=
      ⟨fun _ _ st => let ⟨o, ho, _⟩ := st.1; ⟨o, ho⟩, fun _ _ _ st k => ⟨st.1.at fun o q => k it (by simp) o q, st.2.at fun o q => k a (by simp) o q⟩, fun _ _ _ _ z => absurd z (Nat.not_lt_zero _),
        fun s Q E st hE => wpAny_nextOf_tuple_end (show X.A.in1.handled = none from I.ok.hd hc) st.1 st.2 (by simp; omega) hE⟩
    refine wpAny_pyNext_enum_endD D0 he ⟨hit, p'⟩ fun h' eb => ⟨rfl, I.turned (t' := s.toks) (fun b o hb q => eb b o hb q) f0 f1 f3 f4 f5⟩
  self := fun A i s Q E st h => let ⟨⟨_, he⟩, _⟩ := st; wpAny_pyIter_enum he h
section
variable {X : Cx} {tg : Expr}
/-- a list or a tuple, walked -/
def iSeq (K : PySem.W.Frag) (tl : TE) : TI := fun σ H R => tl σ H fun x H1 => ∃ a, x = .ref a ∧ (((∃ xs, SqL K H1 a xs) ∧ R (Itl K a) H1) ∨ ((∃ xs, SqT K H1 a xs) ∧ R (Itt K a) H1))
theorem pi_seq {l : Expr} {tl : TE} (hl : PE X l tl) : PI X tg l (iSeq X.K tl) := by
  refine ⟨fun pins s σ H R I h => thn (hl.run pins s σ H _ I h) fun v s1 ⟨x, H1, I1, r1, a, ex, q⟩ => ?_⟩
  subst ex
  cases r1
  have fresh : ∀ b ∈ [s1.heap.objs.size], FpOk X pins H1 b := fun b hb => by
    rw [List.mem_singleton.mp hb]
    exact I1.fpOk (Nat.le_refl _) (I1.hok.fresh (Nat.le_refl _))
  rcases q with ⟨⟨xs, hq⟩, q⟩ | ⟨⟨xs, hq⟩, q⟩
  · obtain ⟨its, rv, p, _⟩ := I1.list hq
    exact wpAny_pyIter_list p.isList ⟨s1.heap.objs.size, [s1.heap.objs.size], _, _, H1, rfl, I1.kept (t' := s1.toks) fun b o e => Heap.get?_push_of_some _ e, turn_list a _, ⟨_, Heap.get?_push_size _ rfl, rfl, rfl⟩, fresh, q⟩
  · obtain ⟨its, rv, p, _⟩ := I1.tuple hq
    exact wpAny_pyIter_tuple (show s1.heap.IsTuple a its.toArray from p) ⟨s1.heap.objs.size, [s1.heap.objs.size], _, _, H1, rfl, I1.kept (t' := s1.toks) fun b o e => Heap.get?_push_of_some _ e, turn_tuple a _, ⟨_, Heap.get?_push_size _ rfl, rfl, rfl⟩, fresh, q⟩
/-- enumerate(v), v a list or a tuple -/
def iEnu (K : PySem.W.Frag) (ta : TA) : TI := fun σ H R => ta σ H fun vs H1 => ∃ a, vs = [.ref a] ∧ (((∃ xs, SqL K H1 a xs) ∧ R (Ite K a) H1) ∨ ((∃ xs, SqT K H1 a xs) ∧ R (Ten K a) H1))
theorem pi_enu {e : Expr} {ta : TA} {p pos tpos : Pos} {elts : List Expr} {kk : Nat} (hg : Gl X "enumerate") (hm : X.mg "enumerate" = none) (ha : PA X [e] ta) (hs : starEach [e] X.env = [(false, eval e X.env)]) :
    PI X (.Tuple elts kk tpos) (.Call (.Name "enumerate" p) [e] [] pos) (iEnu X.K ta) := by
  refine ⟨fun pins s σ H R I h => Call_ (ld_blt I hg hm boot_enumerate (PyProof.Rows.callWith_type1 (thn (ha.run pos pins s σ H _ I h) fun us s1 ⟨vs, H1, I1, r1, a, ex, q⟩ => ?_) hs rfl))⟩
  subst ex
  cases r1 with
  | cons r rr =>
    cases rr
    cases r
    have fresh : ∀ b ∈ [s1.heap.objs.size + 1, s1.heap.objs.size], FpOk X pins H1 b := fun b hb => by
      have hle : s1.heap.objs.size ≤ b := by
        rcases (by simpa using hb : b = s1.heap.objs.size + 1 ∨ b = s1.heap.objs.size) with z | z <;> omega
      exact I1.fpOk hle (I1.hok.fresh hle)
    rcases q with ⟨⟨xs, hq⟩, q⟩ | ⟨⟨xs, hq⟩, q⟩
    · obtain ⟨its, rv, p', _⟩ := I1.list hq
      exact call_enum (begins_list a its.toArray) p'.isList fun h' he hit hk => wpAny_pyIter_enum he ⟨s1.heap.objs.size + 1, _, _, _, H1, rfl, I1.kept (t' := s1.toks) (h' := h') hk, turn_enum a (s1.heap.objs.size + 1) s1.heap.objs.size, ⟨⟨.none, he⟩, ⟨_, hit, rfl, rfl⟩, Nat.succ_ne_self _⟩, fresh, q⟩
    · obtain ⟨its, rv, p', _⟩ := I1.tuple hq
      exact call_enum (begins_tuple a its.toArray) (show s1.heap.IsTuple a its.toArray from p') fun h' he hit hk => wpAny_pyIter_enum he ⟨s1.heap.objs.size + 1, _, _, _, H1, rfl, I1.kept (t' := s1.toks) (h' := h') hk, turn_ten a (s1.heap.objs.size + 1) s1.heap.objs.size, ⟨⟨.none, he⟩, ⟨_, hit, rfl, rfl⟩, Nat.succ_ne_self _⟩, fresh, q⟩
end
end Pm

set_option Elab.async false
set_option linter.all false
set_option maxRecDepth 100000
set_option maxHeartbeats 4000000
/-! The pure machine: terms held against the text; an expression's reading. -/
namespace Pm
open PySem PySem.Spec L2

/-- what the text's names are -/
structure Sy where
  fn : Nat → Option Str
  glo : List (Str × D)
  cf : Cf
  flds : List Str
  ini : Option (Str × Nat × Nat)

def bltNames : List Str := ["len", "abs", "sum", "max", "min", "all", "list", "tuple", "int", "str", "bool", "isinstance", "range", "enumerate", "sorted", "set"]
def scalV : D → Option V
  | .int i => some (.int i)
  | .str s => some (.str s)
  | _ => none
def eqScal : D → D → Bool
  | .int i, .int j => decide (i = j)
  | .str i, .str j => decide (i = j)
  | _, _ => false
theorem eqScal_eq {a b : D} (h : eqScal a b = true) : a = b := by
  cases a <;> cases b <;> first | (rw [of_decide_eq_true h]) | cases h

def visB (sc : Scope) (x : Str) : Bool := match sc.names.lookup x with
  | some .local => true
  | some .cell => true
  | some .free => true
  | _ => false
def glB (sc : Scope) (x : Str) : Bool := match sc.names.lookup x with
  | some .globalImplicit => !(x == ("__debug__" : Str))
  | _ => false
def nmB (N : List Str) (sc : Scope) (i : Nat) (x : Str) : Bool := decide (N[i]? = some x) && (visB sc x && (!(x == ("__debug__" : Str)) && !(x == ("__classdict__" : Str))))
def notStar : Expr → Bool
  | .Starred _ _ => false
  | _ => true
def notSlice : Expr → Bool
  | .Slice _ _ _ _ => false
  | _ => true
def notSet : Expr → Bool
  | .Set _ _ _ => false
  | _ => true
/-- a test that is not looked at by parts -/
def plainTest : Expr → Bool
  | .UnaryOp .Not _ _ => false
  | .BoolOp _ _ _ => false
  | .IfExp _ _ _ _ => false
  | .Compare _ _ _ _ => false
  | _ => true
def opOf : BOp → Operator
  | .add => .Add | .sub => .Sub | .mul => .Mult | .fdiv => .FloorDiv | .mod => .Mod | .pow => .Pow
def cOf : COp → CmpOp
  | .eq => .Eq | .ne => .NotEq | .lt => .Lt | .le => .LtE | .gt => .Gt | .ge => .GtE | .isn => .Is | .isnn => .IsNot | .isb => .Is | .isnb => .IsNot | .mem => .In | .nmem => .NotIn
def f2Name : F2 → Str
  | .max => "max"
  | .min => "min"

variable (sy : Sy) (N : List Str)
mutual
def chkE : E → Scope → Expr → Bool
  | .con d, _, x => match d, x with
    | .int i, .Constant (.int j) _ _ => decide (i = j)
    | .str i, .Constant (.str j) _ _ => decide (i = j)
    | .bl i, .Constant (.bool j) _ _ => i == j
    | .non, .Constant .none _ _ => true
    | _, _ => false
  | .glo y d, sc, x => match x with
    | .Name z _ => decide (y = z) && (glB sc z && sy.glo.any fun p => decide (p.1 = y) && eqScal p.2 d)
    | _ => false
  | .var i, sc, x => match x with
    | .Name z _ => nmB N sc i z
    | _ => false
  | .bor i, sc, x => match x with
    | .Name z _ => nmB N sc i z
    | _ => false
  | .tup es, sc, x => match x with
    | .Tuple xs _ _ => chkA es sc xs
    | _ => false
  | .lst es, sc, x => match x with
    | .List xs _ => chkA es sc xs
    | _ => false
  | .bin op a b, sc, x => match x with
    | .BinOp l o r _ => decide (o = opOf op) && (chkE a sc l && chkE b sc r)
    | _ => false
  | .neg a, sc, x => match x with
    | .UnaryOp .USub l _ => chkE a sc l
    | _ => false
  | .cmp op a b, sc, x => match x with
    | .Compare l [o] [r] _ => decide (o = cOf op) && (!behindInMarks o r && (chkE a sc l && chkE b sc r))
    | _ => false
  | .cmp2 op op' a b c, sc, x => match x with
    | .Compare l [o, o'] [r, r'] _ => decide (o = cOf op) && (decide (o' = cOf op') && (!lastMarks [o, o'] [r, r'] && (chkE a sc l && (chkE b sc r && chkE c sc r'))))
    | _ => false
  | .and a b, sc, x => match x with
    | .BoolOp .And (l :: r :: rest) pos => chkE a sc l && chkE b sc (match rest with | [] => r | _ => .BoolOp .And (r :: rest) pos)
    | _ => false
  | .or a b, sc, x => match x with
    | .BoolOp .Or (l :: r :: rest) pos => chkE a sc l && chkE b sc (match rest with | [] => r | _ => .BoolOp .Or (r :: rest) pos)
    | _ => false
  | .not a, sc, x => match x with
    | .UnaryOp .Not l _ => chkE a sc l
    | _ => false
  | .ite c a b, sc, x => match x with
    | .IfExp t l r _ => chkE c sc t && (chkE a sc l && chkE b sc r)
    | _ => false
  | .idx a b, sc, x => match x with
    | .Subscript l r _ => notSlice r && (chkE a sc l && chkE b sc r)
    | _ => false
  | .sli a lo hi, sc, x => match x with
    | .Subscript l (.Slice p q none _) _ => chkE a sc l && (chkO lo sc p && chkO hi sc q)
    | _ => false
  | .rev a, sc, x => match x with
    | .Subscript l (.Slice none none (some (.UnaryOp .USub (.Constant (.int k) _ _) _)) _) _ => decide (k = 1) && chkE a sc l
    | _ => false
  | .fn1 f a, sc, x => match f, x with
    | .lrange, .Call (.Name z _) [.Call (.Name y _) [l] [] _] [] _ => decide (z = "list") && (glB sc z && (decide (y = "range") && (glB sc y && (notStar l && chkE a sc l))))
    | .sset, .Call (.Name z _) [.Call (.Name y _) [l] [] _] [] _ => decide (z = "sorted") && (glB sc z && (decide (y = "set") && (glB sc y && (notStar l && chkE a sc l))))
    | g, .Call (.Name z _) [l] [] _ => (match fval g with | some (nm, _) => decide (z = nm) | none => false) && (glB sc z && (notStar l && chkE a sc l))
    | _, _ => false
  | .fn2 f a b, sc, x => match x with
    | .Call (.Name z _) [l, r] [] _ => decide (z = f2Name f) && (glB sc z && (notStar l && (notStar r && (chkE a sc l && chkE b sc r))))
    | _ => false
  | .isi a t, sc, x => match x with
    | .Call (.Name z _) [l, .Name y _] [] _ => decide (z = "isinstance") && (glB sc z && (decide (y = Str.ofString (tyName t)) && (glB sc y && (notStar l && chkE a sc l))))
    | _ => false
  | .cal f es, sc, x => match x with
    | .Call (.Name z _) (l :: ls) [] _ => decide (sy.fn f = some z) && (glB sc z && chkA es sc (l :: ls))
    | _ => false
  | .popA i a, sc, x => match x with
    | .Call (.Attribute (.Name z _) m p) [l] [] q => decide (m = "pop") && (nmB N sc i z && ((p.endLine == q.line) && (notStar l && chkE a sc l)))
    | _ => false
  | .com i elt it, sc, x => match x with
    | .ListComp e [⟨.Name z _, iter, [], 0⟩] scope _ => decide (N[i]? = some z) && (decide ((relS scope sc).names.lookup z = some .local) && (blkC N sc scope [(z, i)] && (notSet iter && (chkI it sc (.Name z ⟨0, 0, 0, 0⟩) iter && chkE elt (relS scope sc) e))))
    | _ => false
  | .comf i elt it c, sc, x => match x with
    | .ListComp e [⟨.Name z _, iter, [t], 0⟩] scope _ => decide (N[i]? = some z) && (decide ((relS scope sc).names.lookup z = some .local) && (blkC N sc scope [(z, i)] && (notSet iter && (chkI it sc (.Name z ⟨0, 0, 0, 0⟩) iter && (chkE elt (relS scope sc) e && chkE c (relS scope sc) t)))))
    | _ => false
  | .prom e, sc, x => plainTest x && chkE e sc x
  | .fld o f, sc, x => match o, x with
    | .var i, .Attribute (.Name z _) y _ => decide (y = f) && (nmB N sc i z && decide (f ∈ sy.flds))
    | _, _ => false
  | .fln i f, sc, x => match x with
    | .Compare (.Attribute (.Name z _) y _) [.Eq] [.List [] p] _ => decide (y = f) && (nmB N sc i z && (decide (f ∈ sy.flds) && !behindInMarks .Eq (.List [] p)))
    | _ => false
  | .popF i f, sc, x => match x with
    | .Call (.Attribute (.Attribute (.Name z _) y _) m p) [] [] q => decide (m = "pop") && (decide (y = f) && (nmB N sc i z && (decide (f ∈ sy.flds) && (p.endLine == q.line))))
    | _ => false
  | .met m o es, sc, x => match o, x with
    | .var i, .Call (.Attribute (.Name z _) y p) ls [] q => decide (y = m) && (nmB N sc i z && ((p.endLine == q.line) && (decide (ls.length < 30) && chkA es sc ls)))
    | _, _ => false
  | .new c f es, sc, x => match x with
    | .Call (.Name z _) (l :: ls) [] _ => decide (sy.ini = some (z, c, f)) && (glB sc z && chkA es sc (l :: ls))
    | _ => false
  | _, _, _ => false
def chkA : Es → Scope → List Expr → Bool
  | .nil, _, xs => match xs with
    | [] => true
    | _ => false
  | .cons e es, sc, xs => match xs with
    | x :: xs => notStar x && (chkE e sc x && chkA es sc xs)
    | [] => false
def chkO : Eo → Scope → Option Expr → Bool
  | .no, _, x => match x with
    | none => true
    | _ => false
  | .so e, sc, x => match x with
    | some x => chkE e sc x
    | none => false
def chkI : I → Scope → Expr → Expr → Bool
  | .seq e, sc, _, x => chkE e sc x
  | .rng1 a, sc, _, x => match x with
    | .Call (.Name z _) [l] [] _ => decide (z = "range") && (glB sc z && (notStar l && chkE a sc l))
    | _ => false
  | .rng2 a b, sc, _, x => match x with
    | .Call (.Name z _) [l, r] [] _ => decide (z = "range") && (glB sc z && (notStar l && (notStar r && (chkE a sc l && chkE b sc r))))
    | _ => false
  | .rng3 _ _ _, _, _, _ => false
  | .enu e, sc, tg, x => match tg, x with
    | .Tuple _ _ _, .Call (.Name z _) [l] [] _ => decide (z = "enumerate") && (glB sc z && (notStar l && chkE e sc l))
    | _, _ => false
end
end Pm

set_option Elab.async false
set_option linter.all false
set_option maxRecDepth 100000
set_option maxHeartbeats 4000000
/-! The pure machine: an expression's reading by its term. -/
namespace Pm
open PySem PySem.Spec L2

/-- what a def promises: what its run on the pure machine says -/
def spF (K : PySem.W.Frag) (cs : Cls0) (np : Nat) (cf : List D → List Ob → CRes) : Sp := fun vs H Q E => vs.length = np ∧ ∃ g ds h, HSim K cs H g h ∧ RDs K g H vs ds ∧
  match cf ds h with
  | .ok r h' => ∀ v H' g', HSim K cs H' g' h' → FrS H g H' g' → RR K H H' g' v r → Q v H'
  | .exc c p h' => ∀ cl d H' g', HSim K cs H' g' h' → FrS H g H' g' → XR K cs g' H' c p cl d → E cl d H'
  | .stuck => False

structure Ok0 (sy : Sy) (cs : Cls0) (n : Nat) (Γ : Calls) (P : Program) (w : World) (K : PySem.W.Frag) (mg : Str → Option Value) (base : Heap) : Prop where
  fns : ∀ f x, sy.fn f = some x → ∃ a fd ps, mg x = some (.ref a) ∧ PySem.W.keepIn K (.ref a) = true ∧ Binds K fd ps [] ∧ FnOk P w K mg base (L2.CX P w) (2 * n) a fd ps (spF K cs ps.length (Γ f)) ∧ ∀ ds h, Γ f ds h ≠ .stuck → ds.length = ps.length
  mts : ∀ c m f, sy.cf.M c m = some f → ∃ a fd ps, Meth K cs.own m a ∧ Cls K cs.own ∧ Binds K fd ps [] ∧ FnOk P w K mg base (L2.CX P w) (2 * n) a fd ps (spF K cs ps.length (Γ f)) ∧ ∀ ds h, Γ f ds h ≠ .stuck → ds.length = ps.length
  flds : ∀ f ∈ sy.flds, NoAttr K cs.own f ∧ Cls K cs.own
  ini : ∀ z c f, sy.ini = some (z, c, f) → ∃ a fd ps, mg z = some (.ref cs.own) ∧ Mk K cs.own a ∧ Binds K fd ps [] ∧ FnOk P w K mg base (L2.CX P w) (2 * n) a fd ps (spF K cs ps.length (Γ f)) ∧ ∀ ds h, Γ f ds h ≠ .stuck → ds.length = ps.length
  blt : ∀ x, x ∈ bltNames → mg x = none
  glo : ∀ p, p ∈ sy.glo → ∃ v u, scalV p.2 = some v ∧ mg p.1 = some u ∧ RelV v u

structure Good (sy : Sy) (cs : Cls0) (n : Nat) (Γ : Calls) (X : Cx) (W : WX) (N : List Str) (sc : Scope) : Prop where
  calm : X.calm = true
  nm : X.N = N
  nd : X.N.Nodup
  sc : X.env.scope = sc
  room : Room (2 * n + 1) X.A
  tk : Takes X W
  ok : Ok0 sy cs n Γ X.prog X.w X.K X.mg X.base

section
variable (K : PySem.W.Frag) (cs : Cls0) (Γ : Calls) (C : Cf) (W : WX)
def tE (e : E) : TE := fun σr H Q => ∃ H0 g0 g σ h, Sim K cs H0 g0 σr H g σ h ∧ Post K cs H0 g0 σr H g W (evE Γ C e σ h) (fun r _ _ H' g' => ∀ v, RR K H H' g' v r → Q v H')
def tD (e : E) : TE := fun σr H Q => ∃ H0 g0 g σ h, Sim K cs H0 g0 σr H g σ h ∧ Post K cs H0 g0 σr H g W (opd e (evE Γ C e) σ h) (fun o _ _ H' g' => ∀ v, OR K σr H H' g' v o → Q v H')
def tB (e : E) : TT := fun σr H Q => ∃ H0 g0 g σ h, Sim K cs H0 g0 σr H g σ h ∧ Post K cs H0 g0 σr H g W (asB (evE Γ C e σ h)) (fun b _ _ H' _ => Q b H')
def tAs (es : Es) : TA := fun σr H Q => ∃ H0 g0 g σ h, Sim K cs H0 g0 σr H g σ h ∧ Post K cs H0 g0 σr H g W (evA Γ C es σ h) (fun ds _ _ H' g' => ∀ vs, RDs K g' H' vs ds → Q vs H')
def tOp1 (e : Eo) : TO := fun σr H Q => ∃ H0 g0 g σ h, Sim K cs H0 g0 σr H g σ h ∧ Post K cs H0 g0 σr H g W (evO Γ C e σ h) (fun o _ _ H' _ => Q o H')
/-- what is walked, from a heap on -/
structure WalkOk (J : It) (ds : List D) (Hs : Hp) (gs : Gh) : Prop where
  go : ∀ i H g, i < ds.length → Stw Hs gs H g → J.go i H
  stop : ∀ i H g, ds.length ≤ i → Stw Hs gs H g → J.stop i H
  yld : ∀ i H g x H', Stw Hs gs H g → J.yld i H x H' → i < ds.length → ∃ d, ds[i]? = some d ∧ ((H' = H ∧ RD K g H x d) ∨ ∃ T y, x = .ref T ∧ H T = none ∧ H' = upd H T (.tup [.int (i : Nat), y]) ∧ ∃ dy, d = .tup [.int (i : Nat), dy] ∧ RD K g H y dy)
def tIt (it : I) : TI := fun σr H R => ∃ H0 g0 g σ h, Sim K cs H0 g0 σr H g σ h ∧ Post K cs H0 g0 σr H g W (evI Γ C it σ h) (fun ds _ _ H' g' => ∀ J, WalkOk K J ds H' g' → R J H')
end

section
variable {sy : Sy} {cs : Cls0} {n : Nat} {Γ : Calls} {C : Cf} {X : Cx} {W : WX} {N : List Str} {sc : Scope} {e a b : E} {x : Expr}
theorem glB_gl (G : Good sy cs n Γ X W N sc) {z : Str} (h : glB sc z = true) : Gl X z ∧ (z == ("__debug__" : Str)) = false := by
  unfold glB at h
  split at h
  · rename_i q
    exact ⟨by show X.env.scope.names.lookup z = _; rw [G.sc]; exact q, by simpa using h⟩
  · cases h
theorem visB_vis (G : Good sy cs n Γ X W N sc) {z : Str} (h : visB sc z = true) : Vis X.env.scope z := by
  unfold visB at h
  rw [G.sc]
  split at h
  · exact .inl ‹_›
  · exact .inr (.inl ‹_›)
  · exact .inr (.inr ‹_›)
  · cases h
theorem pe_nm (G : Good sy cs n Γ X W N sc) {i : Nat} {z : Str} {pos : Pos} (h : nmB N sc i z = true) : PE X (.Name z pos) (tVar i) := by
  unfold nmB at h
  simp only [Bool.and_eq_true, decide_eq_true_eq, Bool.not_eq_true'] at h
  obtain ⟨h1, h2, h3, h4⟩ := h
  exact pe_var (by rw [G.nm]; exact h1) (visB_vis G h2) h3 h4
theorem star_cons {env : Env} {x : Expr} {xs : List Expr} (h : notStar x = true) : starEach (x :: xs) env = (false, eval x env) :: starEach xs env := by
  cases x <;> first | rfl | cases h
theorem star_any {env : Env} {pos : Pos} : ∀ {xs : List Expr}, xs.all notStar = true → (backTo pos (starEach xs env)).any (·.1) = false
  | [], _ => rfl
  | x :: xs, h => by
    rw [List.all_cons, Bool.and_eq_true] at h
    rw [star_cons h.1]
    have ih := star_any (env := env) (pos := pos) h.2
    show (false || (backTo pos (starEach xs env)).any (·.1)) = false
    rw [ih]
    rfl
theorem chkA_star : ∀ {es : Es} {xs : List Expr}, chkA sy N es sc xs = true → xs.all notStar = true
  | .nil, [], _ => rfl
  | .nil, _ :: _, h => by simp [chkA] at h
  | .cons _ _, [], h => by simp [chkA] at h
  | .cons e es, x :: xs, h => by
    simp only [chkA, Bool.and_eq_true] at h
    rw [List.all_cons, h.1, chkA_star h.2.2]
    rfl
/-- an operand -/
theorem okD (he : PE X x (tE X.K cs Γ C W e)) : PE X x (tD X.K cs Γ C W e) ∨ ∃ i, e = .bor i := by
  cases e with
  | bor i => exact .inr ⟨i, rfl⟩
  | _ =>
    refine .inl (PE.imp he ?_)
    intro σ H Q ⟨H0, g0, g, sl, h, S, P⟩
    refine ⟨H0, g0, g, sl, h, S, Post.bind (f := fun r σ h => Res.ok (Opd.r r) σ h) (k := fun o _ _ H' g' => ∀ v, OR X.K σ H H' g' v o → Q v H') P (Stp.refl S.hs.nofr) fun r σ2 h2 H2 g2 S2 st st' P2 v hv => ?_⟩
    exact P2 H2 g2 S2 st' v hv
theorem okBor (G : Good sy cs n Γ X W N sc) {i : Nat} {z : Str} {pos : Pos} (h : nmB N sc i z = true) : PE X (.Name z pos) (tD X.K cs Γ C W (.bor i)) := by
  refine PE.imp (pe_nm G h) ?_
  intro σ H Q ⟨H0, g0, g, sl, hp, S, P⟩
  unfold opd at P
  cases q : sl[i]? with
  | none => simp only [q] at P; exact P.elim
  | some s =>
    have z := S.sl i s q
    cases s with
    | un => simp only [q] at P; exact P.elim
    | v d =>
      simp only [q] at P
      obtain ⟨v, e1, _⟩ := z
      exact ⟨v, e1, P H g S (Stp.refl S.hs.nofr) v e1⟩
    | o xs =>
      simp only [q] at P
      obtain ⟨a, vs, e1, _⟩ := z
      exact ⟨_, e1, P H g S (Stp.refl S.hs.nofr) _ e1⟩
    | x c p => simp only [q] at P; exact P.elim

section
variable {H0 H : Hp} {g0 g : Gh} {σr : L2.St} {σ : List Slot} {h : List Ob}
/-- two operands, then what is done with them -/
theorem two_ok {α : Type} {G : Opd → Opd → List Slot → List Ob → Res α} {k : α → List Slot → List Ob → Hp → Gh → Prop} {Rd : V → V → Hp → Prop} (S : Sim X.K cs H0 g0 σr H g σ h)
    (P : Post X.K cs H0 g0 σr H g W ((opd a (evE Γ C a) σ h).bind fun x σ h => (opd b (evE Γ C b) σ h).bind fun y σ h => G x y σ h) k)
    (fin : ∀ oa ob σ2 h2 H2 g2 v u, Sim X.K cs H0 g0 σr H2 g2 σ2 h2 → Stp H g H2 g2 → OR X.K σr H H2 g2 v oa → OR X.K σr H H2 g2 u ob → Post X.K cs H0 g0 σr H g W (G oa ob σ2 h2) k → Rd v u H2) :
    tD X.K cs Γ C W a σr H (fun v H1 => tD X.K cs Γ C W b σr H1 (fun u H2 => Rd v u H2)) :=
  ⟨H0, g0, g, σ, h, S, P.bind (Stp.refl S.hs.nofr) fun oa σ1 h1 H1 g1 S1 st1 _ P1 v o1 => ⟨H0, g0, g1, σ1, h1, S1, P1.bind st1 fun ob σ2 h2 H2 g2 S2 st2 st2' P2 u o2 =>
    fin oa ob σ2 h2 H2 g2 v u S2 st2' (o1.mono st2) (o2.base fun a o e => st1.there a o e) P2⟩⟩
theorem one_ok {α : Type} {G : Opd → List Slot → List Ob → Res α} {k : α → List Slot → List Ob → Hp → Gh → Prop} {Rd : V → Hp → Prop} (S : Sim X.K cs H0 g0 σr H g σ h)
    (P : Post X.K cs H0 g0 σr H g W ((opd a (evE Γ C a) σ h).bind fun x σ h => G x σ h) k)
    (fin : ∀ oa σ2 h2 H2 g2 v, Sim X.K cs H0 g0 σr H2 g2 σ2 h2 → Stp H g H2 g2 → OR X.K σr H H2 g2 v oa → Post X.K cs H0 g0 σr H g W (G oa σ2 h2) k → Rd v H2) :
    tD X.K cs Γ C W a σr H (fun v H1 => Rd v H1) :=
  ⟨H0, g0, g, σ, h, S, P.bind (Stp.refl S.hs.nofr) fun oa σ1 h1 H1 g1 S1 st1 _ P1 v o1 => fin oa σ1 h1 H1 g1 v S1 st1 o1 P1⟩
end
/-- the wished end of a result -/
theorem Fin.of {H0 H : Hp} {g0 g : Gh} {σr : L2.St} {σ2 : List Slot} {h2 : List Ob} {Q : VK} {r : R} (P : Post X.K cs H0 g0 σr H g W (.ok r σ2 h2) (fun r _ _ H' g' => ∀ v, RR X.K H H' g' v r → Q v H')) : Fin X.K cs H0 g0 σr H g σ2 h2 r Q :=
  fun H' g' S st w x => P H' g' S st w x

abbrev AE (cs : Cls0) (Γ : Calls) (C : Cf) (X : Cx) (W : WX) (e : E) (x : Expr) : Prop := PE X x (tE X.K cs Γ C W e)
abbrev AD (cs : Cls0) (Γ : Calls) (C : Cf) (X : Cx) (W : WX) (e : E) (x : Expr) : Prop := PE X x (tD X.K cs Γ C W e)
abbrev AT (cs : Cls0) (Γ : Calls) (C : Cf) (X : Cx) (W : WX) (e : E) (x : Expr) : Prop := PT X x (tB X.K cs Γ C W e)
variable {l r t : Expr} {pos p2 p3 p4 : Pos} {k2 : Nat}

theorem k_con {d : D} {sc : Scope} (h : chkE sy N (.con d) sc x = true) : AE cs Γ C X W (.con d) x := by
  unfold chkE at h
  split at h
  · rw [of_decide_eq_true h]
    exact PE.imp pe_int fun σ H Q ⟨H0, g0, g, sl, hp, S, P⟩ => P H g S (Stp.refl S.hs.nofr) _ (.int _)
  · rw [of_decide_eq_true h]
    exact PE.imp pe_str fun σ H Q ⟨H0, g0, g, sl, hp, S, P⟩ => P H g S (Stp.refl S.hs.nofr) _ (.str _)
  · rw [eq_of_beq h]
    exact PE.imp pe_bl fun σ H Q ⟨H0, g0, g, sl, hp, S, P⟩ => P H g S (Stp.refl S.hs.nofr) _ (.bl _)
  · exact PE.imp pe_non fun σ H Q ⟨H0, g0, g, sl, hp, S, P⟩ => P H g S (Stp.refl S.hs.nofr) _ .non
  · cases h
theorem k_glo (G : Good sy cs n Γ X W N sc) {y : Str} {d : D} (h : chkE sy N (.glo y d) sc x = true) : AE cs Γ C X W (.glo y d) x := by
  unfold chkE at h
  split at h
  · simp only [Bool.and_eq_true, decide_eq_true_eq, List.any_eq_true] at h
    obtain ⟨rfl, h2, p, hp, h3, h4⟩ := h
    have e4 := eqScal_eq h4
    obtain ⟨v, u, e1, e2, rv⟩ := G.ok.glo p hp
    rw [h3] at e2
    rw [e4] at e1
    obtain ⟨hg, hd⟩ := glB_gl G h2
    refine PE.imp (pe_glob hg e2 rv hd) fun σ H Q ⟨H0, g0, g, sl, hp, S, P⟩ => ?_
    refine P H g S (Stp.refl S.hs.nofr) _ ?_
    cases d with
    | int i => cases e1; exact .int i
    | str i => cases e1; exact .str i
    | _ => cases e1
  · cases h
theorem k_var (G : Good sy cs n Γ X W N sc) {i : Nat} {z : Str} (h : nmB N sc i z = true) : AE cs Γ C X W (.var i) (.Name z pos) := by
  refine PE.imp (pe_nm G h) ?_
  intro σ H Q ⟨H0, g0, g, sl, hp, S, P⟩
  unfold evE at P
  cases q : sl[i]? with
  | none => simp only [q] at P; exact P.elim
  | some s =>
    have z := S.sl i s q
    cases s with
    | un => simp only [q] at P; exact P.elim
    | v d =>
      simp only [q] at P
      obtain ⟨v, e1, rd⟩ := z
      exact ⟨v, e1, P H g S (Stp.refl S.hs.nofr) v rd⟩
    | o xs =>
      simp only [q] at P
      obtain ⟨g', v, S', st', e1, rd⟩ := S.unown (Stp.refl S.hs.nofr) q
      exact ⟨v, e1, P H g' S' st' v rd⟩
    | x c p => simp only [q] at P; exact P.elim
theorem k_bin {op : BOp} (hA : AD cs Γ C X W a l) (hB : AD cs Γ C X W b r) : AE cs Γ C X W (.bin op a b) (.BinOp l (opOf op) r pos) := by
  refine PE.imp (pe_op opW hA hB) ?_
  intro σ H Q ⟨H0, g0, g, sl, hp, S, P⟩
  unfold evE at P
  refine two_ok S P fun oa ob σ2 h2 H2 g2 v u S2 st o1 o2 P2 => ?_
  cases q1 : cont σ2 h2 oa with
  | none => simp only [q1] at P2; exact P2.elim
  | some c =>
    cases q2 : cont σ2 h2 ob with
    | none => simp only [q1, q2] at P2; exact P2.elim
    | some d =>
      simp only [q1, q2] at P2
      cases q3 : binop op c d with
      | none => simp only [q3, retR] at P2; exact P2.elim
      | some res =>
        simp only [q3, retR] at P2
        exact binop_ok (by cases op <;> rfl) q3 S2 st (CR.of S2 q1 o1) (CR.of S2 q2 o2) (Fin.of P2)
theorem k_neg (hA : AE cs Γ C X W a l) : AE cs Γ C X W (.neg a) (.UnaryOp .USub l pos) := by
  refine PE.imp (pe_un un_neg hA) ?_
  intro σ H Q ⟨H0, g0, g, sl, hp, S, P⟩
  unfold evE at P
  refine ⟨H0, g0, g, sl, hp, S, P.bind (Stp.refl S.hs.nofr) fun r σ1 h1 H1 g1 S1 st1 _ P1 v x => ?_⟩
  split at P1
  · cases x
    exact ⟨_, rfl, P1 H1 g1 S1 st1 _ (.int _)⟩
  · exact P1.elim
section
variable (G : Good sy cs n Γ X W N sc)
include G
theorem room60 : X.A.units + F60 < cLine := by
  have := G.room.un
  show X.A.units + 60 < cLine
  omega
theorem cmp_two {op : COp} {H0 H : Hp} {g0 g : Gh} {σr : L2.St} {σ : List Slot} {h : List Ob} {Qz : VK} {k : R → List Slot → List Ob → Hp → Gh → Prop} (S : Sim X.K cs H0 g0 σr H g σ h)
    (P : Post X.K cs H0 g0 σr H g W (evE Γ C (.cmp op a b) σ h) k) (hk : ∀ b σ h H' g', k (.v (.bl b)) σ h H' g' → Qz (.bl b) H') :
    tD X.K cs Γ C W a σr H (fun v H1 => tD X.K cs Γ C W b σr H1 (fun u H2 => rW X (compareOp (cOf op)) v u H2 Qz)) := by
  unfold evE at P
  refine two_ok S P fun oa ob σ2 h2 H2 g2 v u S2 st o1 o2 P2 => ?_
  cases q1 : cont σ2 h2 oa with
  | none => simp only [q1] at P2; exact P2.elim
  | some c =>
    cases q2 : cont σ2 h2 ob with
    | none => simp only [q1, q2] at P2; exact P2.elim
    | some d =>
      simp only [q1, q2] at P2
      cases q3 : cmpop op c d with
      | none => simp only [q3, retB] at P2; exact P2.elim
      | some res =>
        simp only [q3, retB] at P2
        exact cmpop_ok (room60 G) (by cases op <;> rfl) q3 (CR.of S2 q1 o1) (CR.of S2 q2 o2) (hk _ _ _ _ _ (P2 H2 g2 S2 st))
theorem k_cmp {op : COp} (hm : behindInMarks (cOf op) r = false) (hA : AD cs Γ C X W a l) (hB : AD cs Γ C X W b r) : AE cs Γ C X W (.cmp op a b) (.Compare l [cOf op] [r] pos) :=
  PE.imp (pe_cmpR opW hA hB hm) fun σ H Q ⟨H0, g0, g, sl, hp, S, P⟩ => cmp_two G S P fun b σ h H' g' q => q _ (.bl b)
omit G in
theorem asB_post {H0 H : Hp} {g0 g : Gh} {σr : L2.St} {m : Res R} {k : Bool → List Slot → List Ob → Hp → Gh → Prop} (n : ∀ a, H a = none → g.tag a = .free) (P : Post X.K cs H0 g0 σr H g W (asB m) k) :
    Post X.K cs H0 g0 σr H g W m (fun r σ h H' g' => ∃ b, r = .v (.bl b) ∧ k b σ h H' g') := by
  refine Post.bind (f := fun r σ h => match r with | .v (.bl b) => Res.ok b σ h | _ => .stuck) P (Stp.refl n) fun r σ2 h2 H2 g2 S2 st st' P2 => ?_
  split at P2
  · exact ⟨_, rfl, P2 H2 g2 S2 st'⟩
  · exact P2.elim
theorem t_cmp {op : COp} (hm : behindInMarks (cOf op) r = false) (hA : AD cs Γ C X W a l) (hB : AD cs Γ C X W b r) : AT cs Γ C X W (.cmp op a b) (.Compare l [cOf op] [r] pos) :=
  PT.imp (pt_cmpR opW hA hB hm) fun σ H Q ⟨H0, g0, g, sl, hp, S, P⟩ => cmp_two G S (asB_post S.hs.nofr P) fun b σ h H' g' ⟨b', e, q⟩ => by
    cases e
    exact ⟨b, rfl, q⟩
theorem cmp_three {op op' : COp} {c : E} {H0 H : Hp} {g0 g : Gh} {σr : L2.St} {σ : List Slot} {h : List Ob} {Qz : VK} {k : R → List Slot → List Ob → Hp → Gh → Prop} (S : Sim X.K cs H0 g0 σr H g σ h)
    (P : Post X.K cs H0 g0 σr H g W (evE Γ C (.cmp2 op op' a b c) σ h) k) (hk : ∀ b σ h H' g', k (.v (.bl b)) σ h H' g' → Qz (.bl b) H') :
    tChain (rW X (compareOp (cOf op))) (rW X (compareOp (cOf op'))) (tD X.K cs Γ C W a) (tD X.K cs Γ C W b) (tD X.K cs Γ C W c) σr H Qz := by
  unfold evE at P
  refine two_ok S P fun oa ob σ2 h2 H2 g2 v u S2 st o1 o2 P2 => ?_
  cases q1 : cont σ2 h2 oa with
  | none => simp only [q1] at P2; exact P2.elim
  | some c1 =>
    cases q2 : cont σ2 h2 ob with
    | none => simp only [q1, q2] at P2; exact P2.elim
    | some d =>
      simp only [q1, q2] at P2
      cases q3 : cmpop op c1 d with
      | none => simp only [q3] at P2; exact P2.elim
      | some res =>
        refine cmpop_ok (room60 G) (by cases op <;> rfl) q3 (CR.of S2 q1 o1) (CR.of S2 q2 o2) ⟨res, rfl, ?_⟩
        cases res with
        | false =>
          simp only [q3] at P2
          rw [if_neg Bool.false_ne_true]
          exact hk _ _ _ _ _ (P2 H2 g2 S2 st)
        | true =>
          simp only [q3] at P2
          rw [if_pos rfl]
          refine ⟨H0, g0, g2, σ2, h2, S2, P2.bind st fun oc σ3 h3 H3 g3 S3 st3 st3' P3 w o3 => ?_⟩
          have o2' := o2.mono st3
          have o3' : OR X.K σr H H3 g3 w oc := o3.base fun a o e => st.there a o e
          cases q4 : cont σ3 h3 ob with
          | none => simp only [q4] at P3; exact P3.elim
          | some d' =>
            cases q5 : cont σ3 h3 oc with
            | none => simp only [q4, q5] at P3; exact P3.elim
            | some e =>
              simp only [q4, q5] at P3
              cases q6 : cmpop op' d' e with
              | none => simp only [q6, retB] at P3; exact P3.elim
              | some res =>
                simp only [q6, retB] at P3
                exact cmpop_ok (room60 G) (by cases op' <;> rfl) q6 (CR.of S3 q4 o2') (CR.of S3 q5 o3') (hk _ _ _ _ _ (P3 H3 g3 S3 st3'))
theorem k_cmp2 {op op' : COp} {c : E} (hm : lastMarks [cOf op, cOf op'] [r, t] = false) (hA : AD cs Γ C X W a l) (hB : AD cs Γ C X W b r) (hC : AD cs Γ C X W c t) : AE cs Γ C X W (.cmp2 op op' a b c) (.Compare l [cOf op, cOf op'] [r, t] pos) :=
  PE.imp (pe_chain opW opW hA hB hC hm) fun σ H Q ⟨H0, g0, g, sl, hp, S, P⟩ => cmp_three G S P fun b σ h H' g' q => q _ (.bl b)
theorem t_cmp2 {op op' : COp} {c : E} (hm : lastMarks [cOf op, cOf op'] [r, t] = false) (hA : AD cs Γ C X W a l) (hB : AD cs Γ C X W b r) (hC : AD cs Γ C X W c t) : AT cs Γ C X W (.cmp2 op op' a b c) (.Compare l [cOf op, cOf op'] [r, t] pos) :=
  PT.imp (pt_chain opW opW hA hB hC hm) fun σ H Q ⟨H0, g0, g, sl, hp, S, P⟩ => cmp_three G S (asB_post S.hs.nofr P) fun b σ h H' g' ⟨b', e, q⟩ => by
    cases e
    exact ⟨b, rfl, q⟩
end
/-! ### and, or, not, if-else -/
theorem rr_bl {H H' : Hp} {g : Gh} {v : V} {b : Bool} (x : RR X.K H H' g v (.v (.bl b))) : v = .bl b := by
  cases x
  rfl
theorem k_and {z : Expr} (hA : AE cs Γ C X W a l) (hB : AE cs Γ C X W b z) (hand : ∀ ta tb, PE X l ta → PE X z tb → PE X x (tAndV ta tb)) : AE cs Γ C X W (.and a b) x := by
  refine PE.imp (hand _ _ hA hB) ?_
  intro σ H Q ⟨H0, g0, g, sl, hp, S, P⟩
  unfold evE at P
  have P' := asB_post S.hs.nofr (Post.bind P (Stp.refl S.hs.nofr) fun k σ1 h1 H1 g1 S1 st1 _ P1 => (⟨S1, st1, P1⟩ : _ ∧ _ ∧ _))
  refine ⟨H0, g0, g, sl, hp, S, P'.mono fun r σ1 h1 H1 g1 _ S1 st1 ⟨b', e, _, _, P1⟩ v x => ?_⟩
  subst e
  have ev := rr_bl x
  refine ⟨b', ev, ?_⟩
  cases b' with
  | false =>
    rw [if_neg Bool.false_ne_true] at P1 ⊢
    exact P1 H1 g1 S1 st1 _ (.bl _)
  | true =>
    rw [if_pos rfl] at P1 ⊢
    have P2 := asB_post S1.hs.nofr (Post.bind P1 st1 fun k σ2 h2 H2 g2 S2 st2 st2' P2 => (⟨S2, st2', P2⟩ : _ ∧ _ ∧ _))
    refine ⟨H0, g0, g1, σ1, h1, S1, P2.mono fun r σ2 h2 H2 g2 _ S2 st2 ⟨b2, e, _, st2', P3⟩ w y => ?_⟩
    subst e
    have ew := rr_bl y
    subst ew
    exact P3 H2 g2 S2 st2' _ (.bl _)
theorem k_or {z : Expr} (hA : AE cs Γ C X W a l) (hB : AE cs Γ C X W b z) (hor : ∀ ta tb, PE X l ta → PE X z tb → PE X x (tOrV ta tb)) : AE cs Γ C X W (.or a b) x := by
  refine PE.imp (hor _ _ hA hB) ?_
  intro σ H Q ⟨H0, g0, g, sl, hp, S, P⟩
  unfold evE at P
  have P' := asB_post S.hs.nofr (Post.bind P (Stp.refl S.hs.nofr) fun k σ1 h1 H1 g1 S1 st1 _ P1 => (⟨S1, st1, P1⟩ : _ ∧ _ ∧ _))
  refine ⟨H0, g0, g, sl, hp, S, P'.mono fun r σ1 h1 H1 g1 _ S1 st1 ⟨b', e, _, _, P1⟩ v x => ?_⟩
  subst e
  have ev := rr_bl x
  refine ⟨b', ev, ?_⟩
  cases b' with
  | true =>
    rw [if_pos rfl] at P1 ⊢
    exact P1 H1 g1 S1 st1 _ (.bl _)
  | false =>
    rw [if_neg Bool.false_ne_true] at P1 ⊢
    have P2 := asB_post S1.hs.nofr (Post.bind P1 st1 fun k σ2 h2 H2 g2 S2 st2 st2' P2 => (⟨S2, st2', P2⟩ : _ ∧ _ ∧ _))
    refine ⟨H0, g0, g1, σ1, h1, S1, P2.mono fun r σ2 h2 H2 g2 _ S2 st2 ⟨b2, e, _, st2', P3⟩ w y => ?_⟩
    subst e
    have ew := rr_bl y
    subst ew
    exact P3 H2 g2 S2 st2' _ (.bl _)
theorem k_not (hA : AE cs Γ C X W a l) : AE cs Γ C X W (.not a) (.UnaryOp .Not l pos) := by
  refine PE.imp (pe_not hA) ?_
  intro σ H Q ⟨H0, g0, g, sl, hp, S, P⟩
  unfold evE at P
  have P' := asB_post S.hs.nofr (Post.bind P (Stp.refl S.hs.nofr) fun k σ1 h1 H1 g1 S1 st1 _ P1 => (⟨S1, st1, P1⟩ : _ ∧ _ ∧ _))
  refine ⟨H0, g0, g, sl, hp, S, P'.mono fun r σ1 h1 H1 g1 _ S1 st1 ⟨b', e, _, _, P1⟩ v x => ?_⟩
  subst e
  exact ⟨b', rr_bl x, P1 H1 g1 S1 st1 _ (.bl _)⟩
theorem t_and {z : Expr} (hA : AT cs Γ C X W a l) (hB : AT cs Γ C X W b z) (hand : ∀ ta tb, PT X l ta → PT X z tb → PT X x (tAnd ta tb)) : AT cs Γ C X W (.and a b) x := by
  refine PT.imp (hand _ _ hA hB) ?_
  intro σ H Q ⟨H0, g0, g, sl, hp, S, P⟩
  have P0 := asB_post S.hs.nofr P
  unfold evE at P0
  refine ⟨H0, g0, g, sl, hp, S, P0.bind (Stp.refl S.hs.nofr) fun b' σ1 h1 H1 g1 S1 st1 _ P1 => ?_⟩
  cases b' with
  | false =>
    rw [if_neg Bool.false_ne_true] at P1 ⊢
    obtain ⟨b2, e, q⟩ := P1 H1 g1 S1 st1
    cases e
    exact q
  | true =>
    rw [if_pos rfl] at P1 ⊢
    refine ⟨H0, g0, g1, σ1, h1, S1, P1.bind st1 fun b2 σ2 h2 H2 g2 S2 st2 st2' P2 => ?_⟩
    obtain ⟨b3, e, q⟩ := P2 H2 g2 S2 st2'
    cases e
    exact q
theorem t_or {z : Expr} (hA : AT cs Γ C X W a l) (hB : AT cs Γ C X W b z) (hor : ∀ ta tb, PT X l ta → PT X z tb → PT X x (tOr ta tb)) : AT cs Γ C X W (.or a b) x := by
  refine PT.imp (hor _ _ hA hB) ?_
  intro σ H Q ⟨H0, g0, g, sl, hp, S, P⟩
  have P0 := asB_post S.hs.nofr P
  unfold evE at P0
  refine ⟨H0, g0, g, sl, hp, S, P0.bind (Stp.refl S.hs.nofr) fun b' σ1 h1 H1 g1 S1 st1 _ P1 => ?_⟩
  cases b' with
  | true =>
    rw [if_pos rfl] at P1 ⊢
    obtain ⟨b2, e, q⟩ := P1 H1 g1 S1 st1
    cases e
    exact q
  | false =>
    rw [if_neg Bool.false_ne_true] at P1 ⊢
    refine ⟨H0, g0, g1, σ1, h1, S1, P1.bind st1 fun b2 σ2 h2 H2 g2 S2 st2 st2' P2 => ?_⟩
    obtain ⟨b3, e, q⟩ := P2 H2 g2 S2 st2'
    cases e
    exact q
theorem t_not (hA : AT cs Γ C X W a l) : AT cs Γ C X W (.not a) (.UnaryOp .Not l pos) := by
  refine PT.imp (pt_not hA) ?_
  intro σ H Q ⟨H0, g0, g, sl, hp, S, P⟩
  have P0 := asB_post S.hs.nofr P
  unfold evE at P0
  refine ⟨H0, g0, g, sl, hp, S, P0.bind (Stp.refl S.hs.nofr) fun b' σ1 h1 H1 g1 S1 st1 _ P1 => ?_⟩
  obtain ⟨b3, e, q⟩ := P1 H1 g1 S1 st1
  cases e
  exact q
theorem isTrue_plain (h : plainTest x = true) (env : Env) (whole : Sem Value) : isTrue x env whole = (do let v ← whole; standAt x.pos; holding [v] (truthy v)) := by
  cases x <;> first
    | rfl
    | cases h
    | (rename_i op _ _
       cases op <;> first | rfl | cases h)
theorem t_plain (h : plainTest x = true) (hA : AE cs Γ C X W e x) : AT cs Γ C X W e x := by
  refine PT.imp (pt_val hA (isTrue_plain h X.env)) ?_
  intro σ H Q ⟨H0, g0, g, sl, hp, S, P⟩
  refine ⟨H0, g0, g, sl, hp, S, (asB_post S.hs.nofr P).mono fun r σ1 h1 H1 g1 _ S1 st1 ⟨b', e, q⟩ v y => ?_⟩
  subst e
  exact ⟨b', rr_bl y, q⟩
theorem k_ite {c : E} (hC : AT cs Γ C X W c t) (hA : AE cs Γ C X W a l) (hB : AE cs Γ C X W b r) : AE cs Γ C X W (.ite c a b) (.IfExp t l r pos) := by
  refine PE.imp (pe_ifExp hC hA hB) ?_
  intro σ H Q ⟨H0, g0, g, sl, hp, S, P⟩
  unfold evE at P
  refine ⟨H0, g0, g, sl, hp, S, P.bind (Stp.refl S.hs.nofr) fun b' σ1 h1 H1 g1 S1 st1 _ P1 => ?_⟩
  have fin : ∀ {e : E}, Post X.K cs H0 g0 σ H g W (evE Γ C e σ1 h1) (fun r _ _ H' g' => ∀ v, RR X.K H H' g' v r → Q v H') → tE X.K cs Γ C W e σ H1 Q := fun {e} P2 =>
    ⟨H0, g0, g1, σ1, h1, S1, P2.sub st1 fun r σ2 h2 H2 g2 S2 st2 P3 v y => P3 v (y.base fun a o e => st1.there a o e)⟩
  cases b' with
  | true =>
    show if true = true then _ else _
    rw [if_pos rfl] at P1 ⊢
    exact fin P1
  | false =>
    show if false = true then _ else _
    rw [if_neg Bool.false_ne_true] at P1 ⊢
    exact fin P1

/-! ### items, slices -/
theorem plainIx (h : notSlice x = true) : PlainIx x := by
  intro o i
  cases x <;> first | rfl | cases h
theorem k_idx (hs : notSlice r = true) (hA : AD cs Γ C X W a l) (hB : AD cs Γ C X W b r) : AE cs Γ C X W (.idx a b) (.Subscript l r pos) := by
  refine PE.imp (pe_ix ixW hA hB (plainIx hs)) ?_
  intro σ H Q ⟨H0, g0, g, sl, hp, S, P⟩
  unfold evE at P
  refine two_ok S P fun oa ob σ2 h2 H2 g2 v u S2 st o1 o2 P2 => ?_
  cases q1 : cont σ2 h2 oa with
  | none => simp only [q1] at P2; exact P2.elim
  | some c =>
    cases q2 : cont σ2 h2 ob with
    | none => simp only [q1, q2] at P2; exact P2.elim
    | some d =>
      simp only [q1, q2] at P2
      cases q3 : index c d with
      | none => simp only [q3, retR, Option.map_none] at P2; exact P2.elim
      | some res =>
        simp only [q3, retR, Option.map_some] at P2
        exact index_ok q3 (CR.of S2 q1 o1) (CR.of S2 q2 o2) fun z hz => P2 H2 g2 S2 st z hz
theorem k_sli {lo hi : Eo} {elo ehi : Option Expr} (hA : AD cs Γ C X W a l) (hL : PO X elo (tOp1 X.K cs Γ C W lo)) (hH : PO X ehi (tOp1 X.K cs Γ C W hi)) : AE cs Γ C X W (.sli a lo hi) (.Subscript l (.Slice elo ehi none p2) pos) := by
  refine PE.imp (pe_slice slW hA hL hH) ?_
  intro σ H Q ⟨H0, g0, g, sl, hp, S, P⟩
  unfold evE at P
  refine one_ok S P fun oa σ1 h1 H1 g1 v S1 st1 o1 P1 => ?_
  refine ⟨H0, g0, g1, σ1, h1, S1, P1.bind st1 fun lv σ2 h2 H2 g2 S2 st2 st2' P2 => ?_⟩
  refine ⟨H0, g0, g2, σ2, h2, S2, P2.bind st2' fun hv σ3 h3 H3 g3 S3 st3 st3' P3 => ?_⟩
  have o1' := (o1.mono st2).mono st3
  cases q1 : cont σ3 h3 oa with
  | none => simp only [q1] at P3; exact P3.elim
  | some c =>
    simp only [q1] at P3
    cases q3 : slice c lv hv with
    | none => simp only [q3, retR] at P3; exact P3.elim
    | some res =>
      simp only [q3, retR] at P3
      exact slice_ok q3 S3 st3' (CR.of S3 q1 o1') (Fin.of P3)
theorem o_no : PO X none (tOp1 X.K cs Γ C W .no) := PO.imp po_none fun σ H Q ⟨H0, g0, g, sl, hp, S, P⟩ => P H g S (Stp.refl S.hs.nofr)
theorem o_so (hA : AE cs Γ C X W a l) : PO X (some l) (tOp1 X.K cs Γ C W (.so a)) := by
  refine PO.imp (po_some hA) ?_
  intro σ H Q ⟨H0, g0, g, sl, hp, S, P⟩
  unfold evO asI at P
  refine ⟨H0, g0, g, sl, hp, S, P.bind (Stp.refl S.hs.nofr) fun r σ1 h1 H1 g1 S1 st1 _ P1 v y => ?_⟩
  split at P1
  · cases y
    exact ⟨_, rfl, P1 H1 g1 S1 st1⟩
  · exact P1.elim
theorem k_rev {k1 : Nat} (hA : AD cs Γ C X W a l) : AE cs Γ C X W (.rev a) (.Subscript l (.Slice none none (some (.UnaryOp .USub (.Constant (.int 1) k1 p2) p3)) p4) pos) := by
  refine PE.imp (pe_revL hA) ?_
  intro σ H Q ⟨H0, g0, g, sl, hp, S, P⟩
  unfold evE at P
  refine one_ok S P fun oa σ1 h1 H1 g1 v S1 st1 o1 P1 => ?_
  cases q1 : cont σ1 h1 oa with
  | none => simp only [q1] at P1; exact P1.elim
  | some c =>
    simp only [q1] at P1
    cases q3 : revD c with
    | none => simp only [q3, retR] at P1; exact P1.elim
    | some res =>
      simp only [q3, retR] at P1
      have x := CR.of S1 q1 o1
      unfold revD at q3
      split at q3
      · cases q3
        obtain ⟨a', vs, rfl, e1, r1⟩ := x.lst
        exact ⟨a', vs, rfl, SqL.of e1, new_lst S1 st1 r1.reverse (Fin.of P1)⟩
      · cases q3
end
end Pm

set_option Elab.async false
set_option linter.all false
set_option maxRecDepth 100000
set_option maxHeartbeats 4000000
/-! The pure machine: calls, displays, pop. -/
namespace Pm
open PySem PySem.Spec L2
section
variable {sy : Sy} {cs : Cls0} {n : Nat} {Γ : Calls} {C : Cf} {X : Cx} {W : WX} {N : List Str} {sc : Scope} {e a b : E} {x l r t : Expr} {pos p1 p2 p3 p4 : Pos} {es : Es} {xs : List Expr}

abbrev AA (cs : Cls0) (Γ : Calls) (C : Cf) (X : Cx) (W : WX) (es : Es) (xs : List Expr) : Prop := PA X xs (tAs X.K cs Γ C W es)
theorem a_nil : AA cs Γ C X W .nil [] := PA.imp pa_nil fun σ H Q ⟨H0, g0, g, sl, hp, S, P⟩ => P H g S (Stp.refl S.hs.nofr) [] .nil
theorem a_cons (hs : notStar x = true) (hA : AE cs Γ C X W e x) (hR : AA cs Γ C X W es xs) : AA cs Γ C X W (.cons e es) (x :: xs) := by
  refine PA.imp (pa_cons hA hR (star_cons hs)) ?_
  intro σ H Q ⟨H0, g0, g, sl, hp, S, P⟩
  unfold evA at P
  refine ⟨H0, g0, g, sl, hp, S, P.bind (Stp.refl S.hs.nofr) fun r σ1 h1 H1 g1 S1 st1 _ P1 v y => ?_⟩
  obtain ⟨g1', S1', st1', rd, _⟩ := S1.freeze st1 y fun a ha => S.fresh0 ha
  refine ⟨H0, g0, g1', σ1, h1, S1', P1.bind st1' fun ds σ2 h2 H2 g2 S2 st2 st2' P2 vs rs => ?_⟩
  exact P2 H2 g2 S2 st2' _ (.cons (RD.mono st2 rd) rs)
theorem k_tup (hA : AA cs Γ C X W es xs) {k1 : Nat} : AE cs Γ C X W (.tup es) (.Tuple xs k1 pos) := by
  refine PE.imp (pe_tup hA) ?_
  intro σ H Q ⟨H0, g0, g, sl, hp, S, P⟩
  unfold evE at P
  refine ⟨H0, g0, g, sl, hp, S, P.bind (Stp.refl S.hs.nofr) fun ds σ1 h1 H1 g1 S1 st1 _ P1 vs rs => ?_⟩
  split at P1
  · rename_i hz
    exact ⟨by rw [rs.len]; exact hz, new_tup S1 st1 rs (Fin.of P1)⟩
  · exact P1.elim
theorem k_lst (hA : AA cs Γ C X W es xs) : AE cs Γ C X W (.lst es) (.List xs pos) := by
  refine PE.imp (pe_lst hA) ?_
  intro σ H Q ⟨H0, g0, g, sl, hp, S, P⟩
  unfold evE at P
  refine ⟨H0, g0, g, sl, hp, S, P.bind (Stp.refl S.hs.nofr) fun ds σ1 h1 H1 g1 S1 st1 _ P1 vs rs => ?_⟩
  split at P1
  · rename_i hz
    exact ⟨by rw [rs.len]; exact hz, new_lst S1 st1 rs (Fin.of P1)⟩
  · exact P1.elim
theorem blt_none (G : Good sy cs n Γ X W N sc) {z : Str} (h : z ∈ bltNames) : X.mg z = none := G.ok.blt z h
/-- f(e), f a built-in function or type -/
theorem call_one {fv : Value} {z : Str} {ta : TE} (G : Good sy cs n Γ X W N sc) (hg : glB sc z = true) (hb : z ∈ bltNames) (hv : bootBuiltins z = some fv) (hk : (∃ id, fv = .builtin id) ∨ ∃ T, fv = .type T) (hn : z ≠ "__name__") (hs : notStar l = true) (hA : PE X l ta) :
    PE X (.Call (.Name z p1) [l] [] pos) (fun σ H Q => ta σ H fun v H1 => cW X fv [v] H1 Q) := by
  obtain ⟨h1, h2⟩ := glB_gl G hg
  have ha : PA X [l] (tCons ta tNil) := pa_cons hA pa_nil (star_cons hs)
  rcases hk with ⟨id, rfl⟩ | ⟨T, rfl⟩
  · exact pe_callB callW h1 (blt_none G hb) hv ha hn h2 (star_cons hs) (by rfl)
  · exact pe_callTy callW h1 (blt_none G hb) hv ha hn h2 (star_cons hs) (by rfl)
theorem fval_blt {f : F1} {nm : Str} {fv : Value} (h : fval f = some (nm, fv)) : nm ∈ bltNames ∧ bootBuiltins nm = some fv ∧ ((∃ id, fv = .builtin id) ∨ ∃ T, fv = .type T) ∧ nm ≠ "__name__" := by
  cases f <;> first | (cases h; done) | (cases h; exact ⟨by decide +kernel, by decide +kernel, by first | exact .inl ⟨_, rfl⟩ | exact .inr ⟨_, rfl⟩, by decide +kernel⟩)
theorem k_fn1 (G : Good sy cs n Γ X W N sc) {f : F1} {z : Str} {fv : Value} (hf : fval f = some (z, fv)) (hg : glB sc z = true) (hs : notStar l = true) (hA : AD cs Γ C X W a l) : AE cs Γ C X W (.fn1 f a) (.Call (.Name z p1) [l] [] pos) := by
  obtain ⟨b1, b2, b3, b4⟩ := fval_blt hf
  refine PE.imp (call_one G hg b1 b2 b3 b4 hs hA) ?_
  intro σ H Q ⟨H0, g0, g, sl, hp, S, P⟩
  unfold evE at P
  refine one_ok S P fun oa σ1 h1 H1 g1 v S1 st1 o1 P1 => ?_
  cases q1 : cont σ1 h1 oa with
  | none => simp only [q1] at P1; exact P1.elim
  | some c =>
    simp only [q1] at P1
    cases q3 : fn1 f c with
    | none => simp only [q3, retR] at P1; exact P1.elim
    | some res =>
      simp only [q3, retR] at P1
      exact fn1_ok G.calm hf q3 S1 st1 (CR.of S1 q1 o1) (Fin.of P1)
theorem call_two {id : String} {z : Str} {ta tb : TE} (G : Good sy cs n Γ X W N sc) (hg : glB sc z = true) (hb : z ∈ bltNames) (hv : bootBuiltins z = some (.builtin id)) (hn : z ≠ "__name__") (hs : notStar l = true) (hs2 : notStar r = true) (hA : PE X l ta) (hB : PE X r tb) :
    PE X (.Call (.Name z p1) [l, r] [] pos) (fun σ H Q => ta σ H fun v H1 => tb σ H1 fun u H2 => cW X (.builtin id) [v, u] H2 Q) := by
  obtain ⟨h1, h2⟩ := glB_gl G hg
  have ha : PA X [l, r] (tCons ta (tCons tb tNil)) := pa_cons hA (pa_cons hB pa_nil (star_cons hs2)) (star_cons hs)
  exact pe_callB callW h1 (blt_none G hb) hv ha hn h2 (star_cons hs) (star_any (by rw [List.all_cons, hs2]; rfl))
theorem k_fn2 (G : Good sy cs n Γ X W N sc) {f : F2} (hg : glB sc (f2Name f) = true) (hs : notStar l = true) (hs2 : notStar r = true) (hA : AE cs Γ C X W a l) (hB : AE cs Γ C X W b r) : AE cs Γ C X W (.fn2 f a b) (.Call (.Name (f2Name f) p1) [l, r] [] pos) := by
  have key : ∀ {id : String}, f2Name f ∈ bltNames → bootBuiltins (f2Name f) = some (.builtin id) → f2Name f ≠ "__name__" →
      (∀ {i j : Int} {H : Hp} {Q : VK} {res : R}, fn2 f (.int i) (.int j) = some res → (∀ k, res = .v (.int k) → Q (.int k) H) → cW X (.builtin id) [.int i, .int j] H Q) → AE cs Γ C X W (.fn2 f a b) (.Call (.Name (f2Name f) p1) [l, r] [] pos) := fun {id} hb hv hn rule => by
    refine PE.imp (call_two G hg hb hv hn hs hs2 hA hB) ?_
    intro σ H Q ⟨H0, g0, g, sl, hp, S, P⟩
    unfold evE at P
    refine ⟨H0, g0, g, sl, hp, S, P.bind (Stp.refl S.hs.nofr) fun ra σ1 h1 H1 g1 S1 st1 _ P1 v y => ?_⟩
    refine ⟨H0, g0, g1, σ1, h1, S1, P1.bind st1 fun rb σ2 h2 H2 g2 S2 st2 st2' P2 u z => ?_⟩
    cases q3 : fn2 f ra.d rb.d with
    | none => simp only [q3, retR] at P2; exact P2.elim
    | some res =>
      simp only [q3, retR] at P2
      have ints_ : ∃ i j, ra = .v (.int i) ∧ rb = .v (.int j) := by
        cases ra with
        | o _ => cases f <;> cases rb <;> cases q3
        | v c =>
          cases rb with
          | o _ => cases f <;> cases c <;> cases q3
          | v d => cases c <;> cases d <;> first | exact ⟨_, _, rfl, rfl⟩ | (cases f <;> cases q3)
      obtain ⟨i, j, rfl, rfl⟩ := ints_
      cases y
      cases z
      exact rule q3 fun k ek => by
        subst ek
        exact P2 H2 g2 S2 st2' _ (.int k)
  cases f with
  | max =>
    refine key (id := "max") (by decide +kernel) (by decide +kernel) (by decide +kernel) fun {i j H Q res} e q => ?_
    cases e
    exact ⟨_, call_max2 G.calm, i, j, rfl, q _ rfl⟩
  | min =>
    refine key (id := "min") (by decide +kernel) (by decide +kernel) (by decide +kernel) fun {i j H Q res} e q => ?_
    cases e
    exact ⟨_, call_min2 G.calm, i, j, rfl, q _ rfl⟩
theorem ty_boot (t : Ty) : bootBuiltins (Str.ofString (tyName t)) = some (.type (tyName t)) ∧ Str.ofString (tyName t) ∈ bltNames ∧ Str.ofString (tyName t) ≠ "__name__" := by
  cases t <;> exact ⟨by decide +kernel, by decide +kernel, by decide +kernel⟩
theorem k_isi (G : Good sy cs n Γ X W N sc) {ty : Ty} (hg : glB sc "isinstance" = true) (hg2 : glB sc (Str.ofString (tyName ty)) = true) (hs : notStar l = true) (hA : AD cs Γ C X W a l) :
    AE cs Γ C X W (.isi a ty) (.Call (.Name "isinstance" p1) [l, .Name (Str.ofString (tyName ty)) p2] [] pos) := by
  obtain ⟨t1, t2, t3⟩ := ty_boot ty
  obtain ⟨h1, h2⟩ := glB_gl G hg2
  have hT : PE X (.Name (Str.ofString (tyName ty)) p2) (tC (.ty (tyName ty))) := pe_bltn h1 (blt_none G t2) t1 rfl t3 h2
  refine PE.imp (call_two G hg (by decide +kernel) (id := "isinstance") (by decide +kernel) (by decide +kernel) hs rfl hA hT) ?_
  intro σ H Q ⟨H0, g0, g, sl, hp, S, P⟩
  unfold evE at P
  refine one_ok S P fun oa σ1 h1 H1 g1 v S1 st1 o1 P1 => ?_
  show cW X (.builtin "isinstance") [v, .ty (tyName ty)] H1 Q
  cases q1 : cont σ1 h1 oa with
  | none => simp only [q1] at P1; exact P1.elim
  | some c =>
    simp only [q1] at P1
    split at P1
    · rename_i hq
      cases q2 : tyOfD c with
      | none => cases c <;> first | (cases hq; done) | (cases q2; done)
      | some nn => exact isi_ok q2 (CR.of S1 q1 o1) (P1 H1 g1 S1 st1 _ (.bl _))
    · exact P1.elim
/-- a def of the text is called -/
theorem k_cal (G : Good sy cs n Γ X W N sc) {f : Nat} {z : Str} (hf : sy.fn f = some z) (hg : glB sc z = true) (hs : (l :: xs).all notStar = true) (hA : AA cs Γ C X W es (l :: xs)) : AE cs Γ C X W (.cal f es) (.Call (.Name z p1) (l :: xs) [] pos) := by
  obtain ⟨fa, fd, ps, hm, hk, hb, F, har⟩ := G.ok.fns f z hf
  obtain ⟨h1, h2⟩ := glB_gl G hg
  rw [List.all_cons, Bool.and_eq_true] at hs
  refine PE.imp (pe_callS F (G.room.mono (Nat.le_succ _)) h1 hm hk hb (fun σ => passAt G.tk σ) hA h2 (star_cons hs.1) (star_any hs.2)) ?_
  intro σ H Q ⟨H0, g0, g, sl, hp, S, P⟩
  unfold evE at P
  refine ⟨H0, g0, g, sl, hp, S, P.bind (Stp.refl S.hs.nofr) fun ds σ1 h1 H1 g1 S1 st1 _ P1 vs rs => ?_⟩
  have har' := har ds h1
  refine ⟨?_, g1, ds, h1, S1.hs, rs, ?_⟩
  · rw [rs.len]
    refine har' fun z => ?_
    rw [z] at P1
    exact P1.elim
  · cases q : Γ f ds h1 with
    | stuck => rw [q] at P1; exact P1.elim
    | ok res h' =>
      rw [q] at P1
      exact fun v H' g' S' fr y => P1 H' g' (S1.call fr S') (st1.trans (S1.hs.stp fr)) v (y.base fun a o e => st1.there a o e)
    | exc c p h' =>
      rw [q] at P1
      exact fun cl d H' g' S' fr y => P1 H' g' cl d (S1.call fr S') (st1.trans (S1.hs.stp fr)) y
theorem k_prom (hA : AE cs Γ C X W e x) : AE cs Γ C X W (.prom e) x := by
  refine PE.imp hA ?_
  intro σ H Q ⟨H0, g0, g, sl, hp, S, P⟩
  unfold evE at P
  refine ⟨H0, g0, g, sl, hp, S, P.bind (Stp.refl S.hs.nofr) fun r σ1 h1 H1 g1 S1 st1 _ P1 v y => ?_⟩
  cases r with
  | v d => exact P1.elim
  | o xs =>
    obtain ⟨g2, S2, st2, rd⟩ := S1.prom st1 y fun a ha => S.fresh0 ha
    exact P1 H1 g2 S2 st2 v rd
theorem pop_seq {m : Nat} {k : Int} (h0 : 0 ≤ k) (h1 : k < m) : seqIndex? k m = some k.toNat := by
  obtain ⟨j, rfl⟩ : ∃ j : Nat, k = (j : Int) := ⟨k.toNat, by omega⟩
  have hj : j < m := by omega
  have q := ixN_seq (n := m) (i := (j : Int)) (j := j) (by unfold L2.ixN; rw [if_pos (by omega), if_pos (by omega)]; simp)
  exact q.1
theorem k_popA (G : Good sy cs n Γ X W N sc) {i : Nat} {z : Str} (hz : nmB N sc i z = true) (hline : (p2.endLine == pos.line) = true) (hs : notStar l = true) (hA : AE cs Γ C X W a l) :
    AE cs Γ C X W (.popA i a) (.Call (.Attribute (.Name z p1) "pop" p2) [l] [] pos) := by
  refine PE.imp (pe_bm PySem.F.plainAttrs_list PySem.F.slot_list_pop PySem.F.type_list_pop mt_popAt (pe_nm G hz) (pa_cons hA pa_nil (star_cons hs)) (by rfl) (by rw [star_cons hs]; rfl) hline (star_cons hs) (by rfl)) ?_
  intro σ H Q ⟨H0, g0, g, sl, hp, S, P⟩
  unfold evE at P
  split at P
  · rename_i hl
    -- the name's value, a list
    obtain ⟨a0, vs0, e0, l0⟩ : ∃ a vs, σ[i]? = some (some (.ref a)) ∧ H a = some (.lst vs) := by
      unfold lstSlot at hl
      split at hl
      · rename_i xs q
        obtain ⟨v, hv⟩ : ∃ v, σ[i]? = some (some v) := by
          cases q2 : sl[i]? with
          | none => simp [cont, q2] at q
          | some s =>
            have z := S.sl i s q2
            cases s with
            | un => simp [cont, q2] at q
            | v d => exact ⟨_, z.choose_spec.1⟩
            | o ys => exact ⟨_, z.choose_spec.choose_spec.1⟩
            | x c p => simp [cont, q2] at q
        obtain ⟨a, vs, rfl, e1, _⟩ := (CR.of (K := X.K) (Hb := H) (o := .s i) S q hv).lst
        exact ⟨a, vs, hv, e1⟩
      · cases hl
    refine ⟨.ref a0, e0, .inl ⟨rfl, _, .inl (.inl l0)⟩, H0, g0, g, sl, hp, S, P.bind (Stp.refl S.hs.nofr) fun r σ1 h1 H1 g1 S1 st1 _ P1 v y => ?_⟩
    split at P1
    · rename_i k
      cases y
      split at P1
      · rename_i xs q1
        obtain ⟨a1, vs, f1, f2, f3, f4⟩ := S1.mutS q1
        rw [e0] at f1
        cases f1
        split at P1
        · rename_i hk
          obtain ⟨k0, k1, k2⟩ := hk
          split at P1
          · rename_i d q2
            obtain ⟨w, q3, rw_⟩ := f3.get q2
            obtain ⟨S2, st2⟩ := f4 (vs.eraseIdx k.toNat) (xs.eraseIdx k.toNat) (f3.eraseIdx _)
            have hl := f3.len
            refine ⟨a0, vs, k, k.toNat, w, rfl, rfl, f2, by omega, ?_, pop_seq k0 (by omega), q3, P1 _ g1 S2 (st2 _ _ st1) w (RD.mono (st2 H1 g1 (Stp.refl S1.hs.nofr)) rw_)⟩
            have : (sizeLine : Int) < 2 ^ 63 := by decide
            omega
          · exact P1.elim
        · exact P1.elim
      · rename_i j q1
        split at P1
        · rename_i xs qo
          split at P1
          · rename_i hk
            obtain ⟨k0, k1, k2⟩ := hk
            split at P1
            · rename_i d q2
              obtain ⟨a1, r1, ⟨vs, f2, f3⟩, f4⟩ := S1.mutO qo
              obtain ⟨v0, e1, rd⟩ := S1.sl i _ q1
              rw [e0] at e1
              cases e1
              cases rd with
              | ref r2 =>
                rw [r1] at r2
                cases r2
                obtain ⟨w, q3, rw_⟩ := f3.get q2
                have stp0 : Stp H1 g1 (upd H1 a0 (.lst (vs.eraseIdx k.toNat))) g1 := by
                  obtain ⟨a2, r2', t2, _⟩ := S1.hs.ob j _ qo
                  rw [r1] at r2'
                  cases r2'
                  exact (Stp.refl S1.hs.nofr).upd (vs := vs) f2 (.inl ⟨_, rfl⟩) (by rw [t2]; intro z; cases z) (by rw [t2]; intro z; cases z)
                obtain ⟨S2, st2⟩ := f4 (.lst (vs.eraseIdx k.toNat)) (.lst (xs.eraseIdx k.toNat)) (.inl ⟨_, rfl⟩) ⟨_, upd_same, RDs.mono stp0 (f3.eraseIdx _)⟩
                have hl := f3.len
                refine ⟨a0, vs, k, k.toNat, w, rfl, rfl, f2, by omega, ?_, pop_seq k0 (by omega), q3, P1 _ g1 S2 (st2 _ _ st1) w (RD.mono stp0 rw_)⟩
                have : (sizeLine : Int) < 2 ^ 63 := by decide
                omega
            · exact P1.elim
          · exact P1.elim
        · exact P1.elim
      · exact P1.elim
    · exact P1.elim
  · exact P.elim
end
end Pm

set_option Elab.async false
set_option linter.all false
set_option maxRecDepth 100000
set_option maxHeartbeats 4000000
/-! The pure machine: walks, comprehensions. -/
namespace Pm
open PySem PySem.Spec L2
section
variable {K : PySem.W.Frag} {cs : Cls0} {g g' g0 : Gh} {H H' H0 : Hp} {σr : L2.St} {σ : List Slot} {h : List Ob} {v : V}
theorem SqS.stw {a : Addr} {xs : List V} (x : SqS K H a xs) (s : Stw H g H' g') : SqS K H' a xs := by
  rcases x with ⟨o, x⟩ | x
  · exact .inl ⟨o, s.frzs _ _ _ x⟩
  · exact .inr x
theorem lt_of_get {α : Type} {l : List α} {i : Nat} (h : i < l.length) : ∃ x, l[i]? = some x := ⟨l[i], List.getElem?_eq_getElem h⟩
theorem walk_list {a : Addr} {vs : List V} {ds : List D} (hq : ∀ H' g', Stw H g H' g' → SqL K H' a vs) (rs : RDs K g H vs ds) : WalkOk K (Itl K a) ds H g where
  go := fun i H' g' hi s => by
    obtain ⟨x, e⟩ := lt_of_get (l := vs) (i := i) (by rw [rs.len]; exact hi)
    exact ⟨vs, x, hq H' g' s, e⟩
  stop := fun i H' g' hi s => ⟨vs, hq H' g' s, by rw [rs.len]; exact hi⟩
  yld := fun i H' g' x H'' s ⟨e, y⟩ hi => by
    obtain ⟨d, ed⟩ := lt_of_get hi
    obtain ⟨w, e1, r1⟩ := rs.get ed
    have e2 := y vs (hq H' g' s)
    rw [e1] at e2
    cases e2
    exact ⟨d, ed, .inl ⟨e, RD.monoW s r1⟩⟩
theorem walk_tup {a : Addr} {vs : List V} {ds : List D} (hq : ∀ H' g', Stw H g H' g' → SqT K H' a vs) (rs : RDs K g H vs ds) : WalkOk K (Itt K a) ds H g where
  go := fun i H' g' hi s => by
    obtain ⟨x, e⟩ := lt_of_get (l := vs) (i := i) (by rw [rs.len]; exact hi)
    exact ⟨vs, x, hq H' g' s, e⟩
  stop := fun i H' g' hi s => ⟨vs, hq H' g' s, by rw [rs.len]; exact hi⟩
  yld := fun i H' g' x H'' s ⟨e, y⟩ hi => by
    obtain ⟨d, ed⟩ := lt_of_get hi
    obtain ⟨w, e1, r1⟩ := rs.get ed
    have e2 := y vs (hq H' g' s)
    rw [e1] at e2
    cases e2
    exact ⟨d, ed, .inl ⟨e, RD.monoW s r1⟩⟩
theorem walk_rng {lo hi : Int} : WalkOk K (Itr lo (hi - lo).toNat) (rangeL lo hi) H g where
  go := fun i H' g' h s => by
    have h' : i < (hi - lo).toNat := by simpa [rangeL] using h
    exact h'
  stop := fun i H' g' h s => by
    have h' : (hi - lo).toNat ≤ i := by simpa [rangeL] using h
    exact h'
  yld := fun i H' g' x H'' s ⟨e, y⟩ h => by
    have h' : i < (hi - lo).toNat := by simpa [rangeL] using h
    refine ⟨.int (lo + i), by simp [rangeL, h'], .inl ⟨e, ?_⟩⟩
    rw [y]
    exact .int _
theorem zip_get {ds : List D} {i : Nat} {d : D} (e : ds[i]? = some d) : (ds.zipIdx.map fun p => D.tup [.int p.2, p.1])[i]? = some (.tup [.int (i : Nat), d]) := by
  simp [e]
theorem walk_enl {a : Addr} {vs : List V} {ds : List D} (hq : ∀ H' g', Stw H g H' g' → SqL K H' a vs) (rs : RDs K g H vs ds) : WalkOk K (Ite K a) (ds.zipIdx.map fun p => .tup [.int p.2, p.1]) H g where
  go := fun i H' g' hi s => by
    obtain ⟨x, e⟩ := lt_of_get (l := vs) (i := i) (by rw [rs.len]; simpa using hi)
    exact ⟨vs, x, hq H' g' s, e⟩
  stop := fun i H' g' hi s => ⟨vs, hq H' g' s, by rw [rs.len]; simpa using hi⟩
  yld := fun i H' g' x H'' s ⟨T, y, e1, e2, e3, y1⟩ hi => by
    obtain ⟨d, ed⟩ := lt_of_get (l := ds) (i := i) (by simpa using hi)
    obtain ⟨w, f1, r1⟩ := rs.get ed
    have f2 := y1 vs (hq H' g' s)
    rw [f1] at f2
    cases f2
    exact ⟨_, zip_get ed, .inr ⟨T, y, e1, e2, e3, d, rfl, RD.monoW s r1⟩⟩
theorem walk_ent {a : Addr} {vs : List V} {ds : List D} (hq : ∀ H' g', Stw H g H' g' → SqT K H' a vs) (rs : RDs K g H vs ds) : WalkOk K (Ten K a) (ds.zipIdx.map fun p => .tup [.int p.2, p.1]) H g where
  go := fun i H' g' hi s => by
    obtain ⟨x, e⟩ := lt_of_get (l := vs) (i := i) (by rw [rs.len]; simpa using hi)
    exact ⟨vs, x, hq H' g' s, e⟩
  stop := fun i H' g' hi s => ⟨vs, hq H' g' s, by rw [rs.len]; simpa using hi⟩
  yld := fun i H' g' x H'' s ⟨T, y, e1, e2, e3, y1⟩ hi => by
    obtain ⟨d, ed⟩ := lt_of_get (l := ds) (i := i) (by simpa using hi)
    obtain ⟨w, f1, r1⟩ := rs.get ed
    have f2 := y1 vs (hq H' g' s)
    rw [f1] at f2
    cases f2
    exact ⟨_, zip_get ed, .inr ⟨T, y, e1, e2, e3, d, rfl, RD.monoW s r1⟩⟩
end

section
variable {sy : Sy} {cs : Cls0} {n : Nat} {Γ : Calls} {C : Cf} {X : Cx} {W : WX} {N : List Str} {sc : Scope} {e a b : E} {x l r tg : Expr} {pos p1 p2 : Pos}
theorem PI.imp {X : Cx} {tg e : Expr} {t t' : TI} (h : PI X tg e t) (i : ∀ σ H Q, t' σ H Q → t σ H Q) : PI X tg e t' := ⟨fun pins s σ H Q I q => h.run pins s σ H Q I (i _ _ _ q)⟩
abbrev AI (cs : Cls0) (Γ : Calls) (C : Cf) (X : Cx) (W : WX) (it : I) (tg x : Expr) : Prop := PI X tg x (tIt X.K cs Γ C W it)
theorem i_seq (hA : AE cs Γ C X W e x) : AI cs Γ C X W (.seq e) tg x := by
  refine PI.imp (pi_seq hA) ?_
  intro σ H R ⟨H0, g0, g, sl, hp, S, P⟩
  unfold evI at P
  refine ⟨H0, g0, g, sl, hp, S, P.bind (Stp.refl S.hs.nofr) fun r σ1 h1 H1 g1 S1 st1 _ P1 v y => ?_⟩
  obtain ⟨g2, S2, st2, rd, _⟩ := S1.freeze st1 y fun a ha => S.fresh0 ha
  split at P1
  · rename_i xs q
    rw [q] at rd
    cases rd with
    | lst h1 h2 h3 => exact ⟨_, rfl, .inl ⟨⟨_, SqL.of h1⟩, P1 H1 g2 S2 st2 _ (walk_list (fun H' g' s => SqL.of (s.froz _ _ h1 h2).2) h3)⟩⟩
  · rename_i xs q
    rw [q] at rd
    cases rd with
    | tup h1 h2 => exact ⟨_, rfl, .inr ⟨⟨_, h1⟩, P1 H1 g2 S2 st2 _ (walk_tup (fun H' g' s => seqT_keep (s.tups _) (s.frzs _) h1) h2)⟩⟩
  · rename_i ns q
    rw [q] at rd
    cases rd with
    | scr h1 => exact ⟨_, rfl, .inl ⟨⟨_, h1.seq⟩, P1 H1 g2 S2 st2 _ (walk_list (fun H' g' s => (h1.stw s).seq) ints_rd)⟩⟩
  · exact P1.elim
theorem small62_of {i : Int} (h : small62 i = true) : -(2 ^ 62) ≤ i ∧ i < 2 ^ 62 := by
  unfold small62 at h
  simp only [Bool.and_eq_true, decide_eq_true_eq] at h
  omega
theorem i_rng1 (G : Good sy cs n Γ X W N sc) (hg : glB sc "range" = true) (hs : notStar l = true) (hA : AE cs Γ C X W a l) : AI cs Γ C X W (.rng1 a) tg (.Call (.Name "range" p1) [l] [] pos) := by
  obtain ⟨h1, h2⟩ := glB_gl G hg
  refine PI.imp (pi_range1 h1 (blt_none G (by decide +kernel)) (pa_cons hA pa_nil (star_cons hs)) (star_cons hs)) ?_
  intro σ H R ⟨H0, g0, g, sl, hp, S, P⟩
  unfold evI at P
  refine ⟨H0, g0, g, sl, hp, S, P.bind (Stp.refl S.hs.nofr) fun r σ1 h1 H1 g1 S1 st1 _ P1 v y => ?_⟩
  split at P1
  · rename_i j
    cases y
    split at P1
    · rename_i hj
      obtain ⟨j1, j2⟩ := small62_of hj
      refine ⟨j, rfl, j1, j2, ?_⟩
      have q := P1 H1 g1 S1 st1 _ (walk_rng (lo := 0) (hi := j))
      rw [Int.sub_zero] at q
      exact q
    · exact P1.elim
  · exact P1.elim
theorem i_rng2 (G : Good sy cs n Γ X W N sc) (hg : glB sc "range" = true) (hs : notStar l = true) (hs2 : notStar r = true) (hA : AE cs Γ C X W a l) (hB : AE cs Γ C X W b r) : AI cs Γ C X W (.rng2 a b) tg (.Call (.Name "range" p1) [l, r] [] pos) := by
  obtain ⟨h1, h2⟩ := glB_gl G hg
  refine PI.imp (pi_range2 h1 (blt_none G (by decide +kernel)) (pa_cons hA (pa_cons hB pa_nil (star_cons hs2)) (star_cons hs)) (by rw [star_cons hs, star_cons hs2]; rfl) (star_cons hs2)) ?_
  intro σ H R ⟨H0, g0, g, sl, hp, S, P⟩
  unfold evI at P
  refine ⟨H0, g0, g, sl, hp, S, P.bind (Stp.refl S.hs.nofr) fun ra σ1 h1 H1 g1 S1 st1 _ P1 v y => ?_⟩
  refine ⟨H0, g0, g1, σ1, h1, S1, P1.bind st1 fun rb σ2 h2 H2 g2 S2 st2 st2' P2 u z => ?_⟩
  split at P2
  · rename_i i j
    cases y
    cases z
    split at P2
    · rename_i hj
      rw [Bool.and_eq_true] at hj
      obtain ⟨i1, i2⟩ := small62_of hj.1
      obtain ⟨j1, j2⟩ := small62_of hj.2
      exact ⟨i, j, rfl, ⟨i1, i2, j1, j2⟩, P2 H2 g2 S2 st2' _ walk_rng⟩
    · exact P2.elim
  · exact P2.elim
theorem i_enu (G : Good sy cs n Γ X W N sc) {elts : List Expr} {kk : Nat} {tpos : Pos} (hg : glB sc "enumerate" = true) (hs : notStar l = true) (hA : AE cs Γ C X W e l) : AI cs Γ C X W (.enu e) (.Tuple elts kk tpos) (.Call (.Name "enumerate" p1) [l] [] pos) := by
  obtain ⟨h1, h2⟩ := glB_gl G hg
  refine PI.imp (pi_enu h1 (blt_none G (by decide +kernel)) (pa_cons hA pa_nil (star_cons hs)) (star_cons hs)) ?_
  intro σ H R ⟨H0, g0, g, sl, hp, S, P⟩
  unfold evI at P
  refine ⟨H0, g0, g, sl, hp, S, P.bind (Stp.refl S.hs.nofr) fun r σ1 h1 H1 g1 S1 st1 _ P1 v y => ?_⟩
  obtain ⟨g2, S2, st2, rd, _⟩ := S1.freeze st1 y fun a ha => S.fresh0 ha
  split at P1
  · rename_i xs q
    rw [q] at rd
    cases rd with
    | lst h1 h2 h3 => exact ⟨_, rfl, .inl ⟨⟨_, SqL.of h1⟩, P1 H1 g2 S2 st2 _ (walk_enl (fun H' g' s => SqL.of (s.froz _ _ h1 h2).2) h3)⟩⟩
  · rename_i xs q
    rw [q] at rd
    cases rd with
    | tup h1 h2 => exact ⟨_, rfl, .inr ⟨⟨_, h1⟩, P1 H1 g2 S2 st2 _ (walk_ent (fun H' g' s => seqT_keep (s.tups _) (s.frzs _) h1) h2)⟩⟩
  · exact P1.elim
end

/-! ### comprehensions -/
section
variable {K : PySem.W.Frag} {cs : Cls0} {g g' g0 : Gh} {H H' H0 : Hp} {σr : L2.St} {σ : List Slot} {h : List Ob} {v : V}
theorem SltR.other {i k : Nat} {z : Slot} {w : Option V} (hk : k ≠ i) (q : SltR K cs H0 σr g H k z) : SltR K cs H0 (σr.set i w) g H k z := by
  cases z with
  | un => trivial
  | v d =>
    obtain ⟨u, e1, r⟩ := q
    exact ⟨u, by rw [List.getElem?_set_ne (Ne.symm hk)]; exact e1, r⟩
  | o xs =>
    obtain ⟨b, us, e1, e2⟩ := q
    exact ⟨b, us, by rw [List.getElem?_set_ne (Ne.symm hk)]; exact e1, e2⟩
  | x c p => trivial
theorem Sim.setv {i : Nat} {d : D} (s : Sim K cs H0 g0 σr H g σ h) (r : RD K g H v d) : Sim K cs H0 g0 (σr.set i (some v)) H g (σ.set i (.v d)) h where
  hs := s.hs
  fr := s.fr
  len := by simpa using s.len
  sl := fun k z e => by
    by_cases hk : k = i
    · subst hk
      have hlt : k < σ.length := by
        have := (List.getElem?_eq_some_iff.mp e).1
        simpa using this
      rw [List.getElem?_set_self hlt] at e
      cases e
      exact ⟨v, List.getElem?_set_self (by rw [s.len]; exact hlt), r⟩
    · rw [List.getElem?_set_ne (Ne.symm hk)] at e
      exact SltR.other hk (s.sl k z e)
theorem Sim.hide {i : Nat} (s : Sim K cs H0 g0 σr H g σ h) : Sim K cs H0 g0 (σr.set i none) H g (σ.set i .un) h where
  hs := s.hs
  fr := s.fr
  len := by simpa using s.len
  sl := fun k z e => by
    by_cases hk : k = i
    · subst hk
      have hlt : k < σ.length := by
        have := (List.getElem?_eq_some_iff.mp e).1
        simpa using this
      rw [List.getElem?_set_self hlt] at e
      cases e
      trivial
    · rw [List.getElem?_set_ne (Ne.symm hk)] at e
      exact SltR.other hk (s.sl k z e)
theorem Sim.unhide {i : Nat} {z0 : Slot} {σ' : List Slot} (s : Sim K cs H0 g0 (σr.set i none) H g (σ'.set i .un) h) (q : SltR K cs H0 σr g H i z0) : Sim K cs H0 g0 σr H g (σ'.set i z0) h where
  hs := s.hs
  fr := s.fr
  len := by have := s.len; simpa using this
  sl := fun k z e => by
    by_cases hk : k = i
    · subst hk
      have hlt : k < σ'.length := by
        have := (List.getElem?_eq_some_iff.mp e).1
        simpa using this
      rw [List.getElem?_set_self hlt] at e
      cases e
      exact q
    · rw [List.getElem?_set_ne (Ne.symm hk)] at e
      have q2 := s.sl k z (by rw [List.getElem?_set_ne (Ne.symm hk)]; exact e)
      have q3 := SltR.other (w := σr.getD i none) hk q2
      cases z with
      | un => trivial
      | v d =>
        obtain ⟨u, e1, r⟩ := q2
        exact ⟨u, by rw [List.getElem?_set_ne (Ne.symm hk)] at e1; exact e1, r⟩
      | o xs =>
        obtain ⟨b, us, e1, e2⟩ := q2
        exact ⟨b, us, by rw [List.getElem?_set_ne (Ne.symm hk)] at e1; exact e1, e2⟩
      | x c p => trivial
theorem plain_slt {i : Nat} {s0 : Slot} (S : Sim K cs H0 g0 σr H g σ h) (q : plainSlot σ[i]? = some s0) : SltR K cs H0 σr g H i s0 ∧ (s0 = .un ∨ ∃ d, s0 = .v d) := by
  cases e : σ[i]? with
  | none => rw [e] at q; cases q
  | some z =>
    rw [e] at q
    cases z with
    | un => cases q; exact ⟨trivial, .inl rfl⟩
    | v d => cases q; exact ⟨S.sl i _ e, .inr ⟨d, rfl⟩⟩
    | o xs => cases q
    | x c p => cases q
theorem SltR.stw {i : Nat} {s0 : Slot} (hp : s0 = .un ∨ ∃ d, s0 = .v d) (q : SltR K cs H0 σr g H i s0) (s : Stw H g H' g') : SltR K cs H0 σr g' H' i s0 := by
  rcases hp with rfl | ⟨d, rfl⟩
  · trivial
  · obtain ⟨v, e, r⟩ := q
    exact ⟨v, e, RD.monoW s r⟩
end
abbrev W0 : WX := fun _ _ _ _ => False
section
variable {sy : Sy} {cs : Cls0} {n : Nat} {Γ : Calls} {C : Cf} {X : Cx} {W : WX} {N : List Str} {sc scope : Scope} {elt c : E} {it : I} {ex iter tx : Expr} {pos pz : Pos} {i : Nat} {z : Str}
theorem good_blk (G : Good sy cs n Γ X W N sc) (s : Shared) (H : Hp) (Ca : Addr) (cl : List (Str × Addr)) (fp : List Addr) : Good sy cs n Γ (X.blk s H scope (compEnvC scope cl Ca X.env) fp) W0 N (relS scope sc) where
  calm := G.calm
  nm := G.nm
  nd := G.nd
  sc := by rw [← G.sc]; rfl
  room := G.room
  tk := takes0
  ok := G.ok
/-- what a turn of the block is: the test, then the item -/
def TurnOk (K : PySem.W.Frag) (cs : Cls0) (f : List Slot → List Ob → Res (Option D)) (tt : TT) (te : TE) : Prop :=
  ∀ (H0 : Hp) (g0 : Gh) (σr : L2.St) (H : Hp) (g : Gh) (σ : List Slot) (h : List Ob) (kk : Option D → List Slot → List Ob → Hp → Gh → Prop) (K1 : VK) (K2 : Hp → Prop), Sim K cs H0 g0 σr H g σ h → Post K cs H0 g0 σr H g W0 (f σ h) kk →
    (∀ d σ h H' g' v, Sim K cs H0 g0 σr H' g' σ h → Stp H g H' g' → kk (some d) σ h H' g' → RD K g' H' v d → K1 v H') → (∀ σ h H' g', Sim K cs H0 g0 σr H' g' σ h → Stp H g H' g' → kk none σ h H' g' → K2 H') →
    tt σr H fun b H' => if b = true then te σr H' (fun y H'' => K1 y H'') else K2 H'
theorem turn_plain : TurnOk X.K cs (fun σ h => (evE Γ C elt σ h).bind fun r σ h => .ok (some r.d) σ h) tYes (tE X.K cs Γ C W0 elt) := by
  intro H0 g0 σr H g σ h kk K1 K2 S P k1 _
  show (if (true : Bool) = true then tE X.K cs Γ C W0 elt σr H (fun y H'' => K1 y H'') else K2 H)
  rw [if_pos rfl]
  refine ⟨H0, g0, g, σ, h, S, P.bind (Stp.refl S.hs.nofr) fun r σ1 h1 H1 g1 S1 st1 _ P1 v y => ?_⟩
  obtain ⟨g2, S2, st2, rd, _⟩ := S1.freeze st1 y fun a ha => S.fresh0 ha
  exact k1 _ _ _ _ _ _ S2 st2 (P1 H1 g2 S2 st2) rd
theorem turn_test : TurnOk X.K cs (fun σ h => (asB (evE Γ C c σ h)).bind fun k σ h => if k then (evE Γ C elt σ h).bind fun r σ h => .ok (some r.d) σ h else .ok none σ h) (tB X.K cs Γ C W0 c) (tE X.K cs Γ C W0 elt) := by
  intro H0 g0 σr H g σ h kk K1 K2 S P k1 k2
  refine ⟨H0, g0, g, σ, h, S, P.bind (Stp.refl S.hs.nofr) fun b σ1 h1 H1 g1 S1 st1 _ P1 => ?_⟩
  cases b with
  | false =>
    rw [if_neg Bool.false_ne_true] at P1 ⊢
    exact k2 _ _ _ _ S1 st1 (P1 H1 g1 S1 st1)
  | true =>
    rw [if_pos rfl] at P1 ⊢
    refine ⟨H0, g0, g1, σ1, h1, S1, P1.bind st1 fun r σ2 h2 H2 g2 S2 st2 st2' P2 v y => ?_⟩
    obtain ⟨g3, S3, st3, rd, _⟩ := S2.freeze st2' (y.base fun a o e => st1.there a o e) fun a ha => S.fresh0 ha
    exact k1 _ _ _ _ _ _ S3 st3 (P2 H2 g3 S3 st3) rd

theorem com_ok {f : List Slot → List Ob → Res (Option D)} {tt : TT} {te : TE} (T : TurnOk X.K cs f tt te) {σr : L2.St} {H : Hp} {Q : VK} {H0 : Hp} {g0 g : Gh} {sl : List Slot} {hp : List Ob} (S : Sim X.K cs H0 g0 σr H g sl hp)
    (P : Post X.K cs H0 g0 σr H g W ((evI Γ C it sl hp).bind fun ds σ h => match plainSlot σ[i]? with
      | some s => (noexc (comL i f ds [] σ h)).bind fun xs σ' h' => .ok (.o xs) (σ'.set i s) h'
      | none => .stuck) (fun r _ _ H' g' => ∀ v, RR X.K H H' g' v r → Q v H')) :
    tLc (tIt X.K cs Γ C W it) (gName i) tt te [i] σr H Q := by
  refine ⟨H0, g0, g, sl, hp, S, P.bind (Stp.refl S.hs.nofr) fun ds σ1 h1 H1 g1 S1 st1 _ P1 J wk D hD => ?_⟩
  cases q : plainSlot σ1[i]? with
  | none => rw [q] at P1; exact P1.elim
  | some s0 =>
    rw [q] at P1
    obtain ⟨sl0, pl0⟩ := plain_slt S1 q
    have hHD : H D = none := none_base st1 hD
    -- what holds ahead of the j-th turn
    let Iv : Nat → Hp → Prop := fun j Hj => ∃ gj σj hj acc avs, Sim X.K cs H0 g0 (σr.set i none) Hj gj (σj.set i .un) hj ∧ SltR X.K cs H0 σr gj Hj i s0 ∧ Hj D = some (.lst avs) ∧ gj.tag D = .free ∧ RDs X.K gj Hj avs acc ∧
      Stw H1 g1 Hj gj ∧ Stp H g Hj gj ∧ Post X.K cs H0 g0 σr H g W ((noexc (comL i f (ds.drop j) acc σj hj)).bind fun xs σ' h' => .ok (.o xs) (σ'.set i s0) h') (fun r _ _ H' g' => ∀ v, RR X.K H H' g' v r → Q v H')
    refine ⟨fun j m Hj => m = ds.length - j ∧ j ≤ ds.length ∧ Iv j Hj, ⟨ds.length, by simp, Nat.zero_le _, g1, σ1, h1, [], [], ?_⟩, ?_⟩
    · have stn := Stp.new (o := .lst []) S1.hs hD
      exact ⟨(S1.new hD).hide, sl0.stw pl0 stn.w, upd_same, S1.hs.nofr D hD, .nil, stn.w, st1.trans stn, P1⟩
    · rintro j m Hj ⟨rfl, hj, gj, σj, hj', acc, avs, Sj, slj, eD, tD, rsj, wj, bj, Pj⟩
      by_cases hlt : j < ds.length
      · refine .inr ⟨wk.go j Hj gj hlt wj, Iv (j + 1), fun H' y => ⟨ds.length - (j + 1), by omega, rfl, hlt, y⟩, fun x H' y => ?_⟩
        obtain ⟨d, ed, hx⟩ := wk.yld j Hj gj x H' wj y hlt
        -- the heap with the item
        obtain ⟨S', fr, rdx⟩ : Sim X.K cs H0 g0 (σr.set i none) H' gj (σj.set i .un) hj' ∧ FrS Hj gj H' gj ∧ RD X.K gj H' x d := by
          rcases hx with ⟨rfl, rd⟩ | ⟨T', y', rfl, hT, rfl, dy, rfl, rdy⟩
          · exact ⟨Sj, FrS.refl, rd⟩
          · exact ⟨Sj.new hT, FrS.new hT, .tup (SqT.of upd_same) (.cons (.int _) (.cons (RD.mono (Stp.new Sj.hs hT) rdy) .nil))⟩
        have stf := Sj.hs.stp fr
        have eD' : H' D = some (.lst avs) := (stf.stay D _ eD (.inl tD)).2
        have Sx := S'.setv (i := i) rdx
        have e1 : (σj.set i Slot.un).set i (.v d) = σj.set i (.v d) := List.set_set ..
        rw [e1] at Sx
        have drop1 : ds.drop j = d :: ds.drop (j + 1) := by
          obtain ⟨hl, he⟩ := List.getElem?_eq_some_iff.mp ed
          rw [List.drop_eq_getElem_cons hl, he]
        rw [drop1] at Pj
        show wipe ((wipe σr [i]).set i (some x)) [i] = wipe σr [i] ∧ tt ((wipe σr [i]).set i (some x)) H' _
        refine ⟨by show ((σr.set i none).set i (some x)).set i none = σr.set i none; rw [List.set_set, List.set_set], ?_⟩
        show tt ((σr.set i none).set i (some x)) H' _
        -- what the turn leaves
        have back : ∀ {σ4 : List Slot} {h4 : List Ob} {H4 : Hp} {g4 : Gh}, Sim X.K cs H0 g0 ((σr.set i none).set i (some x)) H4 g4 σ4 h4 → Sim X.K cs H0 g0 (σr.set i none) H4 g4 (σ4.set i .un) h4 := fun {σ4 h4 H4 g4} S4 => by
          have q := S4.hide (i := i)
          rw [List.set_set, List.set_set] at q
          exact q
        refine T H0 g0 _ H' gj (σj.set i (.v d)) hj' (fun o σ4 h4 H4 g4 => Post X.K cs H0 g0 σr H g W ((noexc (match o with
            | some x => if acc.length < sizeLine then comL i f (ds.drop (j + 1)) (acc ++ [x]) σ4 h4 else .stuck
            | none => comL i f (ds.drop (j + 1)) acc σ4 h4)).bind fun xs σ' h' => .ok (.o xs) (σ'.set i s0) h') (fun r _ _ H' g' => ∀ v, RR X.K H H' g' v r → Q v H'))
          (fun y H4 => ∃ acc, H4 D = some (.lst acc) ∧ acc.length < sizeLine ∧ Iv (j + 1) (upd H4 D (.lst (acc ++ [y])))) (fun H4 => Iv (j + 1) H4) Sx ?_ ?_ ?_
        · -- the turn's own run
          unfold comL at Pj
          cases qf : f (σj.set i (.v d)) hj' with
          | stuck => rw [qf] at Pj; exact Pj.elim
          | exc c p σ4 h4 => rw [qf] at Pj; exact Pj.elim
          | ok o σ4 h4 =>
            rw [qf] at Pj
            exact fun H4 g4 _ _ => Pj
        · intro dy σ4 h4 H4 g4 v S4 st4 P4 rdv
          dsimp only at P4
          split at P4
          · rename_i hz
            have k1 := st4.stay D _ eD' (.inl tD)
            have tD4 : g4.tag D = .free := k1.1.trans tD
            have sw := Stw.free (o' := .lst (avs ++ [v])) tD4 k1.2
            have all := (stf.trans st4).w.trans sw
            refine ⟨avs, k1.2, by rw [rsj.len]; exact hz, g4, σ4, h4, acc ++ [dy], avs ++ [v], ?_, slj.stw pl0 all, upd_same, tD4, (RDs.monoW all rsj).append (.cons (RD.monoW sw rdv) .nil), wj.trans all,
              ((bj.trans stf).trans st4).updNew hHD k1.2, P4⟩
            exact (back S4).mutFree k1.2 tD4 (by
              cases q0 : H0 D with
              | none => rfl
              | some o0 =>
                obtain ⟨o1, z1⟩ := S.fr.there D o0 q0
                rw [hHD] at z1
                cases z1)
          · exact P4.elim
        · intro σ4 h4 H4 g4 S4 st4 P4
          have k1 := st4.stay D _ eD' (.inl tD)
          have all := (stf.trans st4).w
          exact ⟨g4, σ4, h4, acc, avs, back S4, slj.stw pl0 all, k1.2, k1.1.trans tD, RDs.monoW all rsj, wj.trans all, (bj.trans stf).trans st4, P4⟩
      · have ej : j = ds.length := by omega
        subst ej
        refine .inl ⟨wk.stop _ Hj gj (Nat.le_refl _) wj, ?_⟩
        rw [List.drop_length] at Pj
        exact Pj Hj gj (Sj.unhide slj) bj (.ref D) ⟨D, avs, rfl, hHD, eD, tD, rsj⟩
theorem notSet_fold (h : notSet iter = true) (env : Env) : ∀ v, foldedSetIterable iter env v = pure v := by
  intro v
  cases iter <;> first | rfl | cases h
theorem k_com (G : Good sy cs n Γ X W N sc) (hi : N[i]? = some z) (hl : (relS scope sc).names.lookup z = some .local) (hb : blkC N sc scope [(z, i)] = true) (hset : notSet iter = true) (hI : AI cs Γ C X W it (.Name z pz) iter)
    (hE : ∀ X', X'.K = X.K → Good sy cs n Γ X' W0 N (relS scope sc) → AE cs Γ C X' W0 elt ex) : AE cs Γ C X W (.com i elt it) (.ListComp ex [⟨.Name z pz, iter, [], 0⟩] scope pos) := by
  have ok : BlkOk X.N X.env.scope scope [(z, i)] := by
    rw [G.nm, G.sc]
    exact blkOk_by hb
  refine PE.imp (pe_lc (own := [(z, i)]) (tt := tYes) (te := tE X.K cs Γ C W0 elt) G.calm G.nd hI ok (fun s H Ca cl fp => pg_name G.nd (by rw [G.nm]; exact hi) (.inl (by rw [(good_blk G s H Ca cl fp).sc]; exact hl)) (.inr (by rw [(good_blk G s H Ca cl fp).sc]; exact hl)))
    (fun s H Ca cl fp => pts_nil) (fun s H Ca cl fp => hE _ rfl (good_blk G s H Ca cl fp)) (notSet_fold hset X.env)) ?_
  intro σ H Q ⟨H0, g0, g, sl, hp, S, P⟩
  unfold evE at P
  exact com_ok turn_plain S P
theorem k_comf (G : Good sy cs n Γ X W N sc) (hi : N[i]? = some z) (hl : (relS scope sc).names.lookup z = some .local) (hb : blkC N sc scope [(z, i)] = true) (hset : notSet iter = true) (hI : AI cs Γ C X W it (.Name z pz) iter)
    (hE : ∀ X', X'.K = X.K → Good sy cs n Γ X' W0 N (relS scope sc) → AE cs Γ C X' W0 elt ex) (hC : ∀ X', X'.K = X.K → Good sy cs n Γ X' W0 N (relS scope sc) → AT cs Γ C X' W0 c tx) :
    AE cs Γ C X W (.comf i elt it c) (.ListComp ex [⟨.Name z pz, iter, [tx], 0⟩] scope pos) := by
  have ok : BlkOk X.N X.env.scope scope [(z, i)] := by
    rw [G.nm, G.sc]
    exact blkOk_by hb
  refine PE.imp (pe_lc (own := [(z, i)]) (tt := tB X.K cs Γ C W0 c) (te := tE X.K cs Γ C W0 elt) G.calm G.nd hI ok (fun s H Ca cl fp => pg_name G.nd (by rw [G.nm]; exact hi) (.inl (by rw [(good_blk G s H Ca cl fp).sc]; exact hl)) (.inr (by rw [(good_blk G s H Ca cl fp).sc]; exact hl)))
    (fun s H Ca cl fp => pts_one (hC _ rfl (good_blk G s H Ca cl fp))) (fun s H Ca cl fp => hE _ rfl (good_blk G s H Ca cl fp)) (notSet_fold hset X.env)) ?_
  intro σ H Q ⟨H0, g0, g, sl, hp, S, P⟩
  unfold evE at P
  exact com_ok turn_test S P
end
end Pm

set_option Elab.async false
set_option linter.all false
set_option maxRecDepth 100000
set_option maxHeartbeats 4000000
/-! The pure machine: a set made of a list of ints. -/
namespace Pm
open PySem PySem.Spec PyProof.Rows L2
/-- a new, empty set -/
abbrev NewS (w : World) : Obj := { cls := .type "set", dict := none, data := .set #[] 0 (.fresh 0 0 (!w.params.followText "set-order")) }
section
variable {P : Program} {w : World} {A : Around} {E : Value → Shared → Prop} {s : Shared}
theorem set_lst {l : Addr} {its : Array Value} (ns : List Int) {Q : Value → Shared → Prop} (hh : A.handled = none) (hl : s.heap.IsList l its) (hi : IntsAre its.toList ns) (hb : ns.length + 1 < scanBound)
    (h : ∀ (h2 : Heap) (tk c : Nat), SetR w h2 s.heap.objs.size (fun j => decide (j ∈ ns)) c → (∀ b o, s.heap.get? b = some o → h2.get? b = some o) → Q (.ref s.heap.objs.size) { s with heap := h2, toks := tk }) :
    wpAny (model P w) A (call (.type "set") [.ref l]) Q E s := by
  have el : its.size = ns.length := by simpa using hi.length
  obtain ⟨cc, tl, hmro⟩ := F.called_set.mro
  have m1 := F.called_set.made
  have m2 := F.called_set.sub
  refine wpAny_call (codeAny_of_tree (show wpAny _ _ (callAny (.type "set") _) _ _ _ from ?_))
  refine wpAny_pure ⟨Code.quiet_builtin _ (by decide +kernel), codeAny_builtin F.entry_type_call ?_⟩
  rw [Around.under_plain (weight_type_call_type "set" [.ref l] []) rfl]
  have n1 := F.called_set.notType
  have n2 := F.called_set.canCreate
  have n3 := F.typeCall_set_1 (.ref l)
  repeat (any_goals (first | assumption | wp_step))
  refine codeAny_mono (code_set_led1 (.ref l) (E := E) (Q₁ := fun o t => o = .ref s.heap.objs.size ∧ t = { s with heap := s.heap.push (NewS w) }) ⟨rfl, rfl⟩) fun r t hr => ?_
  cases r with
  | error e => exact hr
  | ok fl =>
    cases fl with
    | ret ob =>
      obtain ⟨rfl, rfl⟩ := hr
      have g0 : (s.heap.push (NewS w)).get? s.heap.objs.size = some (NewS w) := Heap.get?_push_size _ rfl
      have ty0 : Shared.TypeIs { s with heap := s.heap.push (NewS w) } (.ref s.heap.objs.size) "set" := ⟨_, g0, rfl⟩
      have i1 := F.called_set.init.lookup
      have i2 := F.called_set.init.bind (.ref s.heap.objs.size)
      repeat (any_goals (first | assumption | wp_step))
      refine codeAny_mono (codeAny_call_builtin (R := wants (fun r t => r = .none ∧ ∃ h2 tk c, t = { s with heap := h2, toks := tk } ∧ SetR w h2 s.heap.objs.size (fun j => decide (j ∈ ns)) c ∧ (∀ b o, s.heap.get? b = some o → h2.get? b = some o)) E)
        F.called_set.init.plain F.entry_set_init (check_set_init_1 ty0 ?_)) fun r2 t2 hr2 => ?_
      · obtain ⟨ol, hol, hc, nl, hd⟩ := hl
        obtain ⟨oc, od, dt, osl⟩ := ol
        simp only at hc hd
        subst hc; subst hd
        have hol2 : (s.heap.push (NewS w)).get? l = some { cls := .type "list", dict := od, data := .seq its nl, slots := osl } := Heap.get?_push_of_some _ hol
        have s1 := F.sub_list_set
        have s2 := F.sub_list_frozenset
        have s3 : (Value.type "list" == Value.type "dict") = false := by decide
        have l1 : (s.heap.push (NewS w)).IsList l its := ⟨_, hol2, rfl, nl, rfl⟩
        unfold Builtin.«set.__init__» noKeywords Builtin.Frozenset.updateFrom
        generalize hI : pyIter = PI
        wp_walk
        subst hI
        refine wpAny_pyIter_list l1 (wpAny_bind (wpAny_runValue ?_))
        have lS : l < s.heap.objs.size := Heap.lt_size hol
        have h3 : A.in1.in1.in1.handled = none := by simp [hh]
        have z1 : (s.heap.push (NewS w)).objs.size = s.heap.objs.size + 1 := Heap.size_push ..
        have nI : l ≠ (s.heap.push (NewS w)).objs.size := by rw [z1]; exact Nat.ne_of_lt (Nat.lt_succ_of_lt lS)
        have nS : s.heap.objs.size ∉ [(s.heap.push (NewS w)).objs.size, l] := by
          rw [z1]
          simp only [List.mem_cons, List.not_mem_nil, or_false, not_or]
          exact ⟨Nat.ne_of_lt (Nat.lt_succ_self _), Nat.ne_of_gt lS⟩
        have val : ∀ (i : Nat) (v : Value), its[i]? = some v → ∃ k t, ns[i]? = some k ∧ v = .int k t := fun i v hv => by
          have hlt : i < ns.length := by rw [← el]; exact (Array.getElem?_eq_some_iff.mp hv).1
          obtain ⟨t, e⟩ := IntsAre.int_at hi i v (by rw [Array.getElem?_toList]; exact hv)
          exact ⟨ns[i], t, List.getElem?_eq_getElem hlt, by rw [e]; simp [List.getD_eq_getElem?_getD, List.getElem?_eq_getElem hlt]⟩
        refine set_update_ints ((Walks.list h3 _ l nI its).toS) s.heap.objs.size nS ns el hb val (its.size - 0) 0 _ (by omega) (Nat.zero_le _) ⟨⟨_, Heap.get?_push_size _ rfl, rfl, rfl⟩, (l1.push _)⟩ ?sa ?sb
        case sa => exact ⟨0, Nat.le_refl 0, setR_new_at (Heap.get?_push_of_some _ g0)⟩
        case sb =>
          intro t c mv _ R
          obtain ⟨h2, g2, d2, k2, o2⟩ := t
          obtain rfl : g2 = s.gens := mv.gens
          obtain rfl : d2 = s.drawn := mv.drawn
          obtain rfl : o2 = s.os := mv.os
          show wpAny _ _ _ _ _ _
          refine wpAny_pure ?_
          show wpAny _ _ (ret Value.none) _ _ _
          refine wpAny_pure ⟨rfl, h2, k2, c, rfl, R, fun b o e => ?_⟩
          have hb0 : b < s.heap.objs.size := Heap.lt_size e
          refine mv.heap b o ?_ (Heap.get?_push_of_some _ (Heap.get?_push_of_some _ e))
          have hb1 : b ≠ (s.heap.push (NewS w)).objs.size := by rw [z1]; exact Nat.ne_of_lt (Nat.lt_succ_of_lt hb0)
          simp only [List.mem_cons, List.not_mem_nil, or_false, not_or]
          exact ⟨Nat.ne_of_lt hb0, hb1⟩
      · cases r2 with
        | error e => exact hr2
        | ok f2 =>
          cases f2 with
          | ret r =>
            obtain ⟨rfl, h2, tk, c, rfl, R, kp⟩ := hr2
            repeat (any_goals (first | assumption | wp_step))
            exact h _ _ _ R kp
          | _ => exact hr2.elim
    | _ => exact hr.elim
end
theorem setR_num {w : World} {h : Heap} {a : Addr} {ns : List Int} {c : Nat} (R : SetR w h a (fun j => decide (j ∈ ns)) c) : c = (dedup ns).length := by
  obtain ⟨o, es, ep, t, _, _, _, _, nd, hm, _, _, hn, _⟩ := R
  have p : (es.toList.map keyOf).Perm (dedup ns) := nd_perm nd (dedup_nd ns) fun k => by
    rw [dedup_mem, ← hm k]
    exact decide_eq_true_iff
  rw [← p.length_eq, List.length_map, Array.length_toList, hn]
def rSetL (X : Cx) : List V → Hp → VK → Prop := fun xs H Q => ∃ (l : Addr) (ns : List Int), xs = [.ref l] ∧ SqL X.K H l (ns.map V.int) ∧ ns.length + 1 < scanBound ∧ ∀ p, H p = none → Q (.ref p) (upd H p (SetO X.w p (fun j => decide (j ∈ ns)) (dedup ns).length))
theorem cr_setL {X : Cx} (hc : X.calm = true) : CallR X (.type "set") (rSetL X) := by
  intro pins s σ H xs us Q I r h
  obtain ⟨l, ns, rfl, hl, hb, q⟩ := h
  obtain ⟨its, rv, pl, hz⟩ := I.list hl
  rw [Vals.ref1 r]
  refine set_lst ns (I.ok.hd hc) pl.isList (by simpa using rv.ints) hb fun h2 tk c R kp => ?_
  have ec := setR_num R
  subst ec
  exact ⟨.ref _, upd H s.heap.objs.size (SetO X.w s.heap.objs.size (fun j => decide (j ∈ ns)) (dedup ns).length), I.laid kp (Nat.le_refl _) (setO_new R), rfl, q _ (I.hok.fresh (Nat.le_refl _))⟩
end Pm

set_option Elab.async false
set_option linter.all false
set_option maxRecDepth 100000
set_option maxHeartbeats 4000000
/-! The pure machine: objects of the text's own class; list(range), sorted(set). -/
namespace Pm
open PySem PySem.Spec L2
section
variable {X : Cx} {k : Nat} {E : L2.St → XK} {m z : Str} {p apos pos : Pos} {o e : Expr} {es : List Expr} {ta : TE} {t : TA} {C f : Addr} {fd : FuncData} {ps : List Str} {sp : Sp}
/-- o.m(..), the method found by what the object is -/
def tMetD (X : Cx) (k : Nat) (m : Str) (E : L2.St → XK) (ta : TE) (t : TA) : TE := fun σ H Q => ta σ H fun x H1 => ∃ a C dx fs f fd ps sp, x = .ref a ∧ H1 a = some (.ins C dx fs) ∧ fs.lookup m = none ∧ Cls X.K C ∧ Meth X.K C m f ∧
  FnOk X.prog X.w X.K X.mg X.base (L2.CX X.prog X.w) k f fd ps sp ∧ Binds X.K fd ps [] ∧ t σ H1 fun vs H2 => sp (x :: vs) H2 Q (E σ)
theorem pe_metD {pl : Sem Bool} (he : PE X o ta) (hr : Room k X.A) (hx : ∀ σ, PassesAt (L2.CX X.prog X.w) X σ (E σ)) (ha : PA X (e :: es) t) (hst : starEach (e :: es) X.env = (false, eval e X.env) :: starEach es X.env) (hpl : (backTo pos (starEach es X.env)).any (·.1) = false)
    (ht : eval (.Call (.Attribute o m apos) (e :: es) [] pos) X.env = (do
      let ov ← eval o X.env
      standAt apos.atName
      let (f, first) ← holding [ov] (getMethod ov m pl)
      callWith pos f first (backTo pos (starEach (e :: es) X.env)) (backToKw pos (keywordEach [] X.env)))) : PE X (.Call (.Attribute o m apos) (e :: es) [] pos) (tMetD X k m E ta t) := by
  constructor
  intro pins s σ H Q I h
  refine PySem.W.methodCall_KW (pl := pl) (thn (he.run pins s σ H _ I h) fun u s1 ⟨x, H1, I1, rx, a, C, dx, fs, f, fd, ps, sp, ex, ea, l, c, hm, F, hb, q⟩ => ?_) ht
  subst ex
  have eu : u = Value.ref a := rx
  subst eu
  refine getmeth_ok I1 ea c hm l ?_
  refine PySem.W.callWith_K (first := [.ref a]) (h₀ := X.base) I.ok.mod.kin hm.kp (thn (ha.run pos pins s1 σ H1 _ I1 q) fun us s2 ⟨vs, H2, I2, r, q2⟩ => ⟨I2.kIn, run_fnS (us := .ref a :: us) (vs := .ref a :: vs) F hr hb (hx σ) I2 (.cons rfl r) q2⟩) hst hpl
theorem pe_metD0 {pl : Sem Bool} (he : PE X o ta) (hr : Room k X.A) (hx : ∀ σ, PassesAt (L2.CX X.prog X.w) X σ (E σ))
    (ht : eval (.Call (.Attribute o m apos) [] [] pos) X.env = (do
      let ov ← eval o X.env
      standAt apos.atName
      let (f, first) ← holding [ov] (getMethod ov m pl)
      callWith pos f first (backTo pos (starEach [] X.env)) (backToKw pos (keywordEach [] X.env)))) : PE X (.Call (.Attribute o m apos) [] [] pos) (tMetD X k m E ta tNil) := by
  constructor
  intro pins s σ H Q I h
  refine PySem.W.methodCall_KW (pl := pl) (thn (he.run pins s σ H _ I h) fun u s1 ⟨x, H1, I1, rx, a, C, dx, fs, f, fd, ps, sp, ex, ea, l, c, hm, F, hb, q⟩ => ?_) ht
  subst ex
  have eu : u = Value.ref a := rx
  subst eu
  refine getmeth_ok I1 ea c hm l ?_
  exact PySem.W.callWith_K0 (first := [.ref a]) I1.kIn hm.kp (run_fnS (us := [.ref a]) (vs := [.ref a]) F hr hb (hx σ) I1 (.cons rfl .nil) q)
/-- C(..), what is raised wished for at the caller's slots -/
def tMakS (C : Addr) (sp : Sp) (E : L2.St → XK) (t : TA) : TE := fun σ H Q => t σ H fun vs H1 => ∀ x dx, H1 x = none → H1 dx = none → dx ≠ x → sp (.ref x :: vs) (upd (upd H1 dx (.own x)) x (.ins C dx [])) (fun v H2 => v = .non ∧ Q (.ref x) H2) (E σ)
theorem pe_makS (M : Mk X.K C f) (F : FnOk X.prog X.w X.K X.mg X.base (L2.CX X.prog X.w) k f fd ps sp) (hr : Room (k + 1) X.A) (hg : Gl X z) (hm : X.mg z = some (.ref C)) (hb : Binds X.K fd ps []) (hx : ∀ σ, PassesAt (L2.CX X.prog X.w) X σ (E σ))
    (ha : PA X (e :: es) t) (hdb : (z == ("__debug__" : Str)) = false) (he : starEach (e :: es) X.env = (false, eval e X.env) :: starEach es X.env) (hpl : (backTo pos (starEach es X.env)).any (·.1) = false) : PE X (.Call (.Name z p) (e :: es) [] pos) (tMakS C sp E t) := by
  constructor
  intro pins s σ H Q I h
  refine wpAny_Call_Name_kw (ld_glob I hg hm ?_ hdb)
  refine PySem.W.callWith_K (h₀ := X.base) I.ok.mod.kin M.kp (thn (ha.run pos pins s σ H _ I h) fun us s1 ⟨vs, H1, I1, r, q⟩ => ⟨I1.kIn, ?_⟩) he hpl
  have q1 := q (s1.heap.objs.size + 1) s1.heap.objs.size (I1.hok.fresh (Nat.le_succ _)) (I1.hok.fresh (Nat.le_refl _)) (Nat.ne_of_lt (Nat.lt_succ_self _))
  have J := Inv.made (C := C) I1
  have rs : Vals (V.ref (s1.heap.objs.size + 1) :: vs) (Value.ref (s1.heap.objs.size + 1) :: us) := .cons rfl r
  have hl : (Value.ref (s1.heap.objs.size + 1) :: us).length = ps.length := by
    rw [← rs.length]
    exact F.len _ _ _ _ q1
  have hb1 := hb _ (Value.ref (s1.heap.objs.size + 1) :: us) J.kIn (by rw [List.append_nil]; exact hl)
  rw [List.append_nil] at hb1
  refine wpAny_call (make_map (f := f) I1.kIn M.makes M.init (beq_iff_eq.mp M.fn) (codeAny_mono (F.run _ X.stack _ _ ⟨Value.ref (s1.heap.objs.size + 1) :: us, []⟩ _ _ _ (E σ) (hr.make C us []) (J.env0.make C us []) hb1 rs q1) fun res s2 hq => ?_))
  cases res with
  | error e => exact hx σ pins _ _ e s2 J hq
  | ok fl =>
    cases fl with
    | ret u =>
      obtain ⟨v, H2, I3, rv, ev, q3⟩ := J.after hq
      subst ev
      exact ⟨rv, ⟨V.ref (s1.heap.objs.size + 1), H2, I3, rfl, q3⟩⟩
    | next => exact False.elim hq
    | brk => exact False.elim hq
    | cont => exact False.elim hq
end

section
variable {K : PySem.W.Frag} {cs : Cls0} {g g' g0 gb : Gh} {H H' H0 Hb : Hp} {σr : L2.St} {σ : List Slot} {h : List Ob} {a : Addr}
/-- a list that nobody else holds is tagged, by whatever tag -/
theorem Sim.retagF {t : Tag} {vs : List V} (s : Sim K cs H0 g0 σr H g σ h) (ht : g.tag a = .free) (e : H a = some (.lst vs)) (e0 : H0 a = none) : Sim K cs H0 g0 σr H (g.set a t) σ h := by
  have ht' : g.tag a ≠ .froz := by rw [ht]; intro z; cases z
  have ho : nob (g.tag a) = true := by rw [ht]; rfl
  refine ⟨⟨s.hs.len, fun j ob z => ?_, fun b z => ?_, fun b o z h1 h2 => ?_⟩, s.fr.retag e0, s.len, fun i x z => ?_⟩
  · obtain ⟨b, e1, e2, x⟩ := s.hs.ob j ob z
    have hb : b ≠ a := fun q => by rw [q, ht] at e2; cases e2
    refine ⟨b, e1, by rw [Gh.set_ne hb]; exact e2, ?_⟩
    cases ob with
    | lst xs =>
      obtain ⟨us, q, r⟩ := x
      exact ⟨us, q, RDs.retag ht' r⟩
    | ins c fs =>
      obtain ⟨dx, fv, q, r⟩ := x
      exact ⟨dx, fv, q, r.retag ht' ho⟩
  · rw [Gh.set_ne (fun q => by rw [q, e] at z; cases z)]
    exact s.hs.nofr b z
  · rw [Gh.set_ne (fun q => by rw [q, e] at z; cases z; exact h1 _ rfl)]
    exact s.hs.shp b o z h1 h2
  · have q := s.sl i x z
    cases x with
    | un => trivial
    | v d =>
      obtain ⟨v, e1, r⟩ := q
      exact ⟨v, e1, r.retag ht'⟩
    | o xs =>
      obtain ⟨b, us, e1, e2, e3, e4, r⟩ := q
      refine ⟨b, us, e1, e2, ?_, e4, RDs.retag ht' r⟩
      rw [Gh.set_ne (fun q => by rw [q, ht] at e3; cases e3)]
      exact e3
    | x c p => trivial
theorem FsR.look {j : Nat} {fv : List (Str × V)} {fs : List (Str × R)} (x : FsR K g H j fv fs) {f : Str} {r : R} (e : fs.lookup f = some r) : ∃ v, fv.lookup f = some v ∧ FR K g H j f v r := by
  induction x with
  | nil => cases e
  | @cons f2 v2 r2 fv2 fs2 x _ ih =>
    rw [List.lookup_cons] at e ⊢
    by_cases q : f = f2
    · subst q
      rw [beq_self_eq_true] at e ⊢
      cases e
      exact ⟨_, rfl, x⟩
    · have q' : (f == f2) = false := by simpa using q
      rw [q'] at e ⊢
      exact ih e
theorem FsR.lookN {j : Nat} {fv : List (Str × V)} {fs : List (Str × R)} (x : FsR K g H j fv fs) {f : Str} (e : fs.lookup f = none) : fv.lookup f = none := by
  induction x with
  | nil => rfl
  | @cons f2 v2 r2 fv2 fs2 x _ ih =>
    rw [List.lookup_cons] at e ⊢
    by_cases q : f = f2
    · subst q
      rw [beq_self_eq_true] at e
      cases e
    · have q' : (f == f2) = false := by simpa using q
      rw [q'] at e ⊢
      exact ih e
theorem FsR.lenE {j : Nat} {fv : List (Str × V)} {fs : List (Str × R)} (x : FsR K g H j fv fs) : fv.length = fs.length := by
  induction x with
  | nil => rfl
  | cons x _ ih => exact congrArg (· + 1) ih
theorem FsR.put {j : Nat} {fv : List (Str × V)} {fs : List (Str × R)} (x : FsR K g H j fv fs) {f : Str} {v : V} {r : R} (y : FR K g H j f v r) : FsR K g H j (putF f v fv) (putR f r fs) := by
  induction x with
  | nil => exact .cons y .nil
  | @cons f2 v2 r2 fv2 fs2 x xs ih =>
    by_cases q : f2 = f
    · subst q
      unfold putF putR
      simp only [if_true]
      exact .cons y xs
    · unfold putF putR
      simp only [if_neg q]
      exact .cons x ih
/-- a field's list is written: the other fields stand -/
theorem FsR.monoF {j : Nat} {fv : List (Str × V)} {fs : List (Str × R)} (t : Stp H g H' g) (x : FsR K g H j fv fs) (k : ∀ p ∈ fs, ∀ xs, p.2 = .o xs → ∀ b vs, H b = some (.lst vs) → g.tag b = .fld j p.1 → H' b = some (.lst vs)) : FsR K g H' j fv fs := by
  induction x with
  | nil => exact .nil
  | @cons f2 v2 r2 fv2 fs2 x xs ih =>
    refine .cons ?_ (ih fun p hp => k p (List.mem_cons_of_mem _ hp))
    cases r2 with
    | v d => exact RD.mono t x
    | o ys =>
      obtain ⟨b, vs, e, e1, e2, r⟩ := x
      exact ⟨b, vs, e, k _ List.mem_cons_self ys rfl b vs e1 e2, e2, RDs.mono t r⟩
/-- a new object, tracked -/
theorem HSim.made {c : Nat} {x dx : Addr} (s : HSim K cs H g h) (hx : H x = none) (hd : H dx = none) (hne : dx ≠ x) : ∃ g', HSim K cs (upd (upd H dx (.own x)) x (.ins cs.own dx [])) g' (h ++ [.ins c []]) ∧ FrS H g (upd (upd H dx (.own x)) x (.ins cs.own dx [])) g' ∧ g'.rho = g.rho ++ [x] := by
  have up : ∀ b u, H b = some u → upd (upd H dx (.own x)) x (.ins cs.own dx []) b = some u := fun b u e => by
    rw [upd_ne (ne_of_none e hx), upd_ne (ne_of_none e hd)]
    exact e
  have tagx := s.nofr x hx
  have st : Stp H g (upd (upd H dx (.own x)) x (.ins cs.own dx [])) ⟨(g.set x (.obj h.length)).tag, g.rho ++ [x]⟩ :=
    ⟨⟨[x], rfl⟩, fun b u e => ⟨u, up b u e⟩, fun b u e z => ⟨Gh.set_ne (ne_of_none e hx), up b u e⟩, fun b j e => by
      show (g.set x _).tag b = _
      rw [Gh.set_ne (fun q => by rw [q, tagx] at e; cases e)]; exact e, fun b j f e => by
      show (g.set x _).tag b = _
      rw [Gh.set_ne (fun q => by rw [q, tagx] at e; cases e)]; exact e, fun b ys e => up b _ e, fun b o u e => up b _ e, s.nofr⟩
  refine ⟨⟨(g.set x (.obj h.length)).tag, g.rho ++ [x]⟩, ⟨by simp [s.len], fun j ob e => ?_, fun b e => ?_, fun b o e h1 h2 => ?_⟩, ⟨⟨[x], rfl⟩, fun b u e => ⟨u, up b u e⟩, fun b u e => Gh.set_ne (ne_of_none e hx), fun b u e _ => up b u e⟩, rfl⟩
  · by_cases hj : j < h.length
    · rw [List.getElem?_append_left hj] at e
      obtain ⟨b, f1, f2, y⟩ := s.ob j ob e
      have hb : b ≠ x := fun q => by rw [q, tagx] at f2; cases f2
      exact ⟨b, by rw [List.getElem?_append_left (by rw [s.len]; exact hj)]; exact f1, (Gh.set_ne hb).trans f2, y.mono st (fun o z => up b o z) fun c vs f z _ => up c _ z⟩
    · have hj' : j = h.length := by
        have := (List.getElem?_eq_some_iff.mp e).1
        simp at this
        omega
      subst hj'
      rw [List.getElem?_append_right (Nat.le_refl _)] at e
      simp at e
      subst e
      refine ⟨x, ?_, Gh.set_same, dx, [], upd_same, .nil⟩
      rw [← s.len, List.getElem?_append_right (Nat.le_refl _)]
      simp
  · show (g.set x _).tag b = _
    have hb : b ≠ x := fun q => by rw [q, upd_same] at e; cases e
    rw [Gh.set_ne hb]
    rw [upd_ne hb] at e
    by_cases q : b = dx
    · rw [q, upd_same] at e; cases e
    · rw [upd_ne q] at e
      exact s.nofr b e
  · show (g.set x _).tag b = _
    have hb : b ≠ x := fun q => by
      rw [q, upd_same] at e
      cases e
      exact h2 _ _ _ rfl
    rw [Gh.set_ne hb]
    rw [upd_ne hb] at e
    by_cases q : b = dx
    · rw [q]; exact s.nofr dx hd
    · rw [upd_ne q] at e
      exact s.shp b o e h1 h2
theorem rds_map {α : Type} {f : α → V} {f2 : α → D} : ∀ {l : List α}, (∀ a ∈ l, RD K g H (f a) (f2 a)) → RDs K g H (l.map f) (l.map f2)
  | [], _ => .nil
  | a :: l, q => .cons (q a List.mem_cons_self) (rds_map fun b hb => q b (List.mem_cons_of_mem _ hb))
end

section
variable {sy : Sy} {cs : Cls0} {n : Nat} {Γ : Calls} {X : Cx} {W : WX} {N : List Str} {sc : Scope} {e a b : E} {x l r : Expr} {pos p1 p2 p3 p4 p5 spos : Pos} {es : Es} {xs : List Expr} {i : Nat} {z f m : Str} {C : Cf}
theorem k_lrange (G : Good sy cs n Γ X W N sc) (hg : glB sc "list" = true) (hg2 : glB sc "range" = true) (hs : notStar l = true) (hA : AD cs Γ C X W a l) : AE cs Γ C X W (.fn1 .lrange a) (.Call (.Name "list" p1) [.Call (.Name "range" p2) [l] [] p3] [] pos) := by
  refine PE.imp (pe_listRg G.calm (glB_gl G hg).1 (blt_none G (by decide +kernel)) (prg_1 (glB_gl G hg2).1 (blt_none G (by decide +kernel)) hA (star_cons hs))) ?_
  intro σ H Q ⟨H0, g0, g, sl, hp, S, P⟩
  unfold evE at P
  refine one_ok S P fun oa σ1 h1 H1 g1 v S1 st1 o1 P1 => ?_
  cases q1 : cont σ1 h1 oa with
  | none => simp only [q1] at P1; exact P1.elim
  | some c =>
    simp only [q1] at P1
    cases q3 : fn1 .lrange c with
    | none => simp only [q3, retR] at P1; exact P1.elim
    | some res =>
      simp only [q3, retR] at P1
      obtain ⟨k, rfl⟩ : ∃ k, c = .int k := by cases c <;> first | exact ⟨_, rfl⟩ | cases q3
      have q4 : (if small62 k && decide (k.toNat ≤ sizeLine) then some (R.o (rangeL 0 k)) else none) = some res := q3
      split at q4
      · rename_i hk
        cases q4
        unfold small62 at hk
        simp only [Bool.and_eq_true, decide_eq_true_eq] at hk
        have hz : sizeLine = 2 ^ 24 := by decide
        refine ⟨k, (CR.of S1 q1 o1).int, ⟨by decide, by decide, by omega, by omega, by omega⟩, ?_⟩
        exact new_lst S1 st1 (rds_map fun j _ => .int _) (Fin.of P1)
      · cases q4
theorem k_sset (G : Good sy cs n Γ X W N sc) (hg : glB sc "sorted" = true) (hg2 : glB sc "set" = true) (hs : notStar l = true) (hA : AD cs Γ C X W a l) : AE cs Γ C X W (.fn1 .sset a) (.Call (.Name "sorted" p1) [.Call (.Name "set" p2) [l] [] p3] [] pos) := by
  have inner : PE X (.Call (.Name "set" p2) [l] [] p3) _ := call_one G hg2 (fv := .type "set") (by decide +kernel) (by decide +kernel) (.inr ⟨_, rfl⟩) (by decide +kernel) hs hA
  refine PE.imp (call_one G hg (fv := .builtin "sorted") (by decide +kernel) (by decide +kernel) (.inl ⟨_, rfl⟩) (by decide +kernel) rfl inner) ?_
  intro σ H Q ⟨H0, g0, g, sl, hp, S, P⟩
  unfold evE at P
  refine one_ok S P fun oa σ1 h1 H1 g1 v S1 st1 o1 P1 => ?_
  cases q1 : cont σ1 h1 oa with
  | none => simp only [q1] at P1; exact P1.elim
  | some c =>
    simp only [q1] at P1
    cases q3 : fn1 .sset c with
    | none => simp only [q3, retR] at P1; exact P1.elim
    | some res =>
      simp only [q3, retR] at P1
      obtain ⟨ys, rfl⟩ : ∃ ys, c = .lst ys := by cases c <;> first | exact ⟨_, rfl⟩ | cases q3
      have q4 : ((intsD ys).bind fun ns => if ns.length + 1 < scanBound ∧ (dedup ns).length < 64 then some (R.o ((sortI (dedup ns)).map D.int)) else none) = some res := q3
      cases q5 : intsD ys with
      | none => rw [q5] at q4; cases q4
      | some ns =>
        rw [q5] at q4
        have q6 : (if ns.length + 1 < scanBound ∧ (dedup ns).length < 64 then some (R.o ((sortI (dedup ns)).map D.int)) else none) = some res := q4
        split at q6
        · rename_i hk
          cases q6
          obtain ⟨ad, vs, rfl, e1, r1⟩ := (CR.of S1 q1 o1).lst
          have e2 := ints_vs q5 r1
          subst e2
          refine ⟨_, cr_setL G.calm, ad, ns, rfl, SqL.of e1, hk.1, fun p hp => ?_⟩
          refine ⟨_, cr_sortedSet G.calm, p, _, _, rfl, upd_same, hk.2, fun ms q hs hm hl hq => ?_⟩
          have em : ms = sortI (dedup ns) := by
            have le : ms.Pairwise (· ≤ ·) := hs.imp fun h => Int.le_of_lt h
            have nd : ms.Nodup := hs.imp fun h e => by omega
            exact srt_one le (sortI_srt _) ((nd_perm nd (dedup_nd ns) fun k => by rw [hm k, dedup_mem]; exact decide_eq_true_iff).trans (sortI_perm _).symm)
          subst em
          exact new_lst (S1.new hp) (st1.trans (Stp.new S1.hs hp)) (rds_map fun j _ => .int _) (Fin.of P1) q hq
        · cases q6
/-- a field's value -/
theorem fld_at {H0 H : Hp} {g0 g : Gh} {σr : L2.St} {sl : List Slot} {hp : List Ob} {j c : Nat} {fs : List (Str × R)} (S : Sim X.K cs H0 g0 σr H g sl hp) (q : sl[i]? = some (.v (.ref j))) (qo : hp[j]? = some (.ins c fs)) :
    ∃ a dx fv, σr[i]? = some (some (.ref a)) ∧ g.rho[j]? = some a ∧ g.tag a = .obj j ∧ H a = some (.ins cs.own dx fv) ∧ FsR X.K g H j fv fs := by
  obtain ⟨v, e1, rd⟩ := S.sl i _ q
  obtain ⟨a, r1, t1, dx, fv, e2, fr⟩ := S.hs.ob j _ qo
  cases rd with
  | ref r2 =>
    rw [r1] at r2
    cases r2
    exact ⟨a, dx, fv, e1, r1, t1, e2, fr⟩
theorem k_fld (G : Good sy cs n Γ X W N sc) (hz : nmB N sc i z = true) (hf : f ∈ sy.flds) : AE cs Γ C X W (.fld (.var i) f) (.Attribute (.Name z p1) f p2) := by
  refine PE.imp (pe_fld (pe_nm G hz) rfl) ?_
  intro σ H Q ⟨H0, g0, g, sl, hp, S, P⟩
  unfold evE at P
  unfold evE at P
  cases q : sl[i]? with
  | none => simp only [q, Res.bind] at P; exact P.elim
  | some s =>
    cases s with
    | un => simp only [q, Res.bind] at P; exact P.elim
    | x c p => simp only [q, Res.bind] at P; exact P.elim
    | o ys => simp only [q, Res.bind] at P; exact P.elim
    | v d =>
      simp only [q, Res.bind] at P
      split at P
      · rename_i j ej
        cases ej
        split at P
        · rename_i c fs qo
          split at P
          · rename_i d2 ql
            obtain ⟨ad, dx, fv, e1, _, _, e2, fr⟩ := fld_at S q qo
            obtain ⟨v, lv, rv⟩ := fr.look ql
            exact ⟨_, e1, ad, cs.own, dx, fv, v, rfl, e2, (G.ok.flds f hf).2, (G.ok.flds f hf).1, lv, P H g S (Stp.refl S.hs.nofr) v rv⟩
          · exact P.elim
        · exact P.elim
      · exact P.elim
/-- what the name's object's field holds: a list xs -/
def FldL (sl : List Slot) (hp : List Ob) (i : Nat) (f : Str) (xs : List D) : Prop := ∃ j c fs, sl[i]? = some (.v (.ref j)) ∧ hp[j]? = some (.ins c fs) ∧ fs.lookup f = some (.o xs)
theorem FldL.at {H0 H : Hp} {g0 g : Gh} {σr : L2.St} {sl : List Slot} {hp : List Ob} {ys : List D} (S : Sim X.K cs H0 g0 σr H g sl hp) (q : FldL sl hp i f ys) :
    ∃ j c fs a dx fv b vs, sl[i]? = some (.v (.ref j)) ∧ hp[j]? = some (.ins c fs) ∧ fs.lookup f = some (.o ys) ∧ σr[i]? = some (some (.ref a)) ∧ g.tag a = .obj j ∧ H a = some (.ins cs.own dx fv) ∧ FsR X.K g H j fv fs ∧ fv.lookup f = some (.ref b) ∧ H b = some (.lst vs) ∧ g.tag b = .fld j f ∧ RDs X.K g H vs ys := by
  obtain ⟨j, c, fs, q1, q2, q3⟩ := q
  obtain ⟨a, dx, fv, e1, _, t1, e2, fr⟩ := fld_at S q1 q2
  obtain ⟨v, lv, b, vs, rfl, e3, t3, rs⟩ := fr.look q3
  exact ⟨j, c, fs, a, dx, fv, b, vs, q1, q2, q3, e1, t1, e2, fr, lv, e3, t3, rs⟩
theorem eq_nilL {ys : List D} : cmpop .eq (.lst ys) (.lst []) = some ys.isEmpty := by cases ys <;> rfl
theorem fln_go (G : Good sy cs n Γ X W N sc) {H0 H : Hp} {g0 g : Gh} {σ : L2.St} {sl : List Slot} {hp : List Ob} {ys : List D} {Qz : VK} (S : Sim X.K cs H0 g0 σ H g sl hp) (qf : FldL sl hp i f ys)
    (P : ∀ H' g', Sim X.K cs H0 g0 σ H' g' sl hp → Stp H g H' g' → Qz (.bl ys.isEmpty) H') :
    ∃ a dx fv v, σ[i]? = some (some (.ref a)) ∧ H a = some (.ins cs.own dx fv) ∧ fv.lookup f = some v ∧ ∀ l, H l = none → rW X (compareOp .Eq) v (.ref l) (upd H l (.lst [])) Qz := by
  obtain ⟨j, c, fs, a, dx, fv, b, vs, q1, q2, q3, e1, t1, e2, fr, lv, e3, t3, rs⟩ := qf.at S
  refine ⟨a, dx, fv, _, e1, e2, lv, fun l hl => ?_⟩
  have st := Stp.new (o := .lst []) S.hs hl
  exact cmpop_ok (g := g) (room60 G) (by rfl) eq_nilL (.inr ⟨_, vs, ys, rfl, rfl, by rw [upd_ne (ne_of_none e3 hl)]; exact e3, RDs.mono st rs⟩) (.inr ⟨_, [], [], rfl, rfl, upd_same, .nil⟩) (P _ g (S.new hl) st)
theorem fln_sem {σ : List Slot} {h : List Ob} {m : Res R} (e : evE Γ C (.fln i f) σ h = m) (hm : m ≠ .stuck) : ∃ ys, FldL σ h i f ys ∧ m = .ok (.v (.bl ys.isEmpty)) σ h := by
  unfold evE at e
  split at e
  · rename_i j q1
    split at e
    · rename_i c fs q2
      split at e
      · rename_i ys q3
        exact ⟨ys, ⟨j, c, fs, q1, q2, q3⟩, e.symm⟩
      · exact absurd e.symm hm
    · exact absurd e.symm hm
  · exact absurd e.symm hm
theorem k_fln (G : Good sy cs n Γ X W N sc) (hz : nmB N sc i z = true) (hf : f ∈ sy.flds) (hm : behindInMarks .Eq (.List [] p3) = false) : AE cs Γ C X W (.fln i f) (.Compare (.Attribute (.Name z p1) f p2) [.Eq] [.List [] p3] pos) ∧ AT cs Γ C X W (.fln i f) (.Compare (.Attribute (.Name z p1) f p2) [.Eq] [.List [] p3] pos) := by
  constructor
  · refine PE.imp (pe_cmpR opW (pe_fld (pe_nm G hz) rfl) (pe_lst pa_nil) hm) ?_
    intro σ H Q ⟨H0, g0, g, sl, hp, S, P⟩
    obtain ⟨ys, qf, e⟩ := fln_sem (Γ := Γ) (C := C) (i := i) (f := f) (σ := sl) (h := hp) rfl (fun z => by rw [z] at P; exact P)
    rw [e] at P
    obtain ⟨a, dx, fv, v, e1, e2, lv, q⟩ := fln_go (Qz := Q) G S qf fun H' g' S' st => P H' g' S' st _ (.bl _)
    exact ⟨_, e1, a, cs.own, dx, fv, v, rfl, e2, (G.ok.flds f hf).2, (G.ok.flds f hf).1, lv, Nat.zero_le _, q⟩
  · refine PT.imp (pt_cmpR opW (pe_fld (pe_nm G hz) rfl) (pe_lst pa_nil) hm) ?_
    intro σ H Q ⟨H0, g0, g, sl, hp, S, P⟩
    have P := asB_post S.hs.nofr P
    obtain ⟨ys, qf, e⟩ := fln_sem (Γ := Γ) (C := C) (i := i) (f := f) (σ := sl) (h := hp) rfl (fun z => by rw [z] at P; exact P)
    rw [e] at P
    obtain ⟨a, dx, fv, v, e1, e2, lv, q⟩ := fln_go (Qz := fun x H' => ∃ b, x = .bl b ∧ Q b H') G S qf fun H' g' S' st => by
      obtain ⟨b, eb, q⟩ := P H' g' S' st
      cases eb
      exact ⟨_, rfl, q⟩
    exact ⟨_, e1, a, cs.own, dx, fv, v, rfl, e2, (G.ok.flds f hf).2, (G.ok.flds f hf).1, lv, Nat.zero_le _, q⟩
/-- a field's list is written -/
theorem mut_fld {H0 H : Hp} {g0 g : Gh} {σr : L2.St} {sl : List Slot} {hp : List Ob} {j c : Nat} {fs : List (Str × R)} {a dx b : Addr} {fv : List (Str × V)} {vs vs' : List V} {ys' : List D} (S : Sim X.K cs H0 g0 σr H g sl hp)
    (qo : hp[j]? = some (.ins c fs)) (hr : g.rho[j]? = some a) (t1 : g.tag a = .obj j) (e2 : H a = some (.ins cs.own dx fv)) (fr : FsR X.K g H j fv fs) (hk : keysOk fs = true) (lv : fv.lookup f = some (.ref b)) (e3 : H b = some (.lst vs)) (t3 : g.tag b = .fld j f) (rs : RDs X.K g H vs' ys') :
    Sim X.K cs H0 g0 σr (upd H b (.lst vs')) g sl (hp.set j (.ins c (putR f (.o ys') fs))) ∧ ∀ Hb gb, Stp Hb gb H g → Stp Hb gb (upd H b (.lst vs')) g := by
  have tn : g.tag b ≠ .free := by rw [t3]; intro z; cases z
  have tz : g.tag b ≠ .froz := by rw [t3]; intro z; cases z
  have stp : ∀ Hb gb, Stp Hb gb H g → Stp Hb gb (upd H b (.lst vs')) g := fun Hb gb st => st.upd (vs := vs) e3 (.inl ⟨_, rfl⟩) tn tz
  have st := stp H g (Stp.refl S.hs.nofr)
  have hab : a ≠ b := fun q => by rw [q, t3] at t1; cases t1
  have h0 : H0 b = none ∨ nob (g0.tag b) = false := by
    cases q : H0 b with
    | none => exact .inl rfl
    | some u =>
      refine .inr ?_
      rw [← S.fr.tag b u q, t3]
      rfl
  have other : ∀ {k : Str} {v : V} {r : R}, k ≠ f → FR X.K g H j k v r → FR X.K g (upd H b (.lst vs')) j k v r := fun {k v r} e x => by
    cases r with
    | v d => exact RD.mono st x
    | o zs =>
      obtain ⟨b4, us, y1, y2, y3, y4⟩ := x
      have q4 : b4 ≠ b := fun q => by
        rw [q, t3] at y3
        cases y3
        exact e rfl
      exact ⟨b4, us, y1, by rw [upd_ne q4]; exact y2, y3, RDs.mono st y4⟩
  have putv : ∀ {fv2 : List (Str × V)} {fs2 : List (Str × R)}, FsR X.K g H j fv2 fs2 → (fs2.map (·.1)).Nodup → fv2.lookup f = some (.ref b) → FsR X.K g (upd H b (.lst vs')) j fv2 (putR f (.o ys') fs2) := by
    intro fv2 fs2 q
    induction q with
    | nil => intro _ z; cases z
    | @cons f2 v2 r2 fv3 fs3 x xs ih =>
      intro nd z
      have nd' := List.nodup_cons.mp nd
      rw [List.lookup_cons] at z
      by_cases e : f = f2
      · subst e
        rw [beq_self_eq_true] at z
        cases z
        unfold putR
        rw [if_pos rfl]
        refine .cons ⟨b, vs', rfl, upd_same, t3, RDs.mono st rs⟩ ?_
        have nf := nd'.1
        clear ih fr lv nd nd' e2 x qo hk
        induction xs with
        | nil => exact .nil
        | cons y ys ih =>
          rw [List.map_cons, List.mem_cons, not_or] at nf
          exact .cons (other (fun q => nf.1 q.symm) y) (ih nf.2)
      · have e' : (f == f2) = false := by simpa using e
        rw [e'] at z
        unfold putR
        rw [if_neg (fun q => e q.symm)]
        exact .cons (other (fun q => e q.symm) x) (ih nd'.2 z)
  refine ⟨⟨⟨by rw [List.length_set]; exact S.hs.len, fun k ob e => ?_, fun d q => ?_, fun d u q z1 z2 => ?_⟩, S.fr.upd h0 e3, S.len, fun k ob e => ?_⟩, stp⟩
  · by_cases hk' : k = j
    · subst hk'
      rw [List.getElem?_set_self (List.getElem?_eq_some_iff.mp qo).1] at e
      cases e
      exact ⟨a, hr, t1, dx, fv, by rw [upd_ne hab]; exact e2, putv fr (of_decide_eq_true hk) lv⟩
    · rw [List.getElem?_set_ne (Ne.symm hk')] at e
      obtain ⟨d, f1, f2, y⟩ := S.hs.ob k ob e
      have hd : d ≠ b := fun w => by rw [w, t3] at f2; cases f2
      exact ⟨d, f1, f2, y.mono st (fun o w => by rw [upd_ne hd]; exact w) fun c2 us f3 w1 w2 => by
        rw [upd_ne (fun w => by rw [w, t3] at w2; cases w2; exact hk' rfl)]
        exact w1⟩
  · by_cases hb : d = b
    · rw [hb, upd_same] at q; cases q
    · rw [upd_ne hb] at q
      exact S.hs.nofr d q
  · by_cases hb : d = b
    · subst hb
      rw [upd_same] at q
      cases q
      exact absurd rfl (z1 _)
    · rw [upd_ne hb] at q
      exact S.hs.shp d u q z1 z2
  · have q := S.sl k ob e
    cases ob with
    | un => trivial
    | v d =>
      obtain ⟨u, f1, r⟩ := q
      exact ⟨u, f1, RD.mono st r⟩
    | o zs =>
      obtain ⟨d, us, f1, f2, f3, f4, r2⟩ := q
      refine ⟨d, us, f1, ?_, f3, f4, RDs.mono st r2⟩
      rw [upd_ne (fun w => by rw [w, t3] at f3; cases f3)]
      exact f2
    | x c p => trivial
theorem last_len {α : Type} {l : List α} {d : α} (e : l.getLast? = some d) : l[l.length - 1]? = some d := by rw [← List.getLast?_eq_getElem?]; exact e
theorem rds_last {K : PySem.W.Frag} {g : Gh} {H : Hp} : ∀ {vs : List V} {ds : List D}, RDs K g H vs ds → RDs K g H vs.dropLast ds.dropLast
  | _, _, .nil => .nil
  | _, _, .cons _ .nil => .nil
  | _, _, .cons h1 (.cons h2 h3) => .cons h1 (rds_last (.cons h2 h3))
theorem k_popF (G : Good sy cs n Γ X W N sc) (hz : nmB N sc i z = true) (hf : f ∈ sy.flds) (hline : (p3.endLine == pos.line) = true) : AE cs Γ C X W (.popF i f) (.Call (.Attribute (.Attribute (.Name z p1) f p2) "pop" p3) [] [] pos) := by
  refine PE.imp (pe_bm0 PySem.F.plainAttrs_list PySem.F.slot_list_pop PySem.F.type_list_pop mt_pop (pe_fld (pe_nm G hz) rfl) (by rfl) hline) ?_
  intro σ H Q ⟨H0, g0, g, sl, hp, S, P⟩
  unfold evE at P
  split at P
  · rename_i j q1
    split at P
    · rename_i c fs qo
      split at P
      · rename_i ys ql
        split at P
        · rename_i hk
          split at P
          · rename_i d qd
            obtain ⟨a, dx, fv, e1, hr, t1, e2, fr⟩ := fld_at S q1 qo
            obtain ⟨v, lv, b, vs, rfl, e3, t3, rs⟩ := fr.look ql
            obtain ⟨w, q3, rw_⟩ := rs.get (last_len qd)
            obtain ⟨S2, st2⟩ := mut_fld S qo hr t1 e2 fr hk lv e3 t3 (rds_last rs)
            have st := st2 H g (Stp.refl S.hs.nofr)
            refine ⟨_, e1, a, cs.own, dx, fv, _, rfl, e2, (G.ok.flds f hf).2, (G.ok.flds f hf).1, lv, .inl ⟨rfl, _, .inl (.inl e3)⟩, b, vs, w, rfl, rfl, e3, by rw [rs.len]; exact q3, P _ g S2 st w (RD.mono st rw_)⟩
          · exact P.elim
        · exact P.elim
      · exact P.elim
    · exact P.elim
  · exact P.elim
theorem met_go (G : Good sy cs n Γ X W N sc) : ∀ (t : TA), (∀ σ H Q, tAs X.K cs Γ sy.cf W es σ H Q → t σ H Q) → ∀ σ H Q, tE X.K cs Γ sy.cf W (.met m (.var i) es) σ H Q → tMetD X (2 * n) m (fun σ => WE W σ) (tVar i) t σ H Q := by
    intro t hi σ H Q ⟨H0, g0, g, sl, hp, S, P⟩
    unfold evE at P
    unfold evE at P
    cases q : sl[i]? with
    | none => simp only [q, Res.bind] at P; exact P.elim
    | some s =>
      cases s with
      | un => simp only [q, Res.bind] at P; exact P.elim
      | x c p => simp only [q, Res.bind] at P; exact P.elim
      | o ys => simp only [q, Res.bind_ok] at P; exact P.elim
      | v d =>
        simp only [q, Res.bind_ok] at P
        split at P
        · rename_i j ej
          cases ej
          split at P
          · rename_i c fs qo
            split at P
            · rename_i fn qm
              split at P
              · rename_i hn
                obtain ⟨a, dx, fv, e1, hr, t1, e2, fr⟩ := fld_at S q qo
                have ln : fv.lookup m = none := fr.lookN (by simpa using hn)
                obtain ⟨fa, fd, ps, me, cl, hb, F, har⟩ := G.ok.mts c m fn qm
                refine ⟨_, e1, a, cs.own, dx, fv, fa, fd, ps, _, rfl, e2, ln, cl, me, F, hb, hi _ _ _ ⟨H0, g0, g, sl, hp, S, P.bind (Stp.refl S.hs.nofr) fun ds σ1 h1 H1 g1 S1 st1 _ P1 vs rs => ?_⟩⟩
                have ref1 : RD X.K g1 H1 (.ref a) (.ref j) := .ref (pre_get st1.rho hr)
                refine ⟨?_, g1, .ref j :: ds, h1, S1.hs, .cons ref1 rs, ?_⟩
                · show vs.length + 1 = _
                  rw [rs.len]
                  exact har (.ref j :: ds) h1 fun z => by
                    rw [z] at P1
                    exact P1
                · cases q : Γ fn (.ref j :: ds) h1 with
                  | stuck => rw [q] at P1; exact P1.elim
                  | ok res h' =>
                    rw [q] at P1
                    exact fun v H' g' S' fr' y => P1 H' g' (S1.call fr' S') (st1.trans (S1.hs.stp fr')) v (y.base fun a o e => st1.there a o e)
                  | exc c p h' =>
                    rw [q] at P1
                    exact fun cl d H' g' S' fr' y => P1 H' g' cl d (S1.call fr' S') (st1.trans (S1.hs.stp fr')) y
              · exact P.elim
            · exact P.elim
          · exact P.elim
        · exact P.elim
theorem all_any {α : Type} {p : α → Bool} {l : List α} (h : l.any p = false) : l.all (fun x => !p x) = true := by
  rw [List.all_eq_true]
  intro x hx
  rw [List.any_eq_false] at h
  simpa using h x hx
theorem meth_eq {env : Env} {ls : List Expr} (hl : (p2.endLine == pos.line) = true) (hf : (backTo pos (starEach ls env)).any (·.1) = false) (hn : ls.length < 30) :
    eval (.Call (.Attribute (.Name z p1) m p2) ls [] pos) env = (do
      let ov ← eval (.Name z p1) env
      standAt p2.atName
      let (f, first) ← holding [ov] (getMethod ov m (do return (← importBound (.Name z p1) env).getD true))
      callWith pos f first (backTo pos (starEach ls env)) (backToKw pos (keywordEach [] env))) := by
  have e1 : methodCallForm (ls.length + ([] : List Keyword).length) (backTo pos (starEach ls env)) (backToKw pos (keywordEach [] env)) = true := by
    unfold methodCallForm
    rw [all_any hf]
    show (true && true && decide (ls.length + 0 + 0 < 30)) = true
    simpa using hn
  have e2 : methodCallPos true (.Name z p1) env p2 pos = pure pos := by
    unfold methodCallPos
    rw [hl]
    rfl
  rw [arm_eval_Call]
  have e3 : attributeBase (.Name z p1) m env (eval (.Name z p1) env) = eval (.Name z p1) env := rfl
  rw [e3]
  congr 1
  funext ov
  congr 1
  funext _
  unfold methodCall
  rw [e1, e2]
  congr 1
theorem k_met (G : Good sy cs n Γ X W N sc) (hz : nmB N sc i z = true) (hl : (p2.endLine == pos.line) = true) (hn : (l :: xs).length < 30) (hs : (l :: xs).all notStar = true) (hA : AA cs Γ sy.cf X W es (l :: xs)) : AE cs Γ sy.cf X W (.met m (.var i) es) (.Call (.Attribute (.Name z p1) m p2) (l :: xs) [] pos) := by
  have hs2 := hs
  rw [List.all_cons, Bool.and_eq_true] at hs
  exact PE.imp (pe_metD (pe_nm G hz) (G.room.mono (Nat.le_succ _)) (fun σ => passAt G.tk σ) hA (star_cons hs.1) (star_any hs.2) (meth_eq hl (star_any hs2) hn)) (met_go G _ fun _ _ _ q => q)
theorem k_met0 (G : Good sy cs n Γ X W N sc) (hz : nmB N sc i z = true) (hl : (p2.endLine == pos.line) = true) : AE cs Γ sy.cf X W (.met m (.var i) .nil) (.Call (.Attribute (.Name z p1) m p2) [] [] pos) :=
  PE.imp (pe_metD0 (pe_nm G hz) (G.room.mono (Nat.le_succ _)) (fun σ => passAt G.tk σ) (meth_eq hl rfl (by decide))) (met_go G tNil fun σ H Q ⟨H0, g0, g, sl, hp, S, P⟩ => P H g S (Stp.refl S.hs.nofr) [] .nil)
theorem k_new (G : Good sy cs n Γ X W N sc) {c fi : Nat} (hi : sy.ini = some (z, c, fi)) (hg : glB sc z = true) (hs : (l :: xs).all notStar = true) (hA : AA cs Γ C X W es (l :: xs)) : AE cs Γ C X W (.new c fi es) (.Call (.Name z p1) (l :: xs) [] pos) := by
  obtain ⟨fa, fd, ps, hm, M, hb, F, har⟩ := G.ok.ini z c fi hi
  obtain ⟨h1, h2⟩ := glB_gl G hg
  rw [List.all_cons, Bool.and_eq_true] at hs
  refine PE.imp (pe_makS M F G.room h1 hm hb (fun σ => passAt G.tk σ) hA h2 (star_cons hs.1) (star_any hs.2)) ?_
  intro σ H Q ⟨H0, g0, g, sl, hp, S, P⟩
  unfold evE at P
  refine ⟨H0, g0, g, sl, hp, S, P.bind (Stp.refl S.hs.nofr) fun ds σ1 h1 H1 g1 S1 st1 _ P1 vs rs => ?_⟩
  intro x dx hx hd hne
  obtain ⟨g2, hs2, fr2, hrho⟩ := HSim.made (c := c) S1.hs hx hd hne
  have st2 := S1.hs.stp fr2
  have hx2 : g2.rho[h1.length]? = some x := by
    rw [hrho, ← S1.hs.len, List.getElem?_append_right (Nat.le_refl _)]
    simp
  refine ⟨?_, g2, .ref h1.length :: ds, h1 ++ [.ins c []], hs2, .cons (.ref hx2) (RDs.mono st2 rs), ?_⟩
  · show vs.length + 1 = _
    rw [rs.len]
    exact har (.ref h1.length :: ds) _ fun z => by
      rw [z] at P1
      exact P1
  · cases q : Γ fi (.ref h1.length :: ds) (h1 ++ [.ins c []]) with
    | stuck => rw [q] at P1; exact P1.elim
    | exc c2 p h' =>
      rw [q] at P1
      exact fun cl d H' g' S' fr' y => P1 H' g' cl d (S1.call (fr2.trans fr') S') (st1.trans (S1.hs.stp (fr2.trans fr'))) y
    | ok res h' =>
      rw [q] at P1
      cases res with
      | o ys => exact P1.elim
      | v d =>
        cases d with
        | non =>
          intro v H' g' S' fr' y
          cases y
          exact ⟨rfl, P1 H' g' (S1.call (fr2.trans fr') S') (st1.trans (S1.hs.stp (fr2.trans fr'))) _ (.ref (pre_get fr'.rho hx2))⟩
        | _ => exact P1.elim
end
end Pm

set_option Elab.async false
set_option linter.all false
set_option maxRecDepth 100000
set_option maxHeartbeats 4000000
/-! The pure machine: every expression that its term holds against the text is read by it. -/
namespace Pm
open PySem PySem.Spec L2
section
variable {X : Cx} {c a b : Expr} {tc ta tb : TT} {pos : Pos}
theorem pt_ifExp (hc : PT X c tc) (ha : PT X a ta) (hb : PT X b tb) : PT X (.IfExp c a b pos) (fun σ H Q => tc σ H fun k H1 => if k = true then ta σ H1 Q else tb σ H1 Q) := by
  refine ⟨fun pins s σ H Q I h => ?_⟩
  show wpAny _ _ (do if ← isTrue c X.env (eval c X.env) then isTrue a X.env (eval a X.env) else isTrue b X.env (eval b X.env)) _ _ s
  refine wpAny_bind (thn (hc.run pins s σ H _ I h) fun k s1 ⟨H1, I1, q⟩ => ?_)
  cases k with
  | true => exact ha.run pins s1 σ H1 Q I1 q
  | false => exact hb.run pins s1 σ H1 Q I1 q
theorem PT.pw {op : BoolOp} {xs : List Expr} {t : TT} (h : PT X (.BoolOp op xs pos) t) : PW X (.BoolOp op xs pos) t := ⟨fun wh pins s σ H Q I hw => h.run pins s σ H Q I hw⟩
end
section
variable {sy : Sy} {cs : Cls0} {n : Nat} {Γ : Calls} {C : Cf} {X : Cx} {W : WX} {N : List Str} {sc : Scope} {a b c : E} {t l r : Expr} {pos : Pos}
theorem asB_bind {α : Type} {m : Res α} {f : α → List Slot → List Ob → Res R} : asB (m.bind f) = m.bind fun x σ h => asB (f x σ h) := by
  cases m <;> rfl
theorem t_ite (hC : AT cs Γ C X W c t) (hA : AT cs Γ C X W a l) (hB : AT cs Γ C X W b r) : AT cs Γ C X W (.ite c a b) (.IfExp t l r pos) := by
  refine PT.imp (pt_ifExp hC hA hB) ?_
  intro σ H Q ⟨H0, g0, g, sl, hp, S, P⟩
  unfold evE at P
  rw [asB_bind] at P
  refine ⟨H0, g0, g, sl, hp, S, P.bind (Stp.refl S.hs.nofr) fun b' σ1 h1 H1 g1 S1 st1 _ P1 => ?_⟩
  cases b' with
  | true =>
    rw [if_pos rfl] at P1 ⊢
    exact ⟨H0, g0, g1, σ1, h1, S1, P1.sub st1 fun r σ2 h2 H2 g2 _ _ q => q⟩
  | false =>
    rw [if_neg Bool.false_ne_true] at P1 ⊢
    exact ⟨H0, g0, g1, σ1, h1, S1, P1.sub st1 fun r σ2 h2 H2 g2 _ _ q => q⟩
end
section
variable {sy : Sy} {cs : Cls0} {n : Nat} {Γ : Calls} {C : Cf} {N : List Str}
def isTupX : Expr → Bool
  | .Tuple _ _ _ => true
  | _ => false
theorem nd_of {z y : Str} (h : decide (z = y) = true) : z = y := of_decide_eq_true h
/-- the test of a text that has no test of its own -/
theorem bothP {X : Cx} {W : WX} {e : E} {x : Expr} (h : plainTest x = true) (hA : AE cs Γ C X W e x) : AE cs Γ C X W e x ∧ AT cs Γ C X W e x := ⟨hA, t_plain h hA⟩
theorem k_bor {X : Cx} {W : WX} {sc : Scope} {i : Nat} {z : Str} {pos : Pos} (G : Good sy cs n Γ X W N sc) (h : nmB N sc i z = true) : AE cs Γ C X W (.bor i) (.Name z pos) :=
  PE.imp (pe_nm G h) fun σ H Q ⟨H0, g0, g, sl, hp, S, P⟩ => by
    unfold evE at P
    exact P.elim
/-- an operand, of either kind -/
theorem opOk {X : Cx} {W : WX} {sc : Scope} {e : E} {x : Expr} (G : Good sy cs n Γ X W N sc) (h : chkE sy N e sc x = true) (hA : AE cs Γ C X W e x) : AD cs Γ C X W e x := by
  rcases okD hA with q | ⟨i, rfl⟩
  · exact q
  · unfold chkE at h
    split at h
    · exact okBor G h
    · cases h
mutual
theorem okE : ∀ (e : E) (X : Cx) (W : WX) (sc : Scope) (x : Expr), Good sy cs n Γ X W N sc → chkE sy N e sc x = true → AE cs Γ sy.cf X W e x ∧ AT cs Γ sy.cf X W e x
  | .con d, X, W, sc, x, G, h => by
    have q := k_con (cs := cs) (Γ := Γ) (C := sy.cf) (X := X) (W := W) h
    refine bothP ?_ q
    unfold chkE at h
    split at h <;> first | rfl | cases h
  | .glo y d, X, W, sc, x, G, h => by
    have q := k_glo (cs := cs) (Γ := Γ) (C := sy.cf) G h
    refine bothP ?_ q
    unfold chkE at h
    split at h <;> first | rfl | cases h
  | .var i, X, W, sc, x, G, h => by
    unfold chkE at h
    split at h
    · exact bothP rfl (k_var G h)
    · cases h
  | .bor i, X, W, sc, x, G, h => by
    unfold chkE at h
    split at h
    · exact bothP rfl (k_bor G h)
    · cases h
  | .tup es, X, W, sc, x, G, h => by
    unfold chkE at h
    split at h
    · exact bothP rfl (k_tup (okA es X W sc _ G h))
    · cases h
  | .lst es, X, W, sc, x, G, h => by
    unfold chkE at h
    split at h
    · exact bothP rfl (k_lst (okA es X W sc _ G h))
    · cases h
  | .bin op a b, X, W, sc, x, G, h => by
    unfold chkE at h
    split at h
    · simp only [Bool.and_eq_true, decide_eq_true_eq] at h
      obtain ⟨rfl, h1, h2⟩ := h
      exact bothP rfl (k_bin (opOk G h1 (okE a X W sc _ G h1).1) (opOk G h2 (okE b X W sc _ G h2).1))
    · cases h
  | .neg a, X, W, sc, x, G, h => by
    unfold chkE at h
    split at h
    · exact bothP rfl (k_neg (okE a X W sc _ G h).1)
    · cases h
  | .cmp op a b, X, W, sc, x, G, h => by
    unfold chkE at h
    split at h
    · simp only [Bool.and_eq_true, decide_eq_true_eq, Bool.not_eq_true'] at h
      obtain ⟨rfl, h0, h1, h2⟩ := h
      have hA := opOk G h1 (okE a X W sc _ G h1).1
      have hB := opOk G h2 (okE b X W sc _ G h2).1
      exact ⟨k_cmp G h0 hA hB, t_cmp G h0 hA hB⟩
    · cases h
  | .cmp2 op op' a b c, X, W, sc, x, G, h => by
    unfold chkE at h
    split at h
    · simp only [Bool.and_eq_true, decide_eq_true_eq, Bool.not_eq_true'] at h
      obtain ⟨rfl, rfl, h0, h1, h2, h3⟩ := h
      have hA := opOk G h1 (okE a X W sc _ G h1).1
      have hB := opOk G h2 (okE b X W sc _ G h2).1
      have hC := opOk G h3 (okE c X W sc _ G h3).1
      exact ⟨k_cmp2 G h0 hA hB hC, t_cmp2 G h0 hA hB hC⟩
    · cases h
  | .and a b, X, W, sc, x, G, h => by
    unfold chkE at h
    split at h
    · rename_i l r rest pos
      rw [Bool.and_eq_true] at h
      obtain ⟨h1, h2⟩ := h
      have hA := okE a X W sc _ G h1
      have hB := okE b X W sc _ G h2
      cases rest with
      | nil => exact ⟨k_and hA.1 hB.1 fun ta tb pa pb => pe_and pa (pe_one pb), t_and hA.2 hB.2 fun ta tb pa pb => (pw_and pa (pw_and1 pb)).pt⟩
      | cons r' rest => exact ⟨k_and hA.1 hB.1 fun ta tb pa pb => pe_and pa pb, t_and hA.2 hB.2 fun ta tb pa pb => (pw_and pa (PT.pw pb)).pt⟩
    · cases h
  | .or a b, X, W, sc, x, G, h => by
    unfold chkE at h
    split at h
    · rename_i l r rest pos
      rw [Bool.and_eq_true] at h
      obtain ⟨h1, h2⟩ := h
      have hA := okE a X W sc _ G h1
      have hB := okE b X W sc _ G h2
      cases rest with
      | nil => exact ⟨k_or hA.1 hB.1 fun ta tb pa pb => pe_or pa (pe_one pb), t_or hA.2 hB.2 fun ta tb pa pb => (pw_or pa (pw_or1 pb)).pt⟩
      | cons r' rest => exact ⟨k_or hA.1 hB.1 fun ta tb pa pb => pe_or pa pb, t_or hA.2 hB.2 fun ta tb pa pb => (pw_or pa (PT.pw pb)).pt⟩
    · cases h
  | .not a, X, W, sc, x, G, h => by
    unfold chkE at h
    split at h
    · have hA := okE a X W sc _ G h
      exact ⟨k_not hA.1, t_not hA.2⟩
    · cases h
  | .ite c a b, X, W, sc, x, G, h => by
    unfold chkE at h
    split at h
    · simp only [Bool.and_eq_true] at h
      obtain ⟨h0, h1, h2⟩ := h
      have hC := okE c X W sc _ G h0
      have hA := okE a X W sc _ G h1
      have hB := okE b X W sc _ G h2
      exact ⟨k_ite hC.2 hA.1 hB.1, t_ite hC.2 hA.2 hB.2⟩
    · cases h
  | .idx a b, X, W, sc, x, G, h => by
    unfold chkE at h
    split at h
    · simp only [Bool.and_eq_true] at h
      obtain ⟨h0, h1, h2⟩ := h
      exact bothP rfl (k_idx h0 (opOk G h1 (okE a X W sc _ G h1).1) (opOk G h2 (okE b X W sc _ G h2).1))
    · cases h
  | .sli a lo hi, X, W, sc, x, G, h => by
    unfold chkE at h
    split at h
    · simp only [Bool.and_eq_true] at h
      obtain ⟨h1, h2, h3⟩ := h
      exact bothP rfl (k_sli (opOk G h1 (okE a X W sc _ G h1).1) (okO lo X W sc _ G h2) (okO hi X W sc _ G h3))
    · cases h
  | .rev a, X, W, sc, x, G, h => by
    unfold chkE at h
    split at h
    · simp only [Bool.and_eq_true, decide_eq_true_eq] at h
      obtain ⟨rfl, h1⟩ := h
      exact bothP rfl (k_rev (opOk G h1 (okE a X W sc _ G h1).1))
    · cases h
  | .fn1 f a, X, W, sc, x, G, h => by
    unfold chkE at h
    split at h
    · simp only [Bool.and_eq_true, decide_eq_true_eq] at h
      obtain ⟨rfl, hg, rfl, hg2, hs, h1⟩ := h
      exact bothP rfl (k_lrange G hg hg2 hs (opOk G h1 (okE a X W sc _ G h1).1))
    · simp only [Bool.and_eq_true, decide_eq_true_eq] at h
      obtain ⟨rfl, hg, rfl, hg2, hs, h1⟩ := h
      exact bothP rfl (k_sset G hg hg2 hs (opOk G h1 (okE a X W sc _ G h1).1))
    · simp only [Bool.and_eq_true] at h
      obtain ⟨h0, hg, hs, h1⟩ := h
      split at h0
      · rename_i nm fv hf
        rw [of_decide_eq_true h0] at hg ⊢
        exact bothP rfl (k_fn1 G hf hg hs (opOk G h1 (okE a X W sc _ G h1).1))
      · cases h0
    · cases h
  | .fn2 f a b, X, W, sc, x, G, h => by
    unfold chkE at h
    split at h
    · simp only [Bool.and_eq_true, decide_eq_true_eq] at h
      obtain ⟨rfl, hg, hs, hs2, h1, h2⟩ := h
      exact bothP rfl (k_fn2 G hg hs hs2 (okE a X W sc _ G h1).1 (okE b X W sc _ G h2).1)
    · cases h
  | .isi a t, X, W, sc, x, G, h => by
    unfold chkE at h
    split at h
    · simp only [Bool.and_eq_true, decide_eq_true_eq] at h
      obtain ⟨rfl, hg, rfl, hg2, hs, h1⟩ := h
      exact bothP rfl (k_isi G hg hg2 hs (opOk G h1 (okE a X W sc _ G h1).1))
    · cases h
  | .cal f es, X, W, sc, x, G, h => by
    unfold chkE at h
    split at h
    · simp only [Bool.and_eq_true, decide_eq_true_eq] at h
      obtain ⟨hf, hg, h1⟩ := h
      exact bothP rfl (k_cal G hf hg (chkA_star h1) (okA es X W sc _ G h1))
    · cases h
  | .popA i a, X, W, sc, x, G, h => by
    unfold chkE at h
    split at h
    · simp only [Bool.and_eq_true, decide_eq_true_eq] at h
      obtain ⟨rfl, hz, hl, hs, h1⟩ := h
      exact bothP rfl (k_popA G hz hl hs (okE a X W sc _ G h1).1)
    · cases h
  | .com i elt it, X, W, sc, x, G, h => by
    unfold chkE at h
    split at h
    · simp only [Bool.and_eq_true, decide_eq_true_eq] at h
      obtain ⟨hi, hl, hb, hset, hI, hE⟩ := h
      exact bothP rfl (k_com G hi hl hb hset (okI it X W sc _ _ _ G hI rfl) fun X' e G' => (okE elt X' W0 _ _ G' hE).1)
    · cases h
  | .comf i elt it c, X, W, sc, x, G, h => by
    unfold chkE at h
    split at h
    · simp only [Bool.and_eq_true, decide_eq_true_eq] at h
      obtain ⟨hi, hl, hb, hset, hI, hE, hC⟩ := h
      exact bothP rfl (k_comf G hi hl hb hset (okI it X W sc _ _ _ G hI rfl) (fun X' e G' => (okE elt X' W0 _ _ G' hE).1) fun X' e G' => (okE c X' W0 _ _ G' hC).2)
    · cases h
  | .prom e, X, W, sc, x, G, h => by
    unfold chkE at h
    rw [Bool.and_eq_true] at h
    exact bothP h.1 (k_prom (okE e X W sc _ G h.2).1)
  | .new c f es, X, W, sc, x, G, h => by
    unfold chkE at h
    split at h
    · simp only [Bool.and_eq_true, decide_eq_true_eq] at h
      obtain ⟨hi, hg, h1⟩ := h
      exact bothP rfl (k_new G hi hg (chkA_star h1) (okA es X W sc _ G h1))
    · cases h
  | .met m o es, X, W, sc, x, G, h => by
    unfold chkE at h
    split at h
    · rename_i i z p1 y p ls q
      simp only [Bool.and_eq_true, decide_eq_true_eq] at h
      obtain ⟨rfl, hz, hl, hn, h1⟩ := h
      cases ls with
      | nil =>
        cases es with
        | nil => exact bothP rfl (k_met0 G hz hl)
        | cons e r => simp [chkA] at h1
      | cons l ls => exact bothP rfl (k_met G hz hl hn (chkA_star h1) (okA es X W sc _ G h1))
    · cases h
  | .fld o f, X, W, sc, x, G, h => by
    unfold chkE at h
    split at h
    · simp only [Bool.and_eq_true, decide_eq_true_eq] at h
      obtain ⟨rfl, hz, hf⟩ := h
      exact bothP rfl (k_fld G hz hf)
    · cases h
  | .fln i f, X, W, sc, x, G, h => by
    unfold chkE at h
    split at h
    · simp only [Bool.and_eq_true, decide_eq_true_eq, Bool.not_eq_true'] at h
      obtain ⟨rfl, hz, hf, hm⟩ := h
      exact k_fln G hz hf hm
    · cases h
  | .popF i f, X, W, sc, x, G, h => by
    unfold chkE at h
    split at h
    · simp only [Bool.and_eq_true, decide_eq_true_eq] at h
      obtain ⟨rfl, rfl, hz, hf, hl⟩ := h
      exact bothP rfl (k_popF G hz hf hl)
    · cases h
  | .isx _ _, X, W, sc, x, G, h => by unfold chkE at h; cases h
  | .xfl _ _, X, W, sc, x, G, h => by unfold chkE at h; cases h
  | .pop _, X, W, sc, x, G, h => by unfold chkE at h; cases h
  | .join _ _, X, W, sc, x, G, h => by unfold chkE at h; cases h
  | .split _ _, X, W, sc, x, G, h => by unfold chkE at h; cases h
  | .tabin _ _, X, W, sc, x, G, h => by unfold chkE at h; cases h
  | .tabget _ _, X, W, sc, x, G, h => by unfold chkE at h; cases h
theorem okA : ∀ (es : Es) (X : Cx) (W : WX) (sc : Scope) (xs : List Expr), Good sy cs n Γ X W N sc → chkA sy N es sc xs = true → AA cs Γ sy.cf X W es xs
  | .nil, X, W, sc, xs, G, h => by
    unfold chkA at h
    split at h
    · exact a_nil
    · cases h
  | .cons e es, X, W, sc, xs, G, h => by
    unfold chkA at h
    split at h
    · simp only [Bool.and_eq_true] at h
      exact a_cons h.1 (okE e X W sc _ G h.2.1).1 (okA es X W sc _ G h.2.2)
    · cases h
theorem okO : ∀ (o : Eo) (X : Cx) (W : WX) (sc : Scope) (x : Option Expr), Good sy cs n Γ X W N sc → chkO sy N o sc x = true → PO X x (tOp1 X.K cs Γ sy.cf W o)
  | .no, X, W, sc, x, G, h => by
    unfold chkO at h
    split at h
    · exact o_no
    · cases h
  | .so e, X, W, sc, x, G, h => by
    unfold chkO at h
    split at h
    · exact o_so (okE e X W sc _ G h).1
    · cases h
theorem okI : ∀ (it : I) (X : Cx) (W : WX) (sc : Scope) (tg tg' x : Expr), Good sy cs n Γ X W N sc → chkI sy N it sc tg x = true → isTupX tg = isTupX tg' → AI cs Γ sy.cf X W it tg' x
  | .seq e, X, W, sc, tg, tg', x, G, h, ht => by
    unfold chkI at h
    exact i_seq (okE e X W sc _ G h).1
  | .rng1 a, X, W, sc, tg, tg', x, G, h, ht => by
    unfold chkI at h
    split at h
    · simp only [Bool.and_eq_true, decide_eq_true_eq] at h
      obtain ⟨rfl, hg, hs, h1⟩ := h
      exact i_rng1 G hg hs (okE a X W sc _ G h1).1
    · cases h
  | .rng2 a b, X, W, sc, tg, tg', x, G, h, ht => by
    unfold chkI at h
    split at h
    · simp only [Bool.and_eq_true, decide_eq_true_eq] at h
      obtain ⟨rfl, hg, hs, hs2, h1, h2⟩ := h
      exact i_rng2 G hg hs hs2 (okE a X W sc _ G h1).1 (okE b X W sc _ G h2).1
    · cases h
  | .rng3 _ _ _, X, W, sc, tg, tg', x, G, h, ht => by
    unfold chkI at h
    cases h
  | .enu e, X, W, sc, tg, tg', x, G, h, ht => by
    unfold chkI at h
    split at h
    · simp only [Bool.and_eq_true, decide_eq_true_eq] at h
      obtain ⟨rfl, hg, hs, h1⟩ := h
      cases tg' <;> first
        | exact i_enu G hg hs (okE e X W sc _ G h1).1
        | (cases ht; done)
    · cases h
end
end
end Pm

set_option Elab.async false
set_option linter.all false
set_option maxRecDepth 100000
set_option maxHeartbeats 4000000
/-! The pure machine: statements. -/
namespace Pm
open PySem PySem.Spec L2

structure GoodS (sy : Sy) (cs : Cls0) (n : Nat) (Γ : Calls) (X : Cx) (W : WX) (N : List Str) (sc : Scope) : Prop extends Good sy cs n Γ X W N sc where
  own : PassesOwn (model X.prog X.w) X.A X.env X.xe
  kd : X.env.scope.kind = ScopeKind.function
  fnT : ∀ x, X.fn x = true

section
variable (K : PySem.W.Frag) (cs : Cls0)
def EndAt (H0 : Hp) (D : Ends) (σr : L2.St) (H' : Hp) (g' : Gh) : Flow → Prop
  | .nx => D.nx σr H'
  | .bk => D.bk σr H'
  | .ct => D.ct σr H'
  | .rt r => ∀ v, RR K H0 H' g' v r → D.rt v H'
def PostS (H0 : Hp) (g0 : Gh) (H : Hp) (g : Gh) (W : WX) (m : Res Flow) (D : Ends) : Prop :=
  match m with
  | .ok fl σ h => ∀ σr H' g', Sim K cs H0 g0 σr H' g' σ h → Stp H g H' g' → EndAt K H0 D σr H' g' fl
  | .exc c p σ h => ∀ σr H' g' cl d, Sim K cs H0 g0 σr H' g' σ h → Stp H g H' g' → XR K cs g' H' c p cl d → W cl d σr H'
  | .stuck => False
variable (Γ : Calls) (C : Cf) (W : WX)
def tS (s : S) : TS := fun D σr H => ∃ H0 g0 g σ h, Sim K cs H0 g0 σr H g σ h ∧ PostS K cs H0 g0 H g W (exS Γ C s σ h) D
def tK (s : Ss) : TS := fun D σr H => ∃ H0 g0 g σ h, Sim K cs H0 g0 σr H g σ h ∧ PostS K cs H0 g0 H g W (exB Γ C s σ h) D
end
section
variable {K : PySem.W.Frag} {cs : Cls0} {α : Type} {H0 H H1 : Hp} {g0 g g1 : Gh} {σr : L2.St} {W : WX} {D D' : Ends}
theorem PostS.bindE {m : Res α} {f : α → List Slot → List Ob → Res Flow} {k1 : α → List Slot → List Ob → Hp → Gh → Prop} (P : PostS K cs H0 g0 H g W (m.bind f) D) (st : Stp H g H1 g1)
    (h : ∀ a σ2 h2 H2 g2, Sim K cs H0 g0 σr H2 g2 σ2 h2 → Stp H1 g1 H2 g2 → Stp H g H2 g2 → PostS K cs H0 g0 H g W (f a σ2 h2) D → k1 a σ2 h2 H2 g2) : Post K cs H0 g0 σr H1 g1 W m k1 := by
  cases m with
  | ok a σ hh => exact fun H2 g2 S st2 => h a σ hh H2 g2 S st2 (st.trans st2) P
  | exc c p σ hh => exact fun H2 g2 cl d S st2 x => P σr H2 g2 cl d S (st.trans st2) x
  | stuck => exact P.elim
theorem PostS.sub {m : Res Flow} (P : PostS K cs H0 g0 H g W m D) (st : Stp H g H1 g1) : PostS K cs H0 g0 H1 g1 W m D := by
  cases m with
  | ok a σ hh => exact fun σr H2 g2 S st2 => P σr H2 g2 S (st.trans st2)
  | exc c p σ hh => exact fun σr H2 g2 cl d S st2 x => P σr H2 g2 cl d S (st.trans st2) x
  | stuck => exact P.elim
theorem PS.imp {X : Cx} {st : Stmt} {t t' : TS} (h : PS X st t) (i : ∀ D σ H, t' D σ H → t D σ H) : PS X st t' := ⟨fun pins s σ H D I q => h.run pins s σ H D I (i _ _ _ q)⟩
theorem PSs.imp {X : Cx} {st : List Stmt} {t t' : TS} (h : PSs X st t) (i : ∀ D σ H, t' D σ H → t D σ H) : PSs X st t' := ⟨fun pins s σ H D I q => h.run pins s σ H D I (i _ _ _ q)⟩
/-- a result stored under a name -/
theorem Sim.store {v : V} {r : R} {i : Nat} {σ : List Slot} {h : List Ob} {Hb : Hp} {gb : Gh} (s : Sim K cs H0 g0 σr H g σ h) (st : Stp Hb gb H g) (x : RR K Hb H g v r) (e0 : ∀ a, Hb a = none → H0 a = none) :
    ∃ g', Sim K cs H0 g0 (σr.set i (some v)) H g' (σ.set i r.slot) h ∧ Stp Hb gb H g' := by
  by_cases hi : i < σ.length
  · have hir : i < σr.length := by rw [s.len]; exact hi
    cases r with
    | v d => exact ⟨g, s.setv x, st⟩
    | o xs =>
      obtain ⟨a, vs, e, eb, e1, e2, r⟩ := x
      subst e
      have s' := s.retag (t := .slot i) e2 e1 (e0 a eb) rfl
      refine ⟨g.set a (.slot i), ⟨s'.hs, s'.fr, by simpa using s.len, fun k z e => ?_⟩, st.retag eb (by rw [e2]; rfl)⟩
      by_cases hk : k = i
      · subst hk
        rw [R.slot, List.getElem?_set_self hi] at e
        cases e
        exact ⟨a, vs, List.getElem?_set_self hir, e1, Gh.set_same, e0 a eb, RDs.retag (by rw [e2]; intro z; cases z) r⟩
      · rw [List.getElem?_set_ne (Ne.symm hk)] at e
        exact SltR.other hk (s'.sl k z e)
  · have h1 : σ.length ≤ i := Nat.le_of_not_lt hi
    have h2 : σr.length ≤ i := by rw [s.len]; exact h1
    rw [List.set_eq_of_length_le h1, List.set_eq_of_length_le h2]
    exact ⟨g, s, st⟩
end

/-! ### targets, simple statements -/
def notComp : Expr → Bool
  | .ListComp _ _ _ _ => false
  | .SetComp _ _ _ _ => false
  | .DictComp _ _ _ _ _ => false
  | _ => true
/-- a local name -/
def locB (N : List Str) (sc : Scope) (i : Nat) (z : Str) : Bool := decide (N[i]? = some z) && (decide (sc.names.lookup z = some .local) || decide (sc.names.lookup z = some .cell))
def chkT (N : List Str) (sc : Scope) : List Nat → List Expr → Bool
  | [], [] => true
  | i :: is, .Name z _ :: es => locB N sc i z && chkT N sc is es
  | _, _ => false
def gNames : List Nat → TGs
  | [] => gNil
  | i :: is => gCons (gName i) (gNames is)
abbrev AS (cs : Cls0) (Γ : Calls) (C : Cf) (X : Cx) (W : WX) (s : S) (x : Stmt) : Prop := PS X x (tS X.K cs Γ C W s)
abbrev AK (cs : Cls0) (Γ : Calls) (C : Cf) (X : Cx) (W : WX) (s : Ss) (x : List Stmt) : Prop := PSs X x (tK X.K cs Γ C W s)
theorem swaps_non {e : Expr} {tg : Option Expr} {line : Nat} {env : Env} (h : notComp e = true) : swapsWith e tg line env = pure false := by
  cases e <;> first | rfl | cases h
section
variable {sy : Sy} {cs : Cls0} {n : Nat} {Γ : Calls} {C : Cf} {X : Cx} {W : WX} {N : List Str} {sc : Scope} {e a b : E} {x l r : Expr} {pos p1 p2 p3 : Pos} {i : Nat} {z : Str}
theorem locB_of (G : GoodS sy cs n Γ X W N sc) (h : locB N sc i z = true) : X.N[i]? = some z ∧ L2.Loc X.env.scope z := by
  unfold locB at h
  simp only [Bool.and_eq_true, Bool.or_eq_true, decide_eq_true_eq] at h
  unfold L2.Loc
  rw [G.nm, G.sc]
  exact h
theorem pg_loc (G : GoodS sy cs n Γ X W N sc) (h : locB N sc i z = true) : PG X (.Name z pos) (gName i) := by
  obtain ⟨h1, h2⟩ := locB_of G h
  exact pg_name G.nd h1 h2 (.inl (G.fnT z))
theorem pgs_names (G : GoodS sy cs n Γ X W N sc) : ∀ {is : List Nat} {es : List Expr}, chkT N sc is es = true → PGs X es (gNames is) ∧ (assignEach es X.env).length = is.length ∧ (assignEach es X.env).findIdx? (·.1) = none
  | [], [], _ => ⟨pgs_nil, rfl, rfl⟩
  | i :: is, .Name z p :: es, h => by
    unfold chkT at h
    rw [Bool.and_eq_true] at h
    obtain ⟨q1, q2, q3⟩ := pgs_names G h.2
    refine ⟨pgs_cons (pg_loc G h.1) q1, ?_, ?_⟩
    · show (assignEach es X.env).length + 1 = is.length + 1
      rw [q2]
    · show ((false, assign (.Name z p) X.env) :: assignEach es X.env).findIdx? (·.1) = none
      rw [List.findIdx?_cons]
      simp [q3]
/-- the frame with names bound -/
theorem bind_names {K : PySem.W.Frag} {H0 H : Hp} {g0 g : Gh} {h : List Ob} {Q : L2.St → Hp → Prop} : ∀ {is : List Nat} {ds : List D} {vs : List V} {σ σ' : List Slot} {σr : L2.St}, bindS is ds σ = some σ' → RDs K g H vs ds → Sim K cs H0 g0 σr H g σ h →
    (∀ σr', Sim K cs H0 g0 σr' H g σ' h → Q σr' H) → gNames is vs σr H Q
  | [], [], vs, σ, σ', σr, e, rs, S, k => by
    cases e
    cases rs
    exact ⟨rfl, k σr S⟩
  | i :: is, d :: ds, vs, σ, σ', σr, e, rs, S, k => by
    cases rs with
    | cons r rs => exact ⟨_, _, rfl, bind_names (is := is) e rs (S.setv r) k⟩
  | [], _ :: _, _, _, _, _, e, _, _, _ => by cases e
  | _ :: _, [], _, _, _, _, e, _, _, _ => by cases e
theorem set_read {D : Ends} {σr : L2.St} {H : Hp} (h : tS X.K cs Γ C W (.set i e) D σr H) : tE X.K cs Γ C W e σr H (fun x H1 => D.nx (σr.set i (some x)) H1) := by
  obtain ⟨H0, g0, g, σ, hp, S, P⟩ := h
  unfold exS at P
  refine ⟨H0, g0, g, σ, hp, S, P.bindE (Stp.refl S.hs.nofr) fun r σ1 h1 H1 g1 S1 st1 _ P1 v y => ?_⟩
  obtain ⟨g2, S2, st2⟩ := S1.store (i := i) st1 y fun a ha => S.fresh0 ha
  exact P1 _ H1 g2 S2 st2
theorem s_set (G : GoodS sy cs n Γ X W N sc) (hz : locB N sc i z = true) (hn : notComp x = true) (hA : AE cs Γ C X W e x) : AS cs Γ C X W (.set i e) (.Assign [.Name z p1] x pos) := by
  obtain ⟨h1, h2⟩ := locB_of G hz
  exact PS.imp (ps_set G.nd h1 h2 hA (swaps_non hn) (.inl (G.fnT z))) fun D σ H h => set_read h
theorem s_ex (hn : notComp x = true) (hA : AE cs Γ C X W e x) : AS cs Γ C X W (.ex e) (.Expr x pos) := by
  refine PS.imp (ps_expr hA (swaps_non hn)) ?_
  intro D σ H ⟨H0, g0, g, sl, hp, S, P⟩
  unfold exS at P
  exact ⟨H0, g0, g, sl, hp, S, P.bindE (Stp.refl S.hs.nofr) fun r σ1 h1 H1 g1 S1 st1 _ P1 v y => P1 _ H1 g1 S1 st1⟩
theorem s_ret (hA : AE cs Γ C X W e x) : AS cs Γ C X W (.ret e) (.Return (some x) pos) := by
  refine PS.imp (ps_ret hA) ?_
  intro D σ H ⟨H0, g0, g, sl, hp, S, P⟩
  unfold exS at P
  exact ⟨H0, g0, g, sl, hp, S, P.bindE (Stp.refl S.hs.nofr) fun r σ1 h1 H1 g1 S1 st1 _ P1 v y => P1 _ H1 g1 S1 st1 v (y.base S.fr.there)⟩
theorem s_retN : AS cs Γ C X W .retN (.Return none pos) := PS.imp ps_retN fun D σ H ⟨H0, g0, g, sl, hp, S, P⟩ => P σ H g S (Stp.refl S.hs.nofr) _ .non
theorem s_pass : AS cs Γ C X W .pass (.Pass pos) := PS.imp ps_pass fun D σ H ⟨H0, g0, g, sl, hp, S, P⟩ => P σ H g S (Stp.refl S.hs.nofr)
theorem s_brk : AS cs Γ C X W .brk (.Break pos) := PS.imp ps_break fun D σ H ⟨H0, g0, g, sl, hp, S, P⟩ => P σ H g S (Stp.refl S.hs.nofr)
theorem s_cnt : AS cs Γ C X W .cnt (.Continue pos) := PS.imp ps_continue fun D σ H ⟨H0, g0, g, sl, hp, S, P⟩ => P σ H g S (Stp.refl S.hs.nofr)
theorem s_nev {st : Stmt} : AS cs Γ C X W .nev st := PS.imp ps_never fun D σ H ⟨H0, g0, g, sl, hp, S, P⟩ => P
theorem s_nil : AK cs Γ C X W .nil [] := PSs.imp pss_nil fun D σ H ⟨H0, g0, g, sl, hp, S, P⟩ => P σ H g S (Stp.refl S.hs.nofr)
theorem s_cons {s : S} {rr : Ss} {st : Stmt} {rest : List Stmt} (h1 : AS cs Γ C X W s st) (h2 : AK cs Γ C X W rr rest) : AK cs Γ C X W (.cons s rr) (st :: rest) := by
  refine PSs.imp (pss_cons h1 h2) ?_
  intro D σ H ⟨H0, g0, g, sl, hp, S, P⟩
  unfold exB at P
  refine ⟨H0, g0, g, sl, hp, S, ?_⟩
  cases q : exS Γ C s sl hp with
  | stuck => rw [q] at P; exact P.elim
  | exc c p σ1 h1 => rw [q] at P; exact P
  | ok fl σ1 h1 =>
    rw [q] at P
    intro σr' H' g' S' st'
    cases fl with
    | nx => exact ⟨H0, g0, g', σ1, h1, S', PostS.sub (m := exB Γ C rr σ1 h1) P st'⟩
    | bk => exact P σr' H' g' S' st'
    | ct => exact P σr' H' g' S' st'
    | rt r => exact P σr' H' g' S' st'
theorem s_if {c : E} {u w : Ss} {xs ys : List Stmt} (hC : AT cs Γ C X W c x) (hA : AK cs Γ C X W u xs) (hB : AK cs Γ C X W w ys) : AS cs Γ C X W (.iff c u w) (.If x xs ys pos) := by
  refine PS.imp (ps_if hC hA hB) ?_
  intro D σ H ⟨H0, g0, g, sl, hp, S, P⟩
  unfold exS at P
  refine ⟨H0, g0, g, sl, hp, S, P.bindE (Stp.refl S.hs.nofr) fun k σ1 h1 H1 g1 S1 st1 _ P1 => ?_⟩
  cases k with
  | true =>
    rw [if_pos rfl] at P1 ⊢
    exact ⟨H0, g0, g1, σ1, h1, S1, P1.sub st1⟩
  | false =>
    rw [if_neg Bool.false_ne_true] at P1 ⊢
    exact ⟨H0, g0, g1, σ1, h1, S1, P1.sub st1⟩
theorem whl_is {c : List Slot → List Ob → Res Bool} {b : List Slot → List Ob → Res Flow} {σ : List Slot} {h : List Ob} : (∃ n r, whlN c b n σ h = some r ∧ whl c b σ h = r) ∨ whl c b σ h = .stuck := by
  unfold whl
  split
  · rename_i e
    exact .inl ⟨_, _, (Classical.choose_spec e).choose_spec, rfl⟩
  · exact .inr rfl
theorem s_while (G : GoodS sy cs n Γ X W N sc) {c : E} {u : Ss} {xs : List Stmt} (hC : AT cs Γ C X W c x) (hA : AK cs Γ C X W u xs) : AS cs Γ C X W (.whl c u) (.While x xs [] pos) := by
  refine PS.imp (ps_while G.own hC hA) ?_
  intro D σ H ⟨H0, g0, g, sl, hp, S, P⟩
  unfold exS at P
  rcases whl_is (c := fun σ h => asB (evE Γ C c σ h)) (b := exB Γ C u) (σ := sl) (h := hp) with ⟨m, r, e1, e2⟩ | e
  · rw [e2] at P
    refine ⟨fun m σr' H' => ∃ g' σ' h', Sim X.K cs H0 g0 σr' H' g' σ' h' ∧ Stp H g H' g' ∧ whlN (fun σ h => asB (evE Γ C c σ h)) (exB Γ C u) m σ' h' = some r, ⟨m, g, sl, hp, S, Stp.refl S.hs.nofr, e1⟩, ?_⟩
    rintro m σr' H' ⟨g', σ', h', S', st', em⟩
    cases m with
    | zero => cases em
    | succ m =>
      unfold whlN at em
      refine ⟨H0, g0, g', σ', h', S', ?_⟩
      cases q : asB (evE Γ C c σ' h') with
      | stuck =>
        rw [q] at em
        cases em
        exact P.elim
      | exc k p σ1 h1 =>
        rw [q] at em
        cases em
        exact fun H2 g2 cl d S2 st2 xr => P σr' H2 g2 cl d S2 (st'.trans st2) xr
      | ok k σ1 h1 =>
        rw [q] at em
        cases k with
        | false =>
          cases em
          intro H2 g2 S2 st2
          dsimp only
          rw [if_neg Bool.false_ne_true]
          exact P σr' H2 g2 S2 (st'.trans st2)
        | true =>
          intro H2 g2 S2 st2
          dsimp only
          rw [if_pos rfl]
          refine ⟨_, fun σ'' H'' z => ⟨m, Nat.lt_succ_self m, z⟩, H0, g0, g2, σ1, h1, S2, ?_⟩
          dsimp only at em
          cases q2 : exB Γ C u σ1 h1 with
          | stuck =>
            rw [q2] at em
            cases em
            exact P.elim
          | exc k p σ3 h3 =>
            rw [q2] at em
            cases em
            exact fun σr3 H3 g3 cl d S3 st3 xr => P σr3 H3 g3 cl d S3 ((st'.trans st2).trans st3) xr
          | ok fl σ3 h3 =>
            rw [q2] at em
            intro σr3 H3 g3 S3 st3
            have all := (st'.trans st2).trans st3
            cases fl with
            | nx => exact ⟨g3, σ3, h3, S3, all, em⟩
            | ct => exact ⟨g3, σ3, h3, S3, all, em⟩
            | bk =>
              cases em
              exact P σr3 H3 g3 S3 all
            | rt rv =>
              cases em
              exact P σr3 H3 g3 S3 all
  · rw [e] at P
    exact P.elim
/-- a for's loop, of what is walked -/
theorem for_ok {tg : Expr} {f : D → List Slot → List Ob → Res Flow} {it : I} {gt : TG} {tb : TS} {D : Ends} {σr : L2.St} {H : Hp} {H0 : Hp} {g0 g : Gh} {sl : List Slot} {hp : List Ob} (S : Sim X.K cs H0 g0 σr H g sl hp)
    (P : PostS X.K cs H0 g0 H g W ((evI Γ C it sl hp).bind fun ds σ h => forL f ds σ h) D)
    (T : ∀ (d : Pm.D) (x : V) (σr : L2.St) (H1 : Hp) (g1 : Gh) (σ : List Slot) (h : List Ob) (D' : Ends), Sim X.K cs H0 g0 σr H1 g1 σ h → RD X.K g1 H1 x d → PostS X.K cs H0 g0 H1 g1 W (f d σ h) D' → gt x σr H1 fun σ2 H2 => tb D' σ2 H2) :
    tFor (tIt X.K cs Γ C W it) gt tb D σr H := by
  refine ⟨H0, g0, g, sl, hp, S, P.bindE (Stp.refl S.hs.nofr) fun ds σ1 h1 H1 g1 S1 st1 _ P1 J wk => ?_⟩
  refine ⟨fun j m σr' Hj => m = ds.length - j ∧ j ≤ ds.length ∧ ∃ gj σj hj, Sim X.K cs H0 g0 σr' Hj gj σj hj ∧ Stw H1 g1 Hj gj ∧ Stp H g Hj gj ∧ PostS X.K cs H0 g0 H g W (forL f (ds.drop j) σj hj) D,
    ⟨ds.length, by simp, Nat.zero_le _, g1, σ1, h1, S1, (Stp.refl S1.hs.nofr).w, st1, P1⟩, ?_⟩
  rintro j m σr' Hj ⟨rfl, hj, gj, σj, hj', Sj, wj, bj, Pj⟩
  by_cases hlt : j < ds.length
  · refine .inr ⟨wk.go j Hj gj hlt wj, fun σr3 H3 => ∃ gj σj hj, Sim X.K cs H0 g0 σr3 H3 gj σj hj ∧ Stw H1 g1 H3 gj ∧ Stp H g H3 gj ∧ PostS X.K cs H0 g0 H g W (forL f (ds.drop (j + 1)) σj hj) D,
      fun σ' H' y => ⟨ds.length - (j + 1), by omega, rfl, hlt, y⟩, fun x H' y => ?_⟩
    obtain ⟨d, ed, hx⟩ := wk.yld j Hj gj x H' wj y hlt
    obtain ⟨S', fr, rdx⟩ : Sim X.K cs H0 g0 σr' H' gj σj hj' ∧ FrS Hj gj H' gj ∧ RD X.K gj H' x d := by
      rcases hx with ⟨rfl, rd⟩ | ⟨T', y', rfl, hT, rfl, dy, rfl, rdy⟩
      · exact ⟨Sj, FrS.refl, rd⟩
      · exact ⟨Sj.new hT, FrS.new hT, .tup (SqT.of upd_same) (.cons (.int _) (.cons (RD.mono (Stp.new Sj.hs hT) rdy) .nil))⟩
    have stf := Sj.hs.stp fr
    have drop1 : ds.drop j = d :: ds.drop (j + 1) := by
      obtain ⟨hl, he⟩ := List.getElem?_eq_some_iff.mp ed
      rw [List.drop_eq_getElem_cons hl, he]
    rw [drop1] at Pj
    unfold forL at Pj
    refine T d x σr' H' gj σj hj' _ S' rdx ?_
    cases q : f d σj hj' with
    | stuck => rw [q] at Pj; exact Pj.elim
    | exc c p σ3 h3 =>
      rw [q] at Pj
      exact fun σr3 H3 g3 cl d S3 st3 xr => Pj σr3 H3 g3 cl d S3 ((bj.trans stf).trans st3) xr
    | ok fl σ3 h3 =>
      rw [q] at Pj
      intro σr3 H3 g3 S3 st3
      have all := (bj.trans stf).trans st3
      have allw := (wj.trans stf.w).trans st3.w
      cases fl with
      | nx => exact ⟨g3, σ3, h3, S3, allw, all, Pj⟩
      | ct => exact ⟨g3, σ3, h3, S3, allw, all, Pj⟩
      | bk => exact Pj σr3 H3 g3 S3 all
      | rt r => exact Pj σr3 H3 g3 S3 all
  · have ej : j = ds.length := by omega
    subst ej
    refine .inl ⟨wk.stop _ Hj gj (Nat.le_refl _) wj, ?_⟩
    rw [List.drop_length] at Pj
    exact Pj σr' Hj gj Sj bj
theorem s_for1 (G : GoodS sy cs n Γ X W N sc) {it : I} {u : Ss} {xs : List Stmt} (hz : locB N sc i z = true) (hset : notSet x = true) (hI : AI cs Γ C X W it (.Name z p1) x) (hA : AK cs Γ C X W u xs) : AS cs Γ C X W (.for1 i it u) (.For (.Name z p1) x xs [] pos) := by
  refine PS.imp (ps_for G.own G.calm hI (pg_loc G hz) hA (notSet_fold hset X.env)) ?_
  intro D σ H ⟨H0, g0, g, sl, hp, S, P⟩
  unfold exS at P
  exact for_ok (tg := x) S P fun d x σr H1 g1 σ h D' S1 rd P1 => ⟨H0, g0, g1, _, h, S1.setv rd, P1⟩
theorem s_forT (G : GoodS sy cs n Γ X W N sc) {it : I} {u : Ss} {xs : List Stmt} {is : List Nat} {es : List Expr} {kk : Nat} (hz : chkT N sc is es = true) (hset : notSet x = true) (hI : AI cs Γ C X W it (.Tuple es kk p1) x) (hA : AK cs Γ C X W u xs) : AS cs Γ C X W (.forT is it u) (.For (.Tuple es kk p1) x xs [] pos) := by
  obtain ⟨g1, g2, g3⟩ := pgs_names G hz
  refine PS.imp (ps_for G.own G.calm hI (pg_tup G.calm g1 g2 g3) hA (notSet_fold hset X.env)) ?_
  intro D σ H ⟨H0, g0, g, sl, hp, S, P⟩
  unfold exS at P
  refine for_ok (tg := x) S P fun d x σr H1 g1 σ h D' S1 rd P1 => ?_
  split at P1
  · rename_i ys
    split at P1
    · rename_i σ2 e2
      cases rd with
      | tup t1 t2 =>
        rename_i a vs
        refine ⟨a, vs, rfl, t1, ?_, bind_names e2 t2 S1 fun σr' S2 => ⟨H0, g0, g1, σ2, h, S2, P1⟩⟩
        have : ∀ {is : List Nat} {ds : List Pm.D} {σ σ' : List Slot}, bindS is ds σ = some σ' → ds.length = is.length := by
          intro is
          induction is with
          | nil =>
            intro ds σ σ' e
            cases ds with
            | nil => rfl
            | cons d ds => cases e
          | cons i is ih =>
            intro ds σ σ' e
            cases ds with
            | nil => cases e
            | cons d ds => exact congrArg (· + 1) (ih e)
        rw [t2.len, this e2]
    · exact P1.elim
  · exact P1.elim
end
end Pm

set_option Elab.async false
set_option linter.all false
set_option maxRecDepth 100000
set_option maxHeartbeats 4000000
/-! The pure machine: fields stored. -/
namespace Pm
open PySem PySem.Spec L2
section
variable {sy : Sy} {cs : Cls0} {n : Nat} {Γ : Calls} {C : Cf} {X : Cx} {W : WX} {N : List Str} {sc : Scope} {e a b : E} {x l r : Expr} {pos p1 p2 p3 p4 p5 spos : Pos} {i k : Nat} {z y f f2 : Str}
/-- a field of an object of the pure heap is stored -/
theorem put_fld {H0 H : Hp} {g0 g : Gh} {σr : L2.St} {sl : List Slot} {hp : List Ob} {j c : Nat} {fs : List (Str × R)} {v : V} {r : R} (S : Sim X.K cs H0 g0 σr H g sl hp) (q : sl[i]? = some (.v (.ref j))) (qo : hp[j]? = some (.ins c fs))
    (y : ∀ H' g', Stp H g H' g' → (∀ b vs, H b = some (.lst vs) → H' b = some (.lst vs)) → FR X.K g H j f v r → FR X.K g' H' j f v r) (x : FR X.K g H j f v r) :
    ∃ a dx fv, σr[i]? = some (some (.ref a)) ∧ H a = some (.ins cs.own dx fv) ∧ fv.length = fs.length ∧ Sim X.K cs H0 g0 σr (upd H a (.ins cs.own dx (putF f v fv))) g sl (hp.set j (.ins c (putR f r fs))) ∧ ∀ Hb gb, Stp Hb gb H g → Stp Hb gb (upd H a (.ins cs.own dx (putF f v fv))) g := by
  obtain ⟨a, dx, fv, e1, hr, t1, e2, fr⟩ := fld_at S q qo
  have tn : g.tag a ≠ .free := by rw [t1]; intro z; cases z
  have tz : g.tag a ≠ .froz := by rw [t1]; intro z; cases z
  have st : Stp H g (upd H a (.ins cs.own dx (putF f v fv))) g := (Stp.refl S.hs.nofr).upd (vs := []) e2 (.inr ⟨_, _, _, rfl⟩) tn tz
  have keep : ∀ b vs, H b = some (.lst vs) → upd H a (.ins cs.own dx (putF f v fv)) b = some (.lst vs) := fun b vs w => by
    rw [upd_ne (fun q => by rw [q, e2] at w; cases w)]
    exact w
  obtain ⟨a2, r2, _, mk⟩ := S.mutO qo
  rw [hr] at r2
  cases r2
  obtain ⟨S2, st2⟩ := mk (.ins cs.own dx (putF f v fv)) (.ins c (putR f r fs)) (.inr ⟨_, _, _, rfl⟩) ⟨dx, _, upd_same, (fr.mono st fun b vs k w _ => keep b vs w).put (y _ _ st keep x)⟩
  exact ⟨a, dx, fv, e1, e2, fr.lenE, S2, st2⟩
theorem s_stf (G : GoodS sy cs n Γ X W N sc) (hz : nmB N sc i z = true) (hf : f ∈ sy.flds) (hn : notComp x = true) (hA : AE cs Γ C X W e x) : AS cs Γ C X W (.stf i f e) (.Assign [.Attribute (.Name z p1) f p2] x pos) := by
  refine PS.imp (ps_fld (pe_nm G.toGood hz) hA (swaps_non hn)) ?_
  intro D σ H ⟨H0, g0, g, sl, hp, S, P⟩
  unfold exS at P
  refine ⟨H0, g0, g, sl, hp, S, P.bindE (Stp.refl S.hs.nofr) fun r σ1 h1 H1 g1 S1 st1 _ P1 v y => ?_⟩
  split at P1
  · rename_i j q1
    split at P1
    · rename_i c fs qo
      split at P1
      · rename_i hz2
        cases r with
        | v d =>
          obtain ⟨a, dx, fv, e1, e2, hl, S2, st2⟩ := put_fld (f := f) (v := v) (r := .v d) S1 q1 qo (fun H' g' st _ x => RD.mono st x) y
          exact ⟨_, e1, a, cs.own, dx, fv, rfl, e2, (G.ok.flds f hf).2, (G.ok.flds f hf).1, by omega, P1 _ _ g1 S2 (st2 _ _ st1)⟩
        | o xs =>
          obtain ⟨b, vs, rfl, eb, e1, e2, rs⟩ := y
          have S1' := S1.retagF (t := .fld j f) e2 e1 (S.fresh0 eb)
          have st1' := st1.retag (t := .fld j f) eb (by rw [e2]; rfl)
          have x : FR X.K (g1.set b (.fld j f)) H1 j f (.ref b) (.o xs) := ⟨b, vs, rfl, e1, Gh.set_same, RDs.retag (by rw [e2]; intro z; cases z) rs⟩
          obtain ⟨a, dx, fv, e1', e2', hl, S2, st2⟩ := put_fld (f := f) (v := .ref b) (r := .o xs) S1' q1 qo (fun H' g' st k x => x.mono st fun b vs w _ => k b vs w) x
          exact ⟨_, e1', a, cs.own, dx, fv, rfl, e2', (G.ok.flds f hf).2, (G.ok.flds f hf).1, by omega, P1 _ _ _ S2 (st2 _ _ st1')⟩
      · exact P1.elim
    · exact P1.elim
  · exact P1.elim
theorem s_appF (G : GoodS sy cs n Γ X W N sc) (hz : nmB N sc i z = true) (hf : f ∈ sy.flds) (hy : nmB N sc k y = true) (hf2 : f2 ∈ sy.flds) (hline : (p3.endLine == pos.line) = true) :
    AS cs Γ C X W (.appF i f (.fld (.var k) f2)) (.Expr (.Call (.Attribute (.Attribute (.Name z p1) f p2) "append" p3) [.Attribute (.Name y p4) f2 p5] [] pos) spos) := by
  refine PS.imp (ps_expr (pe_bm PySem.F.plainAttrs_list PySem.F.slot_list_append PySem.F.type_list_append mt_append (pe_fld (pe_nm G.toGood hz) rfl) (pa_cons (pe_fld (pe_nm G.toGood hy) rfl) pa_nil (by rfl)) (by rfl) (by rfl) hline (by rfl) (by rfl))) ?_
  intro D σ H ⟨H0, g0, g, sl, hp, S, P⟩
  unfold exS at P
  unfold evE at P
  unfold evE at P
  cases q2 : sl[k]? with
  | none => simp only [q2, Res.bind] at P; exact P.elim
  | some s2 =>
    cases s2 with
    | un => simp only [q2, Res.bind] at P; exact P.elim
    | x c p => simp only [q2, Res.bind] at P; exact P.elim
    | o ys => simp only [q2, Res.bind] at P; exact P.elim
    | v d2 =>
      simp only [q2, Res.bind_ok] at P
      cases d2 with
      | ref j2 =>
        simp only at P
        cases qo2 : hp[j2]? with
        | none => simp only [qo2, Res.bind] at P; exact P.elim
        | some ob2 =>
          cases ob2 with
          | lst ys => simp only [qo2, Res.bind] at P; exact P.elim
          | ins c2 fs2 =>
            simp only [qo2] at P
            cases ql2 : fs2.lookup f2 with
            | none => simp only [ql2, Res.bind] at P; exact P.elim
            | some r2 =>
              cases r2 with
              | o ys => simp only [ql2, Res.bind] at P; exact P.elim
              | v d =>
                simp only [ql2, Res.bind_ok] at P
                obtain ⟨a2, dx2, fv2, e12, _, _, e22, fr2⟩ := fld_at S q2 qo2
                obtain ⟨v2, lv2, rv2⟩ := fr2.look ql2
                split at P
                · rename_i j q1
                  split at P
                  · rename_i c fs qo
                    split at P
                    · rename_i ys ql
                      split at P
                      · rename_i hk
                        rw [Bool.and_eq_true, decide_eq_true_eq] at hk
                        obtain ⟨a, dx, fv, e1, hr, t1, e2, fr⟩ := fld_at S q1 qo
                        obtain ⟨v, lv, b, vs, rfl, e3, t3, rs⟩ := fr.look ql
                        obtain ⟨S2, st2⟩ := mut_fld S qo hr t1 e2 fr hk.1 lv e3 t3 (RDs.append rs (.cons rv2 .nil))
                        exact ⟨_, e1, a, cs.own, dx, fv, _, rfl, e2, (G.ok.flds f hf).2, (G.ok.flds f hf).1, lv, .inl ⟨rfl, _, .inl (.inl e3)⟩, _, e12, a2, cs.own, dx2, fv2, v2, rfl, e22, (G.ok.flds f2 hf2).2, (G.ok.flds f2 hf2).1, lv2,
                          b, vs, v2, rfl, rfl, e3, by rw [rs.len]; exact hk.2, P σ _ g S2 (st2 H g (Stp.refl S.hs.nofr))⟩
                      · exact P.elim
                    · exact P.elim
                  · exact P.elim
                · exact P.elim
      | _ => simp only [Res.bind] at P; exact P.elim
end
end Pm

set_option Elab.async false
set_option linter.all false
set_option maxRecDepth 100000
set_option maxHeartbeats 4000000
/-! The pure machine: statements, second part. -/
namespace Pm
open PySem PySem.Spec L2
section
variable {sy : Sy} {cs : Cls0} {n : Nat} {Γ : Calls} {C : Cf} {X : Cx} {W : WX} {N : List Str} {sc scope : Scope} {e a b elt c : E} {x l r ex iter tx : Expr} {pos spos p1 p2 p3 py pz : Pos} {i j : Nat} {y z : Str} {it : I}
theorem swaps_com {gens : List Comprehension} {line : Nat} {env : Env} : swapsWith (.ListComp ex gens scope pos) (some (.Name y py)) line env =
    pure (env.blockKind == .function && env.kindOf y == some .local && py.line == pos.line && !(scope.names.any fun (n, k) => n == y && (k == .local || k == .cell))) := rfl
theorem swaps_cell {gens : List Comprehension} {line : Nat} {env : Env} (h : env.scope.names.lookup y = some .cell) : swapsWith (.ListComp ex gens scope pos) (some (.Name y py)) line env = pure false := by
  have e : (env.kindOf y == some .local) = false := by
    show (env.scope.names.lookup y == some .local) = false
    rw [h]
    rfl
  rw [swaps_com, e]
  simp
theorem s_com (G : GoodS sy cs n Γ X W N sc) (hj : locB N sc j y = true) (hi : N[i]? = some z) (hl : (relS scope sc).names.lookup z = some .local) (hb : blkC N sc scope [(z, i)] = true) (hset : notSet iter = true) (hI : AI cs Γ C X W it (.Name z pz) iter)
    (hE : ∀ X', X'.K = X.K → Good sy cs n Γ X' W0 N (relS scope sc) → AE cs Γ C X' W0 elt ex) : AS cs Γ C X W (.set j (.com i elt it)) (.Assign [.Name y py] (.ListComp ex [⟨.Name z pz, iter, [], 0⟩] scope pos) spos) := by
  obtain ⟨h1, h2⟩ := locB_of G hj
  refine h2.elim (fun h2 => ?_) fun h2 => PS.imp (ps_set G.nd h1 (.inr h2) (k_com G.toGood hi hl hb hset hI hE) (swaps_cell h2) (.inl (G.fnT y))) fun D σ H h => set_read h
  have sw := swaps_com (ex := ex) (scope := scope) (pos := pos) (y := y) (py := py) (gens := [⟨.Name z pz, iter, [], 0⟩]) (line := spos.line) (env := X.env)
  generalize (X.env.blockKind == .function && X.env.kindOf y == some .local && py.line == pos.line && !(scope.names.any fun (n, k) => n == y && (k == .local || k == .cell))) = bb at sw
  cases bb with
  | false => exact PS.imp (ps_set G.nd h1 (.inl h2) (k_com G.toGood hi hl hb hset hI hE) sw (.inl (G.fnT y))) fun D σ H h => set_read h
  | true =>
    have ok : BlkOk X.N X.env.scope scope [(z, i)] := by
      rw [G.nm, G.sc]
      exact blkOk_by hb
    refine PS.imp (ps_setLc (own := [(z, i)]) (tt := tYes) (te := tE X.K cs Γ C W0 elt) G.calm G.nd h1 h2 sw hI ok (fun s H Ca cl fp => pg_name G.nd (by rw [G.nm]; exact hi) (.inl (by rw [(good_blk G.toGood s H Ca cl fp).sc]; exact hl)) (.inr (by rw [(good_blk G.toGood s H Ca cl fp).sc]; exact hl)))
      (fun s H Ca cl fp => pts_nil) (fun s H Ca cl fp => hE _ rfl (good_blk G.toGood s H Ca cl fp)) (notSet_fold hset X.env)) ?_
    intro D σ H h
    obtain ⟨H0, g0, g, sl, hp, S, P⟩ := set_read h
    unfold evE at P
    exact com_ok turn_plain S P
theorem s_comf (G : GoodS sy cs n Γ X W N sc) (hj : locB N sc j y = true) (hi : N[i]? = some z) (hl : (relS scope sc).names.lookup z = some .local) (hb : blkC N sc scope [(z, i)] = true) (hset : notSet iter = true) (hI : AI cs Γ C X W it (.Name z pz) iter)
    (hE : ∀ X', X'.K = X.K → Good sy cs n Γ X' W0 N (relS scope sc) → AE cs Γ C X' W0 elt ex) (hC : ∀ X', X'.K = X.K → Good sy cs n Γ X' W0 N (relS scope sc) → AT cs Γ C X' W0 c tx) :
    AS cs Γ C X W (.set j (.comf i elt it c)) (.Assign [.Name y py] (.ListComp ex [⟨.Name z pz, iter, [tx], 0⟩] scope pos) spos) := by
  obtain ⟨h1, h2⟩ := locB_of G hj
  refine h2.elim (fun h2 => ?_) fun h2 => PS.imp (ps_set G.nd h1 (.inr h2) (k_comf G.toGood hi hl hb hset hI hE hC) (swaps_cell h2) (.inl (G.fnT y))) fun D σ H h => set_read h
  have sw := swaps_com (ex := ex) (scope := scope) (pos := pos) (y := y) (py := py) (gens := [⟨.Name z pz, iter, [tx], 0⟩]) (line := spos.line) (env := X.env)
  generalize (X.env.blockKind == .function && X.env.kindOf y == some .local && py.line == pos.line && !(scope.names.any fun (n, k) => n == y && (k == .local || k == .cell))) = bb at sw
  cases bb with
  | false => exact PS.imp (ps_set G.nd h1 (.inl h2) (k_comf G.toGood hi hl hb hset hI hE hC) sw (.inl (G.fnT y))) fun D σ H h => set_read h
  | true =>
    have ok : BlkOk X.N X.env.scope scope [(z, i)] := by
      rw [G.nm, G.sc]
      exact blkOk_by hb
    refine PS.imp (ps_setLc (own := [(z, i)]) (tt := tB X.K cs Γ C W0 c) (te := tE X.K cs Γ C W0 elt) G.calm G.nd h1 h2 sw hI ok (fun s H Ca cl fp => pg_name G.nd (by rw [G.nm]; exact hi) (.inl (by rw [(good_blk G.toGood s H Ca cl fp).sc]; exact hl)) (.inr (by rw [(good_blk G.toGood s H Ca cl fp).sc]; exact hl)))
      (fun s H Ca cl fp => pts_one (hC _ rfl (good_blk G.toGood s H Ca cl fp))) (fun s H Ca cl fp => hE _ rfl (good_blk G.toGood s H Ca cl fp)) (notSet_fold hset X.env)) ?_
    intro D σ H h
    obtain ⟨H0, g0, g, sl, hp, S, P⟩ := set_read h
    unfold evE at P
    exact com_ok turn_test S P
def notTup : Expr → Bool
  | .Tuple _ _ _ => false
  | _ => true
theorem swapped_non {es : List Expr} {kk : Nat} {env : Env} (h : notTup x = true) : swappedStores [.Tuple es kk p1] x env = pure none := by
  cases x <;> first | rfl | cases h
theorem bindS_len : ∀ {is : List Nat} {ds : List Pm.D} {σ σ' : List Slot}, bindS is ds σ = some σ' → ds.length = is.length := by
  intro is
  induction is with
  | nil =>
    intro ds σ σ' e
    cases ds with
    | nil => rfl
    | cons d ds => cases e
  | cons i is ih =>
    intro ds σ σ' e
    cases ds with
    | nil => cases e
    | cons d ds => exact congrArg (· + 1) (ih e)
theorem s_setT (G : GoodS sy cs n Γ X W N sc) {is : List Nat} {es : List Expr} {kk : Nat} (hz : chkT N sc is es = true) (hn : notComp x = true) (ht : notTup x = true) (hA : AE cs Γ C X W e x) : AS cs Γ C X W (.setT is e) (.Assign [.Tuple es kk p1] x pos) := by
  obtain ⟨g1, g2, g3⟩ := pgs_names G hz
  refine PS.imp (ps_asg hA (pg_tup G.calm g1 g2 g3) (by show swapsWith x (some (.Tuple es kk p1)) pos.line X.env = pure false; exact swaps_non hn) (swapped_non ht)) ?_
  intro D σ H ⟨H0, g0, g, sl, hp, S, P⟩
  unfold exS at P
  refine ⟨H0, g0, g, sl, hp, S, P.bindE (Stp.refl S.hs.nofr) fun r σ1 h1 H1 g1 S1 st1 _ P1 v y => ?_⟩
  split at P1
  · rename_i ys
    split at P1
    · rename_i σ2 e2
      cases y with
      | tup t1 t2 =>
        rename_i a vs
        exact ⟨a, vs, rfl, t1, by rw [t2.len, bindS_len e2], bind_names e2 t2 S1 fun σr' S2 => P1 σr' H1 g1 S2 st1⟩
    · exact P1.elim
  · exact P1.elim
/-- a name that holds a list: its address -/
theorem list_at {H0 H : Hp} {g0 g : Gh} {σr : L2.St} {sl : List Slot} {hp : List Ob} (S : Sim X.K cs H0 g0 σr H g sl hp) (hl : lstSlot sl hp i = true) : ∃ a vs, σr[i]? = some (some (.ref a)) ∧ H a = some (.lst vs) := by
  unfold lstSlot at hl
  split at hl
  · rename_i xs q
    obtain ⟨v, hv⟩ : ∃ v, σr[i]? = some (some v) := by
      cases q2 : sl[i]? with
      | none => simp [cont, q2] at q
      | some s =>
        have z := S.sl i s q2
        cases s with
        | un => simp [cont, q2] at q
        | v d => exact ⟨_, z.choose_spec.1⟩
        | o ys => exact ⟨_, z.choose_spec.choose_spec.1⟩
        | x c p => simp [cont, q2] at q
    obtain ⟨a, vs, rfl, e1, _⟩ := (CR.of (K := X.K) (Hb := H) (o := .s i) S q hv).lst
    exact ⟨a, vs, hv, e1⟩
  · cases hl
/-- a list of the pure heap is written -/
theorem mut_obj {H0 H1 : Hp} {g0 g1 : Gh} {σr : L2.St} {σ1 : List Slot} {h1 : List Ob} {a0 : Addr} {jo : Nat} {xs : List D} (S1 : Sim X.K cs H0 g0 σr H1 g1 σ1 h1) (e0 : σr[i]? = some (some (.ref a0))) (q1 : σ1[i]? = some (.v (.ref jo))) (qo : h1[jo]? = some (.lst xs)) :
    ∃ vs, H1 a0 = some (.lst vs) ∧ RDs X.K g1 H1 vs xs ∧ ∀ vs' xs', RDs X.K g1 H1 vs' xs' → Sim X.K cs H0 g0 σr (upd H1 a0 (.lst vs')) g1 σ1 (h1.set jo (.lst xs')) ∧ ∀ Hb gb, Stp Hb gb H1 g1 → Stp Hb gb (upd H1 a0 (.lst vs')) g1 := by
  obtain ⟨a1, r1, ⟨vs, f2, f3⟩, f4⟩ := S1.mutO qo
  obtain ⟨v0, e1, rd⟩ := S1.sl i _ q1
  rw [e0] at e1
  cases e1
  cases rd with
  | ref r2 =>
    rw [r1] at r2
    cases r2
    refine ⟨vs, f2, f3, fun vs' xs' rs => ?_⟩
    have stp0 : Stp H1 g1 (upd H1 a0 (.lst vs')) g1 := by
      obtain ⟨a2, r2', t2, _⟩ := S1.hs.ob jo _ qo
      rw [r1] at r2'
      cases r2'
      exact (Stp.refl S1.hs.nofr).upd (vs := vs) f2 (.inl ⟨_, rfl⟩) (by rw [t2]; intro z; cases z) (by rw [t2]; intro z; cases z)
    exact f4 (.lst vs') (.lst xs') (.inl ⟨_, rfl⟩) ⟨_, upd_same, RDs.mono stp0 rs⟩
theorem s_app (G : GoodS sy cs n Γ X W N sc) (hz : nmB N sc i z = true) (hline : (p2.endLine == pos.line) = true) (hs : notStar l = true) (hA : AE cs Γ C X W a l) :
    AS cs Γ C X W (.app i a) (.Expr (.Call (.Attribute (.Name z p1) "append" p2) [l] [] pos) spos) := by
  refine PS.imp (ps_expr (pe_bm PySem.F.plainAttrs_list PySem.F.slot_list_append PySem.F.type_list_append mt_append (pe_nm G.toGood hz) (pa_cons hA pa_nil (star_cons hs)) (by rfl) (by rw [star_cons hs]; rfl) hline (star_cons hs) (by rfl))) ?_
  intro D σ H ⟨H0, g0, g, sl, hp, S, P⟩
  unfold exS at P
  split at P
  · rename_i hl
    obtain ⟨a0, vs0, e0, l0⟩ := list_at S hl
    refine ⟨.ref a0, e0, .inl ⟨rfl, _, .inl (.inl l0)⟩, H0, g0, g, sl, hp, S, P.bindE (Stp.refl S.hs.nofr) fun r σ1 h1 H1 g1 S1 st1 _ P1 v y => ?_⟩
    obtain ⟨g2, S2, st2, rd, _⟩ := S1.freeze st1 y fun a ha => S.fresh0 ha
    split at P1
    · rename_i xs q1
      obtain ⟨a1, vs, f1, f2, f3, f4⟩ := S2.mutS q1
      rw [e0] at f1
      cases f1
      split at P1
      · rename_i hk
        obtain ⟨S3, st3⟩ := f4 (vs ++ [v]) (xs ++ [r.d]) (f3.append (.cons rd .nil))
        exact ⟨a0, vs, v, rfl, rfl, f2, by rw [f3.len]; exact hk, P1 _ _ g2 S3 (st3 _ _ st2)⟩
      · exact P1.elim
    · rename_i jo q1
      split at P1
      · rename_i xs qo
        split at P1
        · rename_i hk
          obtain ⟨vs, f2, f3, f4⟩ := mut_obj S2 e0 q1 qo
          obtain ⟨S3, st3⟩ := f4 (vs ++ [v]) (xs ++ [r.d]) (f3.append (.cons rd .nil))
          exact ⟨a0, vs, v, rfl, rfl, f2, by rw [f3.len]; exact hk, P1 _ _ g2 S3 (st3 _ _ st2)⟩
        · exact P1.elim
      · exact P1.elim
    · exact P1.elim
  · exact P.elim
theorem s_ext (G : GoodS sy cs n Γ X W N sc) (hz : nmB N sc i z = true) (hline : (p2.endLine == pos.line) = true) (hs : notStar l = true) (hA : AE cs Γ C X W a l) :
    AS cs Γ C X W (.ext i a) (.Expr (.Call (.Attribute (.Name z p1) "extend" p2) [l] [] pos) spos) := by
  refine PS.imp (ps_expr (pe_bm PySem.F.plainAttrs_list PySem.F.slot_list_extend PySem.F.type_list_extend mt_extend (pe_nm G.toGood hz) (pa_cons hA pa_nil (star_cons hs)) (by rfl) (by rw [star_cons hs]; rfl) hline (star_cons hs) (by rfl))) ?_
  intro D σ H ⟨H0, g0, g, sl, hp, S, P⟩
  unfold exS at P
  split at P
  · rename_i hl
    obtain ⟨a0, vs0, e0, l0⟩ := list_at S hl
    refine ⟨.ref a0, e0, .inl ⟨rfl, _, .inl (.inl l0)⟩, H0, g0, g, sl, hp, S, P.bindE (Stp.refl S.hs.nofr) fun r σ1 h1 H1 g1 S1 st1 _ P1 v y => ?_⟩
    obtain ⟨g2, S2, st2, rd, _⟩ := S1.freeze st1 y fun a ha => S.fresh0 ha
    split at P1
    · rename_i ys xs q0 q1
      rw [q0] at rd
      obtain ⟨a1, vs, f1, f2, f3, f4⟩ := S2.mutS q1
      rw [e0] at f1
      cases f1
      cases rd with
      | lst b1 b2 b3 =>
        rename_i ab vb
        split at P1
        · rename_i hk
          obtain ⟨S3, st3⟩ := f4 (vs ++ vb) (xs ++ ys) (f3.append b3)
          exact ⟨a0, ab, vs, vb, rfl, rfl, f2, b1, by rw [f3.len, b3.len]; exact hk, P1 _ _ g2 S3 (st3 _ _ st2)⟩
        · exact P1.elim
    · exact P1.elim
  · exact P.elim
theorem s_sti (G : GoodS sy cs n Γ X W N sc) (hz : nmB N sc i z = true) (hn : notComp x = true) (hsl : notSlice l = true) (hA : AE cs Γ C X W e x) (hB : AE cs Γ C X W b l) :
    AS cs Γ C X W (.sti i b e) (.Assign [.Subscript (.Name z p1) l p2] x pos) := by
  have hsub : ∀ v, assign (.Subscript (.Name z p1) l p2) X.env v = (do
      let ov ← holding [v] (eval (.Name z p1) X.env)
      let iv ← holding [v, ov] (eval l X.env)
      standAt p2
      holding [v, ov, iv] (setItem ov iv v)
      release [v, ov, iv] []) := by
    intro v
    cases l <;> first | rfl | cases hsl
  refine PS.imp (ps_asg hA (pg_sub (pe_nm G.toGood hz) hB set_list hsub) (by show swapsWith x (some (.Subscript (.Name z p1) l p2)) pos.line X.env = pure false; exact swaps_non hn) (by cases x <;> rfl)) ?_
  intro D σ H ⟨H0, g0, g, sl, hp, S, P⟩
  unfold exS at P
  refine ⟨H0, g0, g, sl, hp, S, P.bindE (Stp.refl S.hs.nofr) fun r σ1 h1 H1 g1 S1 st1 _ P1 v y => ?_⟩
  obtain ⟨g2, S2, st2, rd, _⟩ := S1.freeze st1 y fun a ha => S.fresh0 ha
  split at P1
  · rename_i hl
    obtain ⟨a0, vs0, e0, l0⟩ := list_at S2 hl
    refine ⟨.ref a0, e0, H0, g0, g2, σ1, h1, S2, P1.bindE st2 fun q σ2 h2 H2 g3 S3 st3 st3' P2 iv yi => ?_⟩
    have rd3 := RD.mono st3 rd
    split at P2
    · rename_i zi
      cases yi
      split at P2
      · rename_i xs q1
        obtain ⟨a1, vs, f1, f2, f3, f4⟩ := S3.mutS q1
        rw [e0] at f1
        cases f1
        split at P2
        · rename_i k hk
          obtain ⟨S4, st4⟩ := f4 (vs.set k v) (xs.set k r.d) (f3.set rd3 k)
          exact ⟨a0, vs, zi, k, rfl, rfl, f2, by rw [f3.len]; exact hk, P2 _ _ g3 S4 (st4 _ _ st3')⟩
        · exact P2.elim
      · rename_i jo q1
        split at P2
        · rename_i xs qo
          split at P2
          · rename_i k hk
            obtain ⟨vs, f2, f3, f4⟩ := mut_obj S3 e0 q1 qo
            obtain ⟨S4, st4⟩ := f4 (vs.set k v) (xs.set k r.d) (f3.set rd3 k)
            exact ⟨a0, vs, zi, k, rfl, rfl, f2, by rw [f3.len]; exact hk, P2 _ _ g3 S4 (st4 _ _ st3')⟩
          · exact P2.elim
        · exact P2.elim
      · exact P2.elim
    · exact P2.elim
  · exact P1.elim
def isStar : Expr → Bool
  | .Starred _ _ => true
  | _ => false
theorem star_b (h : notStar x = true) : isStar x = false := by
  cases x <;> first | rfl | cases h
def locL (N : List Str) (sc : Scope) (i : Nat) (z : Str) : Bool := decide (N[i]? = some z) && decide (sc.names.lookup z = some .local)
def par2B (N : List Str) (sc : Scope) (i j : Nat) (x y : Str) (px py : Pos) (l r : Expr) : Bool :=
  locL N sc i x && (locL N sc j y && (!(i == j) && (!(x == y) && (px.line == py.line && (notStar l && (notStar r && (!(foldedForSure 8 l && foldedForSure 8 r) && !(constantsAlone 8 l && constantsAlone 8 r))))))))
theorem swapped_two {x y : Str} {px py pt pt2 : Pos} {kt k2 : Nat} {env : Env} (hb : env.blockKind = ScopeKind.function) (hx : env.kindOf x = some .local) (hy : env.kindOf y = some .local) (hxy : (x == y) = false) (hp : (px.line == py.line) = true)
    (hl : notStar l = true) (hr : notStar r = true) (hf : (foldedForSure 8 l && foldedForSure 8 r) = false) (hc : (constantsAlone 8 l && constantsAlone 8 r) = false) :
    swappedStores [.Tuple [.Name x px, .Name y py] kt pt] (.Tuple [l, r] k2 pt2) env = pure (some [x, y]) := by
  have e1 := star_b hl
  have e2 := star_b hr
  have hp' : (py.line == px.line) = true := by
    rw [beq_iff_eq] at hp ⊢
    exact hp.symm
  have hyx : (y == x) = false := by
    rw [beq_eq_false_iff_ne] at hxy ⊢
    exact fun q => hxy q.symm
  unfold swappedStores
  simp [hb, hx, hy, hp', List.filterMap, List.all_cons, hf, hc, List.eraseDups, List.eraseDupsBy, List.eraseDupsBy.loop, hyx, hxy]
  rw [if_neg (by
    intro h
    rcases h with h | h
    · exact absurd (e1.symm.trans h) Bool.false_ne_true
    · exact absurd (e2.symm.trans h) Bool.false_ne_true)]
  have q1 : (Expr.Name x px).pos = px := rfl
  have q2 : py.line = px.line := eq_of_beq hp'
  simp [q1, q2, List.eraseDupsBy.loop, hyx, hxy]
theorem s_par2 (G : GoodS sy cs n Γ X W N sc) {x y : Str} {px py pt pt2 : Pos} {kt k2 : Nat} (h : par2B N sc i j x y px py l r = true) (hA : AE cs Γ C X W a l) (hB : AE cs Γ C X W b r) :
    AS cs Γ C X W (.par2 i j a b) (.Assign [.Tuple [.Name x px, .Name y py] kt pt] (.Tuple [l, r] k2 pt2) pos) := by
  unfold par2B at h
  simp only [Bool.and_eq_true, Bool.not_eq_true'] at h
  obtain ⟨hx, hy, hij, hxy, hp, hl, hr, hf, hc⟩ := h
  have two : ∀ {i : Nat} {z : Str}, locL N sc i z = true → X.N[i]? = some z ∧ X.env.scope.names.lookup z = some .local := fun {i z} h => by
    unfold locL at h
    simp only [Bool.and_eq_true, decide_eq_true_eq] at h
    rw [G.nm, G.sc]
    exact h
  obtain ⟨x1, x2⟩ := two hx
  obtain ⟨y1, y2⟩ := two hy
  have hb : X.env.blockKind = ScopeKind.function := by
    unfold Env.blockKind
    rw [G.kd]
    rfl
  refine PS.imp (ps_par G.calm G.nd x1 y1 (by simpa using hij) x2 y2 (pa_cons hA (pa_cons hB pa_nil (star_cons hr)) (star_cons hl)) (swapped_two hb x2 y2 hxy hp hl hr hf hc)) ?_
  intro D σ H ⟨H0, g0, g, sl, hp, S, P⟩
  unfold exS at P
  refine ⟨H0, g0, g, sl, hp, S, P.bindE (Stp.refl S.hs.nofr) fun ra σ1 h1 H1 g1 S1 st1 _ P1 v yv => ?_⟩
  obtain ⟨g1', S1', st1', rd1, _⟩ := S1.freeze st1 yv fun a ha => S.fresh0 ha
  refine ⟨H0, g0, g1', σ1, h1, S1', P1.bindE st1' fun rb σ2 h2 H2 g2 S2 st2 st2' P2 w yw => ?_⟩
  obtain ⟨g2', S2', st3, rd2, _⟩ := S2.freeze st2 yw fun a ha => S1'.fresh0 ha
  exact ⟨v, w, rfl, P2 _ H2 g2' ((S2'.setv (RD.mono st3 rd1)).setv rd2) (st1'.trans st3)⟩
end

/-! ### all statements -/
section
variable {sy : Sy} {cs : Cls0} {n : Nat} {Γ : Calls} {C : Cf} {N : List Str}
/-- a comprehension assigned -/
def comS (e : E) : Bool := match e with
  | .com _ _ _ => true
  | .comf _ _ _ _ => true
  | _ => false
variable (sy : Sy) (N : List Str)
mutual
def chkS : S → Scope → Stmt → Bool
  | .set i e, sc, x => match x with
    | .Assign [.Name z _] v _ => locB N sc i z && (chkE sy N e sc v && (notComp v || comS e))
    | _ => false
  | .setT is e, sc, x => match x with
    | .Assign [.Tuple es _ _] v _ => chkT N sc is es && (notComp v && (notTup v && chkE sy N e sc v))
    | _ => false
  | .par2 i j a b, sc, x => match x with
    | .Assign [.Tuple [.Name x px, .Name y py] _ _] (.Tuple [l, r] _ _) _ => par2B N sc i j x y px py l r && (chkE sy N a sc l && chkE sy N b sc r)
    | _ => false
  | .sti i b e, sc, x => match x with
    | .Assign [.Subscript (.Name z _) l _] v _ => nmB N sc i z && (notComp v && (notSlice l && (chkE sy N e sc v && chkE sy N b sc l)))
    | _ => false
  | .app i a, sc, x => match x with
    | .Expr (.Call (.Attribute (.Name z _) m p) [l] [] q) _ => decide (m = "append") && (nmB N sc i z && ((p.endLine == q.line) && (notStar l && chkE sy N a sc l)))
    | _ => false
  | .ext i a, sc, x => match x with
    | .Expr (.Call (.Attribute (.Name z _) m p) [l] [] q) _ => decide (m = "extend") && (nmB N sc i z && ((p.endLine == q.line) && (notStar l && chkE sy N a sc l)))
    | _ => false
  | .ex e, sc, x => match x with
    | .Expr v _ => notComp v && chkE sy N e sc v
    | _ => false
  | .ret e, sc, x => match x with
    | .Return (some v) _ => chkE sy N e sc v
    | _ => false
  | .retN, _, x => match x with
    | .Return none _ => true
    | _ => false
  | .iff c a b, sc, x => match x with
    | .If t xs ys _ => chkE sy N c sc t && (chkK a sc xs && chkK b sc ys)
    | _ => false
  | .whl c b, sc, x => match x with
    | .While t xs [] _ => chkE sy N c sc t && chkK b sc xs
    | _ => false
  | .for1 i it b, sc, x => match x with
    | .For (.Name z p) iter xs [] _ => locB N sc i z && (notSet iter && (chkI sy N it sc (.Name z p) iter && chkK b sc xs))
    | _ => false
  | .forT is it b, sc, x => match x with
    | .For (.Tuple es kk p) iter xs [] _ => chkT N sc is es && (notSet iter && (chkI sy N it sc (.Tuple es kk p) iter && chkK b sc xs))
    | _ => false
  | .brk, _, x => match x with
    | .Break _ => true
    | _ => false
  | .cnt, _, x => match x with
    | .Continue _ => true
    | _ => false
  | .pass, _, x => match x with
    | .Pass _ => true
    | _ => false
  | .nev, _, _ => true
  | .stf i f e, sc, x => match x with
    | .Assign [.Attribute (.Name z _) y _] v _ => decide (y = f) && (nmB N sc i z && (decide (f ∈ sy.flds) && (notComp v && chkE sy N e sc v)))
    | _ => false
  | .appF i f e, sc, x => match e, x with
    | .fld (.var k) f2, .Expr (.Call (.Attribute (.Attribute (.Name z _) y _) m p) [.Attribute (.Name z2 _) y2 _] [] q) _ => decide (m = "append") && (decide (y = f) && (nmB N sc i z && (decide (f ∈ sy.flds) && (decide (y2 = f2) && (nmB N sc k z2 && (decide (f2 ∈ sy.flds) && (p.endLine == q.line)))))))
    | _, _ => false
  | _, _, _ => false
def chkK : Ss → Scope → List Stmt → Bool
  | .nil, _, xs => match xs with
    | [] => true
    | _ => false
  | .cons s r, sc, xs => match xs with
    | x :: xs => chkS s sc x && chkK r sc xs
    | [] => false
end
end
section
variable {sy : Sy} {cs : Cls0} {n : Nat} {Γ : Calls} {C : Cf} {N : List Str}
theorem s_set_any {i : Nat} {e : E} {X : Cx} {W : WX} {sc : Scope} {z : Str} {v : Expr} {p1 pos : Pos} (G : GoodS sy cs n Γ X W N sc) (hz : locB N sc i z = true) (h : chkE sy N e sc v = true) (hk : (notComp v || comS e) = true) : AS cs Γ sy.cf X W (.set i e) (.Assign [.Name z p1] v pos) := by
  cases hn : notComp v with
  | true => exact s_set G hz hn (okE e X W sc v G.toGood h).1
  | false =>
    rw [hn, Bool.false_or] at hk
    unfold comS at hk
    split at hk
    · unfold chkE at h
      split at h
      · simp only [Bool.and_eq_true, decide_eq_true_eq] at h
        obtain ⟨hi, hl, hb, hset, hI, hE⟩ := h
        exact s_com G hz hi hl hb hset (okI _ X W sc _ _ _ G.toGood hI rfl) fun X' e G' => (okE _ X' W0 _ _ G' hE).1
      · cases h
    · unfold chkE at h
      split at h
      · simp only [Bool.and_eq_true, decide_eq_true_eq] at h
        obtain ⟨hi, hl, hb, hset, hI, hE, hC⟩ := h
        exact s_comf G hz hi hl hb hset (okI _ X W sc _ _ _ G.toGood hI rfl) (fun X' e G' => (okE _ X' W0 _ _ G' hE).1) fun X' e G' => (okE _ X' W0 _ _ G' hC).2
      · cases h
    · cases hk
mutual
theorem okS : ∀ (s : S) (X : Cx) (W : WX) (sc : Scope) (x : Stmt), GoodS sy cs n Γ X W N sc → chkS sy N s sc x = true → AS cs Γ sy.cf X W s x
  | .set i e, X, W, sc, x, G, h => by
    unfold chkS at h
    split at h
    · simp only [Bool.and_eq_true] at h
      exact s_set_any G h.1 h.2.1 h.2.2
    · cases h
  | .setT is e, X, W, sc, x, G, h => by
    unfold chkS at h
    split at h
    · simp only [Bool.and_eq_true] at h
      obtain ⟨h1, h2, h3, h4⟩ := h
      exact s_setT G h1 h2 h3 (okE e X W sc _ G.toGood h4).1
    · cases h
  | .par2 i j a b, X, W, sc, x, G, h => by
    unfold chkS at h
    split at h
    · simp only [Bool.and_eq_true] at h
      obtain ⟨h1, h2, h3⟩ := h
      exact s_par2 G h1 (okE a X W sc _ G.toGood h2).1 (okE b X W sc _ G.toGood h3).1
    · cases h
  | .sti i b e, X, W, sc, x, G, h => by
    unfold chkS at h
    split at h
    · simp only [Bool.and_eq_true] at h
      obtain ⟨h1, h2, h3, h4, h5⟩ := h
      exact s_sti G h1 h2 h3 (okE e X W sc _ G.toGood h4).1 (okE b X W sc _ G.toGood h5).1
    · cases h
  | .app i a, X, W, sc, x, G, h => by
    unfold chkS at h
    split at h
    · simp only [Bool.and_eq_true, decide_eq_true_eq] at h
      obtain ⟨rfl, hz, hl, hs, h1⟩ := h
      exact s_app G hz hl hs (okE a X W sc _ G.toGood h1).1
    · cases h
  | .ext i a, X, W, sc, x, G, h => by
    unfold chkS at h
    split at h
    · simp only [Bool.and_eq_true, decide_eq_true_eq] at h
      obtain ⟨rfl, hz, hl, hs, h1⟩ := h
      exact s_ext G hz hl hs (okE a X W sc _ G.toGood h1).1
    · cases h
  | .ex e, X, W, sc, x, G, h => by
    unfold chkS at h
    split at h
    · rw [Bool.and_eq_true] at h
      exact s_ex h.1 (okE e X W sc _ G.toGood h.2).1
    · cases h
  | .ret e, X, W, sc, x, G, h => by
    unfold chkS at h
    split at h
    · exact s_ret (okE e X W sc _ G.toGood h).1
    · cases h
  | .retN, X, W, sc, x, G, h => by
    unfold chkS at h
    split at h
    · exact s_retN
    · cases h
  | .iff c a b, X, W, sc, x, G, h => by
    unfold chkS at h
    split at h
    · simp only [Bool.and_eq_true] at h
      exact s_if (okE c X W sc _ G.toGood h.1).2 (okK a X W sc _ G h.2.1) (okK b X W sc _ G h.2.2)
    · cases h
  | .whl c b, X, W, sc, x, G, h => by
    unfold chkS at h
    split at h
    · simp only [Bool.and_eq_true] at h
      exact s_while G (okE c X W sc _ G.toGood h.1).2 (okK b X W sc _ G h.2)
    · cases h
  | .for1 i it b, X, W, sc, x, G, h => by
    unfold chkS at h
    split at h
    · simp only [Bool.and_eq_true] at h
      obtain ⟨h1, h2, h3, h4⟩ := h
      exact s_for1 G h1 h2 (okI it X W sc _ _ _ G.toGood h3 rfl) (okK b X W sc _ G h4)
    · cases h
  | .forT is it b, X, W, sc, x, G, h => by
    unfold chkS at h
    split at h
    · simp only [Bool.and_eq_true] at h
      obtain ⟨h1, h2, h3, h4⟩ := h
      exact s_forT G h1 h2 (okI it X W sc _ _ _ G.toGood h3 rfl) (okK b X W sc _ G h4)
    · cases h
  | .brk, X, W, sc, x, G, h => by
    unfold chkS at h
    split at h
    · exact s_brk
    · cases h
  | .cnt, X, W, sc, x, G, h => by
    unfold chkS at h
    split at h
    · exact s_cnt
    · cases h
  | .pass, X, W, sc, x, G, h => by
    unfold chkS at h
    split at h
    · exact s_pass
    · cases h
  | .nev, X, W, sc, x, G, h => s_nev
  | .stf i f e, X, W, sc, x, G, h => by
    unfold chkS at h
    split at h
    · simp only [Bool.and_eq_true, decide_eq_true_eq] at h
      obtain ⟨rfl, hz, hf, hn, h1⟩ := h
      exact s_stf G hz hf hn (okE e X W sc _ G.toGood h1).1
    · cases h
  | .appF i f e, X, W, sc, x, G, h => by
    unfold chkS at h
    split at h
    · simp only [Bool.and_eq_true, decide_eq_true_eq] at h
      obtain ⟨rfl, rfl, hz, hf, rfl, hz2, hf2, hl⟩ := h
      exact s_appF G hz hf hz2 hf2 hl
    · cases h
  | .retM _, X, W, sc, x, G, h => by unfold chkS at h; cases h
  | .rai _ _, X, W, sc, x, G, h => by unfold chkS at h; cases h
  | .tryE _ _ _, X, W, sc, x, G, h => by unfold chkS at h; cases h
  | .tryA _ _ _ _, X, W, sc, x, G, h => by unfold chkS at h; cases h
theorem okK : ∀ (s : Ss) (X : Cx) (W : WX) (sc : Scope) (x : List Stmt), GoodS sy cs n Γ X W N sc → chkK sy N s sc x = true → AK cs Γ sy.cf X W s x
  | .nil, X, W, sc, xs, G, h => by
    unfold chkK at h
    split at h
    · exact s_nil
    · cases h
  | .cons s r, X, W, sc, xs, G, h => by
    unfold chkK at h
    split at h
    · rw [Bool.and_eq_true] at h
      exact s_cons (okS s X W sc _ G h.1) (okK r X W sc _ G h.2)
    · cases h
end
end
end Pm

set_option Elab.async false
set_option linter.all false
set_option maxRecDepth 100000
set_option maxHeartbeats 4000000
/-! The pure machine: defs, levels, the law's end. -/
namespace Pm
open PySem PySem.Spec L2

/-- a def of the text: its place is its name -/
structure DefI where
  id : Nat
  name : Str
  params : Arguments
  body : List Stmt
  scope : Scope
  ps : List Str
  N : List Str
  fd : Fd
  own : Option Str := none
  qual : Str := name
/-- the class of the text's own: its name, its methods' defs, its fields, its __init__ -/
structure ClsI where
  id : Nat
  name : Str
  mths : List (Str × Nat)
  flds : List Str
  ini : Nat
def DefI.at_ (D : DefI) : Str × Option Str := match D.own with
  | none => (D.name, none)
  | some c => (c, some D.name)
def DefI.d (D : DefI) : He.DefD := ⟨D.at_, D.name, D.qual, D.params, D.body, D.scope, [], []⟩
def mthOf (cl : Option ClsI) (c : Nat) (m : Str) : Option Nat := match cl with
  | some k => if c = k.id then k.mths.lookup m else none
  | none => none
def cfOf (cl : Option ClsI) : Cf := ⟨mthOf cl, fun _ _ => false, fun _ => none⟩
def fldsOf : Option ClsI → List Str
  | some k => k.flds
  | none => []
def csOf (K : PySem.W.Frag) (cl : Option ClsI) : Cls0 := ⟨fun _ => 0, fun _ => none, match cl with
  | some k => He.ga K k.name
  | none => 0⟩
def syOf (defs : List DefI) (glo : List (Str × D)) (cl : Option ClsI) : Sy := ⟨fun f => (defs.find? fun D => D.id == f).bind fun D => match D.own with
  | none => some D.name
  | some _ => none, glo, cfOf cl, fldsOf cl, cl.map fun k => (k.name, k.id, k.ini)⟩
def mthB (defs : List DefI) (c m : Str) (f : Nat) : Bool := match defs.find? fun D => D.id == f with
  | some D => decide (D.own = some c) && decide (D.name = m)
  | none => false
def okCl (defs : List DefI) : Option ClsI → Bool
  | some k => k.mths.all (fun p => mthB defs k.name p.1 p.2) && mthB defs k.name "__init__" k.ini
  | none => true
def tabOf (defs : List DefI) : Nat → Option Fd := fun f => (defs.find? fun D => D.id == f).map (·.fd)
def scB (N ps : List Str) (sc : Scope) : Bool :=
  decide (sc.kind = .function) && (!sc.isCoroutine && (!sc.isGenerator && (decide N.Nodup && (decide (N.take ps.length = ps) && (ps.all (fun x => decide (sc.names.lookup x = some .local) || decide (sc.names.lookup x = some .cell)) && sc.names.all fun y => !decide (y.2 = .free))))))
theorem scB_ok {N ps : List Str} {sc : Scope} (h : scB N ps sc = true) : FnScope N ps sc := by
  unfold scB at h
  simp only [Bool.and_eq_true, Bool.or_eq_true, Bool.not_eq_true', decide_eq_true_eq, decide_eq_false_iff_not, List.all_eq_true] at h
  obtain ⟨h1, h2, h3, h4, h5, h6, h7⟩ := h
  exact ⟨h1, h2, h3, h4, h5, h6, h7⟩
def okDef (sy : Sy) (D : DefI) : Bool := decide (D.ps.length = D.fd.np) && (decide (D.N.length = D.fd.ns) && (scB D.N D.ps D.scope && chkK sy D.N D.fd.body D.scope D.body))
def BindsOk (D : DefI) : Prop := ∀ (kV doc pm : Value) (an : Option Addr) (cdv ct : Value) (us : List Value), us.length = D.ps.length → bindArgs (PySem.W.fnOf D.name D.qual D.params D.body D.scope .none kV doc pm an cdv ct) ⟨us, []⟩ = pure (D.ps.zip us)
def faG : Str × D → He.Fa
  | (x, .int i) => .int x i
  | (x, .str z) => .str x z
  | (x, _) => .free x
def DefI.fa (D : DefI) : He.Fa := match D.own with
  | none => .glo D.name
  | some c => .meth c D.name
def faC : Option ClsI → List He.Fa
  | none => []
  | some k => .glo k.name :: .cls k.name :: .mkr k.name :: k.flds.map (.noat k.name)
def faOf (defs : List DefI) (glo : List (Str × D)) (cl : Option ClsI) : List He.Fa := defs.map DefI.fa ++ (bltNames.map .free ++ (glo.map faG ++ faC cl))
def scal : D → Bool
  | .int _ => true
  | .str _ => true
  | _ => false

section
variable {sy : Sy} {cs : Cls0} {n : Nat} {C : Cf} {P : Program} {w : World} {K : PySem.W.Frag} {mg : Str → Option Value} {base : Heap}
theorem start_sim {g : Gh} {H : Hp} {ds : List D} {vs : List V} {h : List Ob} {N : List Str} {ns np : Nat} (hs : HSim K cs H g h) (rs : RDs K g H vs ds) (hN : N.length = ns) (hl : vs.length = np) : Sim K cs H g (L2.start N vs) H g (ds.map Slot.v ++ List.replicate (ns - np) .un) h where
  hs := hs
  fr := FrS.refl
  len := by
    unfold L2.start
    simp [rs.len, hN, ← hl]
  sl := fun i s e => by
    by_cases hi : i < ds.length
    · rw [List.getElem?_append_left (by simpa using hi), List.getElem?_map] at e
      obtain ⟨d, ed⟩ := lt_of_get hi
      rw [ed] at e
      cases e
      obtain ⟨v, ev, r⟩ := rs.get ed
      refine ⟨v, ?_, r⟩
      unfold L2.start
      rw [List.getElem?_append_left (by simpa [rs.len] using hi), List.getElem?_map, ev]
      rfl
    · rw [List.getElem?_append_right (by simpa using Nat.le_of_not_lt hi)] at e
      have := List.mem_of_getElem? e
      rw [(List.mem_replicate.mp this).2]
      trivial
/-- a def keeps its promise -/
theorem def_ok {Γ : Calls} {D : DefI} {f : Addr} {fd : FuncData} (F : FunD K D.name D.qual D.params D.body D.scope [] [] f fd) (O : Ok0 sy cs n Γ P w K mg base) (h : okDef sy D = true) :
    FnOk P w K mg base (L2.CX P w) (2 * (n + 1)) f fd D.ps (spF K cs D.ps.length (runF Γ sy.cf D.fd)) := by
  unfold okDef at h
  simp only [Bool.and_eq_true, decide_eq_true_eq] at h
  obtain ⟨h1, h2, h3, h4⟩ := h
  have S := scB_ok h3
  show FnOk P w K mg base (L2.CX P w) (2 * n + 1 + 1) f fd D.ps (spF K cs D.ps.length (runF Γ sy.cf D.fd))
  refine F.ok S (fun vs H Q E ⟨hl, _⟩ => hl) fun cdv A outer s H vs Q E hr hsp => ?_
  obtain ⟨hl, g, ds, hp, hs, rs, hm⟩ := hsp
  have G : GoodS sy cs n Γ (cxOf (L2.CX P w) P w K mg base D.N D.qual D.scope f cdv A outer s H E) (fun cl d _ H => E cl d H) D.N D.scope :=
    { calm := rfl, nm := rfl, nd := S.nd, sc := rfl, room := hr, tk := takes_of rfl rfl rfl rfl, ok := O, own := passes_of rfl, kd := S.kind, fnT := fun _ => rfl }
  refine ⟨_, okK D.fd.body _ _ _ _ G h4, ?_⟩
  refine ⟨H, g, g, _, hp, start_sim hs rs h2 (hl.trans h1), ?_⟩
  unfold runF at hm
  have hd : ds.length = D.fd.np := by rw [← rs.len, hl, h1]
  rw [if_pos hd] at hm
  cases q : exB Γ sy.cf D.fd.body (ds.map Slot.v ++ List.replicate (D.fd.ns - D.fd.np) .un) hp with
  | stuck => rw [q] at hm; exact hm.elim
  | exc c p σ' h' =>
    rw [q] at hm
    exact fun σr H' g' cl d S' st x => hm cl d H' g' S'.hs S'.fr x
  | ok fl σ' h' =>
    rw [q] at hm
    cases fl with
    | nx => exact fun σr H' g' S' st => hm .non H' g' S'.hs S'.fr .non
    | rt r => exact fun σr H' g' S' st v x => hm v H' g' S'.hs S'.fr x
    | bk => exact hm.elim
    | ct => exact hm.elim
theorem runF_len {Γ : Calls} {fd : Fd} {ds : List D} {h : List Ob} (e : runF Γ C fd ds h ≠ .stuck) : ds.length = fd.np := by
  unfold runF at e
  split at e
  · assumption
  · exact absurd rfl e
theorem mem_of_lookup {α : Type} {m : Str} {f : α} : ∀ {l : List (Str × α)}, l.lookup m = some f → (m, f) ∈ l
  | [], e => by cases e
  | (k, v) :: r, e => by
    rw [List.lookup_cons] at e
    by_cases q : m = k
    · subst q
      rw [beq_self_eq_true] at e
      cases e
      exact List.mem_cons_self
    · have q' : (m == k) = false := by simpa using q
      rw [q'] at e
      exact List.mem_cons_of_mem _ (mem_of_lookup e)
/-- what is said of a def by its number -/
def DefOk (P : Program) (w : World) (K : PySem.W.Frag) (mg : Str → Option Value) (base : Heap) (cs : Cls0) (m : Nat) (Γ : Calls) (D : DefI) (f : Nat) : Prop :=
  ∃ fd, Binds K fd D.ps [] ∧ FnOk P w K mg base (L2.CX P w) m (He.fAd K D.at_) fd D.ps (spF K cs D.ps.length (Γ f)) ∧ (∀ ds h, Γ f ds h ≠ .stuck → ds.length = D.ps.length) ∧ PySem.W.keepIn K (.ref (He.fAd K D.at_)) = true
/-- all defs, at every level -/
theorem okN {defs : List DefI} {glo : List (Str × D)} {cl : Option ClsI} {h0 : Heap} (X : K.In h0) (Gm : h0.Ns mainGlobals mg) (c : He.SaysD (faOf defs glo cl) (defs.map DefI.d) K) (hg : ∀ p ∈ glo, scal p.2 = true) (hb : ∀ D ∈ defs, BindsOk D) (hc : ∀ D ∈ defs, okDef (syOf defs glo cl) D = true) (hcl : okCl defs cl = true) :
    ∀ n, Ok0 (syOf defs glo cl) (csOf K cl) n (callN (tabOf defs) (cfOf cl) n) P w K mg base := by
  have fn : ∀ D ∈ defs, ∃ fd, FunD K D.name D.qual D.params D.body D.scope [] [] (He.fAd K D.at_) fd := fun D hD => c.defs (d := D.d) (List.mem_map.mpr ⟨D, hD, rfl⟩)
  have fact : ∀ D ∈ defs, D.fa.ok K = true := fun D hD => c.facts (List.mem_append_left _ (List.mem_map.mpr ⟨D, hD, rfl⟩))
  have factC : ∀ f ∈ faC cl, f.ok K = true := fun f hf => c.facts (List.mem_append_right _ (List.mem_append_right _ (List.mem_append_right _ hf)))
  have blt : ∀ x, x ∈ bltNames → mg x = none := fun x hx => He.free_ok X Gm (c.facts (f := .free x) (List.mem_append_right _ (List.mem_append_left _ (List.mem_map.mpr ⟨x, hx, rfl⟩))))
  have glb : ∀ p, p ∈ glo → ∃ v u, scalV p.2 = some v ∧ mg p.1 = some u ∧ RelV v u := fun p hp => by
    have q := c.facts (f := faG p) (List.mem_append_right _ (List.mem_append_right _ (List.mem_append_left _ (List.mem_map.mpr ⟨p, hp, rfl⟩))))
    have z := hg p hp
    obtain ⟨x, d⟩ := p
    cases d with
    | int i =>
      obtain ⟨t, e⟩ := He.int_ok X Gm q
      exact ⟨.int i, _, rfl, e, t, rfl⟩
    | str i =>
      obtain ⟨t, e⟩ := He.str_ok X Gm q
      exact ⟨.str i, _, rfl, e, t, rfl⟩
    | _ => cases z
  -- from what is said of every def, what is said of names, methods, the class
  have all : ∀ n, (∀ f D, (defs.find? fun D => D.id == f) = some D → DefOk P w K mg base (csOf K cl) (2 * n) (callN (tabOf defs) (cfOf cl) n) D f) → Ok0 (syOf defs glo cl) (csOf K cl) n (callN (tabOf defs) (cfOf cl) n) P w K mg base := by
    intro n hD
    refine ⟨fun f x e => ?_, fun ci m f e => ?_, fun f hf => ?_, fun z ci f e => ?_, blt, glb⟩
    · obtain ⟨D, eD, e2⟩ := Option.bind_eq_some_iff.mp e
      obtain ⟨fd, b, F, l, kp⟩ := hD f D eD
      have q := fact D (List.mem_of_find?_eq_some eD)
      cases ho : D.own with
      | some k => rw [ho] at e2; cases e2
      | none =>
        rw [ho] at e2
        cases e2
        have ea : D.at_ = (D.name, none) := by unfold DefI.at_; rw [ho]
        have ef : D.fa = .glo D.name := by unfold DefI.fa; rw [ho]
        rw [ef] at q
        rw [ea] at F kp
        exact ⟨_, fd, D.ps, He.glo_ok X Gm q, kp, b, F, l⟩
    · have e : mthOf cl ci m = some f := e
      cases cl with
      | none => cases e
      | some k =>
        have e : (if ci = k.id then k.mths.lookup m else none) = some f := e
        split at e
        · have hm : (m, f) ∈ k.mths := mem_of_lookup e
          have z := (Bool.and_eq_true_iff.mp hcl).1
          rw [List.all_eq_true] at z
          have z2 : (match defs.find? fun D => D.id == f with | some D => decide (D.own = some k.name) && decide (D.name = m) | none => false) = true := z _ hm
          cases eD : defs.find? fun D => D.id == f with
          | none => rw [eD] at z2; cases z2
          | some D =>
            rw [eD] at z2
            have z3 : (decide (D.own = some k.name) && decide (D.name = m)) = true := z2
            simp only [Bool.and_eq_true, decide_eq_true_eq] at z3
            obtain ⟨ho, rfl⟩ := z3
            obtain ⟨fd, b, F, l, kp⟩ := hD f D eD
            have q := fact D (List.mem_of_find?_eq_some eD)
            have ea : D.at_ = (k.name, some D.name) := by unfold DefI.at_; rw [ho]
            have ef : D.fa = .meth k.name D.name := by unfold DefI.fa; rw [ho]
            rw [ef] at q
            rw [ea] at F
            exact ⟨_, fd, D.ps, He.meth_ok q, He.cls_ok (factC (.cls k.name) (List.mem_cons_of_mem _ List.mem_cons_self)), b, F, l⟩
        · cases e
    · cases cl with
      | none => cases hf
      | some k => exact ⟨He.noat_ok (factC (.noat k.name f) (List.mem_cons_of_mem _ (List.mem_cons_of_mem _ (List.mem_cons_of_mem _ (List.mem_map.mpr ⟨f, hf, rfl⟩))))), He.cls_ok (factC (.cls k.name) (List.mem_cons_of_mem _ List.mem_cons_self))⟩
    · cases cl with
      | none => cases e
      | some k =>
        cases e
        have z2 : (match defs.find? fun D => D.id == k.ini with | some D => decide (D.own = some k.name) && decide (D.name = "__init__") | none => false) = true := (Bool.and_eq_true_iff.mp hcl).2
        cases eD : defs.find? fun D => D.id == k.ini with
        | none => rw [eD] at z2; cases z2
        | some D =>
          rw [eD] at z2
          have z3 : (decide (D.own = some k.name) && decide (D.name = "__init__")) = true := z2
          simp only [Bool.and_eq_true, decide_eq_true_eq] at z3
          obtain ⟨ho, hn⟩ := z3
          obtain ⟨fd, b, F, l, kp⟩ := hD k.ini D eD
          have ea : D.at_ = (k.name, some ("__init__" : Str)) := by unfold DefI.at_; rw [ho, hn]
          rw [ea] at F
          exact ⟨_, fd, D.ps, He.glo_ok X Gm (factC (.glo k.name) List.mem_cons_self), He.mkr_ok (factC (.mkr k.name) (List.mem_cons_of_mem _ (List.mem_cons_of_mem _ List.mem_cons_self))), b, F, l⟩
  intro n
  induction n with
  | zero =>
    refine all 0 fun f D eD => ?_
    obtain ⟨fd, F⟩ := fn D (List.mem_of_find?_eq_some eD)
    exact ⟨fd, FunD.bindsN F (hb D (List.mem_of_find?_eq_some eD)), ⟨fun vs H Q E ⟨hl, _⟩ => hl, fun A outer s H args us vs Q E hr e0 hbd r ⟨_, _, _, _, _, _, z⟩ => z.elim⟩, fun ds h z => absurd rfl z, F.kp⟩
  | succ n ih =>
    refine all (n + 1) fun f D eD => ?_
    have mD := List.mem_of_find?_eq_some eD
    obtain ⟨fd, F⟩ := fn D mD
    have hcD := hc D mD
    have call : callN (tabOf defs) (cfOf cl) (n + 1) f = runF (callN (tabOf defs) (cfOf cl) n) (cfOf cl) D.fd := by
      funext ds h
      have : tabOf defs f = some D.fd := by
        unfold tabOf
        rw [eD]
        rfl
      show (match tabOf defs f with | some fd => runF (callN (tabOf defs) (cfOf cl) n) (cfOf cl) fd ds h | none => .stuck) = _
      rw [this]
    unfold DefOk
    rw [call]
    refine ⟨fd, FunD.bindsN F (hb D mD), def_ok F ih hcD, fun ds h z => ?_, F.kp⟩
    have e1 := runF_len z
    unfold okDef at hcD
    simp only [Bool.and_eq_true, decide_eq_true_eq] at hcD
    rw [e1, hcD.1]
end

theorem cx_none {P : Program} {w : World} {outer : List Env} (H : Hp) (s : Shared) (e : Value) (s' : Shared) (h : L2.CX P w outer H s (fun _ _ _ => False) e s') : False := by
  obtain ⟨_, _, _, _, _, _, _, _, _, _, _, _, z⟩ := h
  exact z.elim
/-- a def that lets nothing out -/
theorem fn_none {P : Program} {w : World} {K : PySem.W.Frag} {mg : Str → Option Value} {base : Heap} {k : Nat} {f : Addr} {fd : FuncData} {ps : List Str} {sp : Sp} (F : FnOk P w K mg base (L2.CX P w) k f fd ps sp) :
    FnOk P w K mg base CX0 k f fd ps (fun vs H Q _ => sp vs H Q fun _ _ _ => False) :=
  ⟨fun vs H Q E h => F.len vs H Q _ h, fun A outer s H args us vs Q E hr e0 hb r h => codeAny_mono (F.run A outer s H args us vs Q _ hr e0 hb r h) fun res s' hq => by
    cases res with
    | error e => exact cx_none H s e s' hq
    | ok fl =>
      cases fl with
      | ret u => exact hq
      | next => exact hq
      | brk => exact hq
      | cont => exact hq⟩
/-- the law's def, for walk_ofE -/
theorem law_end {P : Program} {w : World} {K : PySem.W.Frag} {mg : Str → Option Value} {h0 : Heap} {defs : List DefI} {glo : List (Str × D)} {cl : Option ClsI} {fa : Addr} {x : Str} {DL : DefI} {fl M most : Nat} (X : K.In h0) (Gm : h0.Ns mainGlobals mg) (c : He.SaysD (faOf defs glo cl) (defs.map DefI.d) K) (hg : ∀ p ∈ glo, scal p.2 = true)
    (hb : ∀ D ∈ defs, BindsOk D) (hc : ∀ D ∈ defs, okDef (syOf defs glo cl) D = true) (hcl : okCl defs cl = true) (hL : (defs.find? fun D => D.id == fl) = some DL) (hx : DL.ps = [x]) (ho : DL.own = none) (hmg : mg DL.name = some (.ref fa))
    (law : ∀ ns : List Int, ns.length ≤ most → ∃ h', callN (tabOf defs) (cfOf cl) M fl [.scr ns] [] = .ok (.v (.bl true)) h') :
    ∃ (K : PySem.W.Frag) (fd : FuncData) (sp : Sp), K.In h0 ∧ (∀ (s : Shared) (u : Value), BindsTo s fd ⟨[u], []⟩ [(x, u)]) ∧
        (∀ (H : Hp) (a : Addr) (ns : List Int), ns.length ≤ most → Only H → SqL K H a (ns.map V.int) → sp [.ref a] H (fun v _ => v = .bl true) fun _ _ _ => False) ∧
        ∀ base : Heap, K.In base → base.Ns mainGlobals mg → FnOk P w K mg base CX0 (2 * M) fa fd [x] sp := by
  have mD := List.mem_of_find?_eq_some hL
  have ea0 : DL.at_ = (DL.name, none) := by unfold DefI.at_; rw [ho]
  have ef : DL.fa = .glo DL.name := by unfold DefI.fa; rw [ho]
  obtain ⟨fd, F⟩ := c.defs (d := DL.d) (List.mem_map.mpr ⟨DL, mD, rfl⟩)
  have F : FunD K DL.name DL.qual DL.params DL.body DL.scope [] [] (He.fAd K DL.at_) fd := F
  rw [ea0] at F
  have q := c.facts (f := DL.fa) (List.mem_append_left _ (List.mem_map.mpr ⟨DL, mD, rfl⟩))
  rw [ef] at q
  have eA : mg DL.name = some (.ref (He.ga K DL.name)) := He.glo_ok X Gm q
  have ea : fa = He.ga K DL.name := by
    rw [hmg] at eA
    cases eA
    rfl
  have F' : FunD K DL.name DL.qual DL.params DL.body DL.scope [] [] fa fd := by
    rw [ea]
    exact F
  refine ⟨K, fd, fun vs H Q _ => spF K (csOf K cl) 1 (callN (tabOf defs) (cfOf cl) M fl) vs H Q fun _ _ _ => False, X, fun s u => ?_, fun H a ns hl hO hS => ?_, fun base hK hN => ?_⟩
  · have b := FunD.bindsA (ps := DL.ps) F' (hb DL mD) s [u] (by rw [hx]; rfl)
    rw [hx] at b
    exact b
  · obtain ⟨h', e⟩ := law ns hl
    have no : ∀ xs, H a ≠ some (.lst xs) := fun xs z => by
      rcases hO a with q | ⟨o, ys, q⟩ <;> rw [q] at z <;> cases z
    have hS' : SqS K H a (ns.map V.int) := by
      rcases hS with (z | ⟨o, z⟩) | z
      · exact absurd z (no _)
      · exact .inl ⟨o, z⟩
      · exact .inr z
    refine ⟨rfl, ⟨fun _ => .free, []⟩, [.scr ns], [], ⟨rfl, (fun j o z => nomatch z), (fun _ _ => rfl), (fun _ _ _ _ _ => rfl)⟩, .cons (.scr hS') .nil, ?_⟩
    rw [e]
    intro v H' g' _ _ r
    cases r
    rfl
  · cases M with
    | zero =>
      obtain ⟨h', e⟩ := law [] (Nat.zero_le _)
      cases e
    | succ n =>
      have q := def_ok F' (okN (P := P) (w := w) (base := base) X Gm c hg hb hc hcl n) (hc DL mD)
      have call : callN (tabOf defs) (cfOf cl) (n + 1) fl = runF (callN (tabOf defs) (cfOf cl) n) (cfOf cl) DL.fd := by
        funext ds h
        have : tabOf defs fl = some DL.fd := by
          unfold tabOf
          rw [hL]
          rfl
        show (match tabOf defs fl with | some fd => runF (callN (tabOf defs) (cfOf cl) n) (cfOf cl) fd ds h | none => .stuck) = _
        rw [this]
      rw [call]
      rw [hx] at q
      exact fn_none q
end Pm

set_option Elab.async false
set_option linter.all false
set_option maxRecDepth 100000
set_option maxHeartbeats 4000000
/-! The pure machine: loops, by invariants. -/
namespace Pm
open PySem PySem.Spec L2
section
variable {c : List Slot → List Ob → Res Bool} {b : List Slot → List Ob → Res Flow}
theorem whlN_mono : ∀ {n : Nat} {σ : List Slot} {h : List Ob} {r : Res Flow}, whlN c b n σ h = some r → whlN c b (n + 1) σ h = some r := by
  intro n
  induction n with
  | zero => intro σ h r e; cases e
  | succ n ih =>
    intro σ h r e
    unfold whlN at e ⊢
    cases q : c σ h with
    | stuck => rw [q] at e; exact e
    | exc k p σ1 h1 => rw [q] at e; exact e
    | ok t σ1 h1 =>
      rw [q] at e
      cases t with
      | false => exact e
      | true =>
        dsimp only at e ⊢
        cases q2 : b σ1 h1 with
        | stuck => rw [q2] at e; exact e
        | exc k p σ2 h2 => rw [q2] at e; exact e
        | ok fl σ2 h2 =>
          rw [q2] at e
          cases fl with
          | nx => exact ih e
          | ct => exact ih e
          | bk => exact e
          | rt r => exact e
theorem whlN_le {n m : Nat} {σ : List Slot} {h : List Ob} {r : Res Flow} (hl : n ≤ m) (e : whlN c b n σ h = some r) : whlN c b m σ h = some r := by
  obtain ⟨k, rfl⟩ := Nat.le.dest hl
  clear hl
  induction k with
  | zero => exact e
  | succ k ih => exact whlN_mono ih
theorem whl_of {n : Nat} {σ : List Slot} {h : List Ob} {r : Res Flow} (e : whlN c b n σ h = some r) : whl c b σ h = r := by
  rcases whl_is (c := c) (b := b) (σ := σ) (h := h) with ⟨m, r', e1, e2⟩ | z
  · rw [e2]
    have a := whlN_le (Nat.le_max_left n m) e
    have a' := whlN_le (Nat.le_max_right n m) e1
    rw [a] at a'
    exact (Option.some.inj a').symm
  · unfold whl at z
    split at z
    · rename_i hz
      have e1 := (Classical.choose_spec hz).choose_spec
      rw [z] at e1
      have a := whlN_le (Nat.le_max_left n (Classical.choose hz)) e
      have a' := whlN_le (Nat.le_max_right n (Classical.choose hz)) e1
      rw [a] at a'
      unfold whl
      rw [dif_pos hz]
      rw [z]
      exact (Option.some.inj a').symm
    · rename_i hz
      exact absurd ⟨n, r, e⟩ hz
/-- a while, by an invariant and a measure -/
theorem whl_inv (I : Nat → List Slot → List Ob → Prop) (R : Res Flow → Prop)
    (step : ∀ m σ h, I m σ h → (∃ σ1 h1, c σ h = .ok false σ1 h1 ∧ R (.ok .nx σ1 h1)) ∨ (∃ σ1 h1, c σ h = .ok true σ1 h1 ∧ ((∃ m' σ2 h2, m' < m ∧ b σ1 h1 = .ok .nx σ2 h2 ∧ I m' σ2 h2) ∨ (∃ r σ2 h2, b σ1 h1 = .ok (.rt r) σ2 h2 ∧ R (.ok (.rt r) σ2 h2)))))
    {m : Nat} {σ : List Slot} {h : List Ob} (i0 : I m σ h) : R (whl c b σ h) := by
  have key : ∀ m σ h, I m σ h → ∃ n r, whlN c b n σ h = some r ∧ R r := by
    intro m
    induction m using Nat.strongRecOn with
    | _ m ih =>
      intro σ h i
      rcases step m σ h i with ⟨σ1, h1, e, q⟩ | ⟨σ1, h1, e, ⟨m', σ2, h2, hm, e2, i2⟩ | ⟨r, σ2, h2, e2, q⟩⟩
      · exact ⟨1, _, by unfold whlN; rw [e], q⟩
      · obtain ⟨n, r, e3, q⟩ := ih m' hm σ2 h2 i2
        exact ⟨n + 1, r, by unfold whlN; rw [e]; dsimp only; rw [e2]; exact e3, q⟩
      · exact ⟨1, _, by unfold whlN; rw [e]; dsimp only; rw [e2], q⟩
  obtain ⟨n, r, e, q⟩ := key m σ h i0
  rw [whl_of e]
  exact q
end
/-- a for, by an invariant -/
theorem forL_inv {f : D → List Slot → List Ob → Res Flow} (I : List D → List D → List Slot → List Ob → Prop) (R : Res Flow → Prop)
    (step : ∀ l d r σ h, I l (d :: r) σ h → (∃ σ' h', f d σ h = .ok .nx σ' h' ∧ I (l ++ [d]) r σ' h') ∨ (∃ x σ' h', f d σ h = .ok (.rt x) σ' h' ∧ R (.ok (.rt x) σ' h'))) (fin : ∀ l σ h, I l [] σ h → R (.ok .nx σ h)) :
    ∀ {l ds : List D} {σ : List Slot} {h : List Ob}, I l ds σ h → R (forL f ds σ h)
  | l, [], σ, h, i => fin l σ h i
  | l, d :: ds, σ, h, i => by
    unfold forL
    rcases step l d ds σ h i with ⟨σ', h', e, i'⟩ | ⟨x, σ', h', e, q⟩
    · rw [e]
      exact forL_inv I R step fin i'
    · rw [e]
      exact q
/-- a for over a map, by a list's own induction: nothing leaves -/
theorem forL_all {α : Type} {f : D → List Slot → List Ob → Res Flow} {g : α → D} (I : List α → List α → List Slot → List Ob → Prop)
    (step : ∀ l a r σ h, I l (a :: r) σ h → ∃ σ' h', f (g a) σ h = .ok .nx σ' h' ∧ I (l ++ [a]) r σ' h') :
    ∀ {l xs : List α} {σ : List Slot} {h : List Ob}, I l xs σ h → ∃ σ' h', forL f (xs.map g) σ h = .ok .nx σ' h' ∧ I (l ++ xs) [] σ' h'
  | l, [], σ, h, i => ⟨σ, h, rfl, by rw [List.append_nil]; exact i⟩
  | l, d :: ds, σ, h, i => by
    obtain ⟨σ', h', e, i'⟩ := step l d ds σ h i
    obtain ⟨σ'', h'', e2, i2⟩ := forL_all I step i'
    refine ⟨σ'', h'', ?_, ?_⟩
    · rw [List.map_cons]
      unfold forL
      rw [e]
      exact e2
    · rw [List.append_assoc] at i2
      exact i2
/-- a comprehension's loop that changes the heap, by an invariant -/
theorem comL_inv {i : Nat} {f : List Slot → List Ob → Res (Option D)} {σ0 : List Slot} (I : List D → List D → List D → List Ob → Prop)
    (step : ∀ l d r acc h, I l (d :: r) acc h → ∃ o h', f (σ0.set i (.v d)) h = .ok o (σ0.set i (.v d)) h' ∧ I (l ++ [d]) r (match o with | some x => acc ++ [x] | none => acc) h' ∧ acc.length < sizeLine) :
    ∀ {l ds acc : List D} {s : Slot} {h : List Ob}, I l ds acc h → ∃ acc' s' h', comL i f ds acc (σ0.set i s) h = .ok acc' (σ0.set i s') h' ∧ I (l ++ ds) [] acc' h'
  | l, [], acc, s, h, i0 => ⟨acc, s, h, rfl, by rw [List.append_nil]; exact i0⟩
  | l, d :: ds, acc, s, h, i0 => by
    obtain ⟨o, h', e, i', hz⟩ := step l d ds acc h i0
    unfold comL
    rw [List.set_set, e]
    cases o with
    | none =>
      obtain ⟨acc', s', h'', e2, i2⟩ := comL_inv I step (s := .v d) i'
      exact ⟨acc', s', h'', e2, by rw [List.append_assoc] at i2; exact i2⟩
    | some x =>
      obtain ⟨acc', s', h'', e2, i2⟩ := comL_inv I step (s := .v d) i'
      refine ⟨acc', s', h'', ?_, by rw [List.append_assoc] at i2; exact i2⟩
      show (if acc.length < sizeLine then comL i f ds (acc ++ [x]) (σ0.set i (.v d)) h' else .stuck) = _
      rw [if_pos hz]
      exact e2
section
variable {Γ : Calls} {C : Cf} {i : Nat} {elt c : E} {it : I} {σ : List Slot} {h h1 : List Ob} {ds : List D} {s : Slot}
theorem set_back (hs : σ[i]? = some s) (s' : Slot) : (σ.set i s').set i s = σ := by
  rw [List.set_set]
  obtain ⟨hi, e⟩ := List.getElem?_eq_some_iff.mp hs
  rw [← e]
  exact List.set_getElem_self ..
theorem plain_get (hs : plainSlot σ[i]? = some s) : σ[i]? = some s := by
  cases q : σ[i]? with
  | none => rw [q] at hs; cases hs
  | some z =>
    rw [q] at hs
    cases z <;> cases hs <;> rfl
/-- a comprehension that leaves all else as it is -/
theorem com_map {σz : List Slot} {hz0 : List Ob} {g : D → D} (hI : evI Γ C it σz hz0 = .ok ds σ h) (hs : plainSlot σ[i]? = some s) (hl : ds.length ≤ sizeLine)
    (hf : ∀ d ∈ ds, ∃ r : R, evE Γ C elt (σ.set i (.v d)) h = .ok r (σ.set i (.v d)) h ∧ r.d = g d) : evE Γ C (.com i elt it) σz hz0 = .ok (.o (ds.map g)) σ h := by
  have hg := plain_get hs
  obtain ⟨acc, s', h', e, e2, e3⟩ := comL_inv (i := i) (f := fun σ h => (evE Γ C elt σ h).bind fun r σ h => .ok (some r.d) σ h) (σ0 := σ) (fun l r acc h' => h' = h ∧ acc = l.map g ∧ l ++ r = ds) (fun l d r acc h' ⟨e1, e2, e3⟩ => by
    subst e1
    obtain ⟨x, q1, q2⟩ := hf d (by rw [← e3]; simp)
    refine ⟨some x.d, h', by rw [q1]; rfl, ⟨rfl, ?_, ?_⟩, ?_⟩
    · dsimp only; rw [e2, q2]; simp
    · rw [← e3]; simp
    · have := congrArg List.length e3
      rw [e2]
      simp at this ⊢
      omega) (l := []) (ds := ds) (acc := []) (s := s) (h := h) ⟨rfl, rfl, rfl⟩
  unfold evE
  rw [hI]
  show (match plainSlot σ[i]? with | some s => _ | none => _) = _
  rw [hs]
  dsimp only
  rw [show σ.set i s = σ from by have := set_back hg s; rw [List.set_set] at this; exact this] at e
  rw [e]
  show Res.ok (R.o acc) ((σ.set i s').set i s) h' = _
  rw [set_back hg, e2, e3.1]
  simp
/-- .. that takes some -/
theorem comf_map {σz : List Slot} {hz0 : List Ob} {p : D → Bool} {g : D → D} (hI : evI Γ C it σz hz0 = .ok ds σ h) (hs : plainSlot σ[i]? = some s) (hl : ds.length ≤ sizeLine)
    (hc : ∀ d ∈ ds, evE Γ C c (σ.set i (.v d)) h = .ok (.v (.bl (p d))) (σ.set i (.v d)) h)
    (hf : ∀ d ∈ ds, p d = true → ∃ r : R, evE Γ C elt (σ.set i (.v d)) h = .ok r (σ.set i (.v d)) h ∧ r.d = g d) : evE Γ C (.comf i elt it c) σz hz0 = .ok (.o ((ds.filter p).map g)) σ h := by
  have hg := plain_get hs
  obtain ⟨acc, s', h', e, e2, e3⟩ := comL_inv (i := i) (f := fun σ h => (asB (evE Γ C c σ h)).bind fun k σ h => if k then (evE Γ C elt σ h).bind fun r σ h => .ok (some r.d) σ h else .ok none σ h) (σ0 := σ)
      (fun l r acc h' => h' = h ∧ acc = (l.filter p).map g ∧ l ++ r = ds) (fun l d r acc h' ⟨e1, e2, e3⟩ => by
    subst e1
    have hd : d ∈ ds := by rw [← e3]; simp
    have hlen : acc.length < sizeLine := by
      have := congrArg List.length e3
      have := List.length_filter_le p l
      rw [e2]
      simp at *
      omega
    cases q : p d with
    | true =>
      obtain ⟨x, q1, q2⟩ := hf d hd q
      refine ⟨some x.d, h', by rw [hc d hd, q]; show ((evE Γ C elt (σ.set i (.v d)) h').bind fun r σ h => Res.ok (some r.d) σ h) = _; rw [q1]; rfl, ⟨rfl, ?_, ?_⟩, hlen⟩
      · dsimp only; rw [e2, q2]; simp [q]
      · rw [← e3]; simp
    | false =>
      refine ⟨none, h', by rw [hc d hd, q]; rfl, ⟨rfl, ?_, ?_⟩, hlen⟩
      · dsimp only; rw [e2]; simp [q]
      · rw [← e3]; simp) (l := []) (ds := ds) (acc := []) (s := s) (h := h) ⟨rfl, rfl, rfl⟩
  unfold evE
  rw [hI]
  show (match plainSlot σ[i]? with | some s => _ | none => _) = _
  rw [hs]
  dsimp only
  rw [show σ.set i s = σ from by have := set_back hg s; rw [List.set_set] at this; exact this] at e
  rw [e]
  show Res.ok (R.o acc) ((σ.set i s').set i s) h' = _
  rw [set_back hg, e2, e3.1]
  simp
/-- a comprehension that changes the heap -/
theorem com_inv {σz : List Slot} (I : List D → List D → List D → List Ob → Prop) (hI : evI Γ C it σz h = .ok ds σ h1) (hs : plainSlot σ[i]? = some s) (i0 : I [] ds [] h1)
    (step : ∀ l d r acc h, I l (d :: r) acc h → ∃ r' h', evE Γ C elt (σ.set i (.v d)) h = .ok r' (σ.set i (.v d)) h' ∧ I (l ++ [d]) r (acc ++ [r'.d]) h' ∧ acc.length < sizeLine) :
    ∃ xs h', evE Γ C (.com i elt it) σz h = .ok (.o xs) σ h' ∧ I ds [] xs h' := by
  have hg := plain_get hs
  obtain ⟨acc, s', h', e, e2⟩ := comL_inv (i := i) (f := fun σ h => (evE Γ C elt σ h).bind fun r σ h => .ok (some r.d) σ h) (σ0 := σ) I (fun l d r acc h' q => by
    obtain ⟨x, h2, q1, q2, q3⟩ := step l d r acc h' q
    exact ⟨some x.d, h2, by rw [q1]; rfl, q2, q3⟩) (l := []) (ds := ds) (acc := []) (s := s) (h := h1) i0
  refine ⟨acc, h', ?_, e2⟩
  unfold evE
  rw [hI]
  show (match plainSlot σ[i]? with | some s => _ | none => _) = _
  rw [hs]
  dsimp only
  rw [show σ.set i s = σ from by have := set_back hg s; rw [List.set_set] at this; exact this] at e
  rw [e]
  show Res.ok (R.o acc) ((σ.set i s').set i s) h' = _
  rw [set_back hg]
end
end Pm

set_option Elab.async false
set_option linter.all false
set_option maxRecDepth 100000
set_option maxHeartbeats 4000000
/-! The pure machine: evaluation by simp. -/
namespace Pm
open PySem PySem.Spec L2
section
variable {α β : Type} {a : α} {b : Bool} {σ : List Slot} {h : List Ob} {d x y : D} {xs ys : List D} {i j : Int} {k n : Nat} {s t : Str} {r : R}
@[simp] theorem bind_ok {f : α → List Slot → List Ob → Res β} : (Res.ok a σ h).bind f = f a σ h := id rfl
@[simp] theorem asB_ok : asB (.ok (.v (.bl b)) σ h) = .ok b σ h := id rfl
@[simp] theorem asI_ok : asI (.ok (.v (.int i)) σ h) = .ok (some i) σ h := id rfl
@[simp] theorem retR_some : retR (some r) σ h = .ok r σ h := id rfl
@[simp] theorem retB_some : retB (some b) σ h = .ok (.v (.bl b)) σ h := id rfl
@[simp] theorem ofC_ok : ofC (.ok r h) σ = .ok r σ h := id rfl
@[simp] theorem noexc_ok : noexc (.ok a σ h) = .ok a σ h := id rfl
@[simp] theorem Rd_v : (R.v d).d = d := id rfl
@[simp] theorem Rd_o : (R.o xs).d = .lst xs := id rfl
@[simp] theorem Rs_v : (R.v d).slot = .v d := id rfl
@[simp] theorem Rs_o : (R.o xs).slot = .o xs := id rfl
def derefR : Option Ob → Option D
  | some (.lst xs) => some (.lst xs)
  | _ => none
def contS (h : List Ob) : Option Slot → Option D
  | some (.v d) => derefD h d
  | some (.o xs) => some (.lst xs)
  | _ => none
@[simp] theorem contS_v : contS h (some (.v d)) = derefD h d := id rfl
@[simp] theorem contS_o : contS h (some (.o xs)) = some (.lst xs) := id rfl
@[simp] theorem cont_s : cont σ h (.s k) = contS h σ[k]? := id rfl
@[simp] theorem cont_v : cont σ h (.r (.v d)) = derefD h d := id rfl
@[simp] theorem cont_o : cont σ h (.r (.o xs)) = some (.lst xs) := id rfl
@[simp] theorem deref_int : derefD h (.int i) = some (.int i) := id rfl
@[simp] theorem deref_str : derefD h (.str s) = some (.str s) := id rfl
@[simp] theorem deref_bl : derefD h (.bl b) = some (.bl b) := id rfl
@[simp] theorem deref_non : derefD h .non = some .non := id rfl
@[simp] theorem deref_tup : derefD h (.tup xs) = some (.tup xs) := id rfl
@[simp] theorem deref_lst : derefD h (.lst xs) = some (.lst xs) := id rfl
@[simp] theorem deref_ref : derefD h (.ref k) = derefR h[k]? := id rfl
@[simp] theorem derefR_lst : derefR (some (.lst xs)) = some (.lst xs) := id rfl
/-! operations -/
@[simp] theorem bin_add : binop .add (.int i) (.int j) = some (.v (.int (i + j))) := id rfl
@[simp] theorem bin_sub : binop .sub (.int i) (.int j) = some (.v (.int (i - j))) := id rfl
@[simp] theorem bin_mod (hj : 0 < j) : binop .mod (.int i) (.int j) = some (.v (.int (i % j))) := if_pos hj
@[simp] theorem bin_fdiv (h0 : 0 < j) (h1 : j < 1073741824) : binop .fdiv (.int i) (.int j) = some (.v (.int (i / j))) := if_pos ⟨h0, h1⟩
theorem bin_mulr (h0 : -two64 < j) (h1 : j < two64) : binop .mul (.int i) (.int j) = some (.v (.int (i * j))) := if_pos (.inr ⟨h0, h1⟩)
theorem bin_mull (h0 : -two64 < i) (h1 : i < two64) : binop .mul (.int i) (.int j) = some (.v (.int (i * j))) := if_pos (.inl ⟨h0, h1⟩)
theorem bin_addl (hz : xs.length + ys.length ≤ sizeLine) : binop .add (.lst xs) (.lst ys) = some (.o (xs ++ ys)) := if_pos hz
theorem bin_addt (hz : xs.length + ys.length ≤ sizeLine) : binop .add (.tup xs) (.tup ys) = some (.v (.tup (xs ++ ys))) := if_pos hz
@[simp] theorem eqF_int : eqF n (.int i) (.int j) = some (i == j) := by cases n <;> rfl
@[simp] theorem eqF_str : eqF n (.str s) (.str t) = some (decide (s = t)) := by cases n <;> rfl
@[simp] theorem eqF_bl {b c : Bool} : eqF n (.bl b) (.bl c) = some (b == c) := by cases n <;> rfl
@[simp] theorem eqF_nn : eqF n .non .non = some true := by cases n <;> rfl
@[simp] theorem eqF_nt : eqF n .non (.tup xs) = some false := by cases n <;> rfl
@[simp] theorem eqF_tn : eqF n (.tup xs) .non = some false := by cases n <;> rfl
@[simp] theorem eqF_tup : eqF (n + 1) (.tup xs) (.tup ys) = eqL (eqF n) xs ys := id rfl
@[simp] theorem eqF_lst : eqF (n + 1) (.lst xs) (.lst ys) = eqL (eqF n) xs ys := id rfl
@[simp] theorem eqF_tup60 : eqF F60 (.tup xs) (.tup ys) = eqL (eqF 59) xs ys := id rfl
@[simp] theorem eqF_lst60 : eqF F60 (.lst xs) (.lst ys) = eqL (eqF 59) xs ys := id rfl
@[simp] theorem eqL_nn {f : D → D → Option Bool} : eqL f [] [] = some true := id rfl
@[simp] theorem eqL_nc {f : D → D → Option Bool} : eqL f [] (y :: ys) = some false := id rfl
@[simp] theorem eqL_cn {f : D → D → Option Bool} : eqL f (x :: xs) [] = some false := id rfl
theorem eqL_cc {f : D → D → Option Bool} {a b : Bool} (h1 : f x y = some a) (h2 : eqL f xs ys = some b) : eqL f (x :: xs) (y :: ys) = some (a && b) := by
  unfold eqL
  rw [h1, h2]
@[simp] theorem cmp_eq : cmpop .eq x y = eqF F60 x y := id rfl
@[simp] theorem cmp_ne : cmpop .ne x y = (eqF F60 x y).map (!·) := id rfl
@[simp] theorem cmp_lt : cmpop .lt (.int i) (.int j) = some (decide (i < j)) := id rfl
@[simp] theorem cmp_le : cmpop .le (.int i) (.int j) = some (decide (i ≤ j)) := id rfl
@[simp] theorem cmp_gt : cmpop .gt (.int i) (.int j) = some (decide (j < i)) := id rfl
@[simp] theorem cmp_ge : cmpop .ge (.int i) (.int j) = some (decide (j ≤ i)) := id rfl
@[simp] theorem cmp_isn : cmpop .isn x .non = some (isNon x) := id rfl
@[simp] theorem cmp_isnn : cmpop .isnn x .non = some (!isNon x) := id rfl
@[simp] theorem isNon_non : isNon .non = true := id rfl
@[simp] theorem isNon_int : isNon (.int i) = false := id rfl
@[simp] theorem isNon_tup : isNon (.tup xs) = false := id rfl
@[simp] theorem isNon_lst : isNon (.lst xs) = false := id rfl
@[simp] theorem isNon_str : isNon (.str s) = false := id rfl
@[simp] theorem isNon_bl : isNon (.bl b) = false := id rfl
@[simp] theorem ix_lst : index (.lst xs) (.int i) = ixD xs i := id rfl
@[simp] theorem ix_tup : index (.tup xs) (.int i) = ixD xs i := id rfl
@[simp] theorem ixD_0 : ixD (x :: xs) 0 = some x := id rfl
@[simp] theorem ixD_1 {y : D} : ixD (x :: y :: xs) 1 = some y := id rfl
@[simp] theorem ixD_2 {y z : D} : ixD (x :: y :: z :: xs) 2 = some z := id rfl
@[simp] theorem ixD_3 {y z w : D} : ixD (x :: y :: z :: w :: xs) 3 = some w := id rfl
@[simp] theorem ixD_nat : ixD xs (k : Nat) = xs[k]? := by
  unfold ixD
  rw [if_pos (Int.natCast_nonneg k)]
  rfl
theorem ixD_pos (h0 : 0 ≤ i) : ixD xs i = xs[i.toNat]? := if_pos h0
theorem ixD_last (hx : xs ≠ []) : ixD xs (-1) = xs.getLast? := by
  have : 0 < xs.length := List.length_pos_iff.mpr hx
  unfold ixD
  rw [if_neg (by decide), if_pos (by omega), List.getLast?_eq_getElem?]
  congr 1
  omega
@[simp] theorem ixN_0 : ixN (n + 1) 0 = some 0 := by
  unfold ixN
  rw [if_pos (by decide), if_pos (by omega)]
  rfl
@[simp] theorem ixN_1 : ixN (n + 2) 1 = some 1 := by
  unfold ixN
  rw [if_pos (by decide), if_pos (by omega)]
  rfl
@[simp] theorem sl_lst {lo hi : Option Int} : slice (.lst xs) lo hi = some (.o (cutL xs lo hi)) := id rfl
@[simp] theorem sl_tup {lo hi : Option Int} : slice (.tup xs) lo hi = some (.v (.tup (cutL xs lo hi))) := id rfl
@[simp] theorem rev_lst : revD (.lst xs) = some (.o xs.reverse) := id rfl
@[simp] theorem f_len_l : fn1 .len (.lst xs) = some (.v (.int xs.length)) := id rfl
@[simp] theorem f_len_t : fn1 .len (.tup xs) = some (.v (.int xs.length)) := id rfl
@[simp] theorem f_abs : fn1 .abs (.int i) = some (.v (.int (if i < 0 then -i else i))) := id rfl
@[simp] theorem f_sum : fn1 .sum (.lst xs) = (intsD xs).map fun ns => .v (.int ns.sum) := id rfl
@[simp] theorem f_all : fn1 .all (.lst xs) = (boolsD xs).map fun bs => .v (.bl (bs.all id)) := id rfl
@[simp] theorem f_list_l : fn1 .list (.lst xs) = some (.o xs) := id rfl
@[simp] theorem f_list_t : fn1 .list (.tup xs) = some (.o xs) := id rfl
@[simp] theorem f_tup_l : fn1 .tuple (.lst xs) = some (.v (.tup xs)) := id rfl
@[simp] theorem f_tup_t : fn1 .tuple (.tup xs) = some (.v (.tup xs)) := id rfl
@[simp] theorem f_max2 : fn2 .max (.int i) (.int j) = some (.v (.int (if j > i then j else i))) := id rfl
@[simp] theorem f_min2 : fn2 .min (.int i) (.int j) = some (.v (.int (if j < i then j else i))) := id rfl
@[simp] theorem ints_map {ns : List Int} : intsD (ns.map D.int) = some ns := by
  induction ns with
  | nil => rfl
  | cons a r ih => rw [List.map_cons, intsD, ih]; rfl
@[simp] theorem bools_map {bs : List Bool} : boolsD (bs.map D.bl) = some bs := by
  induction bs with
  | nil => rfl
  | cons a r ih => rw [List.map_cons, boolsD, ih]; rfl
@[simp] theorem ty_ii : isTy .int (.int i) = true := id rfl
@[simp] theorem ty_ib : isTy .int (.bl b) = true := id rfl
@[simp] theorem ty_in : isTy .int .non = false := id rfl
@[simp] theorem ty_is : isTy .int (.str s) = false := id rfl
@[simp] theorem ty_it : isTy .int (.tup xs) = false := id rfl
@[simp] theorem ty_il : isTy .int (.lst xs) = false := id rfl
@[simp] theorem ty_bi : isTy .bool (.int i) = false := id rfl
@[simp] theorem ty_bb : isTy .bool (.bl b) = true := id rfl
@[simp] theorem ty_bn : isTy .bool .non = false := id rfl
@[simp] theorem ty_bs : isTy .bool (.str s) = false := id rfl
@[simp] theorem ty_bt : isTy .bool (.tup xs) = false := id rfl
@[simp] theorem ty_bl : isTy .bool (.lst xs) = false := id rfl
@[simp] theorem ty_ti : isTy .tuple (.int i) = false := id rfl
@[simp] theorem ty_tb : isTy .tuple (.bl b) = false := id rfl
@[simp] theorem ty_tn : isTy .tuple .non = false := id rfl
@[simp] theorem ty_ts : isTy .tuple (.str s) = false := id rfl
@[simp] theorem ty_tt : isTy .tuple (.tup xs) = true := id rfl
@[simp] theorem ty_tl : isTy .tuple (.lst xs) = false := id rfl
@[simp] theorem ty_si : isTy .str (.int i) = false := id rfl
@[simp] theorem ty_sb : isTy .str (.bl b) = false := id rfl
@[simp] theorem ty_sn : isTy .str .non = false := id rfl
@[simp] theorem ty_ss : isTy .str (.str s) = true := id rfl
@[simp] theorem ty_st : isTy .str (.tup xs) = false := id rfl
@[simp] theorem ty_sl : isTy .str (.lst xs) = false := id rfl
@[simp] theorem ty_li : isTy .list (.int i) = false := id rfl
@[simp] theorem ty_lb : isTy .list (.bl b) = false := id rfl
@[simp] theorem ty_ln : isTy .list .non = false := id rfl
@[simp] theorem ty_ls : isTy .list (.str s) = false := id rfl
@[simp] theorem ty_lt : isTy .list (.tup xs) = false := id rfl
@[simp] theorem ty_ll : isTy .list (.lst xs) = true := id rfl
@[simp] theorem kn_i : knownTy (.int i) = true := id rfl
@[simp] theorem kn_b : knownTy (.bl b) = true := id rfl
@[simp] theorem kn_n : knownTy .non = true := id rfl
@[simp] theorem kn_s : knownTy (.str s) = true := id rfl
@[simp] theorem kn_t : knownTy (.tup xs) = true := id rfl
@[simp] theorem kn_l : knownTy (.lst xs) = true := id rfl
@[simp] theorem ps_v : plainSlot (some (.v d)) = some (.v d) := id rfl
@[simp] theorem ps_un : plainSlot (some .un) = some .un := id rfl
def tupR (m : Res (List D)) : Res R := m.bind fun ds σ h => if ds.length ≤ sizeLine then .ok (.v (.tup ds)) σ h else .stuck
def lstR (m : Res (List D)) : Res R := m.bind fun ds σ h => if ds.length ≤ sizeLine then .ok (.o ds) σ h else .stuck
theorem hundred : (100 : Nat) ≤ sizeLine := by decide +kernel
@[simp 2000] theorem evE_tup {Γ : Calls} {C : Cf} {es : Es} : evE Γ C (.tup es) σ h = tupR (evA Γ C es σ h) := by
  rw [evE]
  exact id rfl
@[simp 2000] theorem evE_lst {Γ : Calls} {C : Cf} {es : Es} : evE Γ C (.lst es) σ h = lstR (evA Γ C es σ h) := by
  rw [evE]
  exact id rfl
theorem tupR_ok (hl : xs.length ≤ 100) : tupR (.ok xs σ h) = .ok (.v (.tup xs)) σ h := if_pos (Nat.le_trans hl hundred)
theorem lstR_ok (hl : xs.length ≤ 100) : lstR (.ok xs σ h) = .ok (.o xs) σ h := if_pos (Nat.le_trans hl hundred)
def lsB : Option D → Bool
  | some (.lst _) => true
  | _ => false
@[simp] theorem lst_slot : lstSlot σ h k = lsB (contS h σ[k]?) := id rfl
@[simp] theorem lsB_l : lsB (some (.lst xs)) = true := id rfl
end
@[simp] theorem tupR_0 {σ : List Slot} {h : List Ob} : tupR (.ok [] σ h) = .ok (.v (.tup [])) σ h := tupR_ok (show 0 ≤ 100 by omega)
@[simp] theorem lstR_0 {σ : List Slot} {h : List Ob} : lstR (.ok [] σ h) = .ok (.o []) σ h := lstR_ok (show 0 ≤ 100 by omega)
@[simp] theorem tupR_1 {σ : List Slot} {h : List Ob} {a : D} : tupR (.ok [a] σ h) = .ok (.v (.tup [a])) σ h := tupR_ok (show 1 ≤ 100 by omega)
@[simp] theorem lstR_1 {σ : List Slot} {h : List Ob} {a : D} : lstR (.ok [a] σ h) = .ok (.o [a]) σ h := lstR_ok (show 1 ≤ 100 by omega)
@[simp] theorem tupR_2 {σ : List Slot} {h : List Ob} {a b : D} : tupR (.ok [a, b] σ h) = .ok (.v (.tup [a, b])) σ h := tupR_ok (show 2 ≤ 100 by omega)
@[simp] theorem lstR_2 {σ : List Slot} {h : List Ob} {a b : D} : lstR (.ok [a, b] σ h) = .ok (.o [a, b]) σ h := lstR_ok (show 2 ≤ 100 by omega)
@[simp] theorem tupR_3 {σ : List Slot} {h : List Ob} {a b c : D} : tupR (.ok [a, b, c] σ h) = .ok (.v (.tup [a, b, c])) σ h := tupR_ok (show 3 ≤ 100 by omega)
@[simp] theorem lstR_3 {σ : List Slot} {h : List Ob} {a b c : D} : lstR (.ok [a, b, c] σ h) = .ok (.o [a, b, c]) σ h := lstR_ok (show 3 ≤ 100 by omega)
@[simp] theorem tupR_4 {σ : List Slot} {h : List Ob} {a b c d : D} : tupR (.ok [a, b, c, d] σ h) = .ok (.v (.tup [a, b, c, d])) σ h := tupR_ok (show 4 ≤ 100 by omega)
@[simp] theorem lstR_4 {σ : List Slot} {h : List Ob} {a b c d : D} : lstR (.ok [a, b, c, d] σ h) = .ok (.o [a, b, c, d]) σ h := lstR_ok (show 4 ≤ 100 by omega)
@[simp] theorem tupR_5 {σ : List Slot} {h : List Ob} {a b c d e : D} : tupR (.ok [a, b, c, d, e] σ h) = .ok (.v (.tup [a, b, c, d, e])) σ h := tupR_ok (show 5 ≤ 100 by omega)
@[simp] theorem lstR_5 {σ : List Slot} {h : List Ob} {a b c d e : D} : lstR (.ok [a, b, c, d, e] σ h) = .ok (.o [a, b, c, d, e]) σ h := lstR_ok (show 5 ≤ 100 by omega)
@[simp] theorem tupR_6 {σ : List Slot} {h : List Ob} {a b c d e f : D} : tupR (.ok [a, b, c, d, e, f] σ h) = .ok (.v (.tup [a, b, c, d, e, f])) σ h := tupR_ok (show 6 ≤ 100 by omega)
@[simp] theorem lstR_6 {σ : List Slot} {h : List Ob} {a b c d e f : D} : lstR (.ok [a, b, c, d, e, f] σ h) = .ok (.o [a, b, c, d, e, f]) σ h := lstR_ok (show 6 ≤ 100 by omega)
@[simp] theorem tupR_7 {σ : List Slot} {h : List Ob} {a b c d e f g : D} : tupR (.ok [a, b, c, d, e, f, g] σ h) = .ok (.v (.tup [a, b, c, d, e, f, g])) σ h := tupR_ok (show 7 ≤ 100 by omega)
@[simp] theorem lstR_7 {σ : List Slot} {h : List Ob} {a b c d e f g : D} : lstR (.ok [a, b, c, d, e, f, g] σ h) = .ok (.o [a, b, c, d, e, f, g]) σ h := lstR_ok (show 7 ≤ 100 by omega)
@[simp] theorem tupR_8 {σ : List Slot} {h : List Ob} {a b c d e f g h1 : D} : tupR (.ok [a, b, c, d, e, f, g, h1] σ h) = .ok (.v (.tup [a, b, c, d, e, f, g, h1])) σ h := tupR_ok (show 8 ≤ 100 by omega)
@[simp] theorem lstR_8 {σ : List Slot} {h : List Ob} {a b c d e f g h1 : D} : lstR (.ok [a, b, c, d, e, f, g, h1] σ h) = .ok (.o [a, b, c, d, e, f, g, h1]) σ h := lstR_ok (show 8 ≤ 100 by omega)
end Pm

set_option Elab.async false
set_option linter.all false
set_option maxRecDepth 100000
set_option maxHeartbeats 4000000
/-! The pure machine: statements, step by step. -/
namespace Pm
open PySem PySem.Spec
section
variable {Γ : Calls} {C : Cf} {σ σ' σ1 : List Slot} {h h' h1 : List Ob} {s : S} {b r : Ss} {v : R} {i : Nat} {it : I} {c : E}
theorem exB_nx (e : exS Γ C s σ h = .ok .nx σ' h') : exB Γ C (.cons s r) σ h = exB Γ C r σ' h' := by
  rw [exB, e]
  rfl
theorem exB_rt (e : exS Γ C s σ h = .ok (.rt v) σ' h') : exB Γ C (.cons s r) σ h = .ok (.rt v) σ' h' := by
  rw [exB, e]
  rfl
theorem exB_one (e : exS Γ C s σ h = .ok .nx σ' h') : exB Γ C (.cons s .nil) σ h = .ok .nx σ' h' := by
  rw [exB_nx e, exB]
theorem runF_rt {fd : Fd} {ds : List D} (hl : ds.length = fd.np) (e : exB Γ C fd.body (ds.map Slot.v ++ List.replicate (fd.ns - fd.np) .un) h = .ok (.rt v) σ' h') : runF Γ C fd ds h = .ok v h' := by
  unfold runF
  rw [if_pos hl, e]
theorem runF_nx {fd : Fd} {ds : List D} (hl : ds.length = fd.np) (e : exB Γ C fd.body (ds.map Slot.v ++ List.replicate (fd.ns - fd.np) .un) h = .ok .nx σ' h') : runF Γ C fd ds h = .ok (.v .non) h' := by
  unfold runF
  rw [if_pos hl, e]
theorem for1_all {α : Type} {g : α → D} {xs : List α} (I : List α → List α → List Slot → List Ob → Prop) (hI : evI Γ C it σ h = .ok (xs.map g) σ1 h1) (i0 : I [] xs σ1 h1)
    (step : ∀ l a r σ h, I l (a :: r) σ h → ∃ σ' h', exB Γ C b (σ.set i (.v (g a))) h = .ok .nx σ' h' ∧ I (l ++ [a]) r σ' h') : ∃ σ' h', exS Γ C (.for1 i it b) σ h = .ok .nx σ' h' ∧ I xs [] σ' h' := by
  obtain ⟨σ', h', e, i'⟩ := forL_all (f := fun d σ h => exB Γ C b (σ.set i (.v d)) h) (g := g) I step i0
  refine ⟨σ', h', ?_, i'⟩
  rw [exS, hI]
  exact e
theorem for1_inv {ds : List D} (I : List D → List D → List Slot → List Ob → Prop) (R : Res Flow → Prop) (hI : evI Γ C it σ h = .ok ds σ1 h1) (i0 : I [] ds σ1 h1)
    (step : ∀ l d r σ h, I l (d :: r) σ h → (∃ σ' h', exB Γ C b (σ.set i (.v d)) h = .ok .nx σ' h' ∧ I (l ++ [d]) r σ' h') ∨ (∃ x σ' h', exB Γ C b (σ.set i (.v d)) h = .ok (.rt x) σ' h' ∧ R (.ok (.rt x) σ' h'))) (fin : ∀ l σ h, I l [] σ h → R (.ok .nx σ h)) :
    R (exS Γ C (.for1 i it b) σ h) := by
  have q := forL_inv (f := fun d σ h => exB Γ C b (σ.set i (.v d)) h) I R step fin i0
  rw [exS, hI]
  exact q
theorem forT_all {α : Type} {g : α → List D} {xs : List α} {is : List Nat} (I : List α → List α → List Slot → List Ob → Prop) (hI : evI Γ C it σ h = .ok (xs.map fun a => .tup (g a)) σ1 h1) (i0 : I [] xs σ1 h1)
    (step : ∀ l a r σ h, I l (a :: r) σ h → ∃ σ0 σ' h', bindS is (g a) σ = some σ0 ∧ exB Γ C b σ0 h = .ok .nx σ' h' ∧ I (l ++ [a]) r σ' h') : ∃ σ' h', exS Γ C (.forT is it b) σ h = .ok .nx σ' h' ∧ I xs [] σ' h' := by
  obtain ⟨σ', h', e, i'⟩ := forL_all (f := fun d σ h => match d with
      | .tup xs => match bindS is xs σ with
        | some σ => exB Γ C b σ h
        | none => .stuck
      | _ => .stuck) (g := fun a => .tup (g a)) I (fun l a r σ h i => by
    obtain ⟨σ0, σ', h', e1, e2, e3⟩ := step l a r σ h i
    exact ⟨σ', h', by dsimp only; rw [e1]; exact e2, e3⟩) i0
  refine ⟨σ', h', ?_, i'⟩
  rw [exS, hI]
  exact e
theorem whl_ok (I : Nat → List Slot → List Ob → Prop) (R : Res Flow → Prop)
    (step : ∀ m σ h, I m σ h → (∃ σ1 h1, evE Γ C c σ h = .ok (.v (.bl false)) σ1 h1 ∧ R (.ok .nx σ1 h1)) ∨ (∃ σ1 h1, evE Γ C c σ h = .ok (.v (.bl true)) σ1 h1 ∧ ((∃ m' σ2 h2, m' < m ∧ exB Γ C b σ1 h1 = .ok .nx σ2 h2 ∧ I m' σ2 h2) ∨ (∃ r σ2 h2, exB Γ C b σ1 h1 = .ok (.rt r) σ2 h2 ∧ R (.ok (.rt r) σ2 h2)))))
    {m : Nat} (i0 : I m σ h) : R (exS Γ C (.whl c b) σ h) := by
  rw [exS]
  refine whl_inv I R (fun m σ h i => ?_) i0
  rcases step m σ h i with ⟨σ1, h1, e, q⟩ | ⟨σ1, h1, e, q⟩
  · exact .inl ⟨σ1, h1, by rw [e]; rfl, q⟩
  · exact .inr ⟨σ1, h1, by rw [e]; rfl, q⟩
/-- what a run comes to -/
def OkM {α : Type} (m : Res α) (Q : α → List Slot → List Ob → Prop) : Prop :=
  match m with
  | .ok a σ h => Q a σ h
  | _ => False
def OkCM (m : CRes) (Q : R → List Ob → Prop) : Prop :=
  match m with
  | .ok a h => Q a h
  | _ => False
theorem OkM_ok {α : Type} {a : α} {Q : α → List Slot → List Ob → Prop} : OkM (.ok a σ h) Q ↔ Q a σ h := Iff.rfl
theorem OkCM_ok {a : R} {Q : R → List Ob → Prop} : OkCM (.ok a h) Q ↔ Q a h := Iff.rfl
theorem okM_of {α : Type} {m : Res α} {a : α} {Q : α → List Slot → List Ob → Prop} (e : m = .ok a σ h) (q : Q a σ h) : OkM m Q := by
  rw [e]
  exact q
theorem okM_bind {α β : Type} {m : Res α} {f : α → List Slot → List Ob → Res β} {Q : β → List Slot → List Ob → Prop} (q : OkM m fun a σ h => OkM (f a σ h) Q) : OkM (m.bind f) Q := by
  cases m with
  | ok a σ h => exact q
  | exc c p σ h => exact q.elim
  | stuck => exact q.elim
theorem okM_mono {α : Type} {m : Res α} {Q Q' : α → List Slot → List Ob → Prop} (q : OkM m Q) (k : ∀ a σ h, Q a σ h → Q' a σ h) : OkM m Q' := by
  cases m with
  | ok a σ h => exact k _ _ _ q
  | exc c p σ h => exact q.elim
  | stuck => exact q.elim
theorem okCM_eq {m : CRes} {r : R} (q : OkCM m fun r' h' => r' = r ∧ h' = h) : m = .ok r h := by
  cases m with
  | ok a h => obtain ⟨rfl, rfl⟩ := q; rfl
  | exc c p h => exact q.elim
  | stuck => exact q.elim
theorem okCM_ex {m : CRes} {Q : R → List Ob → Prop} (q : OkCM m Q) : ∃ r h, m = .ok r h ∧ Q r h := by
  cases m with
  | ok a h => exact ⟨a, h, rfl, q⟩
  | exc c p h => exact q.elim
  | stuck => exact q.elim
/-- the rest of a block -/
noncomputable def exR (Γ : Calls) (C : Cf) (b : Ss) (σ : List Slot) (h : List Ob) : Res Flow := exB Γ C b σ h
def GoesM (Γ : Calls) (C : Cf) (r : Ss) (Q : Flow → List Slot → List Ob → Prop) : Flow → List Slot → List Ob → Prop
  | .nx, σ, h => OkM (exR Γ C r σ h) Q
  | fl, σ, h => Q fl σ h
theorem goesM_nx {Q : Flow → List Slot → List Ob → Prop} : GoesM Γ C r Q .nx σ h ↔ OkM (exR Γ C r σ h) Q := Iff.rfl
theorem goesM_rt {Q : Flow → List Slot → List Ob → Prop} : GoesM Γ C r Q (.rt v) σ h ↔ Q (.rt v) σ h := Iff.rfl
theorem okM_cons {Q : Flow → List Slot → List Ob → Prop} (q : OkM (exS Γ C s σ h) (GoesM Γ C r Q)) : OkM (exR Γ C (.cons s r) σ h) Q := by
  unfold exR
  rw [exB]
  refine okM_bind (okM_mono q fun fl σ h z => ?_)
  cases fl <;> exact z
@[simp] theorem exR_nil : exR Γ C .nil σ h = .ok .nx σ h := by
  unfold exR
  rw [exB]
def Ends (Q : R → List Ob → Prop) : Flow → List Slot → List Ob → Prop
  | .nx, _, h => Q (.v .non) h
  | .rt r, _, h => Q r h
  | _, _, _ => False
@[simp] theorem ends_nx {Q : R → List Ob → Prop} : Ends Q .nx σ h ↔ Q (.v .non) h := Iff.rfl
@[simp] theorem ends_rt {Q : R → List Ob → Prop} : Ends Q (.rt v) σ h ↔ Q v h := Iff.rfl
theorem okM_run {fd : Fd} {ds : List D} {Q : R → List Ob → Prop} (hl : ds.length = fd.np) (q : OkM (exR Γ C fd.body (ds.map Slot.v ++ List.replicate (fd.ns - fd.np) .un) h) (Ends Q)) : OkCM (runF Γ C fd ds h) Q := by
  unfold runF
  rw [if_pos hl]
  unfold exR at q
  cases e : exB Γ C fd.body (ds.map Slot.v ++ List.replicate (fd.ns - fd.np) .un) h with
  | stuck => rw [e] at q; exact q.elim
  | exc c p σ h => rw [e] at q; exact q.elim
  | ok fl σ h =>
    rw [e] at q
    cases fl with
    | nx => exact q
    | rt r => exact q
    | bk => exact q.elim
    | ct => exact q.elim
/-- what a turn must come to -/
def Turn (J : List Slot → List Ob → Prop) (Q : Flow → List Slot → List Ob → Prop) : Flow → List Slot → List Ob → Prop
  | .nx, σ, h => J σ h
  | .ct, σ, h => J σ h
  | .bk, σ, h => Q .nx σ h
  | .rt r, σ, h => Q (.rt r) σ h
@[simp] theorem turn_nx {J : List Slot → List Ob → Prop} {Q : Flow → List Slot → List Ob → Prop} : Turn J Q .nx σ h ↔ J σ h := Iff.rfl
@[simp] theorem turn_ct {J : List Slot → List Ob → Prop} {Q : Flow → List Slot → List Ob → Prop} : Turn J Q .ct σ h ↔ J σ h := Iff.rfl
@[simp] theorem turn_rt {J : List Slot → List Ob → Prop} {Q : Flow → List Slot → List Ob → Prop} : Turn J Q (.rt v) σ h ↔ Q (.rt v) σ h := Iff.rfl
theorem okM_forL {α : Type} {g : α → D} {xs : List α} {f : D → List Slot → List Ob → Res Flow} {Q : Flow → List Slot → List Ob → Prop} (I : List α → List α → List Slot → List Ob → Prop)
    (step : ∀ l a r σ h, l ++ a :: r = xs → I l (a :: r) σ h → OkM (f (g a) σ h) (Turn (I (l ++ [a]) r) Q)) (fin : ∀ σ h, I xs [] σ h → Q .nx σ h) :
    ∀ (l r : List α) (σ : List Slot) (h : List Ob), l ++ r = xs → I l r σ h → OkM (forL f (r.map g) σ h) Q
  | l, [], σ, h, e, i => fin σ h (by rw [List.append_nil] at e; rw [← e]; exact i)
  | l, a :: r, σ, h, e, i => by
    have q := step l a r σ h e i
    rw [List.map_cons, forL]
    refine okM_bind (okM_mono q fun fl σ' h' z => ?_)
    cases fl with
    | nx => exact okM_forL I step fin (l ++ [a]) r σ' h' (by rw [List.append_assoc]; exact e) z
    | ct => exact okM_forL I step fin (l ++ [a]) r σ' h' (by rw [List.append_assoc]; exact e) z
    | bk => exact z
    | rt v => exact z
theorem okM_for1 {α : Type} {g : α → D} {xs : List α} {Q : Flow → List Slot → List Ob → Prop} (I : List α → List α → List Slot → List Ob → Prop) (hI : evI Γ C it σ h = .ok (xs.map g) σ1 h1) (i0 : I [] xs σ1 h1)
    (step : ∀ l a r σ h, l ++ a :: r = xs → I l (a :: r) σ h → OkM (exR Γ C b (σ.set i (.v (g a))) h) (Turn (I (l ++ [a]) r) Q)) (fin : ∀ σ h, I xs [] σ h → Q .nx σ h) : OkM (exS Γ C (.for1 i it b) σ h) Q := by
  rw [exS, hI]
  exact okM_forL (f := fun d σ h => exB Γ C b (σ.set i (.v d)) h) I step fin [] xs σ1 h1 rfl i0
theorem okM_forT {α : Type} {g : α → List D} {xs : List α} {is : List Nat} {Q : Flow → List Slot → List Ob → Prop} (I : List α → List α → List Slot → List Ob → Prop) (hI : evI Γ C it σ h = .ok (xs.map fun a => .tup (g a)) σ1 h1) (i0 : I [] xs σ1 h1)
    (step : ∀ l a r σ h, l ++ a :: r = xs → I l (a :: r) σ h → ∃ σ0, bindS is (g a) σ = some σ0 ∧ OkM (exR Γ C b σ0 h) (Turn (I (l ++ [a]) r) Q)) (fin : ∀ σ h, I xs [] σ h → Q .nx σ h) : OkM (exS Γ C (.forT is it b) σ h) Q := by
  rw [exS, hI]
  refine okM_forL (f := fun d σ h => match d with
      | .tup xs => match bindS is xs σ with
        | some σ => exB Γ C b σ h
        | none => .stuck
      | _ => .stuck) (g := fun a => .tup (g a)) I (fun l a r σ h e i => ?_) fin [] xs σ1 h1 rfl i0
  obtain ⟨σ0, e1, q⟩ := step l a r σ h e i
  dsimp only
  rw [e1]
  exact q
theorem okM_whl {c : E} {Q : Flow → List Slot → List Ob → Prop} (I : Nat → List Slot → List Ob → Prop)
    (step : ∀ m σ h, I m σ h → OkM (asB (evE Γ C c σ h)) fun t σ1 h1 => if t then OkM (exR Γ C b σ1 h1) (Turn (fun σ h => ∃ m', m' < m ∧ I m' σ h) Q) else Q .nx σ1 h1) (m : Nat) (i0 : I m σ h) : OkM (exS Γ C (.whl c b) σ h) Q := by
  have key : ∀ m σ h, I m σ h → ∃ n r, whlN (fun σ h => asB (evE Γ C c σ h)) (exB Γ C b) n σ h = some r ∧ OkM r Q := by
    intro m
    induction m using Nat.strongRecOn with
    | _ m ih =>
      intro σ h i
      have q := step m σ h i
      cases e : asB (evE Γ C c σ h) with
      | stuck => rw [e] at q; exact q.elim
      | exc k p σ1 h1 => rw [e] at q; exact q.elim
      | ok t σ1 h1 =>
        rw [e] at q
        cases t with
        | false => exact ⟨1, _, by unfold whlN; rw [e], q⟩
        | true =>
          have q : OkM (exB Γ C b σ1 h1) (Turn (fun σ h => ∃ m', m' < m ∧ I m' σ h) Q) := q
          cases e2 : exB Γ C b σ1 h1 with
          | stuck => rw [e2] at q; exact q.elim
          | exc k p σ1 h1 => rw [e2] at q; exact q.elim
          | ok fl σ2 h2 =>
            rw [e2] at q
            cases fl with
            | nx =>
              obtain ⟨m', hm, i2⟩ := q
              obtain ⟨n, r, e3, q3⟩ := ih m' hm σ2 h2 i2
              exact ⟨n + 1, r, by unfold whlN; rw [e]; dsimp only; rw [e2]; exact e3, q3⟩
            | ct =>
              obtain ⟨m', hm, i2⟩ := q
              obtain ⟨n, r, e3, q3⟩ := ih m' hm σ2 h2 i2
              exact ⟨n + 1, r, by unfold whlN; rw [e]; dsimp only; rw [e2]; exact e3, q3⟩
            | bk => exact ⟨1, _, by unfold whlN; rw [e]; dsimp only; rw [e2], q⟩
            | rt v => exact ⟨1, _, by unfold whlN; rw [e]; dsimp only; rw [e2], q⟩
  obtain ⟨n, r, e, q⟩ := key m σ h i0
  rw [exS, whl_of e]
  exact q
theorem evI_rng1 {a : E} {j : Int} (e : evE Γ C a σ h = .ok (.v (.int j)) σ1 h1) (hs : small62 j = true) : evI Γ C (.rng1 a) σ h = .ok (rangeL 0 j) σ1 h1 := by
  rw [evI, e]
  show (if small62 j then Res.ok (rangeL 0 j) σ1 h1 else .stuck) = _
  rw [if_pos hs]
/-! ### the same, not to be unfolded by chance -/
structure Box (p : Prop) : Prop where
  out : p
def Ok {α : Type} (m : Res α) (Q : α → List Slot → List Ob → Prop) : Prop := Box (OkM m Q)
def OkC (m : CRes) (Q : R → List Ob → Prop) : Prop := Box (OkCM m Q)
@[simp] theorem Ok_ok {α : Type} {a : α} {Q : α → List Slot → List Ob → Prop} : Ok (.ok a σ h) Q ↔ Q a σ h := ⟨fun q => q.out, fun q => ⟨q⟩⟩
@[simp] theorem OkC_ok {a : R} {Q : R → List Ob → Prop} : OkC (.ok a h) Q ↔ Q a h := ⟨fun q => q.out, fun q => ⟨q⟩⟩
theorem ok_of {α : Type} {m : Res α} {a : α} {Q : α → List Slot → List Ob → Prop} (e : m = .ok a σ h) (q : Q a σ h) : Ok m Q := ⟨okM_of e q⟩
theorem ok_mono {α : Type} {m : Res α} {Q Q' : α → List Slot → List Ob → Prop} (q : Ok m Q) (k : ∀ a σ h, Q a σ h → Q' a σ h) : Ok m Q' := ⟨okM_mono q.out k⟩
theorem ok_bind {α β : Type} {m : Res α} {f : α → List Slot → List Ob → Res β} {Q : β → List Slot → List Ob → Prop} (q : Ok m fun a σ h => Ok (f a σ h) Q) : Ok (m.bind f) Q := ⟨okM_bind (okM_mono q.out fun _ _ _ z => z.out)⟩
theorem okC_eq {m : CRes} {r : R} (q : OkC m fun r' h' => r' = r ∧ h' = h) : m = .ok r h := okCM_eq q.out
theorem okC_ex {m : CRes} {Q : R → List Ob → Prop} (q : OkC m Q) : ∃ r h, m = .ok r h ∧ Q r h := okCM_ex q.out
def Goes (Γ : Calls) (C : Cf) (r : Ss) (Q : Flow → List Slot → List Ob → Prop) : Flow → List Slot → List Ob → Prop
  | .nx, σ, h => Ok (exR Γ C r σ h) Q
  | fl, σ, h => Q fl σ h
@[simp] theorem goes_nx {Q : Flow → List Slot → List Ob → Prop} : Goes Γ C r Q .nx σ h ↔ Ok (exR Γ C r σ h) Q := Iff.rfl
@[simp] theorem goes_rt {Q : Flow → List Slot → List Ob → Prop} : Goes Γ C r Q (.rt v) σ h ↔ Q (.rt v) σ h := Iff.rfl
theorem ok_cons {Q : Flow → List Slot → List Ob → Prop} (q : Ok (exS Γ C s σ h) (Goes Γ C r Q)) : Ok (exR Γ C (.cons s r) σ h) Q := ⟨okM_cons (okM_mono q.out fun fl σ h z => by
  cases fl with
  | nx => exact (show Ok (exR Γ C r σ h) Q from z).out
  | bk => exact z
  | ct => exact z
  | rt v => exact z)⟩
theorem ok_run {fd : Fd} {ds : List D} {Q : R → List Ob → Prop} (hl : ds.length = fd.np) (q : Ok (exR Γ C fd.body (ds.map Slot.v ++ List.replicate (fd.ns - fd.np) .un) h) (Ends Q)) : OkC (runF Γ C fd ds h) Q := ⟨okM_run hl q.out⟩
theorem ok_for1 {α : Type} {g : α → D} {xs : List α} {Q : Flow → List Slot → List Ob → Prop} (I : List α → List α → List Slot → List Ob → Prop) (hI : evI Γ C it σ h = .ok (xs.map g) σ1 h1) (i0 : I [] xs σ1 h1)
    (step : ∀ l a r σ h, l ++ a :: r = xs → I l (a :: r) σ h → Ok (exR Γ C b (σ.set i (.v (g a))) h) (Turn (I (l ++ [a]) r) Q)) (fin : ∀ σ h, I xs [] σ h → Q .nx σ h) : Ok (exS Γ C (.for1 i it b) σ h) Q := ⟨okM_for1 I hI i0 (fun l a r σ h e i => (step l a r σ h e i).out) fin⟩
theorem ok_forT {α : Type} {g : α → List D} {xs : List α} {is : List Nat} {Q : Flow → List Slot → List Ob → Prop} (I : List α → List α → List Slot → List Ob → Prop) (hI : evI Γ C it σ h = .ok (xs.map fun a => .tup (g a)) σ1 h1) (i0 : I [] xs σ1 h1)
    (step : ∀ l a r σ h, l ++ a :: r = xs → I l (a :: r) σ h → ∃ σ0, bindS is (g a) σ = some σ0 ∧ Ok (exR Γ C b σ0 h) (Turn (I (l ++ [a]) r) Q)) (fin : ∀ σ h, I xs [] σ h → Q .nx σ h) : Ok (exS Γ C (.forT is it b) σ h) Q :=
  ⟨okM_forT I hI i0 (fun l a r σ h e i => by
    obtain ⟨σ0, e1, q⟩ := step l a r σ h e i
    exact ⟨σ0, e1, q.out⟩) fin⟩
theorem ok_whl {c : E} {Q : Flow → List Slot → List Ob → Prop} (I : Nat → List Slot → List Ob → Prop)
    (step : ∀ m σ h, I m σ h → Ok (asB (evE Γ C c σ h)) fun t σ1 h1 => if t then Ok (exR Γ C b σ1 h1) (Turn (fun σ h => ∃ m', m' < m ∧ I m' σ h) Q) else Q .nx σ1 h1) (m : Nat) (i0 : I m σ h) : Ok (exS Γ C (.whl c b) σ h) Q :=
  ⟨okM_whl I (fun m σ h i => okM_mono (step m σ h i).out fun t σ1 h1 z => by
    cases t with
    | true => exact (show Ok (exR Γ C b σ1 h1) (Turn (fun σ h => ∃ m', m' < m ∧ I m' σ h) Q) from z).out
    | false => exact z) m i0⟩
/-- a sequence's items numbered -/
theorem enu_map {α : Type} {g : α → D} {xs : List α} : ((xs.map g).zipIdx.map fun p => D.tup [.int p.2, p.1]) = xs.zipIdx.map fun p => .tup [.int p.2, g p.1] := by
  rw [List.zipIdx_map, List.map_map]
  rfl
theorem mem_zip {α : Type} {l r xs : List (α × Nat)} {a : α × Nat} (e : l ++ a :: r = xs) : a ∈ xs := by
  rw [← e]
  simp
end
end Pm

set_option Elab.async false
set_option linter.all false
set_option maxRecDepth 100000
set_option maxHeartbeats 4000000
/-! The pure machine: evaluation by simp, construct by construct. -/
namespace Pm
open PySem PySem.Spec
section
variable {Γ : Calls} {C : Cf} {σ : List Slot} {h : List Ob} {d : D} {xs : List D} {i j : Nat} {e a b c : E} {es : Es} {r : R} {x y : Opd} {bb : Bool}
def varR (i : Nat) : Option Slot → List Slot → List Ob → Res R
  | some (.v d), σ, h => .ok (.v d) σ h
  | some (.o xs), σ, h => .ok (.v (.lst xs)) (σ.set i (.v (.lst xs))) h
  | _, _, _ => .stuck
def borR (i : Nat) : Option Slot → List Slot → List Ob → Res Opd
  | some (.v _), σ, h => .ok (.s i) σ h
  | some (.o _), σ, h => .ok (.s i) σ h
  | _, _, _ => .stuck
def binR (op : BOp) : Option D → Option D → List Slot → List Ob → Res R
  | some c, some d, σ, h => retR (binop op c d) σ h
  | _, _, _, _ => .stuck
def cmpR (op : COp) : Option D → Option D → List Slot → List Ob → Res R
  | some c, some d, σ, h => retB (cmpop op c d) σ h
  | _, _, _, _ => .stuck
def chnR (op : COp) (k : List Slot → List Ob → Res R) : Option D → Option D → List Slot → List Ob → Res R
  | some u, some v, σ, h => match cmpop op u v with
    | some true => k σ h
    | some false => .ok (.v (.bl false)) σ h
    | none => .stuck
  | _, _, _, _ => .stuck
def idxR : Option D → Option D → List Slot → List Ob → Res R
  | some c, some d, σ, h => retR ((index c d).map .v) σ h
  | _, _, _, _ => .stuck
def f1R (f : F1) : Option D → List Slot → List Ob → Res R
  | some c, σ, h => retR (fn1 f c) σ h
  | _, _, _ => .stuck
def sliR (l u : Option Int) : Option D → List Slot → List Ob → Res R
  | some c, σ, h => retR (slice c l u) σ h
  | _, _, _ => .stuck
def revR : Option D → List Slot → List Ob → Res R
  | some c, σ, h => retR (revD c) σ h
  | _, _, _ => .stuck
def isiR (t : Ty) : Option D → List Slot → List Ob → Res R
  | some c, σ, h => if knownTy c then .ok (.v (.bl (isTy t c))) σ h else .stuck
  | _, _, _ => .stuck
def negR : R → List Slot → List Ob → Res R
  | .v (.int i), σ, h => .ok (.v (.int (-i))) σ h
  | _, _, _ => .stuck
def ifR {α : Type} (k : Bool) (m n : Res α) : Res α := if k then m else n
@[simp] theorem varR_v : varR i (some (.v d)) σ h = .ok (.v d) σ h := id rfl
@[simp] theorem varR_o : varR i (some (.o xs)) σ h = .ok (.v (.lst xs)) (σ.set i (.v (.lst xs))) h := id rfl
@[simp] theorem borR_v : borR i (some (.v d)) σ h = .ok (.s i) σ h := id rfl
@[simp] theorem borR_o : borR i (some (.o xs)) σ h = .ok (.s i) σ h := id rfl
@[simp] theorem binR_s {op : BOp} {c d : D} : binR op (some c) (some d) σ h = retR (binop op c d) σ h := id rfl
@[simp] theorem cmpR_s {op : COp} {c d : D} : cmpR op (some c) (some d) σ h = retB (cmpop op c d) σ h := id rfl
@[simp] theorem chnR_s {op : COp} {k : List Slot → List Ob → Res R} {u v : D} (e : cmpop op u v = some bb) : chnR op k (some u) (some v) σ h = ifR bb (k σ h) (.ok (.v (.bl false)) σ h) := by
  show (match cmpop op u v with | some true => k σ h | some false => .ok (.v (.bl false)) σ h | none => .stuck) = _
  rw [e]
  cases bb <;> rfl
@[simp] theorem idxR_s {c d : D} : idxR (some c) (some d) σ h = retR ((index c d).map .v) σ h := id rfl
@[simp] theorem f1R_s {f : F1} : f1R f (some d) σ h = retR (fn1 f d) σ h := id rfl
@[simp] theorem sliR_s {l u : Option Int} : sliR l u (some d) σ h = retR (slice d l u) σ h := id rfl
@[simp] theorem revR_s : revR (some d) σ h = retR (revD d) σ h := id rfl
@[simp] theorem isiR_s {t : Ty} (k : knownTy d = true) : isiR t (some d) σ h = .ok (.v (.bl (isTy t d))) σ h := if_pos k
@[simp] theorem negR_s {i : Int} : negR (.v (.int i)) σ h = .ok (.v (.int (-i))) σ h := id rfl
@[simp] theorem ifR_t {α : Type} {m n : Res α} : ifR true m n = m := id rfl
@[simp] theorem ifR_f {α : Type} {m n : Res α} : ifR false m n = n := id rfl
theorem ifR_if {α : Type} {k : Bool} {m n : Res α} (hk : k = true) : ifR k m n = m := by rw [hk]; rfl
theorem ifR_el {α : Type} {k : Bool} {m n : Res α} (hk : k = false) : ifR k m n = n := by rw [hk]; rfl
@[simp] theorem v_con : evE Γ C (.con d) σ h = .ok (.v d) σ h := by rw [evE]
@[simp] theorem v_glo {z : Str} : evE Γ C (.glo z d) σ h = .ok (.v d) σ h := by rw [evE]
@[simp] theorem v_var : evE Γ C (.var i) σ h = varR i σ[i]? σ h := by
  rw [evE]
  unfold varR
  cases σ[i]? with
  | none => rfl
  | some s => cases s <;> rfl
@[simp] theorem v_tup : evE Γ C (.tup es) σ h = tupR (evA Γ C es σ h) := by
  rw [evE]
  exact id rfl
@[simp] theorem v_lst : evE Γ C (.lst es) σ h = lstR (evA Γ C es σ h) := by
  rw [evE]
  exact id rfl
def isBor : E → Bool
  | .bor _ => true
  | _ => false
@[simp] theorem o_bor {m : List Slot → List Ob → Res R} : opd (.bor i) m σ h = borR i σ[i]? σ h := by
  show (match σ[i]? with | some (.v _) => Res.ok (Opd.s i) σ h | some (.o _) => Res.ok (Opd.s i) σ h | _ => Res.stuck) = _
  unfold borR
  cases σ[i]? with
  | none => rfl
  | some s => cases s <;> rfl
theorem o_val {m : List Slot → List Ob → Res R} (hb : isBor e = false) : opd e m σ h = (m σ h).bind fun r σ h => .ok (.r r) σ h := by
  cases e <;> first | rfl | cases hb
@[simp] theorem o_con {m : List Slot → List Ob → Res R} : opd (.con d) m σ h = (m σ h).bind fun r σ h => .ok (.r r) σ h := o_val rfl
@[simp] theorem o_glo {z : Str} {m : List Slot → List Ob → Res R} : opd (.glo z d) m σ h = (m σ h).bind fun r σ h => .ok (.r r) σ h := o_val rfl
@[simp] theorem o_tup {m : List Slot → List Ob → Res R} : opd (.tup es) m σ h = (m σ h).bind fun r σ h => .ok (.r r) σ h := o_val rfl
@[simp] theorem o_lst {m : List Slot → List Ob → Res R} : opd (.lst es) m σ h = (m σ h).bind fun r σ h => .ok (.r r) σ h := o_val rfl
@[simp] theorem o_bin {op : BOp} {m : List Slot → List Ob → Res R} : opd (.bin op a b) m σ h = (m σ h).bind fun r σ h => .ok (.r r) σ h := o_val rfl
@[simp] theorem o_neg {m : List Slot → List Ob → Res R} : opd (.neg a) m σ h = (m σ h).bind fun r σ h => .ok (.r r) σ h := o_val rfl
@[simp] theorem o_idx {m : List Slot → List Ob → Res R} : opd (.idx a b) m σ h = (m σ h).bind fun r σ h => .ok (.r r) σ h := o_val rfl
@[simp] theorem o_sli {lo hi : Eo} {m : List Slot → List Ob → Res R} : opd (.sli a lo hi) m σ h = (m σ h).bind fun r σ h => .ok (.r r) σ h := o_val rfl
@[simp] theorem o_rev {m : List Slot → List Ob → Res R} : opd (.rev a) m σ h = (m σ h).bind fun r σ h => .ok (.r r) σ h := o_val rfl
@[simp] theorem o_f1 {f : F1} {m : List Slot → List Ob → Res R} : opd (.fn1 f a) m σ h = (m σ h).bind fun r σ h => .ok (.r r) σ h := o_val rfl
@[simp] theorem o_f2 {f : F2} {m : List Slot → List Ob → Res R} : opd (.fn2 f a b) m σ h = (m σ h).bind fun r σ h => .ok (.r r) σ h := o_val rfl
@[simp] theorem o_isi {t : Ty} {m : List Slot → List Ob → Res R} : opd (.isi a t) m σ h = (m σ h).bind fun r σ h => .ok (.r r) σ h := o_val rfl
@[simp] theorem o_cal {f : Nat} {m : List Slot → List Ob → Res R} : opd (.cal f es) m σ h = (m σ h).bind fun r σ h => .ok (.r r) σ h := o_val rfl
@[simp] theorem o_com {it : I} {m : List Slot → List Ob → Res R} : opd (.com i a it) m σ h = (m σ h).bind fun r σ h => .ok (.r r) σ h := o_val rfl
@[simp] theorem o_comf {it : I} {m : List Slot → List Ob → Res R} : opd (.comf i a it c) m σ h = (m σ h).bind fun r σ h => .ok (.r r) σ h := o_val rfl
@[simp] theorem o_ite {m : List Slot → List Ob → Res R} : opd (.ite c a b) m σ h = (m σ h).bind fun r σ h => .ok (.r r) σ h := o_val rfl
@[simp] theorem v_bin {op : BOp} : evE Γ C (.bin op a b) σ h = (opd a (evE Γ C a) σ h).bind fun x σ h => (opd b (evE Γ C b) σ h).bind fun y σ h => binR op (cont σ h x) (cont σ h y) σ h := by
  rw [evE]
  congr 1; funext x σ h; congr 1; funext y σ h
  cases cont σ h x <;> cases cont σ h y <;> rfl
@[simp] theorem v_cmp {op : COp} : evE Γ C (.cmp op a b) σ h = (opd a (evE Γ C a) σ h).bind fun x σ h => (opd b (evE Γ C b) σ h).bind fun y σ h => cmpR op (cont σ h x) (cont σ h y) σ h := by
  rw [evE]
  congr 1; funext x σ h; congr 1; funext y σ h
  cases cont σ h x <;> cases cont σ h y <;> rfl
@[simp] theorem v_cmp2 {op op' : COp} : evE Γ C (.cmp2 op op' a b c) σ h = (opd a (evE Γ C a) σ h).bind fun x σ h => (opd b (evE Γ C b) σ h).bind fun y σ h => chnR op (fun σ h => (opd c (evE Γ C c) σ h).bind fun z σ h => cmpR op' (cont σ h y) (cont σ h z) σ h) (cont σ h x) (cont σ h y) σ h := by
  rw [evE]
  congr 1; funext x σ h; congr 1; funext y σ h
  cases cont σ h x with
  | none => rfl
  | some u =>
    cases e : cont σ h y with
    | none => rfl
    | some v =>
      have e2 : ∀ k : List Slot → List Ob → Res R, chnR op k (some u) (some v) σ h = match cmpop op u v with | some true => k σ h | some false => .ok (.v (.bl false)) σ h | none => .stuck := fun _ => rfl
      rw [e2]
      dsimp only
      cases cmpop op u v with
      | none => rfl
      | some t =>
        cases t with
        | false => rfl
        | true =>
          dsimp only
          congr 1; funext z σ h
          cases cont σ h y <;> cases cont σ h z <;> rfl
@[simp] theorem v_neg : evE Γ C (.neg a) σ h = (evE Γ C a σ h).bind fun r σ h => negR r σ h := by
  rw [evE]
  congr 1; funext r σ h
  unfold negR
  rcases r with d | xs
  · cases d <;> rfl
  · rfl
@[simp] theorem v_and : evE Γ C (.and a b) σ h = (asB (evE Γ C a σ h)).bind fun k σ h => ifR k ((asB (evE Γ C b σ h)).bind fun k σ h => .ok (.v (.bl k)) σ h) (.ok (.v (.bl false)) σ h) := by
  rw [evE]
  exact id rfl
@[simp] theorem v_or : evE Γ C (.or a b) σ h = (asB (evE Γ C a σ h)).bind fun k σ h => ifR k (.ok (.v (.bl true)) σ h) ((asB (evE Γ C b σ h)).bind fun k σ h => .ok (.v (.bl k)) σ h) := by
  rw [evE]
  exact id rfl
@[simp] theorem v_not : evE Γ C (.not a) σ h = (asB (evE Γ C a σ h)).bind fun k σ h => .ok (.v (.bl (!k))) σ h := by rw [evE]
@[simp] theorem v_ite : evE Γ C (.ite c a b) σ h = (asB (evE Γ C c σ h)).bind fun k σ h => ifR k (evE Γ C a σ h) (evE Γ C b σ h) := by
  rw [evE]
  exact id rfl
@[simp] theorem v_idx : evE Γ C (.idx a b) σ h = (opd a (evE Γ C a) σ h).bind fun x σ h => (opd b (evE Γ C b) σ h).bind fun y σ h => idxR (cont σ h x) (cont σ h y) σ h := by
  rw [evE]
  congr 1; funext x σ h; congr 1; funext y σ h
  cases cont σ h x <;> cases cont σ h y <;> rfl
@[simp] theorem v_sli {lo hi : Eo} : evE Γ C (.sli a lo hi) σ h = (opd a (evE Γ C a) σ h).bind fun x σ h => (evO Γ C lo σ h).bind fun l σ h => (evO Γ C hi σ h).bind fun u σ h => sliR l u (cont σ h x) σ h := by
  rw [evE]
  congr 1; funext x σ h; congr 1; funext l σ h; congr 1; funext u σ h
  cases cont σ h x <;> rfl
@[simp] theorem v_rev : evE Γ C (.rev a) σ h = (opd a (evE Γ C a) σ h).bind fun x σ h => revR (cont σ h x) σ h := by
  rw [evE]
  congr 1; funext x σ h
  cases cont σ h x <;> rfl
@[simp] theorem v_f1 {f : F1} : evE Γ C (.fn1 f a) σ h = (opd a (evE Γ C a) σ h).bind fun x σ h => f1R f (cont σ h x) σ h := by
  rw [evE]
  congr 1; funext x σ h
  cases cont σ h x <;> rfl
@[simp] theorem v_f2 {f : F2} : evE Γ C (.fn2 f a b) σ h = (evE Γ C a σ h).bind fun x σ h => (evE Γ C b σ h).bind fun y σ h => retR (fn2 f x.d y.d) σ h := by rw [evE]
@[simp] theorem v_isi {t : Ty} : evE Γ C (.isi a t) σ h = (opd a (evE Γ C a) σ h).bind fun x σ h => isiR t (cont σ h x) σ h := by
  rw [evE]
  congr 1; funext x σ h
  cases cont σ h x <;> rfl
@[simp] theorem v_cal {f : Nat} : evE Γ C (.cal f es) σ h = (evA Γ C es σ h).bind fun ds σ h => ofC (Γ f ds h) σ := by rw [evE]
@[simp] theorem a_nil' : evA Γ C .nil σ h = .ok [] σ h := by rw [evA]
@[simp] theorem a_cons' : evA Γ C (.cons e es) σ h = (evE Γ C e σ h).bind fun r σ h => (evA Γ C es σ h).bind fun ds σ h => .ok (r.d :: ds) σ h := by rw [evA]
@[simp] theorem o_no' : evO Γ C .no σ h = .ok none σ h := by rw [evO]
@[simp] theorem o_so' : evO Γ C (.so e) σ h = asI (evE Γ C e σ h) := by rw [evO]
/-! statements -/
def setTR (is : List Nat) : R → List Slot → List Ob → Res Flow
  | .v (.tup ds), σ, h => match bindS is ds σ with
    | some σ => .ok .nx σ h
    | none => .stuck
  | _, _, _ => .stuck
@[simp] theorem setTR_t {is : List Nat} {σ' : List Slot} (e : bindS is xs σ = some σ') : setTR is (.v (.tup xs)) σ h = .ok .nx σ' h := by
  show (match bindS is xs σ with | some σ => Res.ok Flow.nx σ h | none => .stuck) = _
  rw [e]
@[simp] theorem bindS_nil : bindS [] [] σ = some σ := id rfl
@[simp] theorem bindS_cons {is : List Nat} {ds : List D} : bindS (i :: is) (d :: ds) σ = bindS is ds (σ.set i (.v d)) := id rfl
@[simp] theorem x_set : exS Γ C (.set i e) σ h = (evE Γ C e σ h).bind fun r σ h => .ok .nx (σ.set i r.slot) h := by rw [exS]
@[simp] theorem x_setT {is : List Nat} : exS Γ C (.setT is e) σ h = (evE Γ C e σ h).bind fun r σ h => setTR is r σ h := by
  rw [exS]
  congr 1; funext r σ h
  unfold setTR
  rcases r with d | xs
  · cases d <;> rfl
  · rfl
@[simp] theorem x_par2 : exS Γ C (.par2 i j a b) σ h = (evE Γ C a σ h).bind fun x σ h => (evE Γ C b σ h).bind fun y σ h => .ok .nx ((σ.set i (.v x.d)).set j (.v y.d)) h := by rw [exS]
@[simp] theorem x_ex : exS Γ C (.ex e) σ h = (evE Γ C e σ h).bind fun _ σ h => .ok .nx σ h := by rw [exS]
@[simp] theorem x_ret : exS Γ C (.ret e) σ h = (evE Γ C e σ h).bind fun r σ h => .ok (.rt r) σ h := by rw [exS]
@[simp] theorem x_retN : exS Γ C .retN σ h = .ok (.rt (.v .non)) σ h := by rw [exS]
@[simp] theorem x_if {u v : Ss} : exS Γ C (.iff c u v) σ h = (asB (evE Γ C c σ h)).bind fun k σ h => ifR k (exB Γ C u σ h) (exB Γ C v σ h) := by
  rw [exS]
  exact id rfl
@[simp] theorem x_pass : exS Γ C .pass σ h = .ok .nx σ h := by rw [exS]
@[simp] theorem x_brk : exS Γ C .brk σ h = .ok .bk σ h := by rw [exS]
@[simp] theorem x_cnt : exS Γ C .cnt σ h = .ok .ct σ h := by rw [exS]
noncomputable def nxt (Γ : Calls) (C : Cf) (r : Ss) : Flow → List Slot → List Ob → Res Flow
  | .nx, σ, h => exB Γ C r σ h
  | fl, σ, h => .ok fl σ h
@[simp] theorem x_nil : exB Γ C .nil σ h = .ok .nx σ h := by rw [exB]
@[simp] theorem x_cons {s : S} {u : Ss} : exB Γ C (.cons s u) σ h = (exS Γ C s σ h).bind fun f σ h => nxt Γ C u f σ h := by
  rw [exB]
  congr 1; funext f σ h
  cases f <;> rfl
@[simp] theorem nxt_nx {u : Ss} : nxt Γ C u .nx σ h = exB Γ C u σ h := id rfl
@[simp] theorem nxt_rt {u : Ss} : nxt Γ C u (.rt r) σ h = .ok (.rt r) σ h := id rfl
@[simp] theorem nxt_bk {u : Ss} : nxt Γ C u .bk σ h = .ok .bk σ h := id rfl
@[simp] theorem nxt_ct {u : Ss} : nxt Γ C u .ct σ h = .ok .ct σ h := id rfl
def stiO (i : Nat) (z : Int) (r : R) (σ : List Slot) (h : List Ob) : Option Slot → Res Flow
  | some (.o xs) => match ixN xs.length z with
    | some n => .ok .nx (σ.set i (.o (xs.set n r.d))) h
    | none => .stuck
  | some (.v (.ref j)) => match h[j]? with
    | some (.lst xs) => match ixN xs.length z with
      | some n => .ok .nx σ (h.set j (.lst (xs.set n r.d)))
      | none => .stuck
    | _ => .stuck
  | _ => .stuck
theorem stiO_r {z : Int} {k n : Nat} (e : h[k]? = some (.lst xs)) (e2 : ixN xs.length z = some n) : stiO i z r σ h (some (.v (.ref k))) = .ok .nx σ (h.set k (.lst (xs.set n r.d))) := by
  show (match h[k]? with
    | some (.lst xs) => match ixN xs.length z with
      | some n => Res.ok Flow.nx σ (h.set k (.lst (xs.set n r.d)))
      | none => .stuck
    | _ => .stuck) = _
  rw [e]
  dsimp only
  rw [e2]
def seqR : R → List Slot → List Ob → Res (List D)
  | .v (.lst xs), σ, h => .ok xs σ h
  | .v (.tup xs), σ, h => .ok xs σ h
  | .v (.scr ns), σ, h => .ok (ns.map D.int) σ h
  | .o xs, σ, h => .ok xs σ h
  | _, _, _ => .stuck
@[simp] theorem seqR_l : seqR (.v (.lst xs)) σ h = .ok xs σ h := id rfl
@[simp] theorem seqR_t : seqR (.v (.tup xs)) σ h = .ok xs σ h := id rfl
@[simp] theorem seqR_s {ns : List Int} : seqR (.v (.scr ns)) σ h = .ok (ns.map D.int) σ h := id rfl
@[simp] theorem seqR_o : seqR (.o xs) σ h = .ok xs σ h := id rfl
@[simp] theorem it_seq : evI Γ C (.seq e) σ h = (evE Γ C e σ h).bind fun r σ h => seqR r σ h := by
  rw [evI]
  congr 1; funext r σ h
  rcases r with d | xs
  · cases d <;> rfl
  · rfl
def enuR : R → List Slot → List Ob → Res (List D)
  | .v (.lst xs), σ, h => .ok (xs.zipIdx.map fun p => .tup [.int p.2, p.1]) σ h
  | .v (.tup xs), σ, h => .ok (xs.zipIdx.map fun p => .tup [.int p.2, p.1]) σ h
  | .o xs, σ, h => .ok (xs.zipIdx.map fun p => .tup [.int p.2, p.1]) σ h
  | _, _, _ => .stuck
@[simp] theorem enuR_l : enuR (.v (.lst xs)) σ h = .ok (xs.zipIdx.map fun p => .tup [.int p.2, p.1]) σ h := id rfl
@[simp] theorem enuR_t : enuR (.v (.tup xs)) σ h = .ok (xs.zipIdx.map fun p => .tup [.int p.2, p.1]) σ h := id rfl
@[simp] theorem enuR_o : enuR (.o xs) σ h = .ok (xs.zipIdx.map fun p => .tup [.int p.2, p.1]) σ h := id rfl
@[simp] theorem it_enu : evI Γ C (.enu e) σ h = (evE Γ C e σ h).bind fun r σ h => enuR r σ h := by
  rw [evI]
  congr 1; funext r σ h
  rcases r with d | xs
  · cases d <;> rfl
  · rfl
theorem evI_rng2 {i j : Int} {σ1 σ2 : List Slot} {h1 h2 : List Ob} (e : evE Γ C a σ h = .ok (.v (.int i)) σ1 h1) (e2 : evE Γ C b σ1 h1 = .ok (.v (.int j)) σ2 h2) (hs : small62 i = true) (hs2 : small62 j = true) : evI Γ C (.rng2 a b) σ h = .ok (rangeL i j) σ2 h2 := by
  rw [evI, e]
  show ((evE Γ C b σ1 h1).bind fun q σ h => _) = _
  rw [e2]
  show (if (small62 i && small62 j) = true then Res.ok (rangeL i j) σ2 h2 else .stuck) = _
  rw [if_pos (by rw [hs, hs2]; rfl)]
end
end Pm

set_option Elab.async false
set_option linter.all false
set_option maxRecDepth 100000
set_option maxHeartbeats 4000000
/-! The pure machine: what a run comes to, exceptions too. -/
namespace Pm
open PySem PySem.Spec
abbrev XP : Type := Nat → D → List Slot → List Ob → Prop
abbrev XC : Type := Nat → D → List Ob → Prop
def X0 : XP := fun _ _ _ _ => False
def C0 : XC := fun _ _ _ => False
def WpM {α : Type} (m : Res α) (Q : α → List Slot → List Ob → Prop) (E : XP) : Prop :=
  match m with
  | .ok a σ h => Q a σ h
  | .exc c p σ h => E c p σ h
  | .stuck => False
/-- what is not to be looked into -/
inductive Shut {T : Type} (f : T) : Type where
  | mk
structure Wp {α : Type} (m : Res α) (Q : α → List Slot → List Ob → Prop) (E : XP) (t : Shut Q := .mk) (u : Shut E := .mk) : Prop where
  out : WpM m Q E
def WpCM (m : CRes) (P : R → List Ob → Prop) (X : XC) : Prop :=
  match m with
  | .ok r h => P r h
  | .exc c p h => X c p h
  | .stuck => False
structure WpC (m : CRes) (P : R → List Ob → Prop) (X : XC) (t : Shut P := .mk) (u : Shut X := .mk) : Prop where
  out : WpCM m P X
def Res.bd {α β : Type} (m : Res α) (f : α → List Slot → List Ob → Res β) (_ : Shut f := .mk) : Res β := m.bind f
def ifT {α : Type} (k : Bool) (m n : Res α) (_ : Shut m := .mk) (_ : Shut n := .mk) : Res α := ifR k m n
section
variable {α β : Type} {Γ : Calls} {C : Cf} {σ σ1 : List Slot} {h h1 : List Ob} {d : D} {xs : List D} {i j : Nat} {e a b c : E} {es : Es} {r : R} {m n : Res α} {Q Q' : α → List Slot → List Ob → Prop} {E E' : XP} {cr : CRes} {P P' : R → List Ob → Prop} {X X' : XC} {k : Bool}
theorem wp_ok {a : α} : Wp (.ok a σ h) Q E ↔ Q a σ h := ⟨fun q => q.out, fun q => ⟨q⟩⟩
theorem wp_exc {c : Nat} {p : D} : Wp (α := α) (.exc c p σ h) Q E ↔ E c p σ h := ⟨fun q => q.out, fun q => ⟨q⟩⟩
theorem wpC_ok : WpC (.ok r h) P X ↔ P r h := ⟨fun q => q.out, fun q => ⟨q⟩⟩
theorem wpC_exc {c : Nat} {p : D} : WpC (.exc c p h) P X ↔ X c p h := ⟨fun q => q.out, fun q => ⟨q⟩⟩
theorem to_bd {f : α → List Slot → List Ob → Res β} : m.bind f = m.bd f := rfl
theorem to_ifT : ifR k m n = ifT k m n := rfl
theorem bd_ok {a : α} {f : α → List Slot → List Ob → Res β} : (Res.ok a σ h).bd f = f a σ h := id rfl
theorem ifT_t : ifT true m n = m := id rfl
theorem ifT_f : ifT false m n = n := id rfl
theorem bd_exc {c : Nat} {p : D} {f : α → List Slot → List Ob → Res β} : (Res.exc c p σ h).bd f = .exc c p σ h := id rfl
theorem ofC_exc {c : Nat} {p : D} : ofC (.exc c p h) σ = .exc c p σ h := id rfl
theorem bind_bind {γ : Type} {f : α → List Slot → List Ob → Res β} {g : β → List Slot → List Ob → Res γ} : (m.bind f).bind g = m.bind fun a σ h => (f a σ h).bind g := by cases m <;> rfl
theorem bd_bd {γ : Type} {f : α → List Slot → List Ob → Res β} {g : β → List Slot → List Ob → Res γ} : (m.bd f).bd g = m.bd fun a σ h => (f a σ h).bd g := bind_bind
theorem wp_bind {f : α → List Slot → List Ob → Res β} {Q : β → List Slot → List Ob → Prop} : Wp (m.bind f) Q E ↔ Wp m (fun a σ h => Wp (f a σ h) Q E) E := by
  cases m with
  | ok a σ h => exact ⟨fun q => ⟨q⟩, fun q => q.out⟩
  | exc c p σ h => exact ⟨fun q => ⟨q.out⟩, fun q => ⟨q.out⟩⟩
  | stuck => exact ⟨fun q => q.out.elim, fun q => q.out.elim⟩
theorem wp_mono (q : Wp m Q E) (f : ∀ a σ h, Q a σ h → Q' a σ h) (g : ∀ c p σ h, E c p σ h → E' c p σ h) : Wp m Q' E' := by
  cases m with
  | ok a σ h => exact ⟨f _ _ _ q.out⟩
  | exc c p σ h => exact ⟨g _ _ _ _ q.out⟩
  | stuck => exact q.out.elim
theorem wpC_mono (q : WpC cr P X) (f : ∀ r h, P r h → P' r h) (g : ∀ c p h, X c p h → X' c p h) : WpC cr P' X' := by
  cases cr with
  | ok a h => exact ⟨f _ _ q.out⟩
  | exc c p h => exact ⟨g _ _ _ q.out⟩
  | stuck => exact q.out.elim
/-- a call, by its promise -/
theorem wp_call {F : R → List Slot → List Ob → Res β} {Q : β → List Slot → List Ob → Prop} (q : WpC cr P X) (f : ∀ r h', P r h' → Wp (F r σ h') Q E) (g : ∀ c p h', X c p h' → E c p σ h') : Wp ((ofC cr σ).bd F) Q E := by
  cases cr with
  | ok a h => exact f _ _ q.out
  | exc c p h => exact ⟨g _ _ _ q.out⟩
  | stuck => exact q.out.elim
/-- .. that lets nothing out -/
theorem wp_call0 {F : R → List Slot → List Ob → Res β} {Q : β → List Slot → List Ob → Prop} (q : WpC cr P C0) (f : ∀ r h', P r h' → Wp (F r σ h') Q E) : Wp ((ofC cr σ).bd F) Q E := wp_call q f fun _ _ _ z => z.elim
theorem wp_ofC {Q : R → List Slot → List Ob → Prop} : Wp (ofC cr σ) Q E ↔ Wp ((ofC cr σ).bd fun r σ h => .ok r σ h) Q E := by
  cases cr <;> exact ⟨fun q => ⟨q.out⟩, fun q => ⟨q.out⟩⟩
/-- of a promise an equation -/
theorem wpC_ex (q : WpC cr P C0) : ∃ r h, cr = .ok r h ∧ P r h := by
  cases cr with
  | ok a h => exact ⟨a, h, rfl, q.out⟩
  | exc c p h => exact q.out.elim
  | stuck => exact q.out.elim
theorem wpC_eq {r : R} (q : WpC cr (fun r' h' => r' = r ∧ h' = h) C0) : cr = .ok r h := by
  obtain ⟨r', h', e, rfl, rfl⟩ := wpC_ex q
  exact e
theorem wpC_of {r : R} (e : cr = .ok r h) (q : P r h) : WpC cr P X := by
  rw [e]
  exact ⟨q⟩
theorem wp_of {a : α} (e : m = .ok a σ h) (q : Q a σ h) : Wp m Q E := by
  rw [e]
  exact ⟨q⟩
theorem wp_ex (q : Wp m Q X0) : ∃ a σ h, m = .ok a σ h ∧ Q a σ h := by
  cases m with
  | ok a σ h => exact ⟨a, σ, h, rfl, q.out⟩
  | exc c p σ h => exact q.out.elim
  | stuck => exact q.out.elim
/-! what is looked at, pushed behind what is done ahead -/
theorem asB_bd {f : α → List Slot → List Ob → Res R} : asB (m.bd f) = m.bd fun a σ h => asB (f a σ h) := by unfold asB; exact bind_bind
theorem asB_ofC : asB (ofC cr σ) = (ofC cr σ).bd fun r σ h => asB (.ok r σ h) := by cases cr <;> rfl
theorem asB_if {m n : Res R} : asB (ifT k m n) = ifT k (asB m) (asB n) := by cases k <;> rfl
theorem asI_bd {f : α → List Slot → List Ob → Res R} : asI (m.bd f) = m.bd fun a σ h => asI (f a σ h) := by unfold asI; exact bind_bind
theorem asI_ofC : asI (ofC cr σ) = (ofC cr σ).bd fun r σ h => asI (.ok r σ h) := by cases cr <;> rfl
theorem tupR_bd {f : α → List Slot → List Ob → Res (List D)} : tupR (m.bd f) = m.bd fun a σ h => tupR (f a σ h) := by unfold tupR; exact bind_bind
theorem lstR_bd {f : α → List Slot → List Ob → Res (List D)} : lstR (m.bd f) = m.bd fun a σ h => lstR (f a σ h) := by unfold lstR; exact bind_bind
theorem if_bind {f : α → List Slot → List Ob → Res β} : (ifT k m n).bd f = ifT k (m.bd f) (n.bd f) := by cases k <;> rfl
theorem wp_if (f : k = true → Wp m Q E) (g : k = false → Wp n Q E) : Wp (ifT k m n) Q E := by
  cases k with
  | true => exact f rfl
  | false => exact g rfl
theorem chn_le {K : List Slot → List Ob → Res R} {i j : Int} : chnR .le K (some (.int i)) (some (.int j)) σ h = ifT (decide (i ≤ j)) (K σ h) (.ok (.v (.bl false)) σ h) := chnR_s rfl
theorem chn_lt {K : List Slot → List Ob → Res R} {i j : Int} : chnR .lt K (some (.int i)) (some (.int j)) σ h = ifT (decide (i < j)) (K σ h) (.ok (.v (.bl false)) σ h) := chnR_s rfl
/-! statements -/
def GoesW (Γ : Calls) (C : Cf) (r : Ss) (Q : Flow → List Slot → List Ob → Prop) (E : XP) : Flow → List Slot → List Ob → Prop
  | .nx, σ, h => Wp (exR Γ C r σ h) Q E
  | fl, σ, h => Q fl σ h
variable {QF : Flow → List Slot → List Ob → Prop} {u v : Ss} {s : S}
theorem gw_nx : GoesW Γ C u QF E .nx σ h ↔ Wp (exR Γ C u σ h) QF E := Iff.rfl
theorem gw_rt : GoesW Γ C u QF E (.rt r) σ h ↔ QF (.rt r) σ h := Iff.rfl
theorem gw_bk : GoesW Γ C u QF E .bk σ h ↔ QF .bk σ h := Iff.rfl
theorem gw_ct : GoesW Γ C u QF E .ct σ h ↔ QF .ct σ h := Iff.rfl
theorem wx_cons : Wp (exR Γ C (.cons s u) σ h) QF E ↔ Wp (exS Γ C s σ h) (GoesW Γ C u QF E) E := by
  unfold exR
  rw [exB]
  rw [wp_bind]
  constructor <;> refine fun q => wp_mono q (fun fl σ h z => ?_) fun _ _ _ _ z => z
  · cases fl with
    | nx => exact z
    | bk => exact z.out
    | ct => exact z.out
    | rt v => exact z.out
  · cases fl with
    | nx => exact z
    | bk => exact ⟨z⟩
    | ct => exact ⟨z⟩
    | rt v => exact ⟨z⟩
theorem wx_nil : exR Γ C .nil σ h = .ok .nx σ h := exR_nil
theorem wx_if : exS Γ C (.iff c u v) σ h = (asB (evE Γ C c σ h)).bind fun k σ h => ifR k (exR Γ C u σ h) (exR Γ C v σ h) := x_if
def EndsW (P : R → List Ob → Prop) : Flow → List Slot → List Ob → Prop
  | .nx, _, h => P (.v .non) h
  | .rt r, _, h => P r h
  | _, _, _ => False
theorem ew_nx : EndsW P .nx σ h ↔ P (.v .non) h := Iff.rfl
theorem ew_rt : EndsW P (.rt r) σ h ↔ P r h := Iff.rfl
/-- a def's body -/
theorem wp_run {fd : Fd} {ds : List D} (hl : ds.length = fd.np) (q : Wp (exR Γ C fd.body (ds.map Slot.v ++ List.replicate (fd.ns - fd.np) .un) h) (EndsW P) fun c p _ h => X c p h) : WpC (runF Γ C fd ds h) P X := by
  unfold runF
  rw [if_pos hl]
  have q : Wp (exB Γ C fd.body (ds.map Slot.v ++ List.replicate (fd.ns - fd.np) .un) h) (EndsW P) fun c p _ h => X c p h := q
  cases e : exB Γ C fd.body (ds.map Slot.v ++ List.replicate (fd.ns - fd.np) .un) h with
  | stuck => rw [e] at q; exact q.out.elim
  | exc c p σ h => rw [e] at q; exact ⟨q.out⟩
  | ok fl σ h =>
    rw [e] at q
    cases fl with
    | nx => exact ⟨q.out⟩
    | rt r => exact ⟨q.out⟩
    | bk => exact q.out.elim
    | ct => exact q.out.elim
/-! loops -/
noncomputable def forR (Γ : Calls) (C : Cf) (bnd : D → List Slot → Option (List Slot)) (b : Ss) (ds : List D) (σ : List Slot) (h : List Ob) : Res Flow :=
  forL (fun d σ h => match bnd d σ with
    | some σ => exB Γ C b σ h
    | none => .stuck) ds σ h
def bnd1 (i : Nat) : D → List Slot → Option (List Slot) := fun d σ => some (σ.set i (.v d))
def bndT (is : List Nat) : D → List Slot → Option (List Slot)
  | .tup xs, σ => bindS is xs σ
  | _, _ => none
theorem wx_for1 {it : I} : exS Γ C (.for1 i it u) σ h = (evI Γ C it σ h).bind fun ds σ h => forR Γ C (bnd1 i) u ds σ h := by
  rw [exS]
  rfl
theorem wx_forT {is : List Nat} {it : I} : exS Γ C (.forT is it u) σ h = (evI Γ C it σ h).bind fun ds σ h => forR Γ C (bndT is) u ds σ h := by
  rw [exS]
  congr 1
  funext ds σ h
  unfold forR
  congr 1
  funext d σ h
  cases d <;> rfl
def TurnW (J : List Slot → List Ob → Prop) (Q : Flow → List Slot → List Ob → Prop) : Flow → List Slot → List Ob → Prop
  | .nx, σ, h => J σ h
  | .ct, σ, h => J σ h
  | .bk, σ, h => Q .nx σ h
  | .rt r, σ, h => Q (.rt r) σ h
variable {J : List Slot → List Ob → Prop}
theorem tw_nx : TurnW J QF .nx σ h ↔ J σ h := Iff.rfl
theorem tw_ct : TurnW J QF .ct σ h ↔ J σ h := Iff.rfl
theorem tw_bk : TurnW J QF .bk σ h ↔ QF .nx σ h := Iff.rfl
theorem tw_rt : TurnW J QF (.rt r) σ h ↔ QF (.rt r) σ h := Iff.rfl
theorem wp_forL {g : α → D} {xs : List α} {f : D → List Slot → List Ob → Res Flow} (I : List α → List α → List Slot → List Ob → Prop)
    (step : ∀ l a r σ h, l ++ a :: r = xs → I l (a :: r) σ h → Wp (f (g a) σ h) (TurnW (I (l ++ [a]) r) QF) E) (fin : ∀ σ h, I xs [] σ h → QF .nx σ h) :
    ∀ (l r : List α) (σ : List Slot) (h : List Ob), l ++ r = xs → I l r σ h → Wp (forL f (r.map g) σ h) QF E
  | l, [], σ, h, e, i => ⟨fin σ h (by rw [List.append_nil] at e; rw [← e]; exact i)⟩
  | l, a :: r, σ, h, e, i => by
    have q := step l a r σ h e i
    rw [List.map_cons, forL, wp_bind]
    refine wp_mono q (fun fl σ' h' z => ?_) fun _ _ _ _ z => z
    cases fl with
    | nx => exact wp_forL I step fin (l ++ [a]) r σ' h' (by rw [List.append_assoc]; exact e) z
    | ct => exact wp_forL I step fin (l ++ [a]) r σ' h' (by rw [List.append_assoc]; exact e) z
    | bk => exact ⟨z⟩
    | rt v => exact ⟨z⟩
theorem wp_for {bnd : D → List Slot → Option (List Slot)} {ds : List D} {g : α → D} {xs : List α} (I : List α → List α → List Slot → List Ob → Prop) (e : ds = xs.map g) (i0 : I [] xs σ h)
    (step : ∀ l a r σ h, l ++ a :: r = xs → I l (a :: r) σ h → ∃ σ0, bnd (g a) σ = some σ0 ∧ Wp (exR Γ C u σ0 h) (TurnW (I (l ++ [a]) r) QF) E) (fin : ∀ σ h, I xs [] σ h → QF .nx σ h) : Wp (forR Γ C bnd u ds σ h) QF E := by
  rw [e]
  unfold forR
  refine wp_forL I (fun l a r σ h e i => ?_) fin [] xs σ h rfl i0
  obtain ⟨σ0, e1, q⟩ := step l a r σ h e i
  rw [e1]
  exact q
def WhW (Γ : Calls) (C : Cf) (b : Ss) (J : List Slot → List Ob → Prop) (Q : Flow → List Slot → List Ob → Prop) (E : XP) : Bool → List Slot → List Ob → Prop
  | true, σ, h => Wp (exR Γ C b σ h) (TurnW J Q) E
  | false, σ, h => Q .nx σ h
theorem ww_t : WhW Γ C u J QF E true σ h ↔ Wp (exR Γ C u σ h) (TurnW J QF) E := Iff.rfl
theorem ww_f : WhW Γ C u J QF E false σ h ↔ QF .nx σ h := Iff.rfl
theorem wp_whl (I : Nat → List Slot → List Ob → Prop) (m : Nat) (i0 : I m σ h)
    (step : ∀ m σ h, I m σ h → Wp (asB (evE Γ C c σ h)) (WhW Γ C u (fun σ h => ∃ m', m' < m ∧ I m' σ h) QF E) E) : Wp (exS Γ C (.whl c u) σ h) QF E := by
  have key : ∀ m σ h, I m σ h → ∃ n r, whlN (fun σ h => asB (evE Γ C c σ h)) (exB Γ C u) n σ h = some r ∧ Wp r QF E := by
    intro m
    induction m using Nat.strongRecOn with
    | _ m ih =>
      intro σ h i
      have q := step m σ h i
      cases e : asB (evE Γ C c σ h) with
      | stuck => rw [e] at q; exact q.out.elim
      | exc k p σ1 h1 => rw [e] at q; exact ⟨1, _, by unfold whlN; rw [e], ⟨q.out⟩⟩
      | ok t σ1 h1 =>
        rw [e] at q
        cases t with
        | false => exact ⟨1, _, by unfold whlN; rw [e], ⟨q.out⟩⟩
        | true =>
          have q : Wp (exB Γ C u σ1 h1) (TurnW (fun σ h => ∃ m', m' < m ∧ I m' σ h) QF) E := q.out
          cases e2 : exB Γ C u σ1 h1 with
          | stuck => rw [e2] at q; exact q.out.elim
          | exc k p σ1 h1 => rw [e2] at q; exact ⟨1, _, by unfold whlN; rw [e]; dsimp only; rw [e2], ⟨q.out⟩⟩
          | ok fl σ2 h2 =>
            rw [e2] at q
            cases fl with
            | nx =>
              obtain ⟨m', hm, i2⟩ := q.out
              obtain ⟨n, r, e3, q3⟩ := ih m' hm σ2 h2 i2
              exact ⟨n + 1, r, by unfold whlN; rw [e]; dsimp only; rw [e2]; exact e3, q3⟩
            | ct =>
              obtain ⟨m', hm, i2⟩ := q.out
              obtain ⟨n, r, e3, q3⟩ := ih m' hm σ2 h2 i2
              exact ⟨n + 1, r, by unfold whlN; rw [e]; dsimp only; rw [e2]; exact e3, q3⟩
            | bk => exact ⟨1, _, by unfold whlN; rw [e]; dsimp only; rw [e2], ⟨q.out⟩⟩
            | rt v => exact ⟨1, _, by unfold whlN; rw [e]; dsimp only; rw [e2], ⟨q.out⟩⟩
  obtain ⟨n, r, e, q⟩ := key m σ h i0
  rw [exS, whl_of e]
  exact q
/-! comprehensions -/
def comR (Γ : Calls) (C : Cf) (i : Nat) (elt : Pm.E) (ds : List D) (σ : List Slot) (h : List Ob) : Res R :=
  match plainSlot σ[i]? with
  | some s => (noexc (comL i (fun σ h => (evE Γ C elt σ h).bind fun r σ h => .ok (some r.d) σ h) ds [] σ h)).bind fun xs σ' h' => .ok (.o xs) (σ'.set i s) h'
  | none => .stuck
def comfR (Γ : Calls) (C : Cf) (i : Nat) (elt c : Pm.E) (ds : List D) (σ : List Slot) (h : List Ob) : Res R :=
  match plainSlot σ[i]? with
  | some s => (noexc (comL i (fun σ h => (asB (evE Γ C c σ h)).bind fun k σ h => if k then (evE Γ C elt σ h).bind fun r σ h => .ok (some r.d) σ h else .ok none σ h) ds [] σ h)).bind fun xs σ' h' => .ok (.o xs) (σ'.set i s) h'
  | none => .stuck
theorem v_com {elt : Pm.E} {it : I} : evE Γ C (.com i elt it) σ h = (evI Γ C it σ h).bind fun ds σ h => comR Γ C i elt ds σ h := by
  rw [evE]
  rfl
theorem v_comf {elt : Pm.E} {it : I} : evE Γ C (.comf i elt it c) σ h = (evI Γ C it σ h).bind fun ds σ h => comfR Γ C i elt c ds σ h := by
  rw [evE]
  rfl
theorem wp_comL {f : List Slot → List Ob → Res (Option D)} {g : α → D} {xs : List α} {σ0 : List Slot} (I : List α → List α → List D → List Ob → Prop)
    (step : ∀ l a r acc h, l ++ a :: r = xs → I l (a :: r) acc h → acc.length < sizeLine ∧ Wp (f (σ0.set i (.v (g a))) h) (fun o σ' h' => σ' = σ0.set i (.v (g a)) ∧ I (l ++ [a]) r (match o with | some x => acc ++ [x] | none => acc) h') X0) :
    ∀ (l r : List α) (acc : List D) (s : Slot) (h : List Ob), l ++ r = xs → I l r acc h → ∃ acc' s' h', comL i f (r.map g) acc (σ0.set i s) h = .ok acc' (σ0.set i s') h' ∧ I xs [] acc' h'
  | l, [], acc, s, h, e, i0 => ⟨acc, s, h, rfl, by rw [List.append_nil] at e; rw [← e]; exact i0⟩
  | l, a :: r, acc, s, h, e, i0 => by
    obtain ⟨hz, q⟩ := step l a r acc h e i0
    obtain ⟨o, σ', h', e1, rfl, i1⟩ := wp_ex q
    rw [List.map_cons]
    unfold comL
    rw [List.set_set, e1]
    have e' : (l ++ [a]) ++ r = xs := by rw [List.append_assoc]; exact e
    cases o with
    | none => exact wp_comL I step (l ++ [a]) r acc (.v (g a)) h' e' i1
    | some x =>
      obtain ⟨acc', s', h'', e2, i2⟩ := wp_comL I step (l ++ [a]) r (acc ++ [x]) (.v (g a)) h' e' i1
      refine ⟨acc', s', h'', ?_, i2⟩
      show (if acc.length < sizeLine then comL i f (r.map g) (acc ++ [x]) (σ0.set i (.v (g a))) h' else .stuck) = _
      rw [if_pos hz]
      exact e2
theorem set_same {s : Slot} (hs : σ[i]? = some s) : σ.set i s = σ := by
  have := set_back hs s
  rw [List.set_set] at this
  exact this
/-- a comprehension, by an invariant -/
theorem wp_com {elt : Pm.E} {ds : List D} {g : α → D} {xs : List α} {s : Slot} {F : R → List Slot → List Ob → Res β} {Q : β → List Slot → List Ob → Prop} (I : List α → List α → List D → List Ob → Prop) (e : ds = xs.map g) (hs : plainSlot σ[i]? = some s) (i0 : I [] xs [] h)
    (step : ∀ l a r acc h, l ++ a :: r = xs → I l (a :: r) acc h → acc.length < sizeLine ∧ Wp (evE Γ C elt (σ.set i (.v (g a))) h) (fun r' σ' h' => σ' = σ.set i (.v (g a)) ∧ I (l ++ [a]) r (acc ++ [r'.d]) h') X0)
    (fin : ∀ acc h', I xs [] acc h' → Wp (F (.o acc) σ h') Q E) : Wp ((comR Γ C i elt ds σ h).bd F) Q E := by
  have hg := plain_get hs
  subst e
  obtain ⟨acc, s', h', e1, i1⟩ := wp_comL (i := i) (f := fun σ h => (evE Γ C elt σ h).bind fun r σ h => .ok (some r.d) σ h) (σ0 := σ) I (fun l a r acc h e i => by
    obtain ⟨q1, q2⟩ := step l a r acc h e i
    refine ⟨q1, wp_bind.mpr (wp_mono q2 (fun r' σ' h' z => ⟨z⟩) fun _ _ _ _ z => z)⟩) [] xs [] s h rfl i0
  unfold comR
  rw [hs]
  dsimp only
  rw [set_same hg] at e1
  rw [e1]
  show Wp (F (.o acc) ((σ.set i s').set i s) h') Q E
  rw [set_back hg]
  exact fin acc h' i1
theorem wp_comf {elt c : Pm.E} {ds : List D} {g : α → D} {xs : List α} {s : Slot} {F : R → List Slot → List Ob → Res β} {Q : β → List Slot → List Ob → Prop} (I : List α → List α → List D → List Ob → Prop) (e : ds = xs.map g) (hs : plainSlot σ[i]? = some s) (i0 : I [] xs [] h)
    (step : ∀ l a r acc h, l ++ a :: r = xs → I l (a :: r) acc h → acc.length < sizeLine ∧ Wp (asB (evE Γ C c (σ.set i (.v (g a))) h)) (fun k σ' h' => σ' = σ.set i (.v (g a)) ∧ (if k then Wp (evE Γ C elt (σ.set i (.v (g a))) h') (fun r' σ' h' => σ' = σ.set i (.v (g a)) ∧ I (l ++ [a]) r (acc ++ [r'.d]) h') X0 else I (l ++ [a]) r acc h')) X0)
    (fin : ∀ acc h', I xs [] acc h' → Wp (F (.o acc) σ h') Q E) : Wp ((comfR Γ C i elt c ds σ h).bd F) Q E := by
  have hg := plain_get hs
  subst e
  obtain ⟨acc, s', h', e1, i1⟩ := wp_comL (i := i) (f := fun σ h => (asB (evE Γ C c σ h)).bind fun k σ h => if k then (evE Γ C elt σ h).bind fun r σ h => .ok (some r.d) σ h else .ok none σ h) (σ0 := σ) I (fun l a r acc h e i => by
    obtain ⟨q1, q2⟩ := step l a r acc h e i
    refine ⟨q1, wp_bind.mpr (wp_mono q2 (fun k σ' h' z => ?_) fun _ _ _ _ z => z)⟩
    obtain ⟨rfl, z⟩ := z
    cases k with
    | true =>
      rw [if_pos rfl] at z
      rw [if_pos rfl]
      exact wp_bind.mpr (wp_mono z (fun r' σ' h' z => ⟨z⟩) fun _ _ _ _ z => z)
    | false => exact ⟨rfl, z⟩) [] xs [] s h rfl i0
  unfold comfR
  rw [hs]
  dsimp only
  rw [set_same hg] at e1
  rw [e1]
  show Wp (F (.o acc) ((σ.set i s').set i s) h') Q E
  rw [set_back hg]
  exact fin acc h' i1
/-- .. that leaves all else as it is -/
theorem wp_comM {elt : Pm.E} {ds : List D} {g f : α → D} {xs : List α} {s : Slot} {F : R → List Slot → List Ob → Res β} {Q : β → List Slot → List Ob → Prop} (e : ds = xs.map g) (hs : plainSlot σ[i]? = some s) (hl : xs.length ≤ sizeLine)
    (step : ∀ a ∈ xs, Wp (evE Γ C elt (σ.set i (.v (g a))) h) (fun r' σ' h' => σ' = σ.set i (.v (g a)) ∧ r'.d = f a ∧ h' = h) X0)
    (fin : Wp (F (.o (xs.map f)) σ h) Q E) : Wp ((comR Γ C i elt ds σ h).bd F) Q E := by
  refine wp_com (fun l r acc h' => acc = l.map f ∧ h' = h) e hs ⟨rfl, rfl⟩ (fun l a r acc h' e2 ⟨i1, i2⟩ => ?_) fun acc h' ⟨i1, i2⟩ => ?_
  · subst i1 i2
    have ha : a ∈ xs := by rw [← e2]; simp
    refine ⟨?_, wp_mono (step a ha) (fun r' σ' h' ⟨z1, z2, z3⟩ => ⟨z1, by rw [z2]; simp, z3⟩) fun _ _ _ _ z => z⟩
    have := congrArg List.length e2
    simp at this ⊢
    omega
  · subst i1 i2
    exact fin
theorem wp_comfM {elt c : Pm.E} {ds : List D} {p : α → Bool} {g f : α → D} {xs : List α} {s : Slot} {F : R → List Slot → List Ob → Res β} {Q : β → List Slot → List Ob → Prop} (e : ds = xs.map g) (hs : plainSlot σ[i]? = some s) (hl : xs.length ≤ sizeLine)
    (hc : ∀ a ∈ xs, Wp (asB (evE Γ C c (σ.set i (.v (g a))) h)) (fun k σ' h' => σ' = σ.set i (.v (g a)) ∧ k = p a ∧ h' = h) X0)
    (step : ∀ a ∈ xs, p a = true → Wp (evE Γ C elt (σ.set i (.v (g a))) h) (fun r' σ' h' => σ' = σ.set i (.v (g a)) ∧ r'.d = f a ∧ h' = h) X0)
    (fin : Wp (F (.o ((xs.filter p).map f)) σ h) Q E) : Wp ((comfR Γ C i elt c ds σ h).bd F) Q E := by
  refine wp_comf (fun l r acc h' => acc = (l.filter p).map f ∧ h' = h) e hs ⟨rfl, rfl⟩ (fun l a r acc h' e2 ⟨i1, i2⟩ => ?_) fun acc h' ⟨i1, i2⟩ => ?_
  · subst i1 i2
    have ha : a ∈ xs := by rw [← e2]; simp
    refine ⟨?_, wp_mono (hc a ha) (fun k σ' h'' ⟨z1, z2, z3⟩ => ⟨z1, ?_⟩) fun _ _ _ _ z => z⟩
    · have := congrArg List.length e2
      have := List.length_filter_le p l
      simp at *
      omega
    · subst z2 z3
      cases q : p a with
      | true => exact wp_mono (step a ha q) (fun r' σ' h' ⟨z1, z2, z3⟩ => ⟨z1, by rw [z2]; simp [q], z3⟩) fun _ _ _ _ z => z
      | false => exact ⟨by simp [q], rfl⟩
  · subst i1 i2
    exact fin
end
section
variable {Γ : Calls} {C : Cf} {σ : List Slot} {h : List Ob} {i j : Int} {xs : List D} {n : Nat} {a b : E} {is : List Nat}
def setO : Option (List Slot) → List Ob → Res Flow
  | some σ, h => .ok .nx σ h
  | none, _ => .stuck
theorem setTR_o : setTR is (.v (.tup xs)) σ h = setO (bindS is xs σ) h := by
  cases e : bindS is xs σ with
  | none =>
    show (match bindS is xs σ with | some σ => Res.ok Flow.nx σ h | none => .stuck) = _
    rw [e]
    rfl
  | some σ' =>
    rw [setTR_t e]
    rfl
theorem setO_s : setO (some σ) h = .ok .nx σ h := rfl
theorem eqI : eqF n (.int i) (.int j) = some (decide (i = j)) := by cases n <;> rfl
def rngR : R → List Slot → List Ob → Res (List D)
  | .v (.int j), σ, h => if small62 j then .ok (rangeL 0 j) σ h else .stuck
  | _, _, _ => .stuck
theorem rngR_s (hj : small62 j = true) : rngR (.v (.int j)) σ h = .ok (rangeL 0 j) σ h := if_pos hj
theorem it_rng1 : evI Γ C (.rng1 a) σ h = (evE Γ C a σ h).bind fun r σ h => rngR r σ h := by
  rw [evI]
  congr 1; funext r σ h
  rcases r with d | xs
  · cases d <;> rfl
  · rfl
def rngR2 : R → R → List Slot → List Ob → Res (List D)
  | .v (.int i), .v (.int j), σ, h => if small62 i && small62 j then .ok (rangeL i j) σ h else .stuck
  | _, _, _, _ => .stuck
theorem rngR2_s (hi : small62 i = true) (hj : small62 j = true) : rngR2 (.v (.int i)) (.v (.int j)) σ h = .ok (rangeL i j) σ h := if_pos (by rw [hi, hj]; rfl)
theorem it_rng2 : evI Γ C (.rng2 a b) σ h = (evE Γ C a σ h).bind fun r σ h => (evE Γ C b σ h).bind fun q σ h => rngR2 r q σ h := by
  rw [evI]
  congr 1; funext r σ h
  congr 1; funext q σ h
  rcases r with d | xs
  · cases d with
    | int i =>
      rcases q with e | ys
      · cases e <;> rfl
      · rfl
    | _ => rfl
  · rfl
theorem small_of (h0 : -4611686018427387904 ≤ i) (h1 : i < 4611686018427387904) : small62 i = true := by
  unfold small62
  rw [Bool.and_eq_true]
  exact ⟨decide_eq_true h0, decide_eq_true h1⟩
theorem rangeL_map {k : Nat} : rangeL 0 (k : Int) = (List.range k).map fun j : Nat => D.int j := by
  unfold rangeL
  rw [Int.sub_zero, Int.toNat_natCast]
  refine List.map_congr_left fun j _ => ?_
  rw [Int.zero_add]
theorem decT {p : Prop} [Decidable p] (hp : p) : decide p = true := decide_eq_true hp
theorem decF {p : Prop} [Decidable p] (hp : ¬ p) : decide p = false := decide_eq_false hp
end
theorem kw_clip_clip : decide (("clip" : Str) = "clip") = true := by decide
theorem kw_clip_gap : decide (("clip" : Str) = "gap") = false := by decide
theorem kw_clip_list : decide (("clip" : Str) = "list") = false := by decide
theorem kw_clip_lead : decide (("clip" : Str) = "lead") = false := by decide
theorem kw_gap_clip : decide (("gap" : Str) = "clip") = false := by decide
theorem kw_gap_gap : decide (("gap" : Str) = "gap") = true := by decide
theorem kw_gap_list : decide (("gap" : Str) = "list") = false := by decide
theorem kw_gap_lead : decide (("gap" : Str) = "lead") = false := by decide
theorem kw_list_clip : decide (("list" : Str) = "clip") = false := by decide
theorem kw_list_gap : decide (("list" : Str) = "gap") = false := by decide
theorem kw_list_list : decide (("list" : Str) = "list") = true := by decide
theorem kw_list_lead : decide (("list" : Str) = "lead") = false := by decide
theorem kw_lead_clip : decide (("lead" : Str) = "clip") = false := by decide
theorem kw_lead_gap : decide (("lead" : Str) = "gap") = false := by decide
theorem kw_lead_list : decide (("lead" : Str) = "list") = false := by decide
theorem kw_lead_lead : decide (("lead" : Str) = "lead") = true := by decide
section
variable {Γ : Calls} {C : Cf} {σ : List Slot} {h : List Ob} {v i : Int} {xs : List D} {e : E} {ns : List Int}
def promR : R → List Slot → List Ob → Res R
  | .o xs, σ, h => .ok (.v (.ref h.length)) σ (h ++ [.lst xs])
  | _, _, _ => .stuck
theorem promR_o : promR (.o xs) σ h = .ok (.v (.ref h.length)) σ (h ++ [.lst xs]) := rfl
theorem v_prom : evE Γ C (.prom e) σ h = (evE Γ C e σ h).bind fun r σ h => promR r σ h := by
  rw [evE]
  congr 1; funext r σ h
  cases r <;> rfl
theorem ixP {P : D → Prop} (h0 : 0 ≤ v) (h1 : v < xs.length) (hP : ∀ x ∈ xs, P x) : ∃ x, ixD xs v = some x ∧ P x := by
  have hlt : v.toNat < xs.length := by omega
  exact ⟨xs[v.toNat], by rw [ixD_pos h0]; exact List.getElem?_eq_getElem hlt, hP _ (List.getElem_mem hlt)⟩
theorem bin_mulrS (h0 : -1000000 ≤ i) (h1 : i ≤ 1000000) : binop .mul (.int v) (.int i) = some (.v (.int (v * i))) := bin_mulr (by unfold two64; omega) (by unfold two64; omega)
theorem bin_mullS (h0 : -1000000 ≤ i) (h1 : i ≤ 1000000) : binop .mul (.int i) (.int v) = some (.v (.int (i * v))) := bin_mull (by unfold two64; omega) (by unfold two64; omega)
theorem bin_pow (h0 : 0 ≤ i) (h1 : i ≤ 1000) (h2 : -1000 ≤ v) (h3 : v ≤ 1000) : binop .pow (.int v) (.int i) = some (.v (.int (v ^ i.toNat))) := if_pos ⟨h0, h1, h2, h3⟩
theorem szA {a b : Nat} (h : a + b ≤ 100000) : a + b ≤ sizeLine := Nat.le_trans h (by decide +kernel)
theorem szB {a : Nat} (h : a < 100000) : a < sizeLine := Nat.lt_of_lt_of_le h (by decide +kernel)
theorem szC {a : Nat} (h : a ≤ 100000) : a ≤ sizeLine := Nat.le_trans h (by decide +kernel)
end
section
variable {i k : Int} {n d : Nat} {α : Type} {xs : List α} {ds : List D}
theorem sIx_n : sIx n d none = d := rfl
theorem sIx_p (h0 : 0 ≤ i) : sIx n d (some i) = min i.toNat n := if_neg (by omega)
theorem sIx_m (h0 : i < 0) : sIx n d (some i) = (i + n).toNat := if_pos h0
theorem take_min {m : Nat} : xs.take (min m xs.length) = xs.take m := by
  rcases Nat.le_total m xs.length with h | h
  · rw [Nat.min_eq_left h]
  · rw [Nat.min_eq_right h, List.take_length, List.take_of_length_le h]
theorem drop_min {m : Nat} : xs.drop (min m xs.length) = xs.drop m := by
  rcases Nat.le_total m xs.length with h | h
  · rw [Nat.min_eq_left h]
  · rw [Nat.min_eq_right h, List.drop_length, List.drop_eq_nil_of_le h]
theorem cut_take (h0 : 0 ≤ k) : cutL xs none (some k) = xs.take k.toNat := by
  unfold cutL
  rw [sIx_n, sIx_p h0, List.drop_zero, Nat.sub_zero, take_min]
theorem cut_drop (h0 : 0 ≤ k) : cutL xs (some k) none = xs.drop k.toNat := by
  unfold cutL
  rw [sIx_n, sIx_p h0, drop_min]
  refine List.take_of_length_le ?_
  rw [List.length_drop]
  omega
theorem cut_mid (h0 : 0 ≤ i) (h1 : i ≤ k) : cutL xs (some i) (some k) = (xs.drop i.toNat).take (k.toNat - i.toNat) := by
  unfold cutL
  rw [sIx_p h0, sIx_p (by omega), drop_min]
  rcases Nat.le_total k.toNat xs.length with h | h
  · rw [Nat.min_eq_left h, Nat.min_eq_left (by omega)]
  · rw [Nat.min_eq_right h]
    rw [List.take_of_length_le (by rw [List.length_drop]; omega), List.take_of_length_le (by rw [List.length_drop]; omega)]
theorem cut_init : cutL xs none (some (-1)) = xs.dropLast := by
  unfold cutL
  rw [sIx_n, sIx_m (by omega), List.drop_zero, Nat.sub_zero, List.dropLast_eq_take]
  congr 1
  omega
theorem bin_mulL (h0 : -1000000 ≤ k) (h1 : k ≤ 1000000) (h2 : ds.length * k.toNat ≤ sizeLine) : binop .mul (.lst ds) (.int k) = some (.o (List.replicate k.toNat ds).flatten) := if_pos ⟨by omega, by omega, h2⟩
end
end Pm

set_option Elab.async false
set_option linter.all false
set_option maxRecDepth 100000
set_option maxHeartbeats 4000000
/-! The pure machine: objects, by simp. -/
namespace Pm
open PySem PySem.Spec
section
variable {Γ : Calls} {C : Cf} {σ : List Slot} {h : List Ob} {d : D} {xs : List D} {i j c : Nat} {e a b : E} {es : Es} {r : R} {m f : Str} {fs : List (Str × R)} {m0 : List Slot → List Ob → Res R}
def metR (Γ : Calls) (C : Cf) (m : Str) (es : Es) (r : R) (σ : List Slot) (h : List Ob) : Res R :=
  match r with
    | .v (.ref j) => match h[j]? with
      | some (.ins c fs) => match C.M c m with
        | some f => if (fs.lookup m).isNone then (evA Γ C es σ h).bind fun ds σ h => ofC (Γ f (.ref j :: ds) h) σ else .stuck
        | none => .stuck
      | _ => .stuck
    | _ => .stuck
theorem v_met : evE Γ C (.met m a es) σ h = (evE Γ C a σ h).bind fun r σ h => metR Γ C m es r σ h := by
  rw [evE]
  rfl
def metR2 (Γ : Calls) (C : Cf) (m : Str) (es : Es) (j : Nat) (o : Option Ob) (σ : List Slot) (h : List Ob) : Res R :=
  match o with
      | some (.ins c fs) => match C.M c m with
        | some f => if (fs.lookup m).isNone then (evA Γ C es σ h).bind fun ds σ h => ofC (Γ f (.ref j :: ds) h) σ else .stuck
        | none => .stuck
      | _ => .stuck
theorem metR_s : metR Γ C m es (.v (.ref j)) σ h = metR2 Γ C m es j h[j]? σ h := rfl
/-- a method, its def known -/
theorem metR2_s {f : Nat} (hm : C.M c m = some f) (hf : (fs.lookup m).isNone = true) : metR2 Γ C m es j (some (.ins c fs)) σ h = (evA Γ C es σ h).bd fun ds σ h => ofC (Γ f (.ref j :: ds) h) σ := by
  unfold metR2
  dsimp only
  rw [hm]
  dsimp only
  rw [if_pos hf]
  rfl
def fldR2 (f : Str) (o : Option Ob) (σ : List Slot) (h : List Ob) : Res R :=
  match o with
  | some (.ins _ fs) => match fs.lookup f with
    | some (.v d) => .ok (.v d) σ h
    | _ => .stuck
  | _ => .stuck
def fldR (f : Str) (r : R) (σ : List Slot) (h : List Ob) : Res R :=
  match r with
  | .v (.ref j) => fldR2 f h[j]? σ h
  | _ => .stuck
theorem v_fld : evE Γ C (.fld a f) σ h = (evE Γ C a σ h).bind fun r σ h => fldR f r σ h := by
  rw [evE]
  congr 1
theorem fldR_s : fldR f (.v (.ref j)) σ h = fldR2 f h[j]? σ h := rfl
theorem fldR2_s (e : fs.lookup f = some (.v d)) : fldR2 f (some (.ins c fs)) σ h = .ok (.v d) σ h := by
  unfold fldR2
  dsimp only
  rw [e]
def newR (c : Nat) (k : Nat) (σ : List Slot) : CRes → Res R
  | .ok (.v .non) h' => .ok (.v (.ref k)) σ h'
  | .ok _ _ => .stuck
  | .exc c p h' => .exc c p σ h'
  | .stuck => .stuck
theorem v_new {f : Nat} : evE Γ C (.new c f es) σ h = (evA Γ C es σ h).bind fun ds σ h => newR c h.length σ (Γ f (.ref h.length :: ds) (h ++ [.ins c []])) := by
  rw [evE]
  congr 1
theorem newR_ok {k : Nat} : newR c k σ (.ok (.v .non) h) = .ok (.v (.ref k)) σ h := rfl
def stfR2 (i : Nat) (f : Str) (r : R) (j : Nat) (o : Option Ob) (σ : List Slot) (h : List Ob) : Res Flow :=
  match o with
  | some (.ins c fs) => if fs.length < 100 then .ok .nx σ (h.set j (.ins c (putR f r fs))) else .stuck
  | _ => .stuck
def stfR (i : Nat) (f : Str) (r : R) (s : Option Slot) (σ : List Slot) (h : List Ob) : Res Flow :=
  match s with
  | some (.v (.ref j)) => stfR2 i f r j h[j]? σ h
  | _ => .stuck
theorem x_stf : exS Γ C (.stf i f e) σ h = (evE Γ C e σ h).bind fun r σ h => stfR i f r σ[i]? σ h := by
  rw [exS]
  congr 1
theorem stfR_s : stfR i f r (some (.v (.ref j))) σ h = stfR2 i f r j h[j]? σ h := rfl
theorem stfR2_s (hl : fs.length < 100) : stfR2 i f r j (some (.ins c fs)) σ h = .ok .nx σ (h.set j (.ins c (putR f r fs))) := if_pos hl
def flnR2 (f : Str) (o : Option Ob) (σ : List Slot) (h : List Ob) : Res R :=
  match o with
  | some (.ins _ fs) => match fs.lookup f with
    | some (.o xs) => .ok (.v (.bl xs.isEmpty)) σ h
    | _ => .stuck
  | _ => .stuck
def flnR (f : Str) (s : Option Slot) (σ : List Slot) (h : List Ob) : Res R :=
  match s with
  | some (.v (.ref j)) => flnR2 f h[j]? σ h
  | _ => .stuck
theorem v_fln : evE Γ C (.fln i f) σ h = flnR f σ[i]? σ h := by
  rw [evE]
  unfold flnR flnR2
  cases σ[i]? with
  | none => rfl
  | some s =>
    cases s with
    | v d => cases d <;> rfl
    | _ => rfl
theorem flnR_s : flnR f (some (.v (.ref j))) σ h = flnR2 f h[j]? σ h := rfl
theorem flnR2_s (e : fs.lookup f = some (.o xs)) : flnR2 f (some (.ins c fs)) σ h = .ok (.v (.bl xs.isEmpty)) σ h := by
  unfold flnR2
  dsimp only
  rw [e]
theorem o_met : opd (.met m a es) m0 σ h = (m0 σ h).bind fun r σ h => .ok (.r r) σ h := o_val rfl
theorem o_fld : opd (.fld a f) m0 σ h = (m0 σ h).bind fun r σ h => .ok (.r r) σ h := o_val rfl
theorem o_new {f : Nat} : opd (.new c f es) m0 σ h = (m0 σ h).bind fun r σ h => .ok (.r r) σ h := o_val rfl
theorem o_not : opd (.not a) m0 σ h = (m0 σ h).bind fun r σ h => .ok (.r r) σ h := o_val rfl
theorem o_and : opd (.and a b) m0 σ h = (m0 σ h).bind fun r σ h => .ok (.r r) σ h := o_val rfl
theorem o_or : opd (.or a b) m0 σ h = (m0 σ h).bind fun r σ h => .ok (.r r) σ h := o_val rfl
end
section
variable {a b c d e f g : D}
theorem len1 : ((List.length [a] : Nat) : Int) = 1 := rfl
theorem len2 : ((List.length [a, b] : Nat) : Int) = 2 := rfl
theorem len3 : ((List.length [a, b, c] : Nat) : Int) = 3 := rfl
theorem len4 : ((List.length [a, b, c, d] : Nat) : Int) = 4 := rfl
theorem len5 : ((List.length [a, b, c, d, e] : Nat) : Int) = 5 := rfl
theorem len6 : ((List.length [a, b, c, d, e, f] : Nat) : Int) = 6 := rfl
theorem len7 : ((List.length [a, b, c, d, e, f, g] : Nat) : Int) = 7 := rfl
theorem ixD_m1 {x : D} : ixD [x] (-1) = some x := rfl
theorem ixD_m2 : ixD [a, b] (-1) = some b := rfl
theorem ixD_m3 : ixD [a, b, c] (-1) = some c := rfl
theorem ixD_m4 : ixD [a, b, c, d] (-1) = some d := rfl
theorem ixD_m5 : ixD [a, b, c, d, e] (-1) = some e := rfl
theorem ixD_m6 : ixD [a, b, c, d, e, f] (-1) = some f := rfl
theorem ixD_m7 : ixD [a, b, c, d, e, f, g] (-1) = some g := rfl
theorem ixD_4 {xs : List D} : ixD (a :: b :: c :: d :: e :: xs) 4 = some e := rfl
theorem ixD_5 {xs : List D} : ixD (a :: b :: c :: d :: e :: f :: xs) 5 = some f := rfl
theorem ixD_6 {xs : List D} : ixD (a :: b :: c :: d :: e :: f :: g :: xs) 6 = some g := rfl
end
noncomputable def okB (p : Prop) : Bool := @decide p (Classical.propDecidable p)
theorem okB_t {p : Prop} (h : p) : okB p = true := @decide_eq_true p (Classical.propDecidable p) h
theorem okB_f {p : Prop} (h : ¬ p) : okB p = false := @decide_eq_false p (Classical.propDecidable p) h
theorem okB_iff {p : Prop} : okB p = true ↔ p := ⟨fun h => Classical.byContradiction fun q => Bool.false_ne_true ((okB_f q).symm.trans h), okB_t⟩
section
variable {Γ : Calls} {C : Cf} {σ : List Slot} {h : List Ob} {xs ys : List D} {i : Nat} {e : E} {r : R} {d : D}
def appR (i : Nat) (r : R) (s : Option Slot) (σ : List Slot) (h : List Ob) : Res Flow :=
  match s with
    | some (.o xs) => if xs.length < sizeLine then .ok .nx (σ.set i (.o (xs ++ [r.d]))) h else .stuck
    | some (.v (.ref j)) => match h[j]? with
      | some (.lst xs) => if xs.length < sizeLine then .ok .nx σ (h.set j (.lst (xs ++ [r.d]))) else .stuck
      | _ => .stuck
    | _ => .stuck
theorem x_app : exS Γ C (.app i e) σ h = ifR (lsB (contS h σ[i]?)) ((evE Γ C e σ h).bind fun r σ h => appR i r σ[i]? σ h) .stuck := by
  rw [exS, lst_slot]
  rfl
theorem appR_o (hz : xs.length < 100000) : appR i r (some (.o xs)) σ h = .ok .nx (σ.set i (.o (xs ++ [r.d]))) h := if_pos (szB hz)
def extR (i : Nat) (d : D) (s : Option Slot) (σ : List Slot) (h : List Ob) : Res Flow :=
  match d, s with
    | .lst ys, some (.o xs) => if xs.length + ys.length ≤ sizeLine then .ok .nx (σ.set i (.o (xs ++ ys))) h else .stuck
    | _, _ => .stuck
theorem x_ext : exS Γ C (.ext i e) σ h = ifR (lsB (contS h σ[i]?)) ((evE Γ C e σ h).bind fun r σ h => extR i r.d σ[i]? σ h) .stuck := by
  rw [exS, lst_slot]
  rfl
theorem extR_o (hz : xs.length + ys.length ≤ 100000) : extR i (.lst ys) (some (.o xs)) σ h = .ok .nx (σ.set i (.o (xs ++ ys))) h := if_pos (szA hz)
theorem inL_int {k : Int} {ns : List Int} : inL (.int k) (ns.map D.int) = some (decide (k ∈ ns)) := by
  have h1 : ((flatD (.int k)) && (ns.map D.int).all flatD) = true := by
    rw [Bool.and_eq_true, List.all_eq_true]
    refine ⟨rfl, fun d hd => ?_⟩
    obtain ⟨j, _, rfl⟩ := List.mem_map.mp hd
    rfl
  unfold inL
  rw [if_pos h1]
  congr 1
  rw [Bool.eq_iff_iff, List.any_eq_true, decide_eq_true_iff]
  constructor
  · rintro ⟨d, hd, q⟩
    obtain ⟨j, hj, rfl⟩ := List.mem_map.mp hd
    have : (j == k) = true := q
    rw [← eq_of_beq this]
    exact hj
  · intro hk
    exact ⟨_, List.mem_map.mpr ⟨k, hk, rfl⟩, beq_self_eq_true k⟩
theorem cmp_nmem_l : cmpop .nmem d (.lst xs) = (inL d xs).map (!·) := rfl
theorem cmp_mem_l : cmpop .mem d (.lst xs) = inL d xs := rfl
theorem cmp_mem_t : cmpop .mem d (.tup xs) = inL d xs := rfl
theorem f_sset {ns : List Int} (h1 : ns.length + 1 < 4096) (h2 : (dedup ns).length < 64) : fn1 .sset (.lst (ns.map D.int)) = some (.o ((sortI (dedup ns)).map D.int)) := by
  show ((intsD (ns.map D.int)).bind fun ns => if ns.length + 1 < scanBound ∧ (dedup ns).length < 64 then some (R.o ((sortI (dedup ns)).map D.int)) else none) = _
  rw [ints_map]
  exact if_pos ⟨h1, h2⟩
theorem f_sorted {ns : List Int} : fn1 .sorted (.lst (ns.map D.int)) = some (.o ((sortI ns).map D.int)) := by
  show ((intsD (ns.map D.int)).map fun ns => R.o ((sortI ns).map D.int)) = _
  rw [ints_map]
  rfl
theorem nd_le : ∀ {l : List Int} {k : Nat}, l.Nodup → (∀ x ∈ l, 0 ≤ x ∧ x < (k : Int)) → l.length ≤ k := by
  intro l k
  induction k generalizing l with
  | zero =>
    intro _ h
    cases l with
    | nil => exact Nat.le_refl _
    | cons a r =>
      have := h a List.mem_cons_self
      omega
  | succ k ih =>
    intro nd h
    have h2 := ih (l := l.filter fun x => decide (x ≠ (k : Int))) (nd.filter _) fun x hx => by
      obtain ⟨h3, h4⟩ := List.mem_filter.mp hx
      have h5 := of_decide_eq_true h4
      have := h x h3
      omega
    have h3 : l.length ≤ (l.filter fun x => decide (x ≠ (k : Int))).length + 1 := by
      clear ih h h2
      induction l with
      | nil => exact Nat.zero_le _
      | cons a r ihr =>
        have nd' := List.nodup_cons.mp nd
        by_cases e : a = (k : Int)
        · have e2 : r.filter (fun x => decide (x ≠ (k : Int))) = r := List.filter_eq_self.mpr fun x hx => decide_eq_true fun q => nd'.1 (by rw [e, ← q]; exact hx)
          rw [List.filter_cons_of_neg (by simpa using e), e2, List.length_cons]
          exact Nat.le_refl _
        · rw [List.filter_cons_of_pos (by simpa using e), List.length_cons, List.length_cons]
          have := ihr nd'.2
          omega
    omega
end
end Pm

set_option maxHeartbeats 0
namespace Lw
open PySem PySem.Spec Pm
def top (i : Nat) : Stmt := PySem.Challenge.pw_cutlist_k04_put_and_cut.main.body.getD i (.Pass ⟨0, 0, 0, 0⟩)
def b__wall : Pm.Ss := (.cons (.whl (.con (.bl true))
 (.cons .pass
 .nil))
 .nil)
def D__wall : DefI := { id := 93, name := "_wall", params := L2.defArgs (top 0), body := L2.defBody (top 0), scope := L2.defScope (top 0), ps := ["k"], N := ["k"], fd := ⟨1, 1, b__wall⟩ }
def b_is_between : Pm.Ss := (.cons (.ret (.and (.isi (.bor 0) .int) (.and (.not (.isi (.bor 0) .bool)) (.cmp2 .le .le (.bor 1) (.bor 0) (.bor 2)))))
 .nil)
def D_is_between : DefI := { id := 102, name := "is_between", params := L2.defArgs (top 22), body := L2.defBody (top 22), scope := L2.defScope (top 22), ps := ["part", "low", "high"], N := ["part", "low", "high"], fd := ⟨3, 3, b_is_between⟩ }
def b_need_sources : Pm.Ss := (.cons (.iff (.or (.not (.isi (.bor 0) .tuple)) (.cmp .eq (.bor 0) (.tup .nil)))
 (.cons .nev
 .nil)
 .nil)
 (.cons (.forT [1, 2] (.enu (.var 0))
 (.cons (.iff (.or (.cmp .ge (.bor 1) (.glo "MOST_SOURCES" (.int 6))) (.not (.cal 102 (.cons (.var 2) (.cons (.con (.int 1)) (.cons (.glo "MOST_FRAMES" (.int 999)) .nil))))))
 (.cons .nev
 .nil)
 .nil)
 .nil))
 .nil))
def D_need_sources : DefI := { id := 127, name := "need_sources", params := L2.defArgs (top 23), body := L2.defBody (top 23), scope := L2.defScope (top 23), ps := ["sources"], N := ["sources", "at", "long"], fd := ⟨1, 3, b_need_sources⟩ }
def b_source_frame : Pm.Ss := (.cons (.setT [2, 3, 4, 5, 6, 7, 8] (.var 0))
 (.cons (.ret (.bin .add (.bor 4) (.bin .fdiv (.bin .add (.bor 7) (.bin .mul (.bor 1) (.bor 5))) (.bor 6))))
 .nil))
def D_source_frame : DefI := { id := 138, name := "source_frame", params := L2.defArgs (top 24), body := L2.defBody (top 24), scope := L2.defScope (top 24), ps := ["clip", "j"], N := ["clip", "j", "word", "source", "begin", "step", "of", "rest", "long"], fd := ⟨2, 9, b_source_frame⟩ }
def b_is_clip : Pm.Ss := (.cons (.iff (.or (.cmp .ne (.fn1 .len (.bor 0)) (.con (.int 7))) (.not (.cal 102 (.cons (.idx (.bor 0) (.con (.int 1))) (.cons (.con (.int 0)) (.cons (.bin .sub (.fn1 .len (.bor 1)) (.con (.int 1))) .nil))))))
 (.cons (.ret (.con (.bl false)))
 .nil)
 .nil)
 (.cons (.set 2 (.bin .sub (.idx (.bor 1) (.idx (.bor 0) (.con (.int 1)))) (.con (.int 1))))
 (.cons (.iff (.or (.not (.cal 102 (.cons (.idx (.bor 0) (.con (.int 2))) (.cons (.con (.int 0)) (.cons (.var 2) .nil))))) (.not (.cal 102 (.cons (.idx (.bor 0) (.con (.int 3))) (.cons (.bin .sub (.con (.int 0)) (.glo "MOST_STEP" (.int 9))) (.cons (.glo "MOST_STEP" (.int 9)) .nil))))))
 (.cons (.ret (.con (.bl false)))
 .nil)
 .nil)
 (.cons (.iff (.or (.not (.cal 102 (.cons (.idx (.bor 0) (.con (.int 4))) (.cons (.con (.int 1)) (.cons (.glo "MOST_STEP" (.int 9)) .nil))))) (.not (.cal 102 (.cons (.idx (.bor 0) (.con (.int 5))) (.cons (.con (.int 0)) (.cons (.bin .sub (.idx (.bor 0) (.con (.int 4))) (.con (.int 1))) .nil))))))
 (.cons (.ret (.con (.bl false)))
 .nil)
 .nil)
 (.cons (.ret (.and (.cal 102 (.cons (.idx (.bor 0) (.con (.int 6))) (.cons (.con (.int 1)) (.cons (.glo "MOST_LONG" (.int 500)) .nil)))) (.cal 102 (.cons (.cal 138 (.cons (.var 0) (.cons (.bin .sub (.idx (.bor 0) (.con (.int 6))) (.con (.int 1))) .nil))) (.cons (.con (.int 0)) (.cons (.var 2) .nil))))))
 .nil)))))
def D_is_clip : DefI := { id := 104, name := "is_clip", params := L2.defArgs (top 25), body := L2.defBody (top 25), scope := L2.defScope (top 25), ps := ["piece", "sources"], N := ["piece", "sources", "last"], fd := ⟨2, 3, b_is_clip⟩ }
def b_is_lead : Pm.Ss := (.cons (.iff (.or (.cmp .ne (.fn1 .len (.bor 0)) (.con (.int 5))) (.or (.not (.cal 107 (.cons (.idx (.bor 0) (.con (.int 1))) (.cons (.var 1) (.cons (.var 2) .nil))))) (.not (.cal 107 (.cons (.idx (.bor 0) (.con (.int 2))) (.cons (.var 1) (.cons (.var 2) .nil)))))))
 (.cons (.ret (.con (.bl false)))
 .nil)
 .nil)
 (.cons (.setT [3, 4, 5, 6] (.sli (.bor 0) (.so (.con (.int 1))) .no))
 (.cons (.iff (.or (.cmp .eq (.idx (.bor 3) (.con (.int 0))) (.glo "LEAD" (.str "lead"))) (.or (.cmp .eq (.idx (.bor 4) (.con (.int 0))) (.glo "LEAD" (.str "lead"))) (.cmp .ne (.cal 115 (.cons (.var 3) .nil)) (.cal 115 (.cons (.var 4) .nil)))))
 (.cons (.ret (.con (.bl false)))
 .nil)
 .nil)
 (.cons (.ret (.and (.cal 102 (.cons (.var 6) (.cons (.con (.int 2)) (.cons (.glo "MOST_OF" (.int 600)) .nil)))) (.cal 102 (.cons (.var 5) (.cons (.con (.int 1)) (.cons (.bin .sub (.bor 6) (.cal 115 (.cons (.var 3) .nil))) .nil))))))
 .nil))))
def D_is_lead : DefI := { id := 106, name := "is_lead", params := L2.defArgs (top 26), body := L2.defBody (top 26), scope := L2.defScope (top 26), ps := ["piece", "sources", "lists"], N := ["piece", "sources", "lists", "one", "other", "step", "of"], fd := ⟨3, 7, b_is_lead⟩ }
def b_is_piece : Pm.Ss := (.cons (.iff (.or (.not (.isi (.bor 0) .tuple)) (.or (.cmp .eq (.bor 0) (.tup .nil)) (.not (.isi (.idx (.bor 0) (.con (.int 0))) .str))))
 (.cons (.ret (.con (.bl false)))
 .nil)
 .nil)
 (.cons (.iff (.cmp .eq (.idx (.bor 0) (.con (.int 0))) (.glo "CLIP" (.str "clip")))
 (.cons (.ret (.cal 104 (.cons (.var 0) (.cons (.var 1) .nil))))
 .nil)
 .nil)
 (.cons (.iff (.cmp .eq (.idx (.bor 0) (.con (.int 0))) (.glo "GAP" (.str "gap")))
 (.cons (.ret (.and (.cmp .eq (.fn1 .len (.bor 0)) (.con (.int 2))) (.cal 102 (.cons (.idx (.bor 0) (.con (.int 1))) (.cons (.con (.int 1)) (.cons (.glo "MOST_LONG" (.int 500)) .nil))))))
 .nil)
 .nil)
 (.cons (.iff (.cmp .eq (.idx (.bor 0) (.con (.int 0))) (.glo "LIST" (.str "list")))
 (.cons (.iff (.or (.cmp .ne (.fn1 .len (.bor 0)) (.con (.int 4))) (.or (.not (.cal 102 (.cons (.idx (.bor 0) (.con (.int 1))) (.cons (.con (.int 0)) (.cons (.bin .sub (.bor 2) (.con (.int 1))) .nil))))) (.not (.cal 102 (.cons (.idx (.bor 0) (.con (.int 3))) (.cons (.con (.int 1)) (.cons (.glo "MOST_LONG" (.int 500)) .nil)))))))
 (.cons (.ret (.con (.bl false)))
 .nil)
 .nil)
 (.cons (.ret (.cal 102 (.cons (.idx (.bor 0) (.con (.int 2))) (.cons (.con (.int 0)) (.cons (.bin .sub (.glo "MOST_END" (.int 1500)) (.idx (.bor 0) (.con (.int 3)))) .nil)))))
 .nil))
 .nil)
 (.cons (.ret (.and (.cmp .eq (.idx (.bor 0) (.con (.int 0))) (.glo "LEAD" (.str "lead"))) (.cal 106 (.cons (.var 0) (.cons (.var 1) (.cons (.var 2) .nil))))))
 .nil)))))
def D_is_piece : DefI := { id := 107, name := "is_piece", params := L2.defArgs (top 27), body := L2.defBody (top 27), scope := L2.defScope (top 27), ps := ["piece", "sources", "lists"], N := ["piece", "sources", "lists"], fd := ⟨3, 3, b_is_piece⟩ }
def b_long_of : Pm.Ss := (.cons (.ret (.ite (.cmp .eq (.idx (.bor 0) (.con (.int 0))) (.glo "LEAD" (.str "lead"))) (.cal 115 (.cons (.idx (.bor 0) (.con (.int 1))) .nil)) (.idx (.bor 0) (.neg (.con (.int 1))))))
 .nil)
def D_long_of : DefI := { id := 115, name := "long_of", params := L2.defArgs (top 28), body := L2.defBody (top 28), scope := L2.defScope (top 28), ps := ["piece"], N := ["piece"], fd := ⟨1, 1, b_long_of⟩ }
def b_part_of : Pm.Ss := (.cons (.iff (.cmp .eq (.idx (.bor 0) (.con (.int 0))) (.glo "CLIP" (.str "clip")))
 (.cons (.setT [4, 5, 6, 7, 8, 9, 10] (.var 0))
 (.cons (.set 3 (.bin .add (.bor 9) (.bin .mul (.bor 1) (.bor 7))))
 (.cons (.ret (.tup (.cons (.glo "CLIP" (.str "clip")) (.cons (.var 5) (.cons (.bin .add (.bor 6) (.bin .fdiv (.bor 3) (.bor 8))) (.cons (.var 7) (.cons (.var 8) (.cons (.bin .sub (.bor 3) (.bin .mul (.bin .fdiv (.bor 3) (.bor 8)) (.bor 8))) (.cons (.bin .sub (.bor 2) (.bor 1)) .nil)))))))))
 .nil)))
 .nil)
 (.cons (.iff (.cmp .eq (.idx (.bor 0) (.con (.int 0))) (.glo "GAP" (.str "gap")))
 (.cons (.ret (.tup (.cons (.glo "GAP" (.str "gap")) (.cons (.bin .sub (.bor 2) (.bor 1)) .nil))))
 .nil)
 .nil)
 (.cons (.iff (.cmp .eq (.idx (.bor 0) (.con (.int 0))) (.glo "LIST" (.str "list")))
 (.cons (.ret (.tup (.cons (.glo "LIST" (.str "list")) (.cons (.idx (.bor 0) (.con (.int 1))) (.cons (.bin .add (.idx (.bor 0) (.con (.int 2))) (.bor 1)) (.cons (.bin .sub (.bor 2) (.bor 1)) .nil))))))
 .nil)
 .nil)
 (.cons (.ret (.tup (.cons (.glo "LEAD" (.str "lead")) (.cons (.cal 130 (.cons (.idx (.bor 0) (.con (.int 1))) (.cons (.var 1) (.cons (.var 2) .nil)))) (.cons (.cal 130 (.cons (.idx (.bor 0) (.con (.int 2))) (.cons (.var 1) (.cons (.var 2) .nil)))) (.cons (.bin .add (.idx (.bor 0) (.con (.int 3))) (.bor 1)) (.cons (.idx (.bor 0) (.con (.int 4))) .nil)))))))
 .nil))))
def D_part_of : DefI := { id := 130, name := "part_of", params := L2.defArgs (top 29), body := L2.defBody (top 29), scope := L2.defScope (top 29), ps := ["piece", "begin", "end"], N := ["piece", "begin", "end", "here", "word", "source", "first", "step", "of", "rest", "long"], fd := ⟨3, 11, b_part_of⟩ }
def b_lists_in : Pm.Ss := (.cons (.iff (.cmp .eq (.idx (.bor 0) (.con (.int 0))) (.glo "LEAD" (.str "lead")))
 (.cons (.ret (.bin .add (.cal 113 (.cons (.idx (.bor 0) (.con (.int 1))) .nil)) (.cal 113 (.cons (.idx (.bor 0) (.con (.int 2))) .nil))))
 .nil)
 .nil)
 (.cons (.ret (.ite (.cmp .eq (.idx (.bor 0) (.con (.int 0))) (.glo "LIST" (.str "list"))) (.lst (.cons (.idx (.bor 0) (.con (.int 1))) .nil)) (.lst .nil)))
 .nil))
def D_lists_in : DefI := { id := 113, name := "lists_in", params := L2.defArgs (top 30), body := L2.defBody (top 30), scope := L2.defScope (top 30), ps := ["piece"], N := ["piece"], fd := ⟨1, 1, b_lists_in⟩ }
def b_total : Pm.Ss := (.cons (.ret (.fn1 .sum (.com 1 (.cal 115 (.cons (.var 1) .nil)) (.seq (.var 0)))))
 .nil)
def D_total : DefI := { id := 141, name := "total", params := L2.defArgs (top 33), body := L2.defBody (top 33), scope := L2.defScope (top 33), ps := ["layer"], N := ["layer", "piece"], fd := ⟨1, 2, b_total⟩ }
def b_stretch_of : Pm.Ss := (.cons (.set 3 (.tup .nil))
 (.cons (.set 4 (.con (.int 0)))
 (.cons (.for1 5 (.seq (.var 0))
 (.cons (.par2 6 7 (.fn2 .max (.var 1) (.var 4)) (.fn2 .min (.var 2) (.bin .add (.bor 4) (.cal 115 (.cons (.var 5) .nil)))))
 (.cons (.iff (.cmp .lt (.bor 6) (.bor 7))
 (.cons (.set 3 (.bin .add (.bor 3) (.tup (.cons (.cal 130 (.cons (.var 5) (.cons (.bin .sub (.bor 6) (.bor 4)) (.cons (.bin .sub (.bor 7) (.bor 4)) .nil)))) .nil))))
 .nil)
 .nil)
 (.cons (.set 4 (.bin .add (.bor 4) (.cal 115 (.cons (.var 5) .nil))))
 .nil))))
 (.cons (.ret (.var 3))
 .nil))))
def D_stretch_of : DefI := { id := 139, name := "stretch_of", params := L2.defArgs (top 34), body := L2.defBody (top 34), scope := L2.defScope (top 34), ps := ["layer", "begin", "end"], N := ["layer", "begin", "end", "found", "here", "piece", "first", "last"], fd := ⟨3, 8, b_stretch_of⟩ }
def b_put_in : Pm.Ss := (.cons (.ret (.bin .add (.bin .add (.cal 139 (.cons (.var 0) (.cons (.con (.int 0)) (.cons (.var 1) .nil)))) (.bor 3)) (.cal 139 (.cons (.var 0) (.cons (.var 2) (.cons (.cal 141 (.cons (.var 0) .nil)) .nil))))))
 .nil)
def D_put_in : DefI := { id := 134, name := "put_in", params := L2.defArgs (top 35), body := L2.defBody (top 35), scope := L2.defScope (top 35), ps := ["layer", "begin", "end", "some"], N := ["layer", "begin", "end", "some"], fd := ⟨4, 4, b_put_in⟩ }
def b_place_at : Pm.Ss := (.cons (.set 2 (.con (.int 0)))
 (.cons (.forT [3, 4] (.enu (.var 0))
 (.cons (.iff (.cmp .lt (.bor 1) (.bin .add (.bor 2) (.cal 115 (.cons (.var 4) .nil))))
 (.cons (.ret (.tup (.cons (.var 3) (.cons (.var 2) .nil))))
 .nil)
 .nil)
 (.cons (.set 2 (.bin .add (.bor 2) (.cal 115 (.cons (.var 4) .nil))))
 .nil)))
 (.cons (.ret (.tup (.cons (.fn1 .len (.bor 0)) (.cons (.var 2) .nil))))
 .nil)))
def D_place_at : DefI := { id := 133, name := "place_at", params := L2.defArgs (top 36), body := L2.defBody (top 36), scope := L2.defScope (top 36), ps := ["layer", "at"], N := ["layer", "at", "here", "number", "piece"], fd := ⟨2, 5, b_place_at⟩ }
def b_need_shape : Pm.Ss := (.cons (.iff (.or (.not (.isi (.bor 0) .tuple)) (.cmp .eq (.bor 0) (.tup .nil)))
 (.cons .nev
 .nil)
 .nil)
 (.cons (.forT [1, 2] (.enu (.var 0))
 (.cons (.iff (.or (.cmp .ge (.bor 1) (.glo "MOST_LISTS" (.int 5))) (.or (.not (.isi (.bor 2) .tuple)) (.not (.cmp2 .le .le (.con (.int 1)) (.fn1 .len (.bor 2)) (.glo "MOST_LAYERS" (.int 3))))))
 (.cons .nev
 .nil)
 .nil)
 .nil))
 .nil))
def D_need_shape : DefI := { id := 126, name := "need_shape", params := L2.defArgs (top 39), body := L2.defBody (top 39), scope := L2.defScope (top 39), ps := ["film"], N := ["film", "number", "layers"], fd := ⟨1, 3, b_need_shape⟩ }
def b_need_layer : Pm.Ss := (.cons (.iff (.not (.isi (.bor 0) .tuple))
 (.cons .nev
 .nil)
 .nil)
 (.cons (.forT [4, 5] (.enu (.var 0))
 (.cons (.iff (.or (.cmp .ge (.bor 4) (.glo "MOST_PIECES" (.int 60))) (.not (.cal 107 (.cons (.var 5) (.cons (.var 2) (.cons (.var 3) .nil))))))
 (.cons .nev
 .nil)
 .nil)
 .nil))
 .nil))
def D_need_layer : DefI := { id := 123, name := "need_layer", params := L2.defArgs (top 40), body := L2.defBody (top 40), scope := L2.defScope (top 40), ps := ["layer", "place", "sources", "lists"], N := ["layer", "place", "sources", "lists", "number", "piece"], fd := ⟨4, 6, b_need_layer⟩ }
def b_shown_in : Pm.Ss := (.cons (.set 2 (.lst .nil))
 (.cons (.for1 3 (.seq (.idx (.bor 0) (.bor 1)))
 (.cons (.for1 4 (.seq (.var 3))
 (.cons (.ext 2 (.cal 113 (.cons (.var 4) .nil)))
 .nil))
 .nil))
 (.cons (.ret (.fn1 .sset (.bor 2)))
 .nil)))
def D_shown_in : DefI := { id := 137, name := "shown_in", params := L2.defArgs (top 41), body := L2.defBody (top 41), scope := L2.defScope (top 41), ps := ["film", "number"], N := ["film", "number", "found", "layer", "piece"], fd := ⟨2, 5, b_shown_in⟩ }
def b_ring_from : Pm.Ss := (.cons (.set 2 (.lst (.cons (.tup (.cons (.var 1) .nil)) .nil)))
 (.cons (.set 3 (.lst .nil))
 (.cons (.whl (.cmp .ne (.bor 2) (.lst .nil))
 (.cons (.set 4 (.lst .nil))
 (.cons (.for1 5 (.seq (.var 2))
 (.cons (.for1 6 (.seq (.cal 137 (.cons (.var 0) (.cons (.idx (.bor 5) (.neg (.con (.int 1)))) .nil))))
 (.cons (.iff (.cmp .eq (.bor 6) (.bor 1))
 (.cons (.ret (.var 5))
 .nil)
 .nil)
 (.cons (.iff (.cmp .nmem (.bor 6) (.bor 3))
 (.cons (.app 3 (.var 6))
 (.cons (.app 4 (.bin .add (.bor 5) (.tup (.cons (.var 6) .nil))))
 .nil))
 .nil)
 .nil)))
 .nil))
 (.cons (.set 2 (.var 4))
 .nil))))
 (.cons (.ret (.con (.non)))
 .nil))))
def D_ring_from : DefI := { id := 136, name := "ring_from", params := L2.defArgs (top 42), body := L2.defBody (top 42), scope := L2.defScope (top 42), ps := ["film", "begin"], N := ["film", "begin", "level", "met", "further", "row", "one"], fd := ⟨2, 7, b_ring_from⟩ }
def b_need_no_ring : Pm.Ss := (.cons (.set 1 (.com 2 (.cal 136 (.cons (.var 0) (.cons (.var 2) .nil))) (.rng1 (.fn1 .len (.bor 0)))))
 (.cons (.set 1 (.fn1 .sorted (.comf 3 (.tup (.cons (.fn1 .len (.bor 3)) (.cons (.var 3) .nil))) (.seq (.var 1)) (.cmp .isnn (.bor 3) (.con (.non))))))
 (.cons (.iff (.cmp .ne (.bor 1) (.lst .nil))
 (.cons .nev
 .nil)
 .nil)
 .nil)))
def D_need_no_ring : DefI := { id := 125, name := "need_no_ring", params := L2.defArgs (top 43), body := L2.defBody (top 43), scope := L2.defScope (top 43), ps := ["film"], N := ["film", "rings", "number", "ring"], fd := ⟨1, 4, b_need_no_ring⟩ }
def b_need_film : Pm.Ss := (.cons (.ex (.cal 127 (.cons (.var 0) .nil)))
 (.cons (.ex (.cal 126 (.cons (.var 1) .nil)))
 (.cons (.forT [2, 3] (.enu (.var 1))
 (.cons (.forT [4, 5] (.enu (.var 3))
 (.cons (.ex (.cal 123 (.cons (.var 5) (.cons (.tup (.cons (.var 2) (.cons (.var 4) .nil))) (.cons (.var 0) (.cons (.fn1 .len (.bor 1)) .nil))))))
 .nil))
 .nil))
 (.cons (.ex (.cal 125 (.cons (.var 1) .nil)))
 .nil))))
def D_need_film : DefI := { id := 121, name := "need_film", params := L2.defArgs (top 44), body := L2.defBody (top 44), scope := L2.defScope (top 44), ps := ["sources", "film"], N := ["sources", "film", "number", "layers", "k", "layer"], fd := ⟨2, 6, b_need_film⟩ }
def b_need_list : Pm.Ss := (.cons (.iff (.not (.cal 102 (.cons (.var 1) (.cons (.con (.int 0)) (.cons (.bin .sub (.fn1 .len (.bor 0)) (.con (.int 1))) .nil)))))
 (.cons .nev
 .nil)
 .nil)
 .nil)
def D_need_list : DefI := { id := 124, name := "need_list", params := L2.defArgs (top 45), body := L2.defBody (top 45), scope := L2.defScope (top 45), ps := ["film", "number"], N := ["film", "number"], fd := ⟨2, 2, b_need_list⟩ }
def b__law_dice : Pm.Ss := (.cons (.set 2 (.var 1))
 (.cons (.for1 3 (.seq (.var 0))
 (.cons (.set 2 (.bin .mod (.bin .add (.bin .mul (.bor 2) (.con (.int 31))) (.fn1 .abs (.bor 3))) (.con (.int 2147483647))))
 .nil))
 (.cons (.ret (.bin .add (.lst (.cons (.var 2) (.cons (.con (.int 0)) .nil))) (.comf 3 (.var 3) (.seq (.var 0)) (.cmp .ge (.bor 3) (.bin .pow (.con (.int 10)) (.con (.int 18)))))))
 .nil)))
def D__law_dice : DefI := { id := 43, name := "_law_dice", params := L2.defArgs (top 49), body := L2.defBody (top 49), scope := L2.defScope (top 49), ps := ["_law_script", "_law_k"], N := ["_law_script", "_law_k", "_law_found", "_law_cell"], fd := ⟨2, 4, b__law_dice⟩ }
def b__law_off : Pm.Ss := (.cons (.iff (.and (.cmp .eq (.idx (.bor 0) (.con (.int 1))) (.con (.int 0))) (.cmp .gt (.fn1 .len (.bor 0)) (.con (.int 2))))
 (.cons (.sti 0 (.con (.int 1)) (.popA 0 (.con (.int 2))))
 .nil)
 .nil)
 (.cons (.iff (.cmp .gt (.idx (.bor 0) (.con (.int 1))) (.con (.int 0)))
 (.cons (.set 2 (.bin .mod (.idx (.bor 0) (.con (.int 1))) (.bor 1)))
 (.cons (.sti 0 (.con (.int 1)) (.bin .fdiv (.idx (.bor 0) (.con (.int 1))) (.bor 1)))
 (.cons (.ret (.var 2))
 .nil)))
 .nil)
 (.cons (.sti 0 (.con (.int 0)) (.bin .mod (.bin .add (.bin .mul (.idx (.bor 0) (.con (.int 0))) (.con (.int 48271))) (.con (.int 11))) (.con (.int 2147483647))))
 (.cons (.ret (.bin .mod (.bin .fdiv (.idx (.bor 0) (.con (.int 0))) (.con (.int 64))) (.bor 1)))
 .nil))))
def D__law_off : DefI := { id := 68, name := "_law_off", params := L2.defArgs (top 50), body := L2.defBody (top 50), scope := L2.defScope (top 50), ps := ["_law_d", "_law_most"], N := ["_law_d", "_law_most", "_law_found"], fd := ⟨2, 3, b__law_off⟩ }
def b__law_alike : Pm.Ss := (.cons (.iff (.cmp .isn (.bor 1) (.con (.non)))
 (.cons (.ret (.cmp .isn (.bor 0) (.con (.non))))
 .nil)
 .nil)
 (.cons (.iff (.isi (.bor 1) .bool)
 (.cons (.ret (.and (.isi (.bor 0) .bool) (.cmp .eq (.bor 0) (.bor 1))))
 .nil)
 .nil)
 (.cons (.iff (.isi (.bor 1) .int)
 (.cons (.ret (.and (.isi (.bor 0) .int) (.and (.not (.isi (.bor 0) .bool)) (.cmp .eq (.bor 0) (.bor 1)))))
 .nil)
 .nil)
 (.cons (.iff (.isi (.bor 1) .str)
 (.cons (.ret (.and (.isi (.bor 0) .str) (.cmp .eq (.bor 0) (.bor 1))))
 .nil)
 .nil)
 (.cons (.iff (.or (.cmp .ne (.isi (.bor 1) .tuple) (.isi (.bor 0) .tuple)) (.cmp .ne (.isi (.bor 1) .list) (.isi (.bor 0) .list)))
 (.cons (.ret (.con (.bl false)))
 .nil)
 .nil)
 (.cons (.iff (.cmp .ne (.fn1 .len (.bor 0)) (.fn1 .len (.bor 1)))
 (.cons (.ret (.con (.bl false)))
 .nil)
 .nil)
 (.cons (.ret (.fn1 .all (.com 2 (.cal 26 (.cons (.idx (.bor 0) (.bor 2)) (.cons (.idx (.bor 1) (.bor 2)) .nil))) (.rng1 (.fn1 .len (.bor 1))))))
 .nil)))))))
def D__law_alike : DefI := { id := 26, name := "_law_alike", params := L2.defArgs (top 51), body := L2.defBody (top 51), scope := L2.defScope (top 51), ps := ["_law_found", "_law_due"], N := ["_law_found", "_law_due", "_law_k"], fd := ⟨2, 3, b__law_alike⟩ }
def b__law_mixed : Pm.Ss := (.cons (.set 2 (.fn1 .list (.bor 1)))
 (.cons (.set 3 (.lst .nil))
 (.cons (.whl (.cmp .ne (.bor 2) (.lst .nil))
 (.cons (.app 3 (.popA 2 (.cal 68 (.cons (.var 0) (.cons (.fn1 .len (.bor 2)) .nil)))))
 .nil))
 (.cons (.ret (.var 3))
 .nil))))
def D__law_mixed : DefI := { id := 64, name := "_law_mixed", params := L2.defArgs (top 52), body := L2.defBody (top 52), scope := L2.defScope (top 52), ps := ["_law_d", "_law_row"], N := ["_law_d", "_law_row", "_law_left", "_law_found"], fd := ⟨2, 4, b__law_mixed⟩ }
def b__law_sources : Pm.Ss := (.cons (.set 1 (.bin .add (.con (.int 1)) (.cal 68 (.cons (.var 0) (.cons (.idx (.lst (.cons (.con (.int 2)) (.cons (.con (.int 6)) .nil))) (.cal 68 (.cons (.var 0) (.cons (.con (.int 2)) .nil)))) .nil)))))
 (.cons (.ret (.fn1 .tuple (.com 2 (.idx (.lst (.cons (.bin .add (.con (.int 1)) (.cal 68 (.cons (.var 0) (.cons (.con (.int 40)) .nil)))) (.cons (.con (.int 999)) (.cons (.bin .add (.con (.int 1)) (.cal 68 (.cons (.var 0) (.cons (.con (.int 999)) .nil)))) .nil)))) (.cal 68 (.cons (.var 0) (.cons (.con (.int 3)) .nil)))) (.rng1 (.var 1)))))
 .nil))
def D__law_sources : DefI := { id := 86, name := "_law_sources", params := L2.defArgs (top 53), body := L2.defBody (top 53), scope := L2.defScope (top 53), ps := ["_law_d"], N := ["_law_d", "_law_many", "_law_k"], fd := ⟨1, 3, b__law_sources⟩ }
def b__law_clip : Pm.Ss := (.cons (.set 3 (.cal 68 (.cons (.var 0) (.cons (.fn1 .len (.bor 1)) .nil))))
 (.cons (.set 4 (.idx (.lst (.cons (.con (.int 1)) (.cons (.con (.int 1)) (.cons (.cal 68 (.cons (.var 0) (.cons (.con (.int 10)) .nil))) (.cons (.bin .sub (.con (.int 0)) (.cal 68 (.cons (.var 0) (.cons (.con (.int 10)) .nil)))) .nil))))) (.cal 68 (.cons (.var 0) (.cons (.con (.int 4)) .nil)))))
 (.cons (.set 5 (.idx (.lst (.cons (.con (.int 1)) (.cons (.con (.int 1)) (.cons (.bin .add (.con (.int 1)) (.cal 68 (.cons (.var 0) (.cons (.con (.int 9)) .nil)))) .nil)))) (.cal 68 (.cons (.var 0) (.cons (.con (.int 3)) .nil)))))
 (.cons (.set 6 (.cal 68 (.cons (.var 0) (.cons (.var 5) .nil))))
 (.cons (.set 7 (.cal 68 (.cons (.var 0) (.cons (.idx (.bor 1) (.bor 3)) .nil))))
 (.cons (.whl (.and (.cmp .gt (.bor 2) (.con (.int 1))) (.not (.cmp2 .le .lt (.con (.int 0)) (.bin .add (.bor 7) (.bin .fdiv (.bin .add (.bor 6) (.bin .mul (.bin .sub (.bor 2) (.con (.int 1))) (.bor 4))) (.bor 5))) (.idx (.bor 1) (.bor 3)))))
 (.cons (.set 2 (.bin .fdiv (.bor 2) (.con (.int 2))))
 .nil))
 (.cons (.ret (.tup (.cons (.con (.str "clip")) (.cons (.var 3) (.cons (.var 7) (.cons (.var 4) (.cons (.var 5) (.cons (.var 6) (.cons (.var 2) .nil)))))))))
 .nil)))))))
def D__law_clip : DefI := { id := 41, name := "_law_clip", params := L2.defArgs (top 54), body := L2.defBody (top 54), scope := L2.defScope (top 54), ps := ["_law_d", "_law_sources_here", "_law_long_here"], N := ["_law_d", "_law_sources_here", "_law_long_here", "_law_source", "_law_step", "_law_of", "_law_rest", "_law_begin"], fd := ⟨3, 8, b__law_clip⟩ }
def b__law_plain : Pm.Ss := (.cons (.set 4 (.cal 68 (.cons (.var 0) (.cons (.con (.int 8)) .nil))))
 (.cons (.iff (.cmp .eq (.bor 4) (.con (.int 0)))
 (.cons (.ret (.tup (.cons (.con (.str "gap")) (.cons (.var 2) .nil))))
 .nil)
 .nil)
 (.cons (.iff (.and (.cmp .lt (.bor 4) (.con (.int 3))) (.cmp .ne (.bor 3) (.lst .nil)))
 (.cons (.set 5 (.idx (.lst (.cons (.cal 68 (.cons (.var 0) (.cons (.con (.int 9)) .nil))) (.cons (.cal 68 (.cons (.var 0) (.cons (.bin .sub (.con (.int 1501)) (.bor 2)) .nil))) .nil))) (.cal 68 (.cons (.var 0) (.cons (.con (.int 2)) .nil)))))
 (.cons (.ret (.tup (.cons (.con (.str "list")) (.cons (.idx (.bor 3) (.cal 68 (.cons (.var 0) (.cons (.fn1 .len (.bor 3)) .nil)))) (.cons (.var 5) (.cons (.var 2) .nil))))))
 .nil))
 .nil)
 (.cons (.ret (.cal 41 (.cons (.var 0) (.cons (.var 1) (.cons (.var 2) .nil)))))
 .nil))))
def D__law_plain : DefI := { id := 74, name := "_law_plain", params := L2.defArgs (top 55), body := L2.defBody (top 55), scope := L2.defScope (top 55), ps := ["_law_d", "_law_sources_here", "_law_long_here", "_law_lists"], N := ["_law_d", "_law_sources_here", "_law_long_here", "_law_lists", "_law_kind", "_law_begin"], fd := ⟨4, 6, b__law_plain⟩ }
def b__law_long : Pm.Ss := (.cons (.ret (.ite (.cmp .eq (.idx (.bor 0) (.con (.int 0))) (.con (.str "lead"))) (.idx (.idx (.bor 0) (.con (.int 1))) (.neg (.con (.int 1)))) (.idx (.bor 0) (.neg (.con (.int 1))))))
 .nil)
def D__law_long : DefI := { id := 62, name := "_law_long", params := L2.defArgs (top 56), body := L2.defBody (top 56), scope := L2.defScope (top 56), ps := ["_law_piece_here"], N := ["_law_piece_here"], fd := ⟨1, 1, b__law_long⟩ }
def b__law_piece : Pm.Ss := (.cons (.set 3 (.idx (.lst (.cons (.con (.int 40)) (.cons (.con (.int 40)) (.cons (.con (.int 40)) (.cons (.con (.int 40)) (.cons (.con (.int 40)) (.cons (.con (.int 500)) .nil))))))) (.cal 68 (.cons (.var 0) (.cons (.con (.int 6)) .nil)))))
 (.cons (.set 4 (.cal 74 (.cons (.var 0) (.cons (.var 1) (.cons (.bin .add (.con (.int 1)) (.cal 68 (.cons (.var 0) (.cons (.idx (.lst (.cons (.con (.int 9)) (.cons (.con (.int 9)) (.cons (.var 3) .nil)))) (.cal 68 (.cons (.var 0) (.cons (.con (.int 3)) .nil)))) .nil)))) (.cons (.var 2) .nil))))))
 (.cons (.iff (.cmp .gt (.cal 68 (.cons (.var 0) (.cons (.con (.int 5)) .nil))) (.con (.int 0)))
 (.cons (.ret (.var 4))
 .nil)
 .nil)
 (.cons (.set 5 (.cal 74 (.cons (.var 0) (.cons (.var 1) (.cons (.idx (.bor 4) (.neg (.con (.int 1)))) (.cons (.var 2) .nil))))))
 (.cons (.set 4 (.bin .add (.sli (.bor 4) .no (.so (.neg (.con (.int 1))))) (.tup (.cons (.idx (.bor 5) (.neg (.con (.int 1)))) .nil))))
 (.cons (.set 6 (.bin .add (.con (.int 1)) (.cal 68 (.cons (.var 0) (.cons (.con (.int 5)) .nil)))))
 (.cons (.set 7 (.fn2 .min (.con (.int 600)) (.fn2 .max (.con (.int 2)) (.bin .add (.bin .add (.bor 6) (.idx (.bor 5) (.neg (.con (.int 1))))) (.cal 68 (.cons (.var 0) (.cons (.con (.int 9)) .nil)))))))
 (.cons (.ret (.tup (.cons (.con (.str "lead")) (.cons (.var 4) (.cons (.var 5) (.cons (.var 6) (.cons (.var 7) .nil)))))))
 .nil))))))))
def D__law_piece : DefI := { id := 71, name := "_law_piece", params := L2.defArgs (top 57), body := L2.defBody (top 57), scope := L2.defScope (top 57), ps := ["_law_d", "_law_sources_here", "_law_lists"], N := ["_law_d", "_law_sources_here", "_law_lists", "_law_far", "_law_one", "_law_other", "_law_step", "_law_of"], fd := ⟨3, 8, b__law_piece⟩ }
def b__law_layer : Pm.Ss := (.cons (.iff (.and (.cmp .gt (.bor 3) (.con (.int 2))) (.cmp .eq (.cal 68 (.cons (.var 0) (.cons (.con (.int 25)) .nil))) (.con (.int 0))))
 (.cons (.ret (.fn1 .tuple (.com 4 (.cal 74 (.cons (.var 0) (.cons (.var 1) (.cons (.bin .add (.con (.int 1)) (.cal 68 (.cons (.var 0) (.cons (.con (.int 3)) .nil)))) (.cons (.var 2) .nil))))) (.rng1 (.bin .sub (.con (.int 60)) (.cal 68 (.cons (.var 0) (.cons (.con (.int 12)) .nil))))))))
 .nil)
 .nil)
 (.cons (.ret (.fn1 .tuple (.com 4 (.cal 71 (.cons (.var 0) (.cons (.var 1) (.cons (.var 2) .nil)))) (.rng1 (.cal 68 (.cons (.var 0) (.cons (.bin .add (.bor 3) (.con (.int 1))) .nil)))))))
 .nil))
def D__law_layer : DefI := { id := 58, name := "_law_layer", params := L2.defArgs (top 58), body := L2.defBody (top 58), scope := L2.defScope (top 58), ps := ["_law_d", "_law_sources_here", "_law_lists", "_law_most"], N := ["_law_d", "_law_sources_here", "_law_lists", "_law_most", "_law_k"], fd := ⟨4, 5, b__law_layer⟩ }
def b__law_film : Pm.Ss := (.cons (.set 2 (.bin .add (.con (.int 1)) (.cal 68 (.cons (.var 0) (.cons (.con (.int 5)) .nil)))))
 (.cons (.set 3 (.cal 64 (.cons (.var 0) (.cons (.fn1 .lrange (.bor 2)) .nil))))
 (.cons (.set 4 (.bin .mul (.lst (.cons (.tup .nil) .nil)) (.bor 2)))
 (.cons (.for1 5 (.rng1 (.var 2))
 (.cons (.set 6 (.bin .add (.con (.int 1)) (.cal 68 (.cons (.var 0) (.cons (.con (.int 3)) .nil)))))
 (.cons (.set 7 (.com 8 (.cal 58 (.cons (.var 0) (.cons (.var 1) (.cons (.sli (.bor 3) .no (.so (.var 5))) (.cons (.idx (.lst (.cons (.con (.int 3)) (.cons (.con (.int 7)) .nil))) (.cal 68 (.cons (.var 0) (.cons (.con (.int 2)) .nil)))) .nil))))) (.rng1 (.var 6))))
 (.cons (.sti 4 (.idx (.bor 3) (.bor 5)) (.fn1 .tuple (.bor 7)))
 .nil))))
 (.cons (.ret (.fn1 .tuple (.bor 4)))
 .nil)))))
def D__law_film : DefI := { id := 47, name := "_law_film", params := L2.defArgs (top 59), body := L2.defBody (top 59), scope := L2.defScope (top 59), ps := ["_law_d", "_law_sources_here"], N := ["_law_d", "_law_sources_here", "_law_many", "_law_order", "_law_found", "_law_place", "_law_layers", "_law_some", "_law_layer_here"], fd := ⟨2, 9, b__law_film⟩ }
def b__law_piece_shows : Pm.Ss := (.cons (.iff (.cmp .eq (.idx (.bor 1) (.con (.int 0))) (.con (.str "clip")))
 (.cons (.setT [5, 6, 7, 8, 9, 10, 11] (.var 1))
 (.cons (.ret (.tup (.cons (.var 6) (.cons (.bin .add (.bor 7) (.bin .fdiv (.bin .add (.bor 10) (.bin .mul (.bor 2) (.bor 8))) (.bor 9))) .nil))))
 .nil))
 .nil)
 (.cons (.iff (.cmp .eq (.idx (.bor 1) (.con (.int 0))) (.con (.str "list")))
 (.cons (.ret (.cal 61 (.cons (.var 0) (.cons (.idx (.bor 1) (.con (.int 1))) (.cons (.bin .add (.idx (.bor 1) (.con (.int 2))) (.bor 2)) .nil)))))
 .nil)
 .nil)
 (.cons (.iff (.cmp .eq (.idx (.bor 1) (.con (.int 0))) (.con (.str "gap")))
 (.cons (.ret (.con (.non)))
 .nil)
 .nil)
 (.cons (.par2 3 4 (.cal 72 (.cons (.var 0) (.cons (.idx (.bor 1) (.con (.int 1))) (.cons (.var 2) .nil)))) (.cal 72 (.cons (.var 0) (.cons (.idx (.bor 1) (.con (.int 2))) (.cons (.var 2) .nil)))))
 (.cons (.ret (.tup (.cons (.con (.str "lead")) (.cons (.var 3) (.cons (.var 4) (.cons (.bin .add (.idx (.bor 1) (.con (.int 3))) (.bor 2)) (.cons (.idx (.bor 1) (.con (.int 4))) .nil)))))))
 .nil)))))
def D__law_piece_shows : DefI := { id := 72, name := "_law_piece_shows", params := L2.defArgs (top 60), body := L2.defBody (top 60), scope := L2.defScope (top 60), ps := ["_law_film_here", "_law_piece_here", "_law_j"], N := ["_law_film_here", "_law_piece_here", "_law_j", "_law_one", "_law_other", "_law_word", "_law_source", "_law_begin", "_law_step", "_law_of", "_law_rest", "_law_long_here"], fd := ⟨3, 12, b__law_piece_shows⟩ }
def b__law_layer_shows : Pm.Ss := (.cons (.for1 3 (.seq (.var 1))
 (.cons (.iff (.cmp .lt (.bor 2) (.cal 62 (.cons (.var 3) .nil)))
 (.cons (.ret (.cal 72 (.cons (.var 0) (.cons (.var 3) (.cons (.var 2) .nil)))))
 .nil)
 .nil)
 (.cons (.set 2 (.bin .sub (.bor 2) (.cal 62 (.cons (.var 3) .nil))))
 .nil)))
 (.cons (.ret (.con (.non)))
 .nil))
def D__law_layer_shows : DefI := { id := 59, name := "_law_layer_shows", params := L2.defArgs (top 61), body := L2.defBody (top 61), scope := L2.defScope (top 61), ps := ["_law_film_here", "_law_layer_here", "_law_at"], N := ["_law_film_here", "_law_layer_here", "_law_at", "_law_piece_here"], fd := ⟨3, 4, b__law_layer_shows⟩ }
def b__law_list_shows : Pm.Ss := (.cons (.for1 3 (.seq (.idx (.bor 0) (.bor 1)))
 (.cons (.set 4 (.cal 59 (.cons (.var 0) (.cons (.var 3) (.cons (.var 2) .nil)))))
 (.cons (.iff (.cmp .isnn (.bor 4) (.con (.non)))
 (.cons (.ret (.var 4))
 .nil)
 .nil)
 .nil)))
 (.cons (.ret (.con (.non)))
 .nil))
def D__law_list_shows : DefI := { id := 61, name := "_law_list_shows", params := L2.defArgs (top 62), body := L2.defBody (top 62), scope := L2.defScope (top 62), ps := ["_law_film_here", "_law_number", "_law_at"], N := ["_law_film_here", "_law_number", "_law_at", "_law_layer_here", "_law_found"], fd := ⟨3, 5, b__law_list_shows⟩ }
def b__law_size : Pm.Ss := (.cons (.ret (.fn1 .sum (.com 1 (.cal 62 (.cons (.var 1) .nil)) (.seq (.var 0)))))
 .nil)
def D__law_size : DefI := { id := 84, name := "_law_size", params := L2.defArgs (top 63), body := L2.defBody (top 63), scope := L2.defScope (top 63), ps := ["_law_layer_here"], N := ["_law_layer_here", "_law_piece_here"], fd := ⟨1, 2, b__law_size⟩ }
def b__law_all : Pm.Ss := (.cons (.ret (.com 3 (.cal 59 (.cons (.var 0) (.cons (.var 1) (.cons (.var 3) .nil)))) (.rng1 (.fn2 .min (.var 2) (.cal 84 (.cons (.var 1) .nil))))))
 .nil)
def D__law_all : DefI := { id := 27, name := "_law_all", params := L2.defArgs (top 64), body := L2.defBody (top 64), scope := L2.defScope (top 64), ps := ["_law_film_here", "_law_layer_here", "_law_most"], N := ["_law_film_here", "_law_layer_here", "_law_most", "_law_at"], fd := ⟨3, 4, b__law_all⟩ }
def b__law_cases : Pm.Ss := (.cons (.set 1 (.cal 86 (.cons (.var 0) .nil)))
 (.cons (.set 2 (.cal 47 (.cons (.var 0) (.cons (.var 1) .nil))))
 (.cons (.set 3 (.cal 68 (.cons (.var 0) (.cons (.fn1 .len (.bor 2)) .nil))))
 (.cons (.ret (.tup (.cons (.var 1) (.cons (.var 2) (.cons (.new 0 6 (.cons (.var 1) (.cons (.var 2) .nil))) (.cons (.var 3) (.cons (.cal 68 (.cons (.var 0) (.cons (.fn1 .len (.idx (.bor 2) (.bor 3))) .nil))) .nil)))))))
 .nil))))
def D__law_cases : DefI := { id := 37, name := "_law_cases", params := L2.defArgs (top 65), body := L2.defBody (top 65), scope := L2.defScope (top 65), ps := ["_law_d"], N := ["_law_d", "_law_sources_here", "_law_film_here", "_law_number"], fd := ⟨1, 4, b__law_cases⟩ }
def b__law_free : Pm.Ss := (.cons (.set 2 (.comf 4 (.var 4) (.rng1 (.fn1 .len (.bor 0))) (.cmp .ne (.bor 4) (.bor 1))))
 (.cons (.for1 3 (.rng1 (.fn1 .len (.bor 0)))
 (.cons (.set 2 (.comf 4 (.var 4) (.seq (.var 2)) (.cmp .eq (.comf 5 (.var 5) (.seq (.cal 82 (.cons (.var 0) (.cons (.var 4) .nil)))) (.cmp .nmem (.bor 5) (.bor 2))) (.lst .nil))))
 .nil))
 (.cons (.ret (.var 2))
 .nil)))
def D__law_free : DefI := { id := 49, name := "_law_free", params := L2.defArgs (top 66), body := L2.defBody (top 66), scope := L2.defScope (top 66), ps := ["_law_film_here", "_law_number"], N := ["_law_film_here", "_law_number", "_law_found", "_law_turn", "_law_one", "_law_k"], fd := ⟨2, 6, b__law_free⟩ }
def b__law_shows : Pm.Ss := (.cons (.set 2 (.lst .nil))
 (.cons (.for1 3 (.seq (.idx (.bor 0) (.bor 1)))
 (.cons (.for1 4 (.seq (.var 3))
 (.cons (.set 5 (.ite (.cmp .eq (.idx (.bor 4) (.con (.int 0))) (.con (.str "lead"))) (.sli (.bor 4) (.so (.con (.int 1))) (.so (.con (.int 3)))) (.tup (.cons (.var 4) .nil))))
 (.cons (.ext 2 (.comf 6 (.idx (.bor 6) (.con (.int 1))) (.seq (.var 5)) (.cmp .eq (.idx (.bor 6) (.con (.int 0))) (.con (.str "list")))))
 .nil)))
 .nil))
 (.cons (.ret (.var 2))
 .nil)))
def D__law_shows : DefI := { id := 82, name := "_law_shows", params := L2.defArgs (top 67), body := L2.defBody (top 67), scope := L2.defScope (top 67), ps := ["_law_film_here", "_law_number"], N := ["_law_film_here", "_law_number", "_law_found", "_law_layer_here", "_law_piece_here", "_law_some", "_law_one"], fd := ⟨2, 7, b__law_shows⟩ }
def b__law_others_stay : Pm.Ss := (.cons (.iff (.cmp .ne (.fn1 .len (.bor 0)) (.fn1 .len (.bor 1)))
 (.cons (.ret (.con (.bl false)))
 .nil)
 .nil)
 (.cons (.for1 4 (.rng1 (.fn1 .len (.bor 1)))
 (.cons (.for1 5 (.rng1 (.fn1 .len (.idx (.bor 1) (.bor 4))))
 (.cons (.iff (.and (.cmp .ne (.tup (.cons (.var 4) (.cons (.var 5) .nil))) (.tup (.cons (.var 2) (.cons (.var 3) .nil)))) (.cmp .ne (.idx (.idx (.bor 0) (.bor 4)) (.bor 5)) (.idx (.idx (.bor 1) (.bor 4)) (.bor 5))))
 (.cons (.ret (.con (.bl false)))
 .nil)
 .nil)
 .nil))
 .nil))
 (.cons (.ret (.cmp .eq (.com 6 (.fn1 .len (.bor 6)) (.seq (.var 0))) (.com 6 (.fn1 .len (.bor 6)) (.seq (.var 1)))))
 .nil)))
def D__law_others_stay : DefI := { id := 70, name := "_law_others_stay", params := L2.defArgs (top 68), body := L2.defBody (top 68), scope := L2.defScope (top 68), ps := ["_law_now", "_law_film_here", "_law_number", "_law_layer_here"], N := ["_law_now", "_law_film_here", "_law_number", "_law_layer_here", "_law_k", "_law_j", "_law_layers"], fd := ⟨4, 7, b__law_others_stay⟩ }
def b_law : Pm.Ss := (.cons (.set 1 (.prom (.cal 43 (.cons (.var 0) (.cons (.con (.int 0)) .nil)))))
 (.cons (.for1 2 (.rng1 (.con (.int 2)))
 (.cons (.setT [5, 6, 7, 8, 9] (.cal 37 (.cons (.var 1) .nil)))
 (.cons (.set 3 (.cal 49 (.cons (.var 6) (.cons (.var 8) .nil))))
 (.cons (.for1 4 (.rng1 (.con (.int 3)))
 (.cons (.set 10 (.met "shown" (.var 7) .nil))
 (.cons (.set 11 (.idx (.idx (.bor 10) (.bor 8)) (.bor 9)))
 (.cons (.set 12 (.cal 27 (.cons (.var 10) (.cons (.var 11) (.cons (.con (.int 3000)) .nil)))))
 (.cons (.set 13 (.cal 68 (.cons (.var 1) (.cons (.bin .add (.fn1 .len (.bor 12)) (.con (.int 1))) .nil))))
 (.cons (.iff (.or (.cmp .gt (.fn1 .len (.bor 11)) (.con (.int 57))) (.cmp .gt (.cal 84 (.cons (.var 11) .nil)) (.con (.int 2500))))
 (.cons (.ret (.con (.bl true)))
 .nil)
 .nil)
 (.cons (.iff (.cmp .eq (.cal 68 (.cons (.var 1) (.cons (.con (.int 2)) .nil))) (.con (.int 0)))
 (.cons (.set 15 (.cal 71 (.cons (.var 1) (.cons (.var 5) (.cons (.var 3) .nil)))))
 (.cons (.set 16 (.com 19 (.cal 72 (.cons (.var 10) (.cons (.var 15) (.cons (.var 19) .nil)))) (.rng1 (.cal 62 (.cons (.var 15) .nil)))))
 (.cons (.set 17 (.bin .add (.bin .add (.sli (.bor 12) .no (.so (.var 13))) (.bor 16)) (.sli (.bor 12) (.so (.var 13)) .no)))
 (.cons (.iff (.or (.cmp .gt (.fn1 .len (.bor 11)) (.con (.int 57))) (.cmp .gt (.fn1 .len (.bor 17)) (.con (.int 2500))))
 (.cons (.ret (.con (.bl true)))
 .nil)
 .nil)
 (.cons (.iff (.cmp .isnn (.met "put" (.var 7) (.cons (.var 8) (.cons (.var 9) (.cons (.var 13) (.cons (.var 15) .nil))))) (.con (.non)))
 (.cons (.ret (.con (.bl false)))
 .nil)
 .nil)
 .nil)))))
 (.cons (.set 18 (.bin .add (.bor 13) (.cal 68 (.cons (.var 1) (.cons (.bin .add (.bin .sub (.fn1 .len (.bor 12)) (.bor 13)) (.con (.int 1))) .nil)))))
 (.cons (.set 17 (.bin .add (.sli (.bor 12) .no (.so (.var 13))) (.sli (.bor 12) (.so (.var 18)) .no)))
 (.cons (.iff (.cmp .isnn (.met "cut" (.var 7) (.cons (.var 8) (.cons (.var 9) (.cons (.var 13) (.cons (.var 18) .nil))))) (.con (.non)))
 (.cons (.ret (.con (.bl false)))
 .nil)
 .nil)
 .nil))))
 (.cons (.set 14 (.met "shown" (.var 7) .nil))
 (.cons (.iff (.not (.cal 26 (.cons (.cal 27 (.cons (.var 14) (.cons (.idx (.idx (.bor 14) (.bor 8)) (.bor 9)) (.cons (.con (.int 5000)) .nil)))) (.cons (.var 17) .nil))))
 (.cons (.ret (.con (.bl false)))
 .nil)
 .nil)
 (.cons (.iff (.not (.cal 70 (.cons (.var 14) (.cons (.var 6) (.cons (.var 8) (.cons (.var 9) .nil))))))
 (.cons (.ret (.con (.bl false)))
 .nil)
 .nil)
 .nil))))))))))
 .nil))))
 (.cons (.ret (.con (.bl true)))
 .nil)))
def D_law : DefI := { id := 109, name := "law", params := L2.defArgs (top 69), body := L2.defBody (top 69), scope := L2.defScope (top 69), ps := ["_law_script"], N := ["_law_script", "_law_d", "_law_turn", "_law_free_here", "_law_edit", "_law_sources_here", "_law_film_here", "_law_editor", "_law_number", "_law_layer_here", "_law_ahead", "_law_row", "_law_shown", "_law_at", "_law_now", "_law_piece_here", "_law_more", "_law_due", "_law_end", "_law_j"], fd := ⟨1, 20, b_law⟩ }
def b_Editor___init__ : Pm.Ss := (.cons (.ex (.cal 121 (.cons (.var 1) (.cons (.var 2) .nil))))
 (.cons (.stf 0 "sources" (.var 1))
 (.cons (.stf 0 "film" (.var 2))
 (.cons (.stf 0 "ahead" (.lst .nil))
 (.cons (.stf 0 "undone" (.lst .nil))
 .nil)))))
def D_Editor___init__ : DefI := { id := 6, name := "__init__", params := L2.defArgs (L2.inClass (top 47) 0), body := L2.defBody (L2.inClass (top 47) 0), scope := L2.defScope (L2.inClass (top 47) 0), ps := ["self", "sources", "film"], N := ["self", "sources", "film"], fd := ⟨3, 3, b_Editor___init__⟩, own := some "Editor", qual := "Editor.__init__" }
def b_Editor_shown : Pm.Ss := (.cons (.ret (.fld (.var 0) "film"))
 .nil)
def D_Editor_shown : DefI := { id := 20, name := "shown", params := L2.defArgs (L2.inClass (top 47) 1), body := L2.defBody (L2.inClass (top 47) 1), scope := L2.defScope (L2.inClass (top 47) 1), ps := ["self"], N := ["self"], fd := ⟨1, 1, b_Editor_shown⟩, own := some "Editor", qual := "Editor.shown" }
def b_Editor_layer_of : Pm.Ss := (.cons (.ex (.cal 124 (.cons (.fld (.var 0) "film") (.cons (.var 1) .nil))))
 (.cons (.iff (.not (.cal 102 (.cons (.var 2) (.cons (.con (.int 0)) (.cons (.bin .sub (.fn1 .len (.idx (.fld (.var 0) "film") (.bor 1))) (.con (.int 1))) .nil)))))
 (.cons .nev
 .nil)
 .nil)
 (.cons (.ret (.idx (.idx (.fld (.var 0) "film") (.bor 1)) (.bor 2)))
 .nil)))
def D_Editor_layer_of : DefI := { id := 12, name := "layer_of", params := L2.defArgs (L2.inClass (top 47) 2), body := L2.defBody (L2.inClass (top 47) 2), scope := L2.defScope (L2.inClass (top 47) 2), ps := ["self", "number", "layer"], N := ["self", "number", "layer"], fd := ⟨3, 3, b_Editor_layer_of⟩, own := some "Editor", qual := "Editor.layer_of" }
def b_Editor_need_frames : Pm.Ss := (.cons (.iff (.or (.not (.cal 102 (.cons (.var 2) (.cons (.con (.int 0)) (.cons (.cal 141 (.cons (.var 1) .nil)) .nil))))) (.not (.cal 102 (.cons (.var 3) (.cons (.var 2) (.cons (.cal 141 (.cons (.var 1) .nil)) .nil))))))
 (.cons .nev
 .nil)
 .nil)
 .nil)
def D_Editor_need_frames : DefI := { id := 15, name := "need_frames", params := L2.defArgs (L2.inClass (top 47) 3), body := L2.defBody (L2.inClass (top 47) 3), scope := L2.defScope (L2.inClass (top 47) 3), ps := ["self", "row", "begin", "end"], N := ["self", "row", "begin", "end"], fd := ⟨4, 4, b_Editor_need_frames⟩, own := some "Editor", qual := "Editor.need_frames" }
def b_Editor_need_piece : Pm.Ss := (.cons (.iff (.not (.cal 107 (.cons (.var 1) (.cons (.fld (.var 0) "sources") (.cons (.fn1 .len (.fld (.var 0) "film")) .nil)))))
 (.cons .nev
 .nil)
 .nil)
 .nil)
def D_Editor_need_piece : DefI := { id := 17, name := "need_piece", params := L2.defArgs (L2.inClass (top 47) 4), body := L2.defBody (L2.inClass (top 47) 4), scope := L2.defScope (L2.inClass (top 47) 4), ps := ["self", "piece"], N := ["self", "piece"], fd := ⟨2, 2, b_Editor_need_piece⟩, own := some "Editor", qual := "Editor.need_piece" }
def b_Editor_take : Pm.Ss := (.cons (.iff (.cmp .gt (.fn1 .len (.bor 3)) (.glo "MOST_PIECES" (.int 60)))
 (.cons .nev
 .nil)
 .nil)
 (.cons (.set 4 (.bin .add (.bin .add (.sli (.idx (.fld (.var 0) "film") (.bor 1)) .no (.so (.var 2))) (.tup (.cons (.var 3) .nil))) (.sli (.idx (.fld (.var 0) "film") (.bor 1)) (.so (.bin .add (.bor 2) (.con (.int 1)))) .no)))
 (.cons (.set 5 (.bin .add (.bin .add (.sli (.fld (.var 0) "film") .no (.so (.var 1))) (.tup (.cons (.var 4) .nil))) (.sli (.fld (.var 0) "film") (.so (.bin .add (.bor 1) (.con (.int 1)))) .no)))
 (.cons (.ex (.cal 125 (.cons (.var 5) .nil)))
 (.cons (.appF 0 "ahead" (.fld (.var 0) "film"))
 (.cons (.stf 0 "undone" (.lst .nil))
 (.cons (.stf 0 "film" (.var 5))
 .nil)))))))
def D_Editor_take : DefI := { id := 23, name := "take", params := L2.defArgs (L2.inClass (top 47) 5), body := L2.defBody (L2.inClass (top 47) 5), scope := L2.defScope (L2.inClass (top 47) 5), ps := ["self", "number", "layer", "row"], N := ["self", "number", "layer", "row", "layers", "film"], fd := ⟨4, 6, b_Editor_take⟩, own := some "Editor", qual := "Editor.take" }
def b_Editor_put : Pm.Ss := (.cons (.set 5 (.met "layer_of" (.var 0) (.cons (.var 1) (.cons (.var 2) .nil))))
 (.cons (.ex (.met "need_frames" (.var 0) (.cons (.var 5) (.cons (.var 3) (.cons (.var 3) .nil)))))
 (.cons (.ex (.met "need_piece" (.var 0) (.cons (.var 4) .nil)))
 (.cons (.ex (.met "take" (.var 0) (.cons (.var 1) (.cons (.var 2) (.cons (.cal 134 (.cons (.var 5) (.cons (.var 3) (.cons (.var 3) (.cons (.tup (.cons (.var 4) .nil)) .nil))))) .nil)))))
 .nil))))
def D_Editor_put : DefI := { id := 18, name := "put", params := L2.defArgs (L2.inClass (top 47) 6), body := L2.defBody (L2.inClass (top 47) 6), scope := L2.defScope (L2.inClass (top 47) 6), ps := ["self", "number", "layer", "at", "piece"], N := ["self", "number", "layer", "at", "piece", "row"], fd := ⟨5, 6, b_Editor_put⟩, own := some "Editor", qual := "Editor.put" }
def b_Editor_lay : Pm.Ss := (.cons (.ex (.cal 93 (.cons (.con (.int 0)) .nil)))
 .nil)
def D_Editor_lay : DefI := { id := 11, name := "lay", params := L2.defArgs (L2.inClass (top 47) 7), body := L2.defBody (L2.inClass (top 47) 7), scope := L2.defScope (L2.inClass (top 47) 7), ps := ["self", "number", "layer", "at", "piece"], N := ["self", "number", "layer", "at", "piece"], fd := ⟨5, 5, b_Editor_lay⟩, own := some "Editor", qual := "Editor.lay" }
def b_Editor_cut : Pm.Ss := (.cons (.set 5 (.met "layer_of" (.var 0) (.cons (.var 1) (.cons (.var 2) .nil))))
 (.cons (.ex (.met "need_frames" (.var 0) (.cons (.var 5) (.cons (.var 3) (.cons (.var 4) .nil)))))
 (.cons (.ex (.met "take" (.var 0) (.cons (.var 1) (.cons (.var 2) (.cons (.cal 134 (.cons (.var 5) (.cons (.var 3) (.cons (.var 4) (.cons (.tup .nil) .nil))))) .nil)))))
 .nil)))
def D_Editor_cut : DefI := { id := 8, name := "cut", params := L2.defArgs (L2.inClass (top 47) 8), body := L2.defBody (L2.inClass (top 47) 8), scope := L2.defScope (L2.inClass (top 47) 8), ps := ["self", "number", "layer", "begin", "end"], N := ["self", "number", "layer", "begin", "end", "row"], fd := ⟨5, 6, b_Editor_cut⟩, own := some "Editor", qual := "Editor.cut" }
def b_Editor_lift : Pm.Ss := (.cons (.ex (.cal 93 (.cons (.con (.int 1)) .nil)))
 .nil)
def D_Editor_lift : DefI := { id := 14, name := "lift", params := L2.defArgs (L2.inClass (top 47) 9), body := L2.defBody (L2.inClass (top 47) 9), scope := L2.defScope (L2.inClass (top 47) 9), ps := ["self", "number", "layer", "begin", "end"], N := ["self", "number", "layer", "begin", "end"], fd := ⟨5, 5, b_Editor_lift⟩, own := some "Editor", qual := "Editor.lift" }
def b_Editor_slip : Pm.Ss := (.cons (.ex (.cal 93 (.cons (.con (.int 2)) .nil)))
 .nil)
def D_Editor_slip : DefI := { id := 21, name := "slip", params := L2.defArgs (L2.inClass (top 47) 10), body := L2.defBody (L2.inClass (top 47) 10), scope := L2.defScope (L2.inClass (top 47) 10), ps := ["self", "number", "layer", "at", "by"], N := ["self", "number", "layer", "at", "by"], fd := ⟨5, 5, b_Editor_slip⟩, own := some "Editor", qual := "Editor.slip" }
def b_Editor_edge : Pm.Ss := (.cons (.setT [3, 4] (.cal 133 (.cons (.var 1) (.cons (.var 2) .nil))))
 (.cons (.iff (.or (.cmp .ne (.bor 4) (.bor 2)) (.or (.cmp .eq (.bor 3) (.con (.int 0))) (.or (.cmp .eq (.bor 3) (.fn1 .len (.bor 1))) (.cmp .mem (.glo "LEAD" (.str "lead")) (.tup (.cons (.idx (.idx (.bor 1) (.bor 3)) (.con (.int 0))) (.cons (.idx (.idx (.bor 1) (.bin .sub (.bor 3) (.con (.int 1)))) (.con (.int 0))) .nil)))))))
 (.cons .nev
 .nil)
 .nil)
 (.cons (.ret (.var 3))
 .nil)))
def D_Editor_edge : DefI := { id := 9, name := "edge", params := L2.defArgs (L2.inClass (top 47) 11), body := L2.defBody (L2.inClass (top 47) 11), scope := L2.defScope (L2.inClass (top 47) 11), ps := ["self", "row", "at"], N := ["self", "row", "at", "place", "here"], fd := ⟨3, 5, b_Editor_edge⟩, own := some "Editor", qual := "Editor.edge" }
def b_Editor_need_part : Pm.Ss := (.cons (.iff (.cmp .le (.bor 3) (.bor 2))
 (.cons .nev
 .nil)
 .nil)
 (.cons (.set 4 (.cal 130 (.cons (.var 1) (.cons (.var 2) (.cons (.var 3) .nil)))))
 (.cons (.iff (.not (.cal 107 (.cons (.var 4) (.cons (.fld (.var 0) "sources") (.cons (.fn1 .len (.fld (.var 0) "film")) .nil)))))
 (.cons .nev
 .nil)
 .nil)
 (.cons (.ret (.var 4))
 .nil))))
def D_Editor_need_part : DefI := { id := 16, name := "need_part", params := L2.defArgs (L2.inClass (top 47) 12), body := L2.defBody (L2.inClass (top 47) 12), scope := L2.defScope (L2.inClass (top 47) 12), ps := ["self", "piece", "begin", "end"], N := ["self", "piece", "begin", "end", "found"], fd := ⟨4, 5, b_Editor_need_part⟩, own := some "Editor", qual := "Editor.need_part" }
def b_Editor_roll : Pm.Ss := (.cons (.ex (.cal 93 (.cons (.con (.int 3)) .nil)))
 .nil)
def D_Editor_roll : DefI := { id := 19, name := "roll", params := L2.defArgs (L2.inClass (top 47) 13), body := L2.defBody (L2.inClass (top 47) 13), scope := L2.defScope (L2.inClass (top 47) 13), ps := ["self", "number", "layer", "at", "by"], N := ["self", "number", "layer", "at", "by"], fd := ⟨5, 5, b_Editor_roll⟩, own := some "Editor", qual := "Editor.roll" }
def b_Editor_lead : Pm.Ss := (.cons (.set 5 (.met "layer_of" (.var 0) (.cons (.var 1) (.cons (.var 2) .nil))))
 (.cons (.ex (.met "need_frames" (.var 0) (.cons (.var 5) (.cons (.var 3) (.cons (.var 3) .nil)))))
 (.cons (.set 6 (.met "edge" (.var 0) (.cons (.var 5) (.cons (.var 3) .nil))))
 (.cons (.set 7 (.idx (.bor 5) (.bin .sub (.bor 6) (.con (.int 1)))))
 (.cons (.iff (.or (.not (.cal 102 (.cons (.var 4) (.cons (.con (.int 1)) (.cons (.bin .sub (.glo "MOST_OF" (.int 600)) (.con (.int 1))) .nil))))) (.cmp .ge (.bor 4) (.cal 115 (.cons (.var 7) .nil))))
 (.cons .nev
 .nil)
 .nil)
 (.cons (.set 8 (.cal 130 (.cons (.var 7) (.cons (.bin .sub (.cal 115 (.cons (.var 7) .nil)) (.bor 4)) (.cons (.cal 115 (.cons (.var 7) .nil)) .nil)))))
 (.cons (.set 9 (.met "need_part" (.var 0) (.cons (.idx (.bor 5) (.bor 6)) (.cons (.bin .sub (.con (.int 0)) (.bor 4)) (.cons (.con (.int 0)) .nil)))))
 (.cons (.set 10 (.tup (.cons (.cal 130 (.cons (.var 7) (.cons (.con (.int 0)) (.cons (.bin .sub (.cal 115 (.cons (.var 7) .nil)) (.bor 4)) .nil)))) (.cons (.tup (.cons (.glo "LEAD" (.str "lead")) (.cons (.var 8) (.cons (.var 9) (.cons (.con (.int 1)) (.cons (.bin .add (.bor 4) (.con (.int 1))) .nil)))))) .nil))))
 (.cons (.ex (.met "take" (.var 0) (.cons (.var 1) (.cons (.var 2) (.cons (.bin .add (.bin .add (.sli (.bor 5) .no (.so (.bin .sub (.bor 6) (.con (.int 1))))) (.bor 10)) (.sli (.bor 5) (.so (.var 6)) .no)) .nil)))))
 .nil)))))))))
def D_Editor_lead : DefI := { id := 13, name := "lead", params := L2.defArgs (L2.inClass (top 47) 14), body := L2.defBody (L2.inClass (top 47) 14), scope := L2.defScope (L2.inClass (top 47) 14), ps := ["self", "number", "layer", "at", "many"], N := ["self", "number", "layer", "at", "many", "row", "place", "left", "one", "other", "some"], fd := ⟨5, 11, b_Editor_lead⟩, own := some "Editor", qual := "Editor.lead" }
def b_Editor_tidy : Pm.Ss := (.cons (.ex (.cal 93 (.cons (.con (.int 4)) .nil)))
 .nil)
def D_Editor_tidy : DefI := { id := 24, name := "tidy", params := L2.defArgs (L2.inClass (top 47) 15), body := L2.defBody (L2.inClass (top 47) 15), scope := L2.defScope (L2.inClass (top 47) 15), ps := ["self", "number", "layer"], N := ["self", "number", "layer"], fd := ⟨3, 3, b_Editor_tidy⟩, own := some "Editor", qual := "Editor.tidy" }
def b_Editor_back : Pm.Ss := (.cons (.iff (.fln 0 "ahead")
 (.cons (.ret (.con (.bl false)))
 .nil)
 .nil)
 (.cons (.appF 0 "undone" (.fld (.var 0) "film"))
 (.cons (.stf 0 "film" (.popF 0 "ahead"))
 (.cons (.ret (.con (.bl true)))
 .nil))))
def D_Editor_back : DefI := { id := 7, name := "back", params := L2.defArgs (L2.inClass (top 47) 16), body := L2.defBody (L2.inClass (top 47) 16), scope := L2.defScope (L2.inClass (top 47) 16), ps := ["self"], N := ["self"], fd := ⟨1, 1, b_Editor_back⟩, own := some "Editor", qual := "Editor.back" }
def b_Editor_forth : Pm.Ss := (.cons (.ex (.cal 93 (.cons (.con (.int 5)) .nil)))
 .nil)
def D_Editor_forth : DefI := { id := 10, name := "forth", params := L2.defArgs (L2.inClass (top 47) 17), body := L2.defBody (L2.inClass (top 47) 17), scope := L2.defScope (L2.inClass (top 47) 17), ps := ["self"], N := ["self"], fd := ⟨1, 1, b_Editor_forth⟩, own := some "Editor", qual := "Editor.forth" }
def b_Editor_stretch : Pm.Ss := (.cons (.set 5 (.met "layer_of" (.var 0) (.cons (.var 1) (.cons (.var 2) .nil))))
 (.cons (.ex (.met "need_frames" (.var 0) (.cons (.var 5) (.cons (.var 3) (.cons (.var 4) .nil)))))
 (.cons (.ret (.cal 139 (.cons (.var 5) (.cons (.var 3) (.cons (.var 4) .nil)))))
 .nil)))
def D_Editor_stretch : DefI := { id := 22, name := "stretch", params := L2.defArgs (L2.inClass (top 47) 18), body := L2.defBody (L2.inClass (top 47) 18), scope := L2.defScope (L2.inClass (top 47) 18), ps := ["self", "number", "layer", "begin", "end"], N := ["self", "number", "layer", "begin", "end", "row"], fd := ⟨5, 6, b_Editor_stretch⟩, own := some "Editor", qual := "Editor.stretch" }
def defs : List DefI := [D__wall, D_is_between, D_need_sources, D_source_frame, D_is_clip, D_is_lead, D_is_piece, D_long_of, D_part_of, D_lists_in, D_total, D_stretch_of, D_put_in, D_place_at, D_need_shape, D_need_layer, D_shown_in, D_ring_from, D_need_no_ring, D_need_film, D_need_list, D__law_dice, D__law_off, D__law_alike, D__law_mixed, D__law_sources, D__law_clip, D__law_plain, D__law_long, D__law_piece, D__law_layer, D__law_film, D__law_piece_shows, D__law_layer_shows, D__law_list_shows, D__law_size, D__law_all, D__law_cases, D__law_free, D__law_shows, D__law_others_stay, D_law, D_Editor___init__, D_Editor_shown, D_Editor_layer_of, D_Editor_need_frames, D_Editor_need_piece, D_Editor_take, D_Editor_put, D_Editor_lay, D_Editor_cut, D_Editor_lift, D_Editor_slip, D_Editor_edge, D_Editor_need_part, D_Editor_roll, D_Editor_lead, D_Editor_tidy, D_Editor_back, D_Editor_forth, D_Editor_stretch]
def glo : List (Str × Pm.D) := [("MOST_SOURCES", .int 6), ("MOST_FRAMES", .int 999), ("MOST_STEP", .int 9), ("MOST_LONG", .int 500), ("MOST_LISTS", .int 5), ("MOST_OF", .int 600), ("MOST_END", .int 1500), ("CLIP", .str "clip"), ("GAP", .str "gap"), ("LIST", .str "list"), ("LEAD", .str "lead"), ("MOST_PIECES", .int 60), ("MOST_LAYERS", .int 3)]
def cl : Option ClsI := some { id := 0, name := "Editor", mths := [("shown", 20), ("layer_of", 12), ("need_frames", 15), ("need_piece", 17), ("take", 23), ("put", 18), ("lay", 11), ("cut", 8), ("lift", 14), ("slip", 21), ("edge", 9), ("need_part", 16), ("roll", 19), ("lead", 13), ("tidy", 24), ("back", 7), ("forth", 10), ("stretch", 22)], flds := ["sources", "film", "ahead", "undone"], ini := 6 }
abbrev T : Nat → Option Fd := tabOf defs
def cf : Cf := cfOf cl
theorem call__wall {n : Nat} : callN T cf (n + 1) 93 = runF (callN T cf n) cf ⟨1, 1, b__wall⟩ := rfl
theorem call_is_between {n : Nat} : callN T cf (n + 1) 102 = runF (callN T cf n) cf ⟨3, 3, b_is_between⟩ := rfl
theorem call_need_sources {n : Nat} : callN T cf (n + 1) 127 = runF (callN T cf n) cf ⟨1, 3, b_need_sources⟩ := rfl
theorem call_source_frame {n : Nat} : callN T cf (n + 1) 138 = runF (callN T cf n) cf ⟨2, 9, b_source_frame⟩ := rfl
theorem call_is_clip {n : Nat} : callN T cf (n + 1) 104 = runF (callN T cf n) cf ⟨2, 3, b_is_clip⟩ := rfl
theorem call_is_lead {n : Nat} : callN T cf (n + 1) 106 = runF (callN T cf n) cf ⟨3, 7, b_is_lead⟩ := rfl
theorem call_is_piece {n : Nat} : callN T cf (n + 1) 107 = runF (callN T cf n) cf ⟨3, 3, b_is_piece⟩ := rfl
theorem call_long_of {n : Nat} : callN T cf (n + 1) 115 = runF (callN T cf n) cf ⟨1, 1, b_long_of⟩ := rfl
theorem call_part_of {n : Nat} : callN T cf (n + 1) 130 = runF (callN T cf n) cf ⟨3, 11, b_part_of⟩ := rfl
theorem call_lists_in {n : Nat} : callN T cf (n + 1) 113 = runF (callN T cf n) cf ⟨1, 1, b_lists_in⟩ := rfl
theorem call_total {n : Nat} : callN T cf (n + 1) 141 = runF (callN T cf n) cf ⟨1, 2, b_total⟩ := rfl
theorem call_stretch_of {n : Nat} : callN T cf (n + 1) 139 = runF (callN T cf n) cf ⟨3, 8, b_stretch_of⟩ := rfl
theorem call_put_in {n : Nat} : callN T cf (n + 1) 134 = runF (callN T cf n) cf ⟨4, 4, b_put_in⟩ := rfl
theorem call_place_at {n : Nat} : callN T cf (n + 1) 133 = runF (callN T cf n) cf ⟨2, 5, b_place_at⟩ := rfl
theorem call_need_shape {n : Nat} : callN T cf (n + 1) 126 = runF (callN T cf n) cf ⟨1, 3, b_need_shape⟩ := rfl
theorem call_need_layer {n : Nat} : callN T cf (n + 1) 123 = runF (callN T cf n) cf ⟨4, 6, b_need_layer⟩ := rfl
theorem call_shown_in {n : Nat} : callN T cf (n + 1) 137 = runF (callN T cf n) cf ⟨2, 5, b_shown_in⟩ := rfl
theorem call_ring_from {n : Nat} : callN T cf (n + 1) 136 = runF (callN T cf n) cf ⟨2, 7, b_ring_from⟩ := rfl
theorem call_need_no_ring {n : Nat} : callN T cf (n + 1) 125 = runF (callN T cf n) cf ⟨1, 4, b_need_no_ring⟩ := rfl
theorem call_need_film {n : Nat} : callN T cf (n + 1) 121 = runF (callN T cf n) cf ⟨2, 6, b_need_film⟩ := rfl
theorem call_need_list {n : Nat} : callN T cf (n + 1) 124 = runF (callN T cf n) cf ⟨2, 2, b_need_list⟩ := rfl
theorem call__law_dice {n : Nat} : callN T cf (n + 1) 43 = runF (callN T cf n) cf ⟨2, 4, b__law_dice⟩ := rfl
theorem call__law_off {n : Nat} : callN T cf (n + 1) 68 = runF (callN T cf n) cf ⟨2, 3, b__law_off⟩ := rfl
theorem call__law_alike {n : Nat} : callN T cf (n + 1) 26 = runF (callN T cf n) cf ⟨2, 3, b__law_alike⟩ := rfl
theorem call__law_mixed {n : Nat} : callN T cf (n + 1) 64 = runF (callN T cf n) cf ⟨2, 4, b__law_mixed⟩ := rfl
theorem call__law_sources {n : Nat} : callN T cf (n + 1) 86 = runF (callN T cf n) cf ⟨1, 3, b__law_sources⟩ := rfl
theorem call__law_clip {n : Nat} : callN T cf (n + 1) 41 = runF (callN T cf n) cf ⟨3, 8, b__law_clip⟩ := rfl
theorem call__law_plain {n : Nat} : callN T cf (n + 1) 74 = runF (callN T cf n) cf ⟨4, 6, b__law_plain⟩ := rfl
theorem call__law_long {n : Nat} : callN T cf (n + 1) 62 = runF (callN T cf n) cf ⟨1, 1, b__law_long⟩ := rfl
theorem call__law_piece {n : Nat} : callN T cf (n + 1) 71 = runF (callN T cf n) cf ⟨3, 8, b__law_piece⟩ := rfl
theorem call__law_layer {n : Nat} : callN T cf (n + 1) 58 = runF (callN T cf n) cf ⟨4, 5, b__law_layer⟩ := rfl
theorem call__law_film {n : Nat} : callN T cf (n + 1) 47 = runF (callN T cf n) cf ⟨2, 9, b__law_film⟩ := rfl
theorem call__law_piece_shows {n : Nat} : callN T cf (n + 1) 72 = runF (callN T cf n) cf ⟨3, 12, b__law_piece_shows⟩ := rfl
theorem call__law_layer_shows {n : Nat} : callN T cf (n + 1) 59 = runF (callN T cf n) cf ⟨3, 4, b__law_layer_shows⟩ := rfl
theorem call__law_list_shows {n : Nat} : callN T cf (n + 1) 61 = runF (callN T cf n) cf ⟨3, 5, b__law_list_shows⟩ := rfl
theorem call__law_size {n : Nat} : callN T cf (n + 1) 84 = runF (callN T cf n) cf ⟨1, 2, b__law_size⟩ := rfl
theorem call__law_all {n : Nat} : callN T cf (n + 1) 27 = runF (callN T cf n) cf ⟨3, 4, b__law_all⟩ := rfl
theorem call__law_cases {n : Nat} : callN T cf (n + 1) 37 = runF (callN T cf n) cf ⟨1, 4, b__law_cases⟩ := rfl
theorem call__law_free {n : Nat} : callN T cf (n + 1) 49 = runF (callN T cf n) cf ⟨2, 6, b__law_free⟩ := rfl
theorem call__law_shows {n : Nat} : callN T cf (n + 1) 82 = runF (callN T cf n) cf ⟨2, 7, b__law_shows⟩ := rfl
theorem call__law_others_stay {n : Nat} : callN T cf (n + 1) 70 = runF (callN T cf n) cf ⟨4, 7, b__law_others_stay⟩ := rfl
theorem call_law {n : Nat} : callN T cf (n + 1) 109 = runF (callN T cf n) cf ⟨1, 20, b_law⟩ := rfl
theorem call_Editor___init__ {n : Nat} : callN T cf (n + 1) 6 = runF (callN T cf n) cf ⟨3, 3, b_Editor___init__⟩ := rfl
theorem call_Editor_shown {n : Nat} : callN T cf (n + 1) 20 = runF (callN T cf n) cf ⟨1, 1, b_Editor_shown⟩ := rfl
theorem call_Editor_layer_of {n : Nat} : callN T cf (n + 1) 12 = runF (callN T cf n) cf ⟨3, 3, b_Editor_layer_of⟩ := rfl
theorem call_Editor_need_frames {n : Nat} : callN T cf (n + 1) 15 = runF (callN T cf n) cf ⟨4, 4, b_Editor_need_frames⟩ := rfl
theorem call_Editor_need_piece {n : Nat} : callN T cf (n + 1) 17 = runF (callN T cf n) cf ⟨2, 2, b_Editor_need_piece⟩ := rfl
theorem call_Editor_take {n : Nat} : callN T cf (n + 1) 23 = runF (callN T cf n) cf ⟨4, 6, b_Editor_take⟩ := rfl
theorem call_Editor_put {n : Nat} : callN T cf (n + 1) 18 = runF (callN T cf n) cf ⟨5, 6, b_Editor_put⟩ := rfl
theorem call_Editor_lay {n : Nat} : callN T cf (n + 1) 11 = runF (callN T cf n) cf ⟨5, 5, b_Editor_lay⟩ := rfl
theorem call_Editor_cut {n : Nat} : callN T cf (n + 1) 8 = runF (callN T cf n) cf ⟨5, 6, b_Editor_cut⟩ := rfl
theorem call_Editor_lift {n : Nat} : callN T cf (n + 1) 14 = runF (callN T cf n) cf ⟨5, 5, b_Editor_lift⟩ := rfl
theorem call_Editor_slip {n : Nat} : callN T cf (n + 1) 21 = runF (callN T cf n) cf ⟨5, 5, b_Editor_slip⟩ := rfl
theorem call_Editor_edge {n : Nat} : callN T cf (n + 1) 9 = runF (callN T cf n) cf ⟨3, 5, b_Editor_edge⟩ := rfl
theorem call_Editor_need_part {n : Nat} : callN T cf (n + 1) 16 = runF (callN T cf n) cf ⟨4, 5, b_Editor_need_part⟩ := rfl
theorem call_Editor_roll {n : Nat} : callN T cf (n + 1) 19 = runF (callN T cf n) cf ⟨5, 5, b_Editor_roll⟩ := rfl
theorem call_Editor_lead {n : Nat} : callN T cf (n + 1) 13 = runF (callN T cf n) cf ⟨5, 11, b_Editor_lead⟩ := rfl
theorem call_Editor_tidy {n : Nat} : callN T cf (n + 1) 24 = runF (callN T cf n) cf ⟨3, 3, b_Editor_tidy⟩ := rfl
theorem call_Editor_back {n : Nat} : callN T cf (n + 1) 7 = runF (callN T cf n) cf ⟨1, 1, b_Editor_back⟩ := rfl
theorem call_Editor_forth {n : Nat} : callN T cf (n + 1) 10 = runF (callN T cf n) cf ⟨1, 1, b_Editor_forth⟩ := rfl
theorem call_Editor_stretch {n : Nat} : callN T cf (n + 1) 22 = runF (callN T cf n) cf ⟨5, 6, b_Editor_stretch⟩ := rfl
theorem c__wall : okDef (syOf defs glo cl) D__wall = true := by decide +kernel
theorem q__wall : BindsOk D__wall := fun _ _ _ _ _ _ us hl => match us, hl with | [_], _ => rfl
theorem c_is_between : okDef (syOf defs glo cl) D_is_between = true := by decide +kernel
theorem q_is_between : BindsOk D_is_between := fun _ _ _ _ _ _ us hl => match us, hl with | [_, _, _], _ => rfl
theorem c_need_sources : okDef (syOf defs glo cl) D_need_sources = true := by decide +kernel
theorem q_need_sources : BindsOk D_need_sources := fun _ _ _ _ _ _ us hl => match us, hl with | [_], _ => rfl
theorem c_source_frame : okDef (syOf defs glo cl) D_source_frame = true := by decide +kernel
theorem q_source_frame : BindsOk D_source_frame := fun _ _ _ _ _ _ us hl => match us, hl with | [_, _], _ => rfl
theorem c_is_clip : okDef (syOf defs glo cl) D_is_clip = true := by decide +kernel
theorem q_is_clip : BindsOk D_is_clip := fun _ _ _ _ _ _ us hl => match us, hl with | [_, _], _ => rfl
theorem c_is_lead : okDef (syOf defs glo cl) D_is_lead = true := by decide +kernel
theorem q_is_lead : BindsOk D_is_lead := fun _ _ _ _ _ _ us hl => match us, hl with | [_, _, _], _ => rfl
theorem c_is_piece : okDef (syOf defs glo cl) D_is_piece = true := by decide +kernel
theorem q_is_piece : BindsOk D_is_piece := fun _ _ _ _ _ _ us hl => match us, hl with | [_, _, _], _ => rfl
theorem c_long_of : okDef (syOf defs glo cl) D_long_of = true := by decide +kernel
theorem q_long_of : BindsOk D_long_of := fun _ _ _ _ _ _ us hl => match us, hl with | [_], _ => rfl
theorem c_part_of : okDef (syOf defs glo cl) D_part_of = true := by decide +kernel
theorem q_part_of : BindsOk D_part_of := fun _ _ _ _ _ _ us hl => match us, hl with | [_, _, _], _ => rfl
theorem c_lists_in : okDef (syOf defs glo cl) D_lists_in = true := by decide +kernel
theorem q_lists_in : BindsOk D_lists_in := fun _ _ _ _ _ _ us hl => match us, hl with | [_], _ => rfl
theorem c_total : okDef (syOf defs glo cl) D_total = true := by decide +kernel
theorem q_total : BindsOk D_total := fun _ _ _ _ _ _ us hl => match us, hl with | [_], _ => rfl
theorem c_stretch_of : okDef (syOf defs glo cl) D_stretch_of = true := by decide +kernel
theorem q_stretch_of : BindsOk D_stretch_of := fun _ _ _ _ _ _ us hl => match us, hl with | [_, _, _], _ => rfl
theorem c_put_in : okDef (syOf defs glo cl) D_put_in = true := by decide +kernel
theorem q_put_in : BindsOk D_put_in := fun _ _ _ _ _ _ us hl => match us, hl with | [_, _, _, _], _ => rfl
theorem c_place_at : okDef (syOf defs glo cl) D_place_at = true := by decide +kernel
theorem q_place_at : BindsOk D_place_at := fun _ _ _ _ _ _ us hl => match us, hl with | [_, _], _ => rfl
theorem c_need_shape : okDef (syOf defs glo cl) D_need_shape = true := by decide +kernel
theorem q_need_shape : BindsOk D_need_shape := fun _ _ _ _ _ _ us hl => match us, hl with | [_], _ => rfl
theorem c_need_layer : okDef (syOf defs glo cl) D_need_layer = true := by decide +kernel
theorem q_need_layer : BindsOk D_need_layer := fun _ _ _ _ _ _ us hl => match us, hl with | [_, _, _, _], _ => rfl
theorem c_shown_in : okDef (syOf defs glo cl) D_shown_in = true := by decide +kernel
theorem q_shown_in : BindsOk D_shown_in := fun _ _ _ _ _ _ us hl => match us, hl with | [_, _], _ => rfl
theorem c_ring_from : okDef (syOf defs glo cl) D_ring_from = true := by decide +kernel
theorem q_ring_from : BindsOk D_ring_from := fun _ _ _ _ _ _ us hl => match us, hl with | [_, _], _ => rfl
theorem c_need_no_ring : okDef (syOf defs glo cl) D_need_no_ring = true := by decide +kernel
theorem q_need_no_ring : BindsOk D_need_no_ring := fun _ _ _ _ _ _ us hl => match us, hl with | [_], _ => rfl
theorem c_need_film : okDef (syOf defs glo cl) D_need_film = true := by decide +kernel
theorem q_need_film : BindsOk D_need_film := fun _ _ _ _ _ _ us hl => match us, hl with | [_, _], _ => rfl
theorem c_need_list : okDef (syOf defs glo cl) D_need_list = true := by decide +kernel
theorem q_need_list : BindsOk D_need_list := fun _ _ _ _ _ _ us hl => match us, hl with | [_, _], _ => rfl
theorem c__law_dice : okDef (syOf defs glo cl) D__law_dice = true := by decide +kernel
theorem q__law_dice : BindsOk D__law_dice := fun _ _ _ _ _ _ us hl => match us, hl with | [_, _], _ => rfl
theorem c__law_off : okDef (syOf defs glo cl) D__law_off = true := by decide +kernel
theorem q__law_off : BindsOk D__law_off := fun _ _ _ _ _ _ us hl => match us, hl with | [_, _], _ => rfl
theorem c__law_alike : okDef (syOf defs glo cl) D__law_alike = true := by decide +kernel
theorem q__law_alike : BindsOk D__law_alike := fun _ _ _ _ _ _ us hl => match us, hl with | [_, _], _ => rfl
theorem c__law_mixed : okDef (syOf defs glo cl) D__law_mixed = true := by decide +kernel
theorem q__law_mixed : BindsOk D__law_mixed := fun _ _ _ _ _ _ us hl => match us, hl with | [_, _], _ => rfl
theorem c__law_sources : okDef (syOf defs glo cl) D__law_sources = true := by decide +kernel
theorem q__law_sources : BindsOk D__law_sources := fun _ _ _ _ _ _ us hl => match us, hl with | [_], _ => rfl
theorem c__law_clip : okDef (syOf defs glo cl) D__law_clip = true := by decide +kernel
theorem q__law_clip : BindsOk D__law_clip := fun _ _ _ _ _ _ us hl => match us, hl with | [_, _, _], _ => rfl
theorem c__law_plain : okDef (syOf defs glo cl) D__law_plain = true := by decide +kernel
theorem q__law_plain : BindsOk D__law_plain := fun _ _ _ _ _ _ us hl => match us, hl with | [_, _, _, _], _ => rfl
theorem c__law_long : okDef (syOf defs glo cl) D__law_long = true := by decide +kernel
theorem q__law_long : BindsOk D__law_long := fun _ _ _ _ _ _ us hl => match us, hl with | [_], _ => rfl
theorem c__law_piece : okDef (syOf defs glo cl) D__law_piece = true := by decide +kernel
theorem q__law_piece : BindsOk D__law_piece := fun _ _ _ _ _ _ us hl => match us, hl with | [_, _, _], _ => rfl
theorem c__law_layer : okDef (syOf defs glo cl) D__law_layer = true := by decide +kernel
theorem q__law_layer : BindsOk D__law_layer := fun _ _ _ _ _ _ us hl => match us, hl with | [_, _, _, _], _ => rfl
theorem c__law_film : okDef (syOf defs glo cl) D__law_film = true := by decide +kernel
theorem q__law_film : BindsOk D__law_film := fun _ _ _ _ _ _ us hl => match us, hl with | [_, _], _ => rfl
theorem c__law_piece_shows : okDef (syOf defs glo cl) D__law_piece_shows = true := by decide +kernel
theorem q__law_piece_shows : BindsOk D__law_piece_shows := fun _ _ _ _ _ _ us hl => match us, hl with | [_, _, _], _ => rfl
theorem c__law_layer_shows : okDef (syOf defs glo cl) D__law_layer_shows = true := by decide +kernel
theorem q__law_layer_shows : BindsOk D__law_layer_shows := fun _ _ _ _ _ _ us hl => match us, hl with | [_, _, _], _ => rfl
theorem c__law_list_shows : okDef (syOf defs glo cl) D__law_list_shows = true := by decide +kernel
theorem q__law_list_shows : BindsOk D__law_list_shows := fun _ _ _ _ _ _ us hl => match us, hl with | [_, _, _], _ => rfl
theorem c__law_size : okDef (syOf defs glo cl) D__law_size = true := by decide +kernel
theorem q__law_size : BindsOk D__law_size := fun _ _ _ _ _ _ us hl => match us, hl with | [_], _ => rfl
theorem c__law_all : okDef (syOf defs glo cl) D__law_all = true := by decide +kernel
theorem q__law_all : BindsOk D__law_all := fun _ _ _ _ _ _ us hl => match us, hl with | [_, _, _], _ => rfl
theorem c__law_cases : okDef (syOf defs glo cl) D__law_cases = true := by decide +kernel
theorem q__law_cases : BindsOk D__law_cases := fun _ _ _ _ _ _ us hl => match us, hl with | [_], _ => rfl
theorem c__law_free : okDef (syOf defs glo cl) D__law_free = true := by decide +kernel
theorem q__law_free : BindsOk D__law_free := fun _ _ _ _ _ _ us hl => match us, hl with | [_, _], _ => rfl
theorem c__law_shows : okDef (syOf defs glo cl) D__law_shows = true := by decide +kernel
theorem q__law_shows : BindsOk D__law_shows := fun _ _ _ _ _ _ us hl => match us, hl with | [_, _], _ => rfl
theorem c__law_others_stay : okDef (syOf defs glo cl) D__law_others_stay = true := by decide +kernel
theorem q__law_others_stay : BindsOk D__law_others_stay := fun _ _ _ _ _ _ us hl => match us, hl with | [_, _, _, _], _ => rfl
theorem c_law : okDef (syOf defs glo cl) D_law = true := by decide +kernel
theorem q_law : BindsOk D_law := fun _ _ _ _ _ _ us hl => match us, hl with | [_], _ => rfl
theorem c_Editor___init__ : okDef (syOf defs glo cl) D_Editor___init__ = true := by decide +kernel
theorem q_Editor___init__ : BindsOk D_Editor___init__ := fun _ _ _ _ _ _ us hl => match us, hl with | [_, _, _], _ => rfl
theorem c_Editor_shown : okDef (syOf defs glo cl) D_Editor_shown = true := by decide +kernel
theorem q_Editor_shown : BindsOk D_Editor_shown := fun _ _ _ _ _ _ us hl => match us, hl with | [_], _ => rfl
theorem c_Editor_layer_of : okDef (syOf defs glo cl) D_Editor_layer_of = true := by decide +kernel
theorem q_Editor_layer_of : BindsOk D_Editor_layer_of := fun _ _ _ _ _ _ us hl => match us, hl with | [_, _, _], _ => rfl
theorem c_Editor_need_frames : okDef (syOf defs glo cl) D_Editor_need_frames = true := by decide +kernel
theorem q_Editor_need_frames : BindsOk D_Editor_need_frames := fun _ _ _ _ _ _ us hl => match us, hl with | [_, _, _, _], _ => rfl
theorem c_Editor_need_piece : okDef (syOf defs glo cl) D_Editor_need_piece = true := by decide +kernel
theorem q_Editor_need_piece : BindsOk D_Editor_need_piece := fun _ _ _ _ _ _ us hl => match us, hl with | [_, _], _ => rfl
theorem c_Editor_take : okDef (syOf defs glo cl) D_Editor_take = true := by decide +kernel
theorem q_Editor_take : BindsOk D_Editor_take := fun _ _ _ _ _ _ us hl => match us, hl with | [_, _, _, _], _ => rfl
theorem c_Editor_put : okDef (syOf defs glo cl) D_Editor_put = true := by decide +kernel
theorem q_Editor_put : BindsOk D_Editor_put := fun _ _ _ _ _ _ us hl => match us, hl with | [_, _, _, _, _], _ => rfl
theorem c_Editor_lay : okDef (syOf defs glo cl) D_Editor_lay = true := by decide +kernel
theorem q_Editor_lay : BindsOk D_Editor_lay := fun _ _ _ _ _ _ us hl => match us, hl with | [_, _, _, _, _], _ => rfl
theorem c_Editor_cut : okDef (syOf defs glo cl) D_Editor_cut = true := by decide +kernel
theorem q_Editor_cut : BindsOk D_Editor_cut := fun _ _ _ _ _ _ us hl => match us, hl with | [_, _, _, _, _], _ => rfl
theorem c_Editor_lift : okDef (syOf defs glo cl) D_Editor_lift = true := by decide +kernel
theorem q_Editor_lift : BindsOk D_Editor_lift := fun _ _ _ _ _ _ us hl => match us, hl with | [_, _, _, _, _], _ => rfl
theorem c_Editor_slip : okDef (syOf defs glo cl) D_Editor_slip = true := by decide +kernel
theorem q_Editor_slip : BindsOk D_Editor_slip := fun _ _ _ _ _ _ us hl => match us, hl with | [_, _, _, _, _], _ => rfl
theorem c_Editor_edge : okDef (syOf defs glo cl) D_Editor_edge = true := by decide +kernel
theorem q_Editor_edge : BindsOk D_Editor_edge := fun _ _ _ _ _ _ us hl => match us, hl with | [_, _, _], _ => rfl
theorem c_Editor_need_part : okDef (syOf defs glo cl) D_Editor_need_part = true := by decide +kernel
theorem q_Editor_need_part : BindsOk D_Editor_need_part := fun _ _ _ _ _ _ us hl => match us, hl with | [_, _, _, _], _ => rfl
theorem c_Editor_roll : okDef (syOf defs glo cl) D_Editor_roll = true := by decide +kernel
theorem q_Editor_roll : BindsOk D_Editor_roll := fun _ _ _ _ _ _ us hl => match us, hl with | [_, _, _, _, _], _ => rfl
theorem c_Editor_lead : okDef (syOf defs glo cl) D_Editor_lead = true := by decide +kernel
theorem q_Editor_lead : BindsOk D_Editor_lead := fun _ _ _ _ _ _ us hl => match us, hl with | [_, _, _, _, _], _ => rfl
theorem c_Editor_tidy : okDef (syOf defs glo cl) D_Editor_tidy = true := by decide +kernel
theorem q_Editor_tidy : BindsOk D_Editor_tidy := fun _ _ _ _ _ _ us hl => match us, hl with | [_, _, _], _ => rfl
theorem c_Editor_back : okDef (syOf defs glo cl) D_Editor_back = true := by decide +kernel
theorem q_Editor_back : BindsOk D_Editor_back := fun _ _ _ _ _ _ us hl => match us, hl with | [_], _ => rfl
theorem c_Editor_forth : okDef (syOf defs glo cl) D_Editor_forth = true := by decide +kernel
theorem q_Editor_forth : BindsOk D_Editor_forth := fun _ _ _ _ _ _ us hl => match us, hl with | [_], _ => rfl
theorem c_Editor_stretch : okDef (syOf defs glo cl) D_Editor_stretch = true := by decide +kernel
theorem q_Editor_stretch : BindsOk D_Editor_stretch := fun _ _ _ _ _ _ us hl => match us, hl with | [_, _, _, _, _], _ => rfl
theorem c_all : ∀ D ∈ defs, okDef (syOf defs glo cl) D = true := by
  simp only [defs, List.forall_mem_cons]
  exact ⟨c__wall, c_is_between, c_need_sources, c_source_frame, c_is_clip, c_is_lead, c_is_piece, c_long_of, c_part_of, c_lists_in, c_total, c_stretch_of, c_put_in, c_place_at, c_need_shape, c_need_layer, c_shown_in, c_ring_from, c_need_no_ring, c_need_film, c_need_list, c__law_dice, c__law_off, c__law_alike, c__law_mixed, c__law_sources, c__law_clip, c__law_plain, c__law_long, c__law_piece, c__law_layer, c__law_film, c__law_piece_shows, c__law_layer_shows, c__law_list_shows, c__law_size, c__law_all, c__law_cases, c__law_free, c__law_shows, c__law_others_stay, c_law, c_Editor___init__, c_Editor_shown, c_Editor_layer_of, c_Editor_need_frames, c_Editor_need_piece, c_Editor_take, c_Editor_put, c_Editor_lay, c_Editor_cut, c_Editor_lift, c_Editor_slip, c_Editor_edge, c_Editor_need_part, c_Editor_roll, c_Editor_lead, c_Editor_tidy, c_Editor_back, c_Editor_forth, c_Editor_stretch, fun _ h => nomatch h⟩
theorem q_all : ∀ D ∈ defs, BindsOk D := by
  simp only [defs, List.forall_mem_cons]
  exact ⟨q__wall, q_is_between, q_need_sources, q_source_frame, q_is_clip, q_is_lead, q_is_piece, q_long_of, q_part_of, q_lists_in, q_total, q_stretch_of, q_put_in, q_place_at, q_need_shape, q_need_layer, q_shown_in, q_ring_from, q_need_no_ring, q_need_film, q_need_list, q__law_dice, q__law_off, q__law_alike, q__law_mixed, q__law_sources, q__law_clip, q__law_plain, q__law_long, q__law_piece, q__law_layer, q__law_film, q__law_piece_shows, q__law_layer_shows, q__law_list_shows, q__law_size, q__law_all, q__law_cases, q__law_free, q__law_shows, q__law_others_stay, q_law, q_Editor___init__, q_Editor_shown, q_Editor_layer_of, q_Editor_need_frames, q_Editor_need_piece, q_Editor_take, q_Editor_put, q_Editor_lay, q_Editor_cut, q_Editor_lift, q_Editor_slip, q_Editor_edge, q_Editor_need_part, q_Editor_roll, q_Editor_lead, q_Editor_tidy, q_Editor_back, q_Editor_forth, q_Editor_stretch, fun _ h => nomatch h⟩
theorem cl_ok : okCl defs cl = true := by decide +kernel
end Lw

set_option Elab.async false
set_option linter.all false
set_option maxRecDepth 100000
set_option maxHeartbeats 400000
namespace Lw
open PySem PySem.Spec Pm
local macro_rules | `(tactic| push_cast [$xs,*]) => `(tactic| simp only [wx_cons, wx_nil, wx_if, wx_for1, wx_forT, ↓gw_nx, ↓gw_rt, ↓gw_bk, ↓gw_ct, ↓ew_nx, ↓ew_rt, ↓tw_nx, ↓tw_ct, ↓tw_bk, ↓tw_rt, ↓ww_t, ↓ww_f, ↓to_bd, ↓to_ifT, bd_ok, bd_exc, bd_bd, ifT_t, ifT_f, wp_ok, wp_exc, wpC_ok, wpC_exc, ofC_exc, asB_bd, asB_ofC, asB_if, asI_bd, asI_ofC, tupR_bd, lstR_bd, if_bind, chn_le, chn_lt, v_com, v_comf, v_prom, promR_o, v_met, metR_s, v_fld, fldR_s, v_fln, flnR_s, v_new, x_stf, stfR_s, o_met, o_fld, o_new, o_not, o_and, o_or, wp_ofC,
  x_set, x_setT, x_par2, x_ex, x_ret, x_retN, x_pass, x_brk, x_cnt, setTR_o, setO_s, bindS_nil, bindS_cons, v_con, v_glo, v_var, v_tup, v_lst, v_bin, v_cmp, v_cmp2, v_neg, v_and, v_or, v_not, v_ite, v_idx, v_sli, v_rev, v_f1, v_f2, v_isi, v_cal, a_nil', a_cons', o_no', o_so', it_seq, it_enu, it_rng1, it_rng2, seqR_l, seqR_t, seqR_s, seqR_o, enuR_l, enuR_t, enuR_o,
  o_bor, o_con, o_glo, o_tup, o_lst, o_bin, o_neg, o_idx, o_sli, o_rev, o_f1, o_f2, o_isi, o_cal, o_com, o_comf, o_ite, varR_v, varR_o, borR_v, borR_o, binR_s, cmpR_s, idxR_s, f1R_s, sliR_s, revR_s, isiR_s, negR_s, asB_ok, asI_ok, retR_some, retB_some, ofC_ok, Rd_v, Rd_o, Rs_v, Rs_o, cont_s, cont_v, cont_o, contS_v, contS_o,
  deref_int, deref_str, deref_bl, deref_non, deref_tup, deref_lst, deref_ref, derefR_lst, bin_add, bin_sub, cmp_eq, cmp_ne, cmp_lt, cmp_le, cmp_gt, cmp_ge, cmp_isn, cmp_isnn, eqI, eqF_str, eqF_nn, eqF_nt, eqF_tn, isNon_non, isNon_int, isNon_tup, isNon_lst, isNon_str, isNon_bl, ix_lst, ix_tup, ixD_0, ixD_1, ixD_2, ixD_3, sl_lst, sl_tup, rev_lst, f_len_l, f_len_t, f_sum, f_all, f_list_l, f_list_t, f_tup_l, f_tup_t, f_max2, f_min2, ints_map, bools_map,
  ty_ii, ty_ib, ty_in, ty_is, ty_it, ty_il, ty_bi, ty_bb, ty_bn, ty_bs, ty_bt, ty_bl, ty_ti, ty_tb, ty_tn, ty_ts, ty_tt, ty_tl, ty_si, ty_sb, ty_sn, ty_ss, ty_st, ty_sl, ty_li, ty_lb, ty_ln, ty_ls, ty_lt, ty_ll, kn_i, kn_b, kn_n, kn_s, kn_t, kn_l, tupR_0, tupR_1, tupR_2, tupR_3, tupR_4, tupR_5, tupR_6, tupR_7, tupR_8, lstR_0, lstR_1, lstR_2, lstR_3, lstR_4, lstR_5, lstR_6, lstR_7, lstR_8,
  List.getElem?_cons_succ, List.getElem?_cons_zero, List.set_cons_succ, List.set_cons_zero, List.map_cons, List.map_nil, List.cons_append, List.nil_append, List.replicate_succ, List.replicate_zero, Nat.reduceSub, Option.map_some, Bool.not_true, Bool.not_false, decide_true, decide_false, not_true_eq_false, not_false_eq_true, and_true, true_and, Int.reduceLT, Int.reduceLE, Int.reduceNeg,
  kw_clip_clip, kw_clip_gap, kw_clip_list, kw_clip_lead, kw_gap_clip, kw_gap_gap, kw_gap_list, kw_gap_lead, kw_list_clip, kw_list_gap, kw_list_list, kw_list_lead, kw_lead_clip, kw_lead_gap, kw_lead_list, kw_lead_lead, $xs,*])
theorem is_between_int {n : Nat} {a lo hi : Int} {h : List Ob} : callN T cf (n + 1) 102 [.int a, .int lo, .int hi] h = .ok (.v (.bl (decide (lo ≤ a) && decide (a ≤ hi)))) h := by
  refine wpC_eq ?_
  rw [call_is_between, b_is_between]
  refine wp_run rfl ?_
  push_cast []
  by_cases h1 : lo ≤ a
  · push_cast [h1, Bool.true_and]
  · push_cast [h1, Bool.false_and]
theorem is_between_bl {n : Nat} {b : Bool} {lo hi : Int} {h : List Ob} : callN T cf (n + 1) 102 [.bl b, .int lo, .int hi] h = .ok (.v (.bl false)) h := by
  refine wpC_eq ?_
  rw [call_is_between, b_is_between]
  refine wp_run rfl ?_
  push_cast []
/-- the dice, and what stands behind it -/
def DH (rest h : List Ob) : Prop := ∃ (a b : Int) (r : List Int), h = .lst ((a :: b :: r).map D.int) :: rest ∧ r.length ≤ 1000
theorem DH.app {rest h o : List Ob} (q : DH rest h) : DH (rest ++ o) (h ++ o) := by
  obtain ⟨a, b, r, rfl, hl⟩ := q
  exact ⟨a, b, r, rfl, hl⟩
theorem DH.len {rest h : List Ob} (q : DH rest h) : h.length = rest.length + 1 := by
  obtain ⟨a, b, r, rfl, hl⟩ := q
  rfl
theorem DH.get {rest h : List Ob} (q : DH rest h) {j : Nat} : h[j + 1]? = rest[j]? := by
  obtain ⟨a, b, r, rfl, hl⟩ := q
  rfl
local macro_rules | `(tactic| walk_at "ev") => `(tactic| simp [runF, exS, exB, evE, evA, evO, evI, opd, bindS])
def dz (rest : List Ob) (xs : List Int) : List Ob := .lst (xs.map D.int) :: rest
theorem two64_is : two64 = 18446744073709551616 := rfl
theorem mul_off {a : Int} : binop .mul (.int a) (.int 48271) = some (.v (.int (a * 48271))) := bin_mulr (by decide) (by decide)
/-- the dice's list stays as it is, a number is taken of it -/
theorem off_draw {n : Nat} {rest : List Ob} {a m : Int} (hm : 0 < m) (hm2 : m < 1073741824) : callN T cf (n + 1) 68 [.ref 0, .int m] (dz rest [a, 0]) = .ok (.v (.int ((a * 48271 + 11) % 2147483647 / 64 % m))) (dz rest [(a * 48271 + 11) % 2147483647, 0]) := by
  rw [call__law_off, b__law_off, dz, dz]
  walk_at "ev"
  simp [mul_off, hm, hm2]
theorem lt3 {r : List Int} : (2 : Int) < (r.length : Int) + 1 + 1 + 1 := by omega
theorem le3 {r : List Int} (hl : r.length ≤ 1000) : r.length + 1 + 1 + 1 ≤ sizeLine := by
  have : (1003 : Nat) ≤ sizeLine := by decide
  omega
theorem off_more {n : Nat} {rest : List Ob} {a x m : Int} {r : List Int} (hm : 0 < m) (hm2 : m < 1073741824) (hl : r.length ≤ 1000) (hx : 0 < x) : callN T cf (n + 1) 68 [.ref 0, .int m] (dz rest (a :: 0 :: x :: r)) = .ok (.v (.int (x % m))) (dz rest (a :: x / m :: r)) := by
  rw [call__law_off, b__law_off, dz, dz]
  walk_at "ev"
  simp [le3 hl, lt3, hm, hm2, hx]
theorem off_more0 {n : Nat} {rest : List Ob} {a x m : Int} {r : List Int} (hm : 0 < m) (hm2 : m < 1073741824) (hl : r.length ≤ 1000) (hx : ¬ 0 < x) : callN T cf (n + 1) 68 [.ref 0, .int m] (dz rest (a :: 0 :: x :: r)) = .ok (.v (.int ((a * 48271 + 11) % 2147483647 / 64 % m))) (dz rest ((a * 48271 + 11) % 2147483647 :: x :: r)) := by
  rw [call__law_off, b__law_off, dz, dz]
  walk_at "ev"
  simp [le3 hl, lt3, hm, hm2, hx, mul_off]
theorem off_some {n : Nat} {rest : List Ob} {a b m : Int} {r : List Int} (hm : 0 < m) (hm2 : m < 1073741824) (hb : 0 < b) : callN T cf (n + 1) 68 [.ref 0, .int m] (dz rest (a :: b :: r)) = .ok (.v (.int (b % m))) (dz rest (a :: b / m :: r)) := by
  have hb0 : (b == 0) = false := by
    have : b ≠ 0 := by omega
    simpa using this
  rw [call__law_off, b__law_off, dz, dz]
  simp [runF, exS, exB, evE, evA, evO, evI, opd, bindS, hm, hm2, hb, hb0]
theorem off_neg {n : Nat} {rest : List Ob} {a b m : Int} {r : List Int} (hm : 0 < m) (hm2 : m < 1073741824) (hb : b < 0) : callN T cf (n + 1) 68 [.ref 0, .int m] (dz rest (a :: b :: r)) = .ok (.v (.int ((a * 48271 + 11) % 2147483647 / 64 % m))) (dz rest ((a * 48271 + 11) % 2147483647 :: b :: r)) := by
  have hb0 : (b == 0) = false := by
    have : b ≠ 0 := by omega
    simpa using this
  have hb1 : ¬ 0 < b := by omega
  rw [call__law_off, b__law_off, dz, dz]
  simp [runF, exS, exB, evE, evA, evO, evI, opd, bindS, hm, hm2, hb1, hb0, mul_off]
/-- a number is drawn -/
theorem off_w {m : Nat} (hn : 1 ≤ m) {k : Int} {rest h : List Ob} (hd : DH rest h) (hm : 0 < k) (hm2 : k < 1073741824) : WpC (callN T cf m 68 [.ref 0, .int k] h) (fun r h' => ∃ v, r = .v (.int v) ∧ 0 ≤ v ∧ v < k ∧ DH rest h') C0 := by
  obtain ⟨n, rfl⟩ := Nat.exists_eq_add_of_le' hn
  obtain ⟨a, b, r, rfl, hl⟩ := hd
  have step : ∀ (q : Int), 0 ≤ q % k ∧ q % k < k := fun q => ⟨Int.emod_nonneg q (by omega), Int.emod_lt_of_pos q hm⟩
  by_cases hb : 0 < b
  · exact wpC_of (off_some hm hm2 hb) ⟨_, rfl, (step _).1, (step _).2, _, _, _, rfl, hl⟩
  · by_cases hb2 : b < 0
    · exact wpC_of (off_neg hm hm2 hb2) ⟨_, rfl, (step _).1, (step _).2, _, _, _, rfl, hl⟩
    · have e : b = 0 := by omega
      subst e
      cases r with
      | nil => exact wpC_of (off_draw hm hm2) ⟨_, rfl, (step _).1, (step _).2, _, _, _, rfl, hl⟩
      | cons x r =>
        have hl' : r.length ≤ 1000 := by simp at hl; omega
        by_cases hx : 0 < x
        · exact wpC_of (off_more hm hm2 hl' hx) ⟨_, rfl, (step _).1, (step _).2, _, _, _, rfl, hl'⟩
        · exact wpC_of (off_more0 hm hm2 hl' hx) ⟨_, rfl, (step _).1, (step _).2, _, x, r, rfl, hl'⟩
theorem dice_w {n : Nat} {ns : List Int} {k : Int} {h : List Ob} (hl : ns.length ≤ 63) : WpC (callN T cf (n + 1) 43 [.scr ns, .int k] h) (fun r h' => ∃ a xs, r = .o ((a :: 0 :: xs).map D.int) ∧ xs.length ≤ 63 ∧ h' = h) C0 := by
  rw [call__law_dice, b__law_dice]
  refine wp_run rfl ?_
  push_cast []
  refine wp_for (xs := ns) (g := D.int) (fun l r σ h' => (∃ (a : Int) (c : Slot), σ = [.v (.scr ns), .v (.int k), .v (.int a), c] ∧ plainSlot (some c) = some c) ∧ h' = h) rfl ⟨⟨k, .un, rfl, rfl⟩, rfl⟩ ?_ ?_
  · rintro l x r σ h' e ⟨⟨a, c, rfl, hc⟩, rfl⟩
    refine ⟨_, rfl, ?_⟩
    have h31 : binop .mul (.int a) (.int 31) = some (.v (.int (a * 31))) := bin_mulrS (by omega) (by omega)
    have hmd : ∀ i, binop .mod (.int i) (.int 2147483647) = some (.v (.int (i % 2147483647))) := fun i => bin_mod (by omega)
    push_cast [h31, f_abs, hmd]
    exact ⟨_, _, rfl, rfl⟩
  · rintro σ h' ⟨⟨a, c, rfl, hc⟩, rfl⟩
    push_cast []
    refine wp_comfM (xs := ns) (g := D.int) (f := D.int) (p := fun x => decide ((10 : Int) ^ 18 ≤ x)) (s := c) rfl hc (szC (by omega)) (fun a ha => ?_) (fun a ha hp => ?_) ?_
    · have hpw : binop .pow (.int 10) (.int 18) = some (.v (.int (10 ^ 18))) := bin_pow (by omega) (by omega) (by omega) (by omega)
      push_cast [hpw]
    · push_cast []
    · have hz : ([.int a, .int 0] : List Pm.D).length + ((ns.filter fun x => decide ((10 : Int) ^ 18 ≤ x)).map D.int).length ≤ sizeLine := szA (by
        have := List.length_filter_le (fun x => decide ((10 : Int) ^ 18 ≤ x)) ns
        simp only [List.length_cons, List.length_nil, List.length_map]
        omega)
      push_cast [bin_addl hz]
      refine ⟨a, ns.filter fun x => decide ((10 : Int) ^ 18 ≤ x), rfl, ?_⟩
      have := List.length_filter_le (fun x => decide ((10 : Int) ^ 18 ≤ x)) ns
      omega
structure Src (ss : List Int) : Prop where
  ne : ss ≠ []
  len : ss.length ≤ 6
  all : ∀ x ∈ ss, 1 ≤ x ∧ x ≤ 999
theorem sources_w {m : Nat} (hn : 2 ≤ m) {rest h : List Ob} (hd : DH rest h) : WpC (callN T cf m 86 [.ref 0] h) (fun r h' => ∃ ss : List Int, r = .v (.tup (ss.map D.int)) ∧ Src ss ∧ DH rest h') C0 := by
  obtain ⟨n, rfl⟩ := Nat.exists_eq_add_of_le' hn
  rw [call__law_sources, b__law_sources]
  refine wp_run rfl ?_
  push_cast []
  refine wp_call0 (off_w (by omega) hd (by omega) (by omega)) ?_
  rintro _ h1 ⟨v, rfl, v0, v1, hd1⟩
  obtain ⟨_, e, z, rfl, z0, z1⟩ := ixP (xs := [.int 2, .int 6]) (P := fun d => ∃ z, d = .int z ∧ 0 < z ∧ z ≤ 6) v0 v1 (by
    intro x hx
    simp only [List.mem_cons, List.not_mem_nil, or_false] at hx
    rcases hx with rfl | rfl
    · exact ⟨2, rfl, by omega, by omega⟩
    · exact ⟨6, rfl, by omega, by omega⟩)
  push_cast [e]
  refine wp_call0 (off_w (by omega) hd1 (by omega) (by omega)) ?_
  rintro _ h2 ⟨k, rfl, k0, k1, hd2⟩
  obtain ⟨m, rfl⟩ : ∃ m : Nat, k = (m : Int) := ⟨k.toNat, by omega⟩
  have ek : 1 + (m : Int) = ((m + 1 : Nat) : Int) := by omega
  have sm : small62 ((m + 1 : Nat) : Int) = true := small_of (by omega) (by omega)
  push_cast [ek, rngR_s sm, rangeL_map]
  refine wp_com (xs := List.range (m + 1)) (g := fun j : Nat => D.int j) (s := .un) (fun l r acc h' => DH rest h' ∧ ∃ ns : List Int, acc = ns.map D.int ∧ ns.length = l.length ∧ ∀ x ∈ ns, 1 ≤ x ∧ x ≤ 999) rfl rfl ⟨hd2, [], rfl, rfl, fun x hx => nomatch hx⟩ ?_ ?_
  · rintro l j r acc h3 el ⟨hd3, ns, rfl, hn, hx⟩
    have hll : l.length ≤ 6 := by
      have := congrArg List.length el
      simp at this
      omega
    refine ⟨szB (by rw [List.length_map]; omega), ?_⟩
    push_cast []
    refine wp_call0 (off_w (by omega) hd3 (by omega) (by omega)) ?_
    rintro _ h4 ⟨a, rfl, a0, a1, hd4⟩
    push_cast []
    refine wp_call0 (off_w (by omega) hd4 (by omega) (by omega)) ?_
    rintro _ h5 ⟨b, rfl, b0, b1, hd5⟩
    push_cast []
    refine wp_call0 (off_w (by omega) hd5 (by omega) (by omega)) ?_
    rintro _ h6 ⟨c, rfl, c0, c1, hd6⟩
    obtain ⟨_, e, w, rfl, w0, w1⟩ := ixP (xs := [.int (1 + a), .int 999, .int (1 + b)]) (P := fun d => ∃ z, d = .int z ∧ 1 ≤ z ∧ z ≤ 999) c0 c1 (by
      intro x hx
      simp only [List.mem_cons, List.not_mem_nil, or_false] at hx
      rcases hx with rfl | rfl | rfl
      · exact ⟨_, rfl, by omega, by omega⟩
      · exact ⟨_, rfl, by omega, by omega⟩
      · exact ⟨_, rfl, by omega, by omega⟩)
    push_cast [e]
    refine ⟨hd6, ns ++ [w], by simp, by simp [hn], fun x hx' => ?_⟩
    rcases List.mem_append.mp hx' with hx' | hx'
    · exact hx x hx'
    · rw [List.mem_singleton.mp hx']
      exact ⟨w0, w1⟩
  · rintro acc h3 ⟨hd3, ns, rfl, hn, hx⟩
    push_cast []
    refine ⟨ns, rfl, ⟨?_, ?_, hx⟩, hd3⟩
    · rintro rfl
      simp at hn
    · simp at hn
      omega
end Lw

set_option Elab.async false
set_option linter.all false
set_option maxRecDepth 100000
set_option maxHeartbeats 400000
namespace Lw
open PySem PySem.Spec Pm
local macro_rules | `(tactic| push_cast [$xs,*]) => `(tactic| simp only [wx_cons, wx_nil, wx_if, wx_for1, wx_forT, ↓gw_nx, ↓gw_rt, ↓gw_bk, ↓gw_ct, ↓ew_nx, ↓ew_rt, ↓tw_nx, ↓tw_ct, ↓tw_bk, ↓tw_rt, ↓ww_t, ↓ww_f, ↓to_bd, ↓to_ifT, bd_ok, bd_exc, bd_bd, ifT_t, ifT_f, wp_ok, wp_exc, wpC_ok, wpC_exc, ofC_exc, asB_bd, asB_ofC, asB_if, asI_bd, asI_ofC, tupR_bd, lstR_bd, if_bind, chn_le, chn_lt, v_com, v_comf, v_prom, promR_o, v_met, metR_s, v_fld, fldR_s, v_fln, flnR_s, v_new, x_stf, stfR_s, o_met, o_fld, o_new, o_not, o_and, o_or, wp_ofC,
  x_set, x_setT, x_par2, x_ex, x_ret, x_retN, x_pass, x_brk, x_cnt, setTR_o, setO_s, bindS_nil, bindS_cons, v_con, v_glo, v_var, v_tup, v_lst, v_bin, v_cmp, v_cmp2, v_neg, v_and, v_or, v_not, v_ite, v_idx, v_sli, v_rev, v_f1, v_f2, v_isi, v_cal, a_nil', a_cons', o_no', o_so', it_seq, it_enu, it_rng1, it_rng2, seqR_l, seqR_t, seqR_s, seqR_o, enuR_l, enuR_t, enuR_o,
  o_bor, o_con, o_glo, o_tup, o_lst, o_bin, o_neg, o_idx, o_sli, o_rev, o_f1, o_f2, o_isi, o_cal, o_com, o_comf, o_ite, varR_v, varR_o, borR_v, borR_o, binR_s, cmpR_s, idxR_s, f1R_s, sliR_s, revR_s, isiR_s, negR_s, asB_ok, asI_ok, retR_some, retB_some, ofC_ok, Rd_v, Rd_o, Rs_v, Rs_o, cont_s, cont_v, cont_o, contS_v, contS_o,
  deref_int, deref_str, deref_bl, deref_non, deref_tup, deref_lst, deref_ref, derefR_lst, bin_add, bin_sub, cmp_eq, cmp_ne, cmp_lt, cmp_le, cmp_gt, cmp_ge, cmp_isn, cmp_isnn, eqI, eqF_str, eqF_nn, eqF_nt, eqF_tn, isNon_non, isNon_int, isNon_tup, isNon_lst, isNon_str, isNon_bl, ix_lst, ix_tup, ixD_0, ixD_1, ixD_2, ixD_3, ixD_4, ixD_5, ixD_6, ixD_m1, ixD_m2, ixD_m3, ixD_m4, ixD_m5, ixD_m6, ixD_m7, len1, len2, len3, len4, len5, len6, len7, Int.reduceEq, Bool.true_and, Bool.false_and, Bool.and_true, Bool.and_false, sl_lst, sl_tup, rev_lst, f_len_l, f_len_t, f_sum, f_all, f_list_l, f_list_t, f_tup_l, f_tup_t, f_max2, f_min2, ints_map, bools_map,
  ty_ii, ty_ib, ty_in, ty_is, ty_it, ty_il, ty_bi, ty_bb, ty_bn, ty_bs, ty_bt, ty_bl, ty_ti, ty_tb, ty_tn, ty_ts, ty_tt, ty_tl, ty_si, ty_sb, ty_sn, ty_ss, ty_st, ty_sl, ty_li, ty_lb, ty_ln, ty_ls, ty_lt, ty_ll, kn_i, kn_b, kn_n, kn_s, kn_t, kn_l, tupR_0, tupR_1, tupR_2, tupR_3, tupR_4, tupR_5, tupR_6, tupR_7, tupR_8, lstR_0, lstR_1, lstR_2, lstR_3, lstR_4, lstR_5, lstR_6, lstR_7, lstR_8,
  List.getElem?_cons_succ, List.getElem?_cons_zero, List.set_cons_succ, List.set_cons_zero, List.map_cons, List.map_nil, List.cons_append, List.nil_append, List.replicate_succ, List.replicate_zero, Nat.reduceSub, Option.map_some, Bool.not_true, Bool.not_false, decide_true, decide_false, not_true_eq_false, not_false_eq_true, and_true, true_and, Int.reduceLT, Int.reduceLE, Int.reduceNeg,
  kw_clip_clip, kw_clip_gap, kw_clip_list, kw_clip_lead, kw_gap_clip, kw_gap_gap, kw_gap_list, kw_gap_lead, kw_list_clip, kw_list_gap, kw_list_list, kw_list_lead, kw_lead_clip, kw_lead_gap, kw_lead_list, kw_lead_lead, $xs,*])
inductive Pl where
  | clip (s b st of rs K : Int)
  | gap (K : Int)
  | lst (n b K : Int)
inductive Pi where
  | pl (p : Pl)
  | lead (a c : Pl) (st of : Int)
def Pl.len : Pl → Int
  | .clip _ _ _ _ _ K => K
  | .gap K => K
  | .lst _ _ K => K
def Pl.D : Pl → Pm.D
  | .clip s b st of rs K => .tup [.str "clip", .int s, .int b, .int st, .int of, .int rs, .int K]
  | .gap K => .tup [.str "gap", .int K]
  | .lst n b K => .tup [.str "list", .int n, .int b, .int K]
def Pi.D : Pi → Pm.D
  | .pl p => p.D
  | .lead a c st of => .tup [.str "lead", a.D, c.D, .int st, .int of]
def Pi.len : Pi → Int
  | .pl p => p.len
  | .lead a _ _ _ => a.len
/-- the source's frame -/
def cfr (b st of rs j : Int) : Int := b + (rs + j * st) / of
def PlOk (ss : List Int) (L : Int) : Pl → Prop
  | .clip s b st of rs K => (0 ≤ s ∧ s ≤ ss.length - 1) ∧ (0 ≤ b ∧ b ≤ ss.getD s.toNat 0 - 1) ∧ (-9 ≤ st ∧ st ≤ 9) ∧ (1 ≤ of ∧ of ≤ 9) ∧ (0 ≤ rs ∧ rs ≤ of - 1) ∧ (1 ≤ K ∧ K ≤ 500) ∧ (0 ≤ cfr b st of rs (K - 1) ∧ cfr b st of rs (K - 1) ≤ ss.getD s.toNat 0 - 1)
  | .gap K => 1 ≤ K ∧ K ≤ 500
  | .lst n b K => (0 ≤ n ∧ n ≤ L - 1) ∧ (1 ≤ K ∧ K ≤ 500) ∧ (0 ≤ b ∧ b ≤ 1500 - K)
def PiOk (ss : List Int) (L : Int) : Pi → Prop
  | .pl p => PlOk ss L p
  | .lead a c st of => PlOk ss L a ∧ PlOk ss L c ∧ a.len = c.len ∧ (2 ≤ of ∧ of ≤ 600) ∧ (1 ≤ st ∧ st ≤ of - a.len)
theorem PlOk.one {ss : List Int} {L : Int} {p : Pl} (h : PlOk ss L p) : 1 ≤ p.len ∧ p.len ≤ 500 := by
  cases p with
  | clip s b st of rs K => exact h.2.2.2.2.2.1
  | gap K => exact h
  | lst n b K => exact h.2.1
theorem PiOk.one {ss : List Int} {L : Int} {p : Pi} (h : PiOk ss L p) : 1 ≤ p.len ∧ p.len ≤ 500 := by
  cases p with
  | pl p => exact PlOk.one h
  | lead a c st of => exact PlOk.one h.1
theorem source_frame_eq {n : Nat} {s b st of rs l j : Int} {h : List Ob} (h0 : 0 < of) (h1 : of ≤ 9) (h2 : -9 ≤ st) (h3 : st ≤ 9) : callN T cf (n + 1) 138 [.tup [.str "clip", .int s, .int b, .int st, .int of, .int rs, .int l], .int j] h = .ok (.v (.int (cfr b st of rs j))) h := by
  refine wpC_eq ?_
  have hm : binop .mul (.int j) (.int st) = some (.v (.int (j * st))) := bin_mulrS (by omega) (by omega)
  have hf : ∀ i, binop .fdiv (.int i) (.int of) = some (.v (.int (i / of))) := fun i => bin_fdiv h0 (by omega)
  rw [call_source_frame, b_source_frame]
  refine wp_run rfl ?_
  push_cast [hm, hf]
  rfl
theorem src_at {ss : List Int} {s : Int} (h0 : 0 ≤ s) (h1 : s ≤ (ss.length : Int) - 1) : ixD (ss.map D.int) s = some (.int (ss.getD s.toNat 0)) := by
  have hlt : s.toNat < ss.length := by omega
  rw [ixD_pos h0, List.getElem?_map, List.getD_eq_getElem?_getD, List.getElem?_eq_getElem hlt]
  rfl
theorem is_clip_eq {n : Nat} {ss : List Int} {L s b st of rs K : Int} {h : List Ob} : callN T cf (n + 2) 104 [.tup [.str "clip", .int s, .int b, .int st, .int of, .int rs, .int K], .tup (ss.map D.int)] h = .ok (.v (.bl (okB (PlOk ss L (.clip s b st of rs K))))) h := by
  refine wpC_eq ?_
  rw [call_is_clip, b_is_clip]
  refine wp_run rfl ?_
  by_cases h1 : 0 ≤ s
  · by_cases h2 : s ≤ (ss.length : Int) - 1
    · have hs := src_at h1 h2
      by_cases h3 : 0 ≤ b ∧ b ≤ ss.getD s.toNat 0 - 1
      · by_cases h4 : -9 ≤ st ∧ st ≤ 9
        · by_cases h5 : 1 ≤ of ∧ of ≤ 9
          · by_cases h6 : 0 ≤ rs ∧ rs ≤ of - 1
            · by_cases h7 : 1 ≤ K ∧ K ≤ 500
              · by_cases h8 : 0 ≤ cfr b st of rs (K - 1) ∧ cfr b st of rs (K - 1) ≤ ss.getD s.toNat 0 - 1
                · have z : okB (PlOk ss L (.clip s b st of rs K)) = true := okB_t ⟨⟨h1, h2⟩, h3, h4, h5, h6, h7, h8⟩
                  have hfr := fun h => source_frame_eq (n := n) (s := s) (b := b) (st := st) (of := of) (rs := rs) (l := K) (j := K - 1) (h := h) (by omega) h5.2 h4.1 h4.2
                  push_cast [is_between_int, List.length_map, h1, h2, hs, h3.1, h3.2, h4.1, h4.2, h5.1, h5.2, h6.1, h6.2, h7.1, h7.2, hfr, h8.1, h8.2, Int.zero_sub, z]
                · have z : okB (PlOk ss L (.clip s b st of rs K)) = false := okB_f fun q => h8 q.2.2.2.2.2.2
                  have hfr := fun h => source_frame_eq (n := n) (s := s) (b := b) (st := st) (of := of) (rs := rs) (l := K) (j := K - 1) (h := h) (by omega) h5.2 h4.1 h4.2
                  have h8' : (decide (0 ≤ cfr b st of rs (K - 1)) && decide (cfr b st of rs (K - 1) ≤ ss.getD s.toNat 0 - 1)) = false := by
                    rw [← Bool.decide_and]
                    exact decide_eq_false h8
                  push_cast [is_between_int, List.length_map, h1, h2, hs, h3.1, h3.2, h4.1, h4.2, h5.1, h5.2, h6.1, h6.2, h7.1, h7.2, hfr, h8', Int.zero_sub, z]
              · have z : okB (PlOk ss L (.clip s b st of rs K)) = false := okB_f fun q => h7 q.2.2.2.2.2.1
                have h7' : (decide (1 ≤ K) && decide (K ≤ 500)) = false := by
                  rw [← Bool.decide_and]
                  exact decide_eq_false h7
                push_cast [is_between_int, List.length_map, h1, h2, hs, h3.1, h3.2, h4.1, h4.2, h5.1, h5.2, h6.1, h6.2, h7', Int.zero_sub, z]
            · have z : okB (PlOk ss L (.clip s b st of rs K)) = false := okB_f fun q => h6 q.2.2.2.2.1
              have h6' : (decide (0 ≤ rs) && decide (rs ≤ of - 1)) = false := by
                rw [← Bool.decide_and]
                exact decide_eq_false h6
              push_cast [is_between_int, List.length_map, h1, h2, hs, h3.1, h3.2, h4.1, h4.2, h5.1, h5.2, h6', Int.zero_sub, z]
          · have z : okB (PlOk ss L (.clip s b st of rs K)) = false := okB_f fun q => h5 q.2.2.2.1
            have h5' : (decide (1 ≤ of) && decide (of ≤ 9)) = false := by
              rw [← Bool.decide_and]
              exact decide_eq_false h5
            push_cast [is_between_int, List.length_map, h1, h2, hs, h3.1, h3.2, h4.1, h4.2, h5', Int.zero_sub, z]
        · have z : okB (PlOk ss L (.clip s b st of rs K)) = false := okB_f fun q => h4 q.2.2.1
          have h4' : (decide (-9 ≤ st) && decide (st ≤ 9)) = false := by
            rw [← Bool.decide_and]
            exact decide_eq_false h4
          push_cast [is_between_int, List.length_map, h1, h2, hs, h3.1, h3.2, h4', Int.zero_sub, z]
      · have z : okB (PlOk ss L (.clip s b st of rs K)) = false := okB_f fun q => h3 q.2.1
        have h3' : (decide (0 ≤ b) && decide (b ≤ ss.getD s.toNat 0 - 1)) = false := by
          rw [← Bool.decide_and]
          exact decide_eq_false h3
        push_cast [is_between_int, List.length_map, h1, h2, hs, h3', z]
    · have z : okB (PlOk ss L (.clip s b st of rs K)) = false := okB_f fun q => h2 q.1.2
      push_cast [is_between_int, List.length_map, h1, h2, z]
  · have z : okB (PlOk ss L (.clip s b st of rs K)) = false := okB_f fun q => h1 q.1.1
    push_cast [is_between_int, List.length_map, h1, z]
end Lw

set_option Elab.async false
set_option linter.all false
set_option maxRecDepth 100000
set_option maxHeartbeats 400000
namespace Lw
open PySem PySem.Spec Pm
local macro_rules | `(tactic| push_cast [$xs,*]) => `(tactic| simp only [wx_cons, wx_nil, wx_if, wx_for1, wx_forT, ↓gw_nx, ↓gw_rt, ↓gw_bk, ↓gw_ct, ↓ew_nx, ↓ew_rt, ↓tw_nx, ↓tw_ct, ↓tw_bk, ↓tw_rt, ↓ww_t, ↓ww_f, ↓to_bd, ↓to_ifT, bd_ok, bd_exc, bd_bd, ifT_t, ifT_f, wp_ok, wp_exc, wpC_ok, wpC_exc, ofC_exc, asB_bd, asB_ofC, asB_if, asI_bd, asI_ofC, tupR_bd, lstR_bd, if_bind, chn_le, chn_lt, v_com, v_comf, v_prom, promR_o, v_met, metR_s, v_fld, fldR_s, v_fln, flnR_s, v_new, x_stf, stfR_s, o_met, o_fld, o_new, o_not, o_and, o_or, wp_ofC,
  x_set, x_setT, x_par2, x_ex, x_ret, x_retN, x_pass, x_brk, x_cnt, setTR_o, setO_s, bindS_nil, bindS_cons, v_con, v_glo, v_var, v_tup, v_lst, v_bin, v_cmp, v_cmp2, v_neg, v_and, v_or, v_not, v_ite, v_idx, v_sli, v_rev, v_f1, v_f2, v_isi, v_cal, a_nil', a_cons', o_no', o_so', it_seq, it_enu, it_rng1, it_rng2, seqR_l, seqR_t, seqR_s, seqR_o, enuR_l, enuR_t, enuR_o,
  o_bor, o_con, o_glo, o_tup, o_lst, o_bin, o_neg, o_idx, o_sli, o_rev, o_f1, o_f2, o_isi, o_cal, o_com, o_comf, o_ite, varR_v, varR_o, borR_v, borR_o, binR_s, cmpR_s, idxR_s, f1R_s, sliR_s, revR_s, isiR_s, negR_s, asB_ok, asI_ok, retR_some, retB_some, ofC_ok, Rd_v, Rd_o, Rs_v, Rs_o, cont_s, cont_v, cont_o, contS_v, contS_o,
  deref_int, deref_str, deref_bl, deref_non, deref_tup, deref_lst, deref_ref, derefR_lst, bin_add, bin_sub, cmp_eq, cmp_ne, cmp_lt, cmp_le, cmp_gt, cmp_ge, cmp_isn, cmp_isnn, eqI, eqF_str, eqF_nn, eqF_nt, eqF_tn, isNon_non, isNon_int, isNon_tup, isNon_lst, isNon_str, isNon_bl, ix_lst, ix_tup, ixD_0, ixD_1, ixD_2, ixD_3, ixD_4, ixD_5, ixD_6, ixD_m1, ixD_m2, ixD_m3, ixD_m4, ixD_m5, ixD_m6, ixD_m7, len1, len2, len3, len4, len5, len6, len7, Int.reduceEq, Bool.true_and, Bool.false_and, Bool.and_true, Bool.and_false, sl_lst, sl_tup, rev_lst, f_len_l, f_len_t, f_sum, f_all, f_list_l, f_list_t, f_tup_l, f_tup_t, f_max2, f_min2, ints_map, bools_map,
  ty_ii, ty_ib, ty_in, ty_is, ty_it, ty_il, ty_bi, ty_bb, ty_bn, ty_bs, ty_bt, ty_bl, ty_ti, ty_tb, ty_tn, ty_ts, ty_tt, ty_tl, ty_si, ty_sb, ty_sn, ty_ss, ty_st, ty_sl, ty_li, ty_lb, ty_ln, ty_ls, ty_lt, ty_ll, kn_i, kn_b, kn_n, kn_s, kn_t, kn_l, tupR_0, tupR_1, tupR_2, tupR_3, tupR_4, tupR_5, tupR_6, tupR_7, tupR_8, lstR_0, lstR_1, lstR_2, lstR_3, lstR_4, lstR_5, lstR_6, lstR_7, lstR_8,
  List.getElem?_cons_succ, List.getElem?_cons_zero, List.set_cons_succ, List.set_cons_zero, List.map_cons, List.map_nil, List.cons_append, List.nil_append, List.replicate_succ, List.replicate_zero, Nat.reduceSub, Option.map_some, Bool.not_true, Bool.not_false, decide_true, decide_false, not_true_eq_false, not_false_eq_true, and_true, true_and, Int.reduceLT, Int.reduceLE, Int.reduceNeg,
  kw_clip_clip, kw_clip_gap, kw_clip_list, kw_clip_lead, kw_gap_clip, kw_gap_gap, kw_gap_list, kw_gap_lead, kw_list_clip, kw_list_gap, kw_list_list, kw_list_lead, kw_lead_clip, kw_lead_gap, kw_lead_list, kw_lead_lead, $xs,*])
theorem is_plain_eq {n : Nat} {ss : List Int} {L : Int} {p : Pl} {h : List Ob} : callN T cf (n + 3) 107 [p.D, .tup (ss.map D.int), .int L] h = .ok (.v (.bl (okB (PlOk ss L p)))) h := by
  refine wpC_eq ?_
  rw [call_is_piece, b_is_piece]
  refine wp_run rfl ?_
  cases p with
  | clip s b st of rs K =>
    have e := fun h => is_clip_eq (n := n) (ss := ss) (L := L) (s := s) (b := b) (st := st) (of := of) (rs := rs) (K := K) (h := h)
    unfold Pl.D
    push_cast [eqF_tup60, eqL_cn, e]
  | gap K =>
    unfold Pl.D
    by_cases h1 : 1 ≤ K
    · by_cases h2 : K ≤ 500
      · have z : okB (PlOk ss L (.gap K)) = true := okB_t ⟨h1, h2⟩
        push_cast [eqF_tup60, eqL_cn, is_between_int, h1, h2, z]
      · have z : okB (PlOk ss L (.gap K)) = false := okB_f fun q => h2 q.2
        push_cast [eqF_tup60, eqL_cn, is_between_int, h1, h2, z]
    · have z : okB (PlOk ss L (.gap K)) = false := okB_f fun q => h1 q.1
      push_cast [eqF_tup60, eqL_cn, is_between_int, h1, z]
  | lst m b K =>
    unfold Pl.D
    by_cases h1 : 0 ≤ m ∧ m ≤ L - 1
    · by_cases h2 : 1 ≤ K ∧ K ≤ 500
      · by_cases h3 : 0 ≤ b ∧ b ≤ 1500 - K
        · have z : okB (PlOk ss L (.lst m b K)) = true := okB_t ⟨h1, h2, h3⟩
          push_cast [eqF_tup60, eqL_cn, is_between_int, h1.1, h1.2, h2.1, h2.2, h3.1, h3.2, z]
        · have z : okB (PlOk ss L (.lst m b K)) = false := okB_f fun q => h3 q.2.2
          have h3' : (decide (0 ≤ b) && decide (b ≤ 1500 - K)) = false := by
            rw [← Bool.decide_and]
            exact decide_eq_false h3
          push_cast [eqF_tup60, eqL_cn, is_between_int, h1.1, h1.2, h2.1, h2.2, h3', z]
      · have z : okB (PlOk ss L (.lst m b K)) = false := okB_f fun q => h2 q.2.1
        have h2' : (decide (1 ≤ K) && decide (K ≤ 500)) = false := by
          rw [← Bool.decide_and]
          exact decide_eq_false h2
        push_cast [eqF_tup60, eqL_cn, is_between_int, h1.1, h1.2, h2', z]
    · have z : okB (PlOk ss L (.lst m b K)) = false := okB_f fun q => h1 q.1
      have h1' : (decide (0 ≤ m) && decide (m ≤ L - 1)) = false := by
        rw [← Bool.decide_and]
        exact decide_eq_false h1
      push_cast [eqF_tup60, eqL_cn, is_between_int, h1', z]
def Pl.kw : Pl → Str
  | .clip _ _ _ _ _ _ => "clip"
  | .gap _ => "gap"
  | .lst _ _ _ => "list"
theorem Pl.ix0 {p : Pl} : index p.D (.int 0) = some (.str p.kw) := by cases p <;> rfl
theorem Pl.ixl {p : Pl} : index p.D (.int (-1)) = some (.int p.len) := by cases p <;> rfl
theorem Pl.dr {p : Pl} {h : List Ob} : derefD h p.D = some p.D := by cases p <;> rfl
theorem Pi.dr {p : Pi} {h : List Ob} : derefD h p.D = some p.D := by
  cases p with
  | pl p => exact Pl.dr
  | lead _ _ _ _ => rfl
theorem Pl.kwl {p : Pl} : decide (p.kw = "lead") = false := by cases p <;> first | exact kw_clip_lead | exact kw_gap_lead | exact kw_list_lead
theorem long_pl {n : Nat} {p : Pl} {h : List Ob} : callN T cf (n + 1) 115 [p.D] h = .ok (.v (.int p.len)) h := by
  refine wpC_eq ?_
  rw [call_long_of, b_long_of]
  refine wp_run rfl ?_
  push_cast [Pl.dr, Pl.ix0, Pl.ixl, Pl.kwl]
theorem long_eq {n : Nat} {p : Pi} {h : List Ob} : callN T cf (n + 2) 115 [p.D] h = .ok (.v (.int p.len)) h := by
  cases p with
  | pl p => exact long_pl
  | lead a c st of =>
    refine wpC_eq ?_
    rw [call_long_of, b_long_of]
    refine wp_run rfl ?_
    unfold Pi.D
    push_cast [Pl.dr, Pl.ix0, Pl.ixl, Pl.kwl, long_pl]
    rfl
theorem is_lead_eq {n : Nat} {ss : List Int} {L : Int} {a c : Pl} {st of : Int} {h : List Ob} : callN T cf (n + 4) 106 [(Pi.lead a c st of).D, .tup (ss.map D.int), .int L] h = .ok (.v (.bl (okB (PiOk ss L (.lead a c st of))))) h := by
  refine wpC_eq ?_
  rw [call_is_lead, b_is_lead]
  refine wp_run rfl ?_
  have sl : cutL [D.str "lead", a.D, c.D, .int st, .int of] (some 1) none = [a.D, c.D, .int st, .int of] := rfl
  unfold Pi.D
  by_cases h1 : PlOk ss L a
  · have z1 := okB_t h1
    by_cases h2 : PlOk ss L c
    · have z2 := okB_t h2
      by_cases h3 : a.len = c.len
      · by_cases h4 : 2 ≤ of ∧ of ≤ 600
        · by_cases h5 : 1 ≤ st ∧ st ≤ of - a.len
          · have z : okB (PiOk ss L (.lead a c st of)) = true := okB_t ⟨h1, h2, h3, h4, h5⟩
            push_cast [is_plain_eq, z1, z2, sl, Pl.dr, Pl.ix0, Pl.kwl, long_pl, h3, is_between_int, h4.1, h4.2, h5.1, z]
            have h52 := h5.2
            rw [h3] at h52
            push_cast [h52]
          · have z : okB (PiOk ss L (.lead a c st of)) = false := okB_f fun q => h5 q.2.2.2.2
            have h5' : (decide (1 ≤ st) && decide (st ≤ of - c.len)) = false := by
              rw [← Bool.decide_and, ← h3]
              exact decide_eq_false h5
            push_cast [is_plain_eq, z1, z2, sl, Pl.dr, Pl.ix0, Pl.kwl, long_pl, h3, is_between_int, h4.1, h4.2, h5', z]
        · have z : okB (PiOk ss L (.lead a c st of)) = false := okB_f fun q => h4 q.2.2.2.1
          have h4' : (decide (2 ≤ of) && decide (of ≤ 600)) = false := by
            rw [← Bool.decide_and]
            exact decide_eq_false h4
          push_cast [is_plain_eq, z1, z2, sl, Pl.dr, Pl.ix0, Pl.kwl, long_pl, h3, is_between_int, h4', z]
      · have z : okB (PiOk ss L (.lead a c st of)) = false := okB_f fun q => h3 q.2.2.1
        push_cast [is_plain_eq, z1, z2, sl, Pl.dr, Pl.ix0, Pl.kwl, long_pl, h3, z]
    · have z2 := okB_f h2
      have z : okB (PiOk ss L (.lead a c st of)) = false := okB_f fun q => h2 q.2.1
      push_cast [is_plain_eq, z1, z2, z]
  · have z1 := okB_f h1
    have z : okB (PiOk ss L (.lead a c st of)) = false := okB_f fun q => h1 q.1
    push_cast [is_plain_eq, z1, z]
theorem is_piece_eq {n : Nat} {ss : List Int} {L : Int} {p : Pi} {h : List Ob} : callN T cf (n + 5) 107 [p.D, .tup (ss.map D.int), .int L] h = .ok (.v (.bl (okB (PiOk ss L p)))) h := by
  cases p with
  | pl p => exact is_plain_eq (n := n + 2)
  | lead a c st of =>
    have e := fun h => is_lead_eq (n := n) (ss := ss) (L := L) (a := a) (c := c) (st := st) (of := of) (h := h)
    refine wpC_eq ?_
    rw [call_is_piece, b_is_piece]
    refine wp_run rfl ?_
    unfold Pi.D at e ⊢
    push_cast [eqF_tup60, eqL_cn, e]
def partPl (p : Pl) (b e : Int) : Pl := match p with
  | .clip s f st of rs _ => .clip s (f + (rs + b * st) / of) st of ((rs + b * st) % of) (e - b)
  | .gap _ => .gap (e - b)
  | .lst m f _ => .lst m (f + b) (e - b)
def partPi (p : Pi) (b e : Int) : Pi := match p with
  | .pl p => .pl (partPl p b e)
  | .lead a c st of => .lead (partPl a b e) (partPl c b e) (st + b) of
/-- a clip's going can be reckoned -/
def Pl.go : Pl → Prop
  | .clip _ _ st of _ _ => (-9 ≤ st ∧ st ≤ 9) ∧ (1 ≤ of ∧ of ≤ 9)
  | _ => True
def Pi.go : Pi → Prop
  | .pl p => p.go
  | .lead a c _ _ => a.go ∧ c.go
theorem PlOk.go {ss : List Int} {L : Int} {p : Pl} (h : PlOk ss L p) : p.go := by
  cases p with
  | clip s b st of rs K => exact ⟨h.2.2.1, h.2.2.2.1⟩
  | _ => trivial
theorem PiOk.go {ss : List Int} {L : Int} {p : Pi} (h : PiOk ss L p) : p.go := by
  cases p with
  | pl p => exact PlOk.go h
  | lead a c st of => exact ⟨h.1.go, h.2.1.go⟩
theorem emod_as {x q : Int} : x - x / q * q = x % q := by
  rw [Int.emod_def, Int.mul_comm]
theorem part_pl {n : Nat} {p : Pl} (hg : p.go) {b e : Int} {h : List Ob} : callN T cf (n + 1) 130 [p.D, .int b, .int e] h = .ok (.v (partPl p b e).D) h := by
  refine wpC_eq ?_
  rw [call_part_of, b_part_of]
  refine wp_run rfl ?_
  cases p with
  | clip s f st of rs K =>
    have hm : ∀ i, binop .mul (.int i) (.int st) = some (.v (.int (i * st))) := fun i => bin_mulrS (by have := hg.1; omega) (by have := hg.1; omega)
    have hm2 : ∀ i, binop .mul (.int i) (.int of) = some (.v (.int (i * of))) := fun i => bin_mulrS (by have := hg.2; omega) (by have := hg.2; omega)
    have hf : ∀ i, binop .fdiv (.int i) (.int of) = some (.v (.int (i / of))) := fun i => bin_fdiv (by have := hg.2; omega) (by have := hg.2; omega)
    unfold Pl.D
    push_cast [hm, hm2, hf, emod_as]
    rfl
  | gap K =>
    unfold Pl.D
    push_cast []
    rfl
  | lst m f K =>
    unfold Pl.D
    push_cast []
    rfl
theorem part_eq {n : Nat} {p : Pi} (hg : p.go) {b e : Int} {h : List Ob} : callN T cf (n + 2) 130 [p.D, .int b, .int e] h = .ok (.v (partPi p b e).D) h := by
  cases p with
  | pl p => exact part_pl hg
  | lead a c st of =>
    have e1 := fun h => part_pl (n := n) hg.1 (b := b) (e := e) (h := h)
    have e2 := fun h => part_pl (n := n) hg.2 (b := b) (e := e) (h := h)
    refine wpC_eq ?_
    rw [call_part_of, b_part_of]
    refine wp_run rfl ?_
    unfold Pi.D
    push_cast [e1, e2]
    rfl
end Lw

set_option Elab.async false
set_option linter.all false
set_option maxRecDepth 100000
set_option maxHeartbeats 400000
namespace Lw
open PySem PySem.Spec Pm
local macro_rules | `(tactic| push_cast [$xs,*]) => `(tactic| simp only [wx_cons, wx_nil, wx_if, wx_for1, wx_forT, ↓gw_nx, ↓gw_rt, ↓gw_bk, ↓gw_ct, ↓ew_nx, ↓ew_rt, ↓tw_nx, ↓tw_ct, ↓tw_bk, ↓tw_rt, ↓ww_t, ↓ww_f, ↓to_bd, ↓to_ifT, bd_ok, bd_exc, bd_bd, ifT_t, ifT_f, wp_ok, wp_exc, wpC_ok, wpC_exc, ofC_exc, asB_bd, asB_ofC, asB_if, asI_bd, asI_ofC, tupR_bd, lstR_bd, if_bind, chn_le, chn_lt, v_com, v_comf, v_prom, promR_o, v_met, metR_s, v_fld, fldR_s, v_fln, flnR_s, v_new, x_stf, stfR_s, o_met, o_fld, o_new, o_not, o_and, o_or, wp_ofC,
  x_set, x_setT, x_par2, x_ex, x_ret, x_retN, x_pass, x_brk, x_cnt, setTR_o, setO_s, bindS_nil, bindS_cons, v_con, v_glo, v_var, v_tup, v_lst, v_bin, v_cmp, v_cmp2, v_neg, v_and, v_or, v_not, v_ite, v_idx, v_sli, v_rev, v_f1, v_f2, v_isi, v_cal, a_nil', a_cons', o_no', o_so', it_seq, it_enu, it_rng1, it_rng2, seqR_l, seqR_t, seqR_s, seqR_o, enuR_l, enuR_t, enuR_o,
  o_bor, o_con, o_glo, o_tup, o_lst, o_bin, o_neg, o_idx, o_sli, o_rev, o_f1, o_f2, o_isi, o_cal, o_com, o_comf, o_ite, varR_v, varR_o, borR_v, borR_o, binR_s, cmpR_s, idxR_s, f1R_s, sliR_s, revR_s, isiR_s, negR_s, asB_ok, asI_ok, retR_some, retB_some, ofC_ok, Rd_v, Rd_o, Rs_v, Rs_o, cont_s, cont_v, cont_o, contS_v, contS_o,
  deref_int, deref_str, deref_bl, deref_non, deref_tup, deref_lst, deref_ref, derefR_lst, bin_add, bin_sub, cmp_eq, cmp_ne, cmp_lt, cmp_le, cmp_gt, cmp_ge, cmp_isn, cmp_isnn, eqI, eqF_str, eqF_nn, eqF_nt, eqF_tn, isNon_non, isNon_int, isNon_tup, isNon_lst, isNon_str, isNon_bl, ix_lst, ix_tup, ixD_0, ixD_1, ixD_2, ixD_3, ixD_4, ixD_5, ixD_6, ixD_m1, ixD_m2, ixD_m3, ixD_m4, ixD_m5, ixD_m6, ixD_m7, len1, len2, len3, len4, len5, len6, len7, Int.reduceEq, Bool.true_and, Bool.false_and, Bool.and_true, Bool.and_false, sl_lst, sl_tup, rev_lst, f_len_l, f_len_t, f_sum, f_all, f_list_l, f_list_t, f_tup_l, f_tup_t, f_max2, f_min2, ints_map, bools_map,
  ty_ii, ty_ib, ty_in, ty_is, ty_it, ty_il, ty_bi, ty_bb, ty_bn, ty_bs, ty_bt, ty_bl, ty_ti, ty_tb, ty_tn, ty_ts, ty_tt, ty_tl, ty_si, ty_sb, ty_sn, ty_ss, ty_st, ty_sl, ty_li, ty_lb, ty_ln, ty_ls, ty_lt, ty_ll, kn_i, kn_b, kn_n, kn_s, kn_t, kn_l, tupR_0, tupR_1, tupR_2, tupR_3, tupR_4, tupR_5, tupR_6, tupR_7, tupR_8, lstR_0, lstR_1, lstR_2, lstR_3, lstR_4, lstR_5, lstR_6, lstR_7, lstR_8,
  List.getElem?_cons_succ, List.getElem?_cons_zero, List.set_cons_succ, List.set_cons_zero, List.map_cons, List.map_nil, List.cons_append, List.nil_append, List.replicate_succ, List.replicate_zero, Nat.reduceSub, Option.map_some, Bool.not_true, Bool.not_false, decide_true, decide_false, not_true_eq_false, not_false_eq_true, and_true, true_and, Int.reduceLT, Int.reduceLE, Int.reduceNeg,
  kw_clip_clip, kw_clip_gap, kw_clip_list, kw_clip_lead, kw_gap_clip, kw_gap_gap, kw_gap_list, kw_gap_lead, kw_list_clip, kw_list_gap, kw_list_list, kw_list_lead, kw_lead_clip, kw_lead_gap, kw_lead_list, kw_lead_lead, $xs,*])
/-! what layers show -/
inductive Fv where
  | non
  | fr (s f : Int)
  | lead (a c : Fv) (k n : Int)
def Fv.D : Fv → Pm.D
  | .non => .non
  | .fr s f => .tup [.int s, .int f]
  | .lead a c k n => .tup [.str "lead", a.D, c.D, .int k, .int n]
def showPl (F : Int → Int → Fv) : Pl → Int → Fv
  | .clip s b st of rs _, j => .fr s (cfr b st of rs j)
  | .gap _, _ => .non
  | .lst n b _, j => F n (b + j)
def showPi (F : Int → Int → Fv) : Pi → Int → Fv
  | .pl p, j => showPl F p j
  | .lead a c st of, j => .lead (showPl F a j) (showPl F c j) (st + j) of
def pfl (F : Int → Int → Fv) (p : Pi) : List Fv := (List.range p.len.toNat).map fun j : Nat => showPi F p (j : Int)
def flat (F : Int → Int → Fv) (l : List Pi) : List Fv := l.flatMap (pfl F)
def tot (l : List Pi) : Int := (l.map Pi.len).sum
def AllPos (l : List Pi) : Prop := ∀ p ∈ l, 1 ≤ p.len
theorem tot_cons {p : Pi} {l : List Pi} : tot (p :: l) = p.len + tot l := by
  unfold tot
  rw [List.map_cons, List.sum_cons]
theorem tot_nil : tot [] = 0 := rfl
theorem tot_app {a b : List Pi} : tot (a ++ b) = tot a + tot b := by
  unfold tot
  rw [List.map_append, List.sum_append]
theorem tot_pos : ∀ {l : List Pi}, AllPos l → (l.length : Int) ≤ tot l
  | [], _ => by simp [tot]
  | p :: l, h => by
    have := tot_pos (l := l) fun q hq => h q (List.mem_cons_of_mem _ hq)
    have := h p List.mem_cons_self
    rw [tot_cons, List.length_cons]
    omega
theorem tot_nn {l : List Pi} (h : AllPos l) : 0 ≤ tot l := by
  have := tot_pos h
  omega
theorem pfl_len {F : Int → Int → Fv} {p : Pi} : (pfl F p).length = p.len.toNat := by simp [pfl]
theorem flat_nil {F : Int → Int → Fv} : flat F [] = [] := rfl
theorem flat_cons {F : Int → Int → Fv} {p : Pi} {l : List Pi} : flat F (p :: l) = pfl F p ++ flat F l := rfl
theorem flat_app {F : Int → Int → Fv} {a b : List Pi} : flat F (a ++ b) = flat F a ++ flat F b := by
  unfold flat
  rw [List.flatMap_append]
theorem flat_len {F : Int → Int → Fv} : ∀ {l : List Pi}, AllPos l → (flat F l).length = (tot l).toNat
  | [], _ => rfl
  | p :: l, h => by
    have h1 := h p List.mem_cons_self
    have h2 : AllPos l := fun q hq => h q (List.mem_cons_of_mem _ hq)
    have := tot_nn h2
    rw [flat_cons, List.length_append, pfl_len, flat_len h2, tot_cons]
    omega
theorem edm {a q d : Int} (hq : 0 < q) : (a + d) / q = a / q + (a % q + d) / q := by
  have h : a + d = (a % q + d) + q * (a / q) := by
    have := Int.mul_ediv_add_emod a q
    omega
  rw [h, Int.add_mul_ediv_left _ _ (by omega)]
  omega
theorem cfr_part {b st of rs k j : Int} (h : 0 < of) : cfr (b + (rs + k * st) / of) st of ((rs + k * st) % of) j = cfr b st of rs (k + j) := by
  unfold cfr
  have e : rs + (k + j) * st = (rs + k * st) + j * st := by
    rw [Int.add_mul]
    omega
  rw [e, edm (a := rs + k * st) h]
  omega
theorem show_partPl {F : Int → Int → Fv} {p : Pl} (hg : p.go) {b e j : Int} : showPl F (partPl p b e) j = showPl F p (b + j) := by
  cases p with
  | clip s f st of rs K =>
    unfold partPl showPl
    dsimp only
    rw [cfr_part (by have := hg.2; omega)]
  | gap K => rfl
  | lst n f K =>
    unfold partPl showPl
    dsimp only
    rw [Int.add_assoc]
theorem show_partPi {F : Int → Int → Fv} {p : Pi} (hg : p.go) {b e j : Int} : showPi F (partPi p b e) j = showPi F p (b + j) := by
  cases p with
  | pl p => exact show_partPl hg
  | lead a c st of =>
    unfold partPi showPi
    dsimp only
    rw [show_partPl hg.1, show_partPl hg.2, Int.add_assoc]
theorem len_partPl {p : Pl} {b e : Int} : (partPl p b e).len = e - b := by cases p <;> rfl
theorem len_partPi {p : Pi} {b e : Int} : (partPi p b e).len = e - b := by
  cases p with
  | pl p => exact len_partPl
  | lead a c st of => exact len_partPl
theorem pfl_part {F : Int → Int → Fv} {p : Pi} (hg : p.go) {b e : Int} (h0 : 0 ≤ b) (h2 : e ≤ p.len) : pfl F (partPi p b e) = ((pfl F p).drop b.toNat).take (e.toNat - b.toNat) := by
  refine List.ext_getElem? fun j => ?_
  unfold pfl
  rw [len_partPi]
  by_cases hj : j < (e - b).toNat
  · rw [List.getElem?_map, List.getElem?_range hj, List.getElem?_take_of_lt (by omega), List.getElem?_drop, List.getElem?_map, List.getElem?_range (by omega)]
    show some (showPi F (partPi p b e) j) = some (showPi F p ((b.toNat + j : Nat) : Int))
    rw [show_partPi hg]
    congr 2
    omega
  · rw [List.getElem?_eq_none (by simp; omega), List.getElem?_eq_none (by simp; omega)]
def mx (a b : Int) : Int := if b > a then b else a
def mn (a b : Int) : Int := if b < a then b else a
theorem mx_eq {a b : Int} : mx a b = max a b := by
  unfold mx
  split <;> omega
theorem mn_eq {a b : Int} : mn a b = min a b := by
  unfold mn
  split <;> omega
/-- the pieces of a stretch -/
def strL : List Pi → Int → Int → Int → List Pi
  | [], _, _, _ => []
  | p :: r, hr, b, e => (if mx b hr < mn e (hr + p.len) then [partPi p (mx b hr - hr) (mn e (hr + p.len) - hr)] else []) ++ strL r (hr + p.len) b e
theorem cut_app {α : Type} {X R : List α} {a c : Nat} (hac : a ≤ c) : ((X ++ R).drop a).take (c - a) = (X.drop a).take (min c X.length - a) ++ (R.drop (a - X.length)).take ((c - X.length) - (a - X.length)) := by
  rw [List.drop_append, List.take_append, List.length_drop]
  congr 1
  · rcases Nat.le_total c X.length with h | h
    · rw [Nat.min_eq_left h]
    · rw [Nat.min_eq_right h, List.take_of_length_le (by rw [List.length_drop]; omega), List.take_of_length_le (by rw [List.length_drop]; omega)]
  · congr 1
    omega
theorem str_flat {F : Int → Int → Fv} : ∀ {l : List Pi} {hr b e : Int}, AllPos l → (∀ p ∈ l, p.go) → b ≤ e → flat F (strL l hr b e) = ((flat F l).drop (b - hr).toNat).take ((e - hr).toNat - (b - hr).toNat)
  | [], hr, b, e, _, _, _ => by simp [strL, flat]
  | p :: r, hr, b, e, hp, hg, hbe => by
    have h1 := hp p List.mem_cons_self
    have ih := str_flat (F := F) (l := r) (hr := hr + p.len) (b := b) (e := e) (fun q hq => hp q (List.mem_cons_of_mem _ hq)) (fun q hq => hg q (List.mem_cons_of_mem _ hq)) hbe
    rw [strL, flat_app, ih, flat_cons, cut_app (by omega), pfl_len]
    congr 1
    · rw [mx_eq, mn_eq]
      by_cases h : max b hr < min e (hr + p.len)
      · rw [if_pos h]
        show pfl F _ ++ [] = _
        rw [List.append_nil, pfl_part (hg p List.mem_cons_self) (by omega) (by omega)]
        have e1 : (max b hr - hr).toNat = (b - hr).toNat := by omega
        have e2 : (min e (hr + p.len) - hr).toNat = min (e - hr).toNat p.len.toNat := by omega
        rw [e1, e2]
      · rw [if_neg h]
        have : min (e - hr).toNat p.len.toNat - (b - hr).toNat = 0 := by omega
        rw [this, List.take_zero]
        rfl
    · congr 1
      · omega
      · congr 1
        omega
theorem lin_up {rs st of : Int} (hof : 0 < of) {j k : Int} (hjk : j ≤ k) (hst : 0 ≤ st) : (rs + j * st) / of ≤ (rs + k * st) / of := by
  refine Int.ediv_le_ediv hof ?_
  have := Int.mul_le_mul_of_nonneg_right hjk hst
  omega
theorem lin_dn {rs st of : Int} (hof : 0 < of) {j k : Int} (hjk : j ≤ k) (hst : st ≤ 0) : (rs + k * st) / of ≤ (rs + j * st) / of := by
  refine Int.ediv_le_ediv hof ?_
  have := Int.mul_le_mul_of_nonpos_right hjk hst
  omega
theorem cfr_zero {b st of rs : Int} (h0 : 0 ≤ rs) (h1 : rs < of) : cfr b st of rs 0 = b := by
  unfold cfr
  rw [Int.zero_mul, Int.add_zero, Int.ediv_eq_zero_of_lt h0 h1, Int.add_zero]
/-- a frame between two of the source is of it -/
theorem cfr_in {b st of rs i j k x : Int} (hof : 0 < of) (hij : i ≤ j) (hjk : j ≤ k) (hi : 0 ≤ cfr b st of rs i ∧ cfr b st of rs i ≤ x) (hk : 0 ≤ cfr b st of rs k ∧ cfr b st of rs k ≤ x) : 0 ≤ cfr b st of rs j ∧ cfr b st of rs j ≤ x := by
  unfold cfr at *
  rcases Int.le_total 0 st with h | h
  · have := lin_up (rs := rs) hof hij h
    have := lin_up (rs := rs) hof hjk h
    omega
  · have := lin_dn (rs := rs) hof hij h
    have := lin_dn (rs := rs) hof hjk h
    omega
theorem partPl_ok {ss : List Int} {L : Int} {p : Pl} (h : PlOk ss L p) {b e : Int} (h0 : 0 ≤ b) (h1 : b < e) (h2 : e ≤ p.len) : PlOk ss L (partPl p b e) := by
  cases p with
  | clip s f st of rs K =>
    obtain ⟨a1, a2, a3, a4, a5, a6, a7⟩ := h
    have h2 : e ≤ K := h2
    have z0 := cfr_zero (b := f) (st := st) a5.1 (show rs < of by omega)
    have f0 : 0 ≤ cfr f st of rs 0 ∧ cfr f st of rs 0 ≤ ss.getD s.toNat 0 - 1 := by rw [z0]; exact a2
    have m1 := cfr_in (j := b) (by omega) h0 (show b ≤ K - 1 by omega) f0 a7
    have m2 := cfr_in (j := e - 1) (by omega) (by omega) (show e - 1 ≤ K - 1 by omega) f0 a7
    refine ⟨a1, m1, a3, a4, ⟨Int.emod_nonneg _ (by omega), ?_⟩, ⟨by omega, by omega⟩, ?_⟩
    · have := Int.emod_lt_of_pos (rs + b * st) (show 0 < of by omega)
      omega
    · rw [cfr_part (by omega)]
      have e3 : b + (e - b - 1) = e - 1 := by omega
      rw [e3]
      exact m2
  | gap K =>
    have h2 : e ≤ K := h2
    have h : 1 ≤ K ∧ K ≤ 500 := h
    exact ⟨by omega, by omega⟩
  | lst n f K =>
    obtain ⟨a1, a2, a3⟩ := h
    have h2 : e ≤ K := h2
    exact ⟨a1, ⟨by omega, by omega⟩, by omega, by omega⟩
theorem partPi_ok {ss : List Int} {L : Int} {p : Pi} (h : PiOk ss L p) {b e : Int} (h0 : 0 ≤ b) (h1 : b < e) (h2 : e ≤ p.len) : PiOk ss L (partPi p b e) := by
  cases p with
  | pl p => exact partPl_ok h h0 h1 h2
  | lead a c st of =>
    obtain ⟨a1, a2, a3, a4, a5⟩ := h
    have h2 : e ≤ a.len := h2
    refine ⟨partPl_ok a1 h0 h1 h2, partPl_ok a2 h0 h1 (by omega), by rw [len_partPl, len_partPl], a4, by omega, ?_⟩
    rw [len_partPl]
    omega
theorem str_ok {ss : List Int} {L : Int} : ∀ {l : List Pi} {hr b e : Int}, (∀ p ∈ l, PiOk ss L p) → ∀ p ∈ strL l hr b e, PiOk ss L p
  | [], _, _, _, _ => fun p hp => nomatch hp
  | p :: r, hr, b, e, h => by
    intro q hq
    rw [strL, List.mem_append] at hq
    rcases hq with hq | hq
    · rw [mx_eq, mn_eq] at hq
      by_cases hc : max b hr < min e (hr + p.len)
      · rw [if_pos hc, List.mem_singleton] at hq
        subst hq
        exact partPi_ok (h p List.mem_cons_self) (by omega) (by omega) (by omega)
      · rw [if_neg hc] at hq
        cases hq
    · exact str_ok (fun q hq => h q (List.mem_cons_of_mem _ hq)) q hq
theorem str_len : ∀ {l : List Pi} {hr b e : Int}, (strL l hr b e).length ≤ l.length
  | [], _, _, _ => Nat.le_refl _
  | p :: r, hr, b, e => by
    have := str_len (l := r) (hr := hr + p.len) (b := b) (e := e)
    rw [strL, List.length_append, List.length_cons]
    split
    · simp; omega
    · simp; omega
def plLists : Pl → List Int
  | .lst n _ _ => [n]
  | _ => []
def piLists : Pi → List Int
  | .pl p => plLists p
  | .lead a c _ _ => plLists a ++ plLists c
theorem pl_part {p : Pl} {b e : Int} : plLists (partPl p b e) = plLists p := by cases p <;> rfl
theorem pi_part {p : Pi} {b e : Int} : piLists (partPi p b e) = piLists p := by
  cases p with
  | pl p => exact pl_part
  | lead a c st of =>
    unfold partPi piLists
    dsimp only
    rw [pl_part, pl_part]
theorem str_lists : ∀ {l : List Pi} {hr b e : Int}, ∀ q ∈ strL l hr b e, ∃ p ∈ l, piLists q = piLists p
  | [], _, _, _ => fun p hp => nomatch hp
  | p :: r, hr, b, e => by
    intro q hq
    rw [strL, List.mem_append] at hq
    rcases hq with hq | hq
    · split at hq
      · rw [List.mem_singleton] at hq
        subst hq
        exact ⟨p, List.mem_cons_self, pi_part⟩
      · cases hq
    · obtain ⟨p', h1, h2⟩ := str_lists q hq
      exact ⟨p', List.mem_cons_of_mem _ h1, h2⟩
end Lw

set_option Elab.async false
set_option linter.all false
set_option maxRecDepth 100000
set_option maxHeartbeats 400000
namespace Lw
open PySem PySem.Spec Pm
local macro_rules | `(tactic| push_cast [$xs,*]) => `(tactic| simp only [wx_cons, wx_nil, wx_if, wx_for1, wx_forT, ↓gw_nx, ↓gw_rt, ↓gw_bk, ↓gw_ct, ↓ew_nx, ↓ew_rt, ↓tw_nx, ↓tw_ct, ↓tw_bk, ↓tw_rt, ↓ww_t, ↓ww_f, ↓to_bd, ↓to_ifT, bd_ok, bd_exc, bd_bd, ifT_t, ifT_f, wp_ok, wp_exc, wpC_ok, wpC_exc, ofC_exc, asB_bd, asB_ofC, asB_if, asI_bd, asI_ofC, tupR_bd, lstR_bd, if_bind, chn_le, chn_lt, v_com, v_comf, v_prom, promR_o, x_app, x_ext, cmp_nmem_l, cmp_mem_l, cmp_mem_t, inL_int, v_met, metR_s, v_fld, fldR_s, v_fln, flnR_s, v_new, x_stf, stfR_s, o_met, o_fld, o_new, o_not, o_and, o_or, wp_ofC,
  x_set, x_setT, x_par2, x_ex, x_ret, x_retN, x_pass, x_brk, x_cnt, setTR_o, setO_s, bindS_nil, bindS_cons, v_con, v_glo, v_var, v_tup, v_lst, v_bin, v_cmp, v_cmp2, v_neg, v_and, v_or, v_not, v_ite, v_idx, v_sli, v_rev, v_f1, v_f2, v_isi, v_cal, a_nil', a_cons', o_no', o_so', it_seq, it_enu, it_rng1, it_rng2, seqR_l, seqR_t, seqR_s, seqR_o, enuR_l, enuR_t, enuR_o,
  o_bor, o_con, o_glo, o_tup, o_lst, o_bin, o_neg, o_idx, o_sli, o_rev, o_f1, o_f2, o_isi, o_cal, o_com, o_comf, o_ite, varR_v, varR_o, borR_v, borR_o, binR_s, cmpR_s, idxR_s, f1R_s, sliR_s, revR_s, isiR_s, negR_s, asB_ok, asI_ok, retR_some, retB_some, ofC_ok, Rd_v, Rd_o, Rs_v, Rs_o, cont_s, cont_v, cont_o, contS_v, contS_o,
  deref_int, deref_str, deref_bl, deref_non, deref_tup, deref_lst, deref_ref, derefR_lst, bin_add, bin_sub, cmp_eq, cmp_ne, cmp_lt, cmp_le, cmp_gt, cmp_ge, cmp_isn, cmp_isnn, eqI, eqF_str, eqF_nn, eqF_nt, eqF_tn, isNon_non, isNon_int, isNon_tup, isNon_lst, isNon_str, isNon_bl, ix_lst, ix_tup, ixD_0, ixD_1, ixD_2, ixD_3, ixD_4, ixD_5, ixD_6, ixD_m1, ixD_m2, ixD_m3, ixD_m4, ixD_m5, ixD_m6, ixD_m7, len1, len2, len3, len4, len5, len6, len7, Int.reduceEq, Bool.true_and, Bool.false_and, Bool.and_true, Bool.and_false, sl_lst, sl_tup, rev_lst, f_len_l, f_len_t, f_sum, f_all, f_list_l, f_list_t, f_tup_l, f_tup_t, f_max2, f_min2, ints_map, bools_map,
  ty_ii, ty_ib, ty_in, ty_is, ty_it, ty_il, ty_bi, ty_bb, ty_bn, ty_bs, ty_bt, ty_bl, ty_ti, ty_tb, ty_tn, ty_ts, ty_tt, ty_tl, ty_si, ty_sb, ty_sn, ty_ss, ty_st, ty_sl, ty_li, ty_lb, ty_ln, ty_ls, ty_lt, ty_ll, kn_i, kn_b, kn_n, kn_s, kn_t, kn_l, tupR_0, tupR_1, tupR_2, tupR_3, tupR_4, tupR_5, tupR_6, tupR_7, tupR_8, lstR_0, lstR_1, lstR_2, lstR_3, lstR_4, lstR_5, lstR_6, lstR_7, lstR_8,
  List.getElem?_cons_succ, List.getElem?_cons_zero, List.set_cons_succ, List.set_cons_zero, List.map_cons, List.map_nil, List.cons_append, List.nil_append, List.replicate_succ, List.replicate_zero, Nat.reduceSub, Option.map_some, Bool.not_true, Bool.not_false, decide_true, decide_false, not_true_eq_false, not_false_eq_true, and_true, true_and, Int.reduceLT, Int.reduceLE, Int.reduceNeg,
  kw_clip_clip, kw_clip_gap, kw_clip_list, kw_clip_lead, kw_gap_clip, kw_gap_gap, kw_gap_list, kw_gap_lead, kw_list_clip, kw_list_gap, kw_list_list, kw_list_lead, kw_lead_clip, kw_lead_gap, kw_lead_list, kw_lead_lead, $xs,*])
def layD (l : List Pi) : Pm.D := .tup (l.map Pi.D)
theorem deref_lay {l : List Pi} {h : List Ob} : derefD h (layD l) = some (layD l) := rfl
theorem bin_lay {a c : List Pi} (hz : a.length + c.length ≤ 100000) : binop .add (layD a) (layD c) = some (.v (layD (a ++ c))) := by
  unfold layD
  rw [bin_addt (szA (by rw [List.length_map, List.length_map]; exact hz)), List.map_append]
theorem len_lay {l : List Pi} : fn1 .len (layD l) = some (.v (.int (l.length : Int))) := by
  show some (R.v (D.int ((l.map Pi.D).length : Int))) = _
  rw [List.length_map]
theorem seq_lay {l : List Pi} {σ : List Slot} {h : List Ob} : seqR (.v (layD l)) σ h = .ok (l.map Pi.D) σ h := rfl
theorem enu_lay {l : List Pi} {σ : List Slot} {h : List Ob} : enuR (.v (layD l)) σ h = .ok (l.zipIdx.map fun q : Pi × Nat => .tup [.int (q.2 : Int), q.1.D]) σ h := by
  show Res.ok _ σ h = _
  rw [enu_map]
theorem lay_one {p : Pi} : D.tup [p.D] = layD [p] := rfl
theorem lay_nil : D.tup [] = layD [] := rfl
theorem ix_lay {l : List Pi} {k : Nat} {p : Pi} (e : l[k]? = some p) : index (layD l) (.int (k : Int)) = some p.D := by
  show ixD (l.map Pi.D) (k : Int) = _
  rw [ixD_nat, List.getElem?_map, e]
  rfl
theorem strL_app : ∀ {a c : List Pi} {hr b e : Int}, strL (a ++ c) hr b e = strL a hr b e ++ strL c (hr + tot a) b e
  | [], c, hr, b, e => by
    show strL c hr b e = strL c (hr + 0) b e
    rw [Int.add_zero]
  | p :: a, c, hr, b, e => by
    rw [List.cons_append, strL, strL, strL_app (a := a) (c := c), List.append_assoc, tot_cons, Int.add_assoc]
theorem total_eq {n : Nat} {l : List Pi} (hl : l.length ≤ 100000) {h : List Ob} : callN T cf (n + 3) 141 [layD l] h = .ok (.v (.int (tot l))) h := by
  refine wpC_eq ?_
  rw [call_total, b_total]
  refine wp_run rfl ?_
  unfold layD
  push_cast []
  refine wp_comM (xs := l) (g := Pi.D) (f := fun p => .int p.len) (s := .un) rfl rfl (szC hl) (fun p hp => ?_) ?_
  · push_cast [long_eq]
  · have e : (l.map fun p => D.int p.len) = (l.map Pi.len).map D.int := by rw [List.map_map]; rfl
    push_cast [e]
    rfl
theorem stretch_eq {n : Nat} {l : List Pi} (hl : l.length ≤ 1000) (hg : ∀ p ∈ l, p.go) {b e : Int} {h : List Ob} : callN T cf (n + 3) 139 [layD l, .int b, .int e] h = .ok (.v (layD (strL l 0 b e))) h := by
  refine wpC_eq ?_
  rw [call_stretch_of, b_stretch_of]
  refine wp_run rfl ?_
  push_cast [seq_lay]
  refine wp_for (xs := l) (g := Pi.D) (fun a c σ h' => (∃ s5 s6 s7, σ = [.v (layD l), .v (.int b), .v (.int e), .v (layD (strL a 0 b e)), .v (.int (tot a)), s5, s6, s7]) ∧ h' = h) rfl ⟨⟨_, _, _, rfl⟩, rfl⟩ ?_ ?_
  · rintro a p c σ h' el ⟨⟨s5, s6, s7, rfl⟩, rfl⟩
    refine ⟨_, rfl, ?_⟩
    have hp : p ∈ l := by rw [← el]; simp
    have pe := fun b e h => part_eq (n := n) (hg p hp) (b := b) (e := e) (h := h)
    have hn : strL (a ++ [p]) 0 b e = strL a 0 b e ++ ((if mx b (tot a) < mn e (tot a + p.len) then [partPi p (mx b (tot a) - tot a) (mn e (tot a + p.len) - tot a)] else []) ++ []) := by
      rw [strL_app, strL, strL, Int.zero_add]
    have ht : tot (a ++ [p]) = tot a + p.len := by rw [tot_app, tot_cons, tot_nil, Int.add_zero]
    have ef : (if tot a > b then tot a else b) = mx b (tot a) := rfl
    have eg : (if tot a + p.len < e then tot a + p.len else e) = mn e (tot a + p.len) := rfl
    push_cast [long_eq, ef, eg]
    have hz : (strL a 0 b e).length + 1 ≤ 100000 := by
      have h1 := str_len (l := a) (hr := 0) (b := b) (e := e)
      have h2 := congrArg List.length el
      rw [List.length_append, List.length_cons] at h2
      omega
    by_cases hc : mx b (tot a) < mn e (tot a + p.len)
    · push_cast [hc, pe, lay_one, deref_lay, bin_lay (a := strL a 0 b e) (c := [partPi p (mx b (tot a) - tot a) (mn e (tot a + p.len) - tot a)]) hz, long_eq]
      rw [hn, if_pos hc, ht]
      exact ⟨_, _, _, by rw [List.append_nil]⟩
    · push_cast [hc, long_eq]
      rw [hn, if_neg hc, ht, List.append_nil, List.append_nil]
      exact ⟨_, _, _, rfl⟩
  · rintro σ h' ⟨⟨s5, s6, s7, rfl⟩, rfl⟩
    push_cast []
theorem zip_split {α : Type} {l : List α} {pre r : List (α × Nat)} {p : α} {k : Nat} (e : pre ++ (p, k) :: r = l.zipIdx) : k = pre.length ∧ l[k]? = some p := by
  have h1 : l.zipIdx[pre.length]? = some (p, k) := by
    rw [← e, List.getElem?_append_right (Nat.le_refl _), Nat.sub_self]
    rfl
  rw [List.getElem?_zipIdx] at h1
  cases h2 : l[pre.length]? with
  | none => rw [h2] at h1; cases h1
  | some q =>
    rw [h2] at h1
    cases h1
    rw [Nat.zero_add]
    exact ⟨rfl, h2⟩
theorem take_succ' {α : Type} {l : List α} {k : Nat} {p : α} (e : l[k]? = some p) : l.take (k + 1) = l.take k ++ [p] := by
  obtain ⟨hk, e⟩ := List.getElem?_eq_some_iff.mp e
  rw [List.take_succ_eq_append_getElem hk, e]
/-- where a frame is -/
inductive Pl_at (l : List Pi) (at_ : Int) : Nat → Int → Prop
  | in_ {k : Nat} {p : Pi} : l[k]? = some p → tot (l.take k) ≤ at_ → at_ < tot (l.take k) + p.len → Pl_at l at_ k (tot (l.take k))
  | out : tot l ≤ at_ → Pl_at l at_ l.length (tot l)
theorem place_w {n : Nat} {l : List Pi} {at_ : Int} (h0 : 0 ≤ at_) {h : List Ob} : WpC (callN T cf (n + 3) 133 [layD l, .int at_] h) (fun r h' => ∃ (k : Nat) (hr : Int), r = .v (.tup [.int (k : Int), .int hr]) ∧ Pl_at l at_ k hr ∧ h' = h) C0 := by
  rw [call_place_at, b_place_at]
  refine wp_run rfl ?_
  push_cast [enu_lay]
  refine wp_for (xs := l.zipIdx) (g := fun q : Pi × Nat => .tup [.int (q.2 : Int), q.1.D]) (fun a c σ h' => (∃ s3 s4, σ = [.v (layD l), .v (.int at_), .v (.int (tot (l.take a.length))), s3, s4]) ∧ h' = h ∧ tot (l.take a.length) ≤ at_) rfl ⟨⟨_, _, rfl⟩, rfl, by simpa [tot] using h0⟩ ?_ ?_
  · rintro a ⟨p, k⟩ c σ h' el ⟨⟨s3, s4, rfl⟩, rfl, hle⟩
    obtain ⟨rfl, hk⟩ := zip_split el
    refine ⟨_, rfl, ?_⟩
    have ht : tot (l.take (a ++ [(p, a.length)]).length) = tot (l.take a.length) + p.len := by
      rw [List.length_append, List.length_singleton, take_succ' hk, tot_app, tot_cons, tot_nil, Int.add_zero]
    by_cases hc : at_ < tot (l.take a.length) + p.len
    · push_cast [long_eq, hc]
      exact ⟨_, _, rfl, .in_ hk hle hc⟩
    · push_cast [long_eq, hc]
      rw [ht]
      exact ⟨⟨_, _, rfl⟩, by omega⟩
  · rintro σ h' ⟨⟨s3, s4, rfl⟩, rfl, hle⟩
    have hl : l.zipIdx.length = l.length := List.length_zipIdx
    rw [hl, List.take_length] at hle ⊢
    push_cast [deref_lay, len_lay]
    exact ⟨_, _, rfl, .out hle⟩
end Lw

set_option Elab.async false
set_option linter.all false
set_option maxRecDepth 100000
set_option maxHeartbeats 400000
namespace Lw
open PySem PySem.Spec Pm
local macro_rules | `(tactic| push_cast [$xs,*]) => `(tactic| simp only [wx_cons, wx_nil, wx_if, wx_for1, wx_forT, ↓gw_nx, ↓gw_rt, ↓gw_bk, ↓gw_ct, ↓ew_nx, ↓ew_rt, ↓tw_nx, ↓tw_ct, ↓tw_bk, ↓tw_rt, ↓ww_t, ↓ww_f, ↓to_bd, ↓to_ifT, bd_ok, bd_exc, bd_bd, ifT_t, ifT_f, wp_ok, wp_exc, wpC_ok, wpC_exc, ofC_exc, asB_bd, asB_ofC, asB_if, asI_bd, asI_ofC, tupR_bd, lstR_bd, if_bind, chn_le, chn_lt, v_com, v_comf, v_prom, promR_o, x_app, x_ext, cmp_nmem_l, cmp_mem_l, cmp_mem_t, inL_int, v_met, metR_s, v_fld, fldR_s, v_fln, flnR_s, v_new, x_stf, stfR_s, o_met, o_fld, o_new, o_not, o_and, o_or, wp_ofC,
  x_set, x_setT, x_par2, x_ex, x_ret, x_retN, x_pass, x_brk, x_cnt, setTR_o, setO_s, bindS_nil, bindS_cons, v_con, v_glo, v_var, v_tup, v_lst, v_bin, v_cmp, v_cmp2, v_neg, v_and, v_or, v_not, v_ite, v_idx, v_sli, v_rev, v_f1, v_f2, v_isi, v_cal, a_nil', a_cons', o_no', o_so', it_seq, it_enu, it_rng1, it_rng2, seqR_l, seqR_t, seqR_s, seqR_o, enuR_l, enuR_t, enuR_o,
  o_bor, o_con, o_glo, o_tup, o_lst, o_bin, o_neg, o_idx, o_sli, o_rev, o_f1, o_f2, o_isi, o_cal, o_com, o_comf, o_ite, varR_v, varR_o, borR_v, borR_o, binR_s, cmpR_s, idxR_s, f1R_s, sliR_s, revR_s, isiR_s, negR_s, asB_ok, asI_ok, retR_some, retB_some, ofC_ok, Rd_v, Rd_o, Rs_v, Rs_o, cont_s, cont_v, cont_o, contS_v, contS_o,
  deref_int, deref_str, deref_bl, deref_non, deref_tup, deref_lst, deref_ref, derefR_lst, bin_add, bin_sub, cmp_eq, cmp_ne, cmp_lt, cmp_le, cmp_gt, cmp_ge, cmp_isn, cmp_isnn, eqI, eqF_str, eqF_nn, eqF_nt, eqF_tn, isNon_non, isNon_int, isNon_tup, isNon_lst, isNon_str, isNon_bl, ix_lst, ix_tup, ixD_0, ixD_1, ixD_2, ixD_3, ixD_4, ixD_5, ixD_6, ixD_m1, ixD_m2, ixD_m3, ixD_m4, ixD_m5, ixD_m6, ixD_m7, len1, len2, len3, len4, len5, len6, len7, Int.reduceEq, Bool.true_and, Bool.false_and, Bool.and_true, Bool.and_false, sl_lst, sl_tup, rev_lst, f_len_l, f_len_t, f_sum, f_all, f_list_l, f_list_t, f_tup_l, f_tup_t, f_max2, f_min2, ints_map, bools_map,
  ty_ii, ty_ib, ty_in, ty_is, ty_it, ty_il, ty_bi, ty_bb, ty_bn, ty_bs, ty_bt, ty_bl, ty_ti, ty_tb, ty_tn, ty_ts, ty_tt, ty_tl, ty_si, ty_sb, ty_sn, ty_ss, ty_st, ty_sl, ty_li, ty_lb, ty_ln, ty_ls, ty_lt, ty_ll, kn_i, kn_b, kn_n, kn_s, kn_t, kn_l, tupR_0, tupR_1, tupR_2, tupR_3, tupR_4, tupR_5, tupR_6, tupR_7, tupR_8, lstR_0, lstR_1, lstR_2, lstR_3, lstR_4, lstR_5, lstR_6, lstR_7, lstR_8,
  List.getElem?_cons_succ, List.getElem?_cons_zero, List.set_cons_succ, List.set_cons_zero, List.map_cons, List.map_nil, List.cons_append, List.nil_append, List.replicate_succ, List.replicate_zero, Nat.reduceSub, Option.map_some, Bool.not_true, Bool.not_false, decide_true, decide_false, not_true_eq_false, not_false_eq_true, and_true, true_and, Int.reduceLT, Int.reduceLE, Int.reduceNeg,
  kw_clip_clip, kw_clip_gap, kw_clip_list, kw_clip_lead, kw_gap_clip, kw_gap_gap, kw_gap_list, kw_gap_lead, kw_list_clip, kw_list_gap, kw_list_list, kw_list_lead, kw_lead_clip, kw_lead_gap, kw_lead_list, kw_lead_lead, $xs,*])
/-! films -/
abbrev Film : Type := List (List (List Pi))
def lsD (ls : List (List Pi)) : Pm.D := .tup (ls.map layD)
def filmD (f : Film) : Pm.D := .tup (f.map lsD)
section
variable {f : Film} {ls : List (List Pi)} {σ : List Slot} {h : List Ob} {k : Nat} {l : List Pi}
theorem deref_ls : derefD h (lsD ls) = some (lsD ls) := rfl
theorem deref_film : derefD h (filmD f) = some (filmD f) := rfl
theorem len_ls : fn1 .len (lsD ls) = some (.v (.int (ls.length : Int))) := by
  show some (R.v (D.int ((ls.map layD).length : Int))) = _
  rw [List.length_map]
theorem len_film : fn1 .len (filmD f) = some (.v (.int (f.length : Int))) := by
  show some (R.v (D.int ((f.map lsD).length : Int))) = _
  rw [List.length_map]
theorem seq_ls : seqR (.v (lsD ls)) σ h = .ok (ls.map layD) σ h := rfl
theorem seq_film : seqR (.v (filmD f)) σ h = .ok (f.map lsD) σ h := rfl
theorem enu_ls : enuR (.v (lsD ls)) σ h = .ok (ls.zipIdx.map fun q : List Pi × Nat => .tup [.int (q.2 : Int), layD q.1]) σ h := by
  show Res.ok _ σ h = _
  rw [enu_map]
theorem enu_film : enuR (.v (filmD f)) σ h = .ok (f.zipIdx.map fun q : List (List Pi) × Nat => .tup [.int (q.2 : Int), lsD q.1]) σ h := by
  show Res.ok _ σ h = _
  rw [enu_map]
theorem ix_ls (e : ls[k]? = some l) : index (lsD ls) (.int (k : Int)) = some (layD l) := by
  show ixD (ls.map layD) (k : Int) = _
  rw [ixD_nat, List.getElem?_map, e]
  rfl
theorem ix_film (e : f[k]? = some ls) : index (filmD f) (.int (k : Int)) = some (lsD ls) := by
  show ixD (f.map lsD) (k : Int) = _
  rw [ixD_nat, List.getElem?_map, e]
  rfl
theorem ty_lay : isTy .tuple (layD l) = true := id rfl
theorem ty_ls : isTy .tuple (lsD ls) = true := id rfl
theorem ty_film : isTy .tuple (filmD f) = true := id rfl
theorem kn_lay : knownTy (layD l) = true := id rfl
theorem kn_ls : knownTy (lsD ls) = true := id rfl
theorem kn_film : knownTy (filmD f) = true := id rfl
theorem film_ne (hf : f ≠ []) : eqF F60 (filmD f) (.tup []) = some false := by
  obtain ⟨a, r, rfl⟩ := List.exists_cons_of_ne_nil hf
  rfl
end
end Lw

set_option Elab.async false
set_option linter.all false
set_option maxRecDepth 100000
set_option maxHeartbeats 400000
namespace Lw
open PySem PySem.Spec Pm
local macro_rules | `(tactic| push_cast [$xs,*]) => `(tactic| simp only [wx_cons, wx_nil, wx_if, wx_for1, wx_forT, ↓gw_nx, ↓gw_rt, ↓gw_bk, ↓gw_ct, ↓ew_nx, ↓ew_rt, ↓tw_nx, ↓tw_ct, ↓tw_bk, ↓tw_rt, ↓ww_t, ↓ww_f, ↓to_bd, ↓to_ifT, bd_ok, bd_exc, bd_bd, ifT_t, ifT_f, wp_ok, wp_exc, wpC_ok, wpC_exc, ofC_exc, asB_bd, asB_ofC, asB_if, asI_bd, asI_ofC, tupR_bd, lstR_bd, if_bind, chn_le, chn_lt, v_com, v_comf, v_prom, promR_o, x_app, x_ext, cmp_nmem_l, cmp_mem_l, cmp_mem_t, inL_int, v_met, metR_s, v_fld, fldR_s, v_fln, flnR_s, v_new, x_stf, stfR_s, o_met, o_fld, o_new, o_not, o_and, o_or, wp_ofC,
  x_set, x_setT, x_par2, x_ex, x_ret, x_retN, x_pass, x_brk, x_cnt, setTR_o, setO_s, bindS_nil, bindS_cons, v_con, v_glo, v_var, v_tup, v_lst, v_bin, v_cmp, v_cmp2, v_neg, v_and, v_or, v_not, v_ite, v_idx, v_sli, v_rev, v_f1, v_f2, v_isi, v_cal, a_nil', a_cons', o_no', o_so', it_seq, it_enu, it_rng1, it_rng2, seqR_l, seqR_t, seqR_s, seqR_o, enuR_l, enuR_t, enuR_o,
  o_bor, o_con, o_glo, o_tup, o_lst, o_bin, o_neg, o_idx, o_sli, o_rev, o_f1, o_f2, o_isi, o_cal, o_com, o_comf, o_ite, varR_v, varR_o, borR_v, borR_o, binR_s, cmpR_s, idxR_s, f1R_s, sliR_s, revR_s, isiR_s, negR_s, asB_ok, asI_ok, retR_some, retB_some, ofC_ok, Rd_v, Rd_o, Rs_v, Rs_o, cont_s, cont_v, cont_o, contS_v, contS_o,
  deref_int, deref_str, deref_bl, deref_non, deref_tup, deref_lst, deref_ref, derefR_lst, bin_add, bin_sub, cmp_eq, cmp_ne, cmp_lt, cmp_le, cmp_gt, cmp_ge, cmp_isn, cmp_isnn, eqI, eqF_str, eqF_nn, eqF_nt, eqF_tn, isNon_non, isNon_int, isNon_tup, isNon_lst, isNon_str, isNon_bl, ix_lst, ix_tup, ixD_0, ixD_1, ixD_2, ixD_3, ixD_4, ixD_5, ixD_6, ixD_m1, ixD_m2, ixD_m3, ixD_m4, ixD_m5, ixD_m6, ixD_m7, len1, len2, len3, len4, len5, len6, len7, Int.reduceEq, Bool.true_and, Bool.false_and, Bool.and_true, Bool.and_false, sl_lst, sl_tup, rev_lst, f_len_l, f_len_t, f_sum, f_all, f_list_l, f_list_t, f_tup_l, f_tup_t, f_max2, f_min2, ints_map, bools_map,
  ty_ii, ty_ib, ty_in, ty_is, ty_it, ty_il, ty_bi, ty_bb, ty_bn, ty_bs, ty_bt, ty_bl, ty_ti, ty_tb, ty_tn, ty_ts, ty_tt, ty_tl, ty_si, ty_sb, ty_sn, ty_ss, ty_st, ty_sl, ty_li, ty_lb, ty_ln, ty_ls, ty_lt, ty_ll, kn_i, kn_b, kn_n, kn_s, kn_t, kn_l, tupR_0, tupR_1, tupR_2, tupR_3, tupR_4, tupR_5, tupR_6, tupR_7, tupR_8, lstR_0, lstR_1, lstR_2, lstR_3, lstR_4, lstR_5, lstR_6, lstR_7, lstR_8,
  List.getElem?_cons_succ, List.getElem?_cons_zero, List.set_cons_succ, List.set_cons_zero, List.map_cons, List.map_nil, List.cons_append, List.nil_append, List.replicate_succ, List.replicate_zero, Nat.reduceSub, Option.map_some, Bool.not_true, Bool.not_false, decide_true, decide_false, not_true_eq_false, not_false_eq_true, and_true, true_and, Int.reduceLT, Int.reduceLE, Int.reduceNeg,
  kw_clip_clip, kw_clip_gap, kw_clip_list, kw_clip_lead, kw_gap_clip, kw_gap_gap, kw_gap_list, kw_gap_lead, kw_list_clip, kw_list_gap, kw_list_list, kw_list_lead, kw_lead_clip, kw_lead_gap, kw_lead_list, kw_lead_lead, deref_lay, len_lay, seq_lay, enu_lay, deref_film, len_film, seq_film, enu_film, deref_ls, len_ls, seq_ls, enu_ls, ty_lay, ty_ls, ty_film, kn_lay, kn_ls, kn_film, $xs,*])
/-- the lists that a list shows, one behind another -/
def shownL (ls : List (List Pi)) : List Int := ls.flatMap fun l => l.flatMap piLists
/-- lists rise by a rank -/
def Dag (f : Film) (rk : Nat → Nat) : Prop := ∀ (n : Nat) (ls : List (List Pi)), f[n]? = some ls → rk n ≤ 8 ∧ ∀ m ∈ shownL ls, 0 ≤ m ∧ m < (f.length : Int) ∧ rk m.toNat < rk n
structure FilmOk (ss : List Int) (f : Film) : Prop where
  ne : f ≠ []
  len : f.length ≤ 5
  lay : ∀ ls ∈ f, 1 ≤ ls.length ∧ ls.length ≤ 3
  pcs : ∀ ls ∈ f, ∀ l ∈ ls, l.length ≤ 60
  ok : ∀ ls ∈ f, ∀ l ∈ ls, ∀ p ∈ l, PiOk ss (f.length : Int) p
  dag : ∃ rk, Dag f rk
theorem lists_pl {n : Nat} {p : Pl} {h : List Ob} : callN T cf (n + 1) 113 [p.D] h = .ok (.o ((plLists p).map D.int)) h := by
  refine wpC_eq ?_
  rw [call_lists_in, b_lists_in]
  refine wp_run rfl ?_
  cases p with
  | clip s b st of rs K =>
    unfold Pl.D
    push_cast []
    rfl
  | gap K =>
    unfold Pl.D
    push_cast []
    rfl
  | lst m b K =>
    unfold Pl.D
    push_cast []
    rfl
theorem lists_eq {n : Nat} {p : Pi} {h : List Ob} : callN T cf (n + 2) 113 [p.D] h = .ok (.o ((piLists p).map D.int)) h := by
  cases p with
  | pl p => exact lists_pl
  | lead a c st of =>
    refine wpC_eq ?_
    rw [call_lists_in, b_lists_in]
    refine wp_run rfl ?_
    have h2 : ∀ p : Pl, (plLists p).length ≤ 1 := fun p => by cases p <;> simp [plLists]
    have hz : ((plLists a).map D.int).length + ((plLists c).map D.int).length ≤ sizeLine := szA (by
      have := h2 a
      have := h2 c
      rw [List.length_map, List.length_map]
      omega)
    unfold Pi.D
    push_cast [lists_pl, bin_addl hz]
    unfold piLists
    rw [List.map_append]
theorem piLists_len {p : Pi} : (piLists p).length ≤ 2 := by
  have h2 : ∀ p : Pl, (plLists p).length ≤ 1 := fun p => by cases p <;> simp [plLists]
  cases p with
  | pl p =>
    have := h2 p
    show (plLists p).length ≤ 2
    omega
  | lead a c st of =>
    have := h2 a
    have := h2 c
    unfold piLists
    rw [List.length_append]
    omega
theorem flatLists_len : ∀ {l : List Pi}, (l.flatMap piLists).length ≤ 2 * l.length
  | [] => Nat.le_refl _
  | p :: l => by
    have := piLists_len (p := p)
    have := flatLists_len (l := l)
    rw [List.flatMap_cons, List.length_append, List.length_cons]
    omega
theorem shownL_len : ∀ {ls : List (List Pi)} {k : Nat}, (∀ l ∈ ls, l.length ≤ k) → (shownL ls).length ≤ 2 * k * ls.length
  | [], k, _ => by simp [shownL]
  | l :: ls, k, h => by
    have h1 := flatLists_len (l := l)
    have h2 := h l List.mem_cons_self
    have h3 := shownL_len (ls := ls) (k := k) fun x hx => h x (List.mem_cons_of_mem _ hx)
    unfold shownL at h3 ⊢
    rw [List.flatMap_cons, List.length_append, List.length_cons, Nat.mul_add]
    omega
/-- the lists shown straight, rising -/
theorem shown_w {n : Nat} {f : Film} {rk : Nat → Nat} (hd : Dag f rk) (hf : f.length ≤ 5) {k : Nat} {ls : List (List Pi)} (e : f[k]? = some ls) (hl : ls.length ≤ 3) (hp : ∀ l ∈ ls, l.length ≤ 60) {h : List Ob} :
    WpC (callN T cf (n + 3) 137 [filmD f, .int (k : Int)] h) (fun r h' => ∃ ns : List Int, r = .o (ns.map D.int) ∧ (∀ m ∈ ns, m ∈ shownL ls) ∧ h' = h) C0 := by
  rw [call_shown_in, b_shown_in]
  refine wp_run rfl ?_
  push_cast [ix_film e]
  have hlen := shownL_len hp
  have hbig : (shownL ls).length ≤ 360 := by
    have : 2 * 60 * ls.length ≤ 2 * 60 * 3 := Nat.mul_le_mul_left _ hl
    omega
  refine wp_for (xs := ls) (g := layD) (fun a c σ h' => (∃ s3 s4, σ = [.v (filmD f), .v (.int (k : Int)), .o ((shownL a).map D.int), s3, s4]) ∧ h' = h) rfl ⟨⟨_, _, rfl⟩, rfl⟩ ?_ ?_
  · rintro a l c σ h' el ⟨⟨s3, s4, rfl⟩, rfl⟩
    refine ⟨_, rfl, ?_⟩
    push_cast []
    refine wp_for (xs := l) (g := Pi.D) (fun a2 c2 σ h2 => (∃ s4, σ = [.v (filmD f), .v (.int (k : Int)), .o ((shownL a ++ a2.flatMap piLists).map D.int), .v (layD l), s4]) ∧ h2 = h') rfl ⟨⟨_, by rw [List.flatMap_nil, List.append_nil]⟩, rfl⟩ ?_ ?_
    · rintro a2 p c2 σ h2 el2 ⟨⟨s4, rfl⟩, rfl⟩
      refine ⟨_, rfl, ?_⟩
      have hz : ((shownL a ++ a2.flatMap piLists).map D.int).length + ((piLists p).map D.int).length ≤ 100000 := by
        have h1 : (shownL a ++ a2.flatMap piLists).length ≤ (shownL ls).length := by
          rw [← el, ← el2]
          unfold shownL
          simp only [List.flatMap_append, List.flatMap_cons, List.length_append]
          omega
        have := piLists_len (p := p)
        rw [List.length_map, List.length_map]
        omega
      push_cast [lsB_l, lists_eq, extR_o hz]
      rw [List.flatMap_append, List.flatMap_cons, List.flatMap_nil, List.append_nil, ← List.append_assoc, List.map_append (l₂ := piLists p)]
      exact ⟨_, rfl⟩
    · rintro σ h2 ⟨⟨s4, rfl⟩, rfl⟩
      push_cast []
      have es : shownL (a ++ [l]) = shownL a ++ l.flatMap piLists := by
        unfold shownL
        rw [List.flatMap_append, List.flatMap_cons, List.flatMap_nil, List.append_nil]
      rw [es]
      exact ⟨_, _, rfl⟩
  · rintro σ h' ⟨⟨s3, s4, rfl⟩, rfl⟩
    have hin := (hd k ls e).2
    have h64 : (dedup (shownL ls)).length ≤ f.length := nd_le (dedup_nd _) fun x hx => by
      have := hin x ((dedup_mem _ _).mp hx)
      omega
    push_cast [f_sset (ns := shownL ls) (by omega) (by omega)]
    refine ⟨_, rfl, fun m hm => ?_⟩
    exact (dedup_mem _ _).mp ((sortI_perm _).mem_iff.mp hm)
end Lw

set_option Elab.async false
set_option linter.all false
set_option maxRecDepth 100000
set_option maxHeartbeats 400000
namespace Lw
open PySem PySem.Spec Pm
local macro_rules | `(tactic| push_cast [$xs,*]) => `(tactic| simp only [wx_cons, wx_nil, wx_if, wx_for1, wx_forT, ↓gw_nx, ↓gw_rt, ↓gw_bk, ↓gw_ct, ↓ew_nx, ↓ew_rt, ↓tw_nx, ↓tw_ct, ↓tw_bk, ↓tw_rt, ↓ww_t, ↓ww_f, ↓to_bd, ↓to_ifT, bd_ok, bd_exc, bd_bd, ifT_t, ifT_f, wp_ok, wp_exc, wpC_ok, wpC_exc, ofC_exc, asB_bd, asB_ofC, asB_if, asI_bd, asI_ofC, tupR_bd, lstR_bd, if_bind, chn_le, chn_lt, v_com, v_comf, v_prom, promR_o, x_app, x_ext, cmp_nmem_l, cmp_mem_l, cmp_mem_t, inL_int, v_met, metR_s, v_fld, fldR_s, v_fln, flnR_s, v_new, x_stf, stfR_s, o_met, o_fld, o_new, o_not, o_and, o_or, wp_ofC,
  x_set, x_setT, x_par2, x_ex, x_ret, x_retN, x_pass, x_brk, x_cnt, setTR_o, setO_s, bindS_nil, bindS_cons, v_con, v_glo, v_var, v_tup, v_lst, v_bin, v_cmp, v_cmp2, v_neg, v_and, v_or, v_not, v_ite, v_idx, v_sli, v_rev, v_f1, v_f2, v_isi, v_cal, a_nil', a_cons', o_no', o_so', it_seq, it_enu, it_rng1, it_rng2, seqR_l, seqR_t, seqR_s, seqR_o, enuR_l, enuR_t, enuR_o,
  o_bor, o_con, o_glo, o_tup, o_lst, o_bin, o_neg, o_idx, o_sli, o_rev, o_f1, o_f2, o_isi, o_cal, o_com, o_comf, o_ite, varR_v, varR_o, borR_v, borR_o, binR_s, cmpR_s, idxR_s, f1R_s, sliR_s, revR_s, isiR_s, negR_s, asB_ok, asI_ok, retR_some, retB_some, ofC_ok, Rd_v, Rd_o, Rs_v, Rs_o, cont_s, cont_v, cont_o, contS_v, contS_o,
  deref_int, deref_str, deref_bl, deref_non, deref_tup, deref_lst, deref_ref, derefR_lst, bin_add, bin_sub, cmp_eq, cmp_ne, cmp_lt, cmp_le, cmp_gt, cmp_ge, cmp_isn, cmp_isnn, eqI, eqF_str, eqF_nn, eqF_nt, eqF_tn, isNon_non, isNon_int, isNon_tup, isNon_lst, isNon_str, isNon_bl, ix_lst, ix_tup, ixD_0, ixD_1, ixD_2, ixD_3, ixD_4, ixD_5, ixD_6, ixD_m1, ixD_m2, ixD_m3, ixD_m4, ixD_m5, ixD_m6, ixD_m7, len1, len2, len3, len4, len5, len6, len7, Int.reduceEq, Bool.true_and, Bool.false_and, Bool.and_true, Bool.and_false, sl_lst, sl_tup, rev_lst, f_len_l, f_len_t, f_sum, f_all, f_list_l, f_list_t, f_tup_l, f_tup_t, f_max2, f_min2, ints_map, bools_map,
  ty_ii, ty_ib, ty_in, ty_is, ty_it, ty_il, ty_bi, ty_bb, ty_bn, ty_bs, ty_bt, ty_bl, ty_ti, ty_tb, ty_tn, ty_ts, ty_tt, ty_tl, ty_si, ty_sb, ty_sn, ty_ss, ty_st, ty_sl, ty_li, ty_lb, ty_ln, ty_ls, ty_lt, ty_ll, kn_i, kn_b, kn_n, kn_s, kn_t, kn_l, tupR_0, tupR_1, tupR_2, tupR_3, tupR_4, tupR_5, tupR_6, tupR_7, tupR_8, lstR_0, lstR_1, lstR_2, lstR_3, lstR_4, lstR_5, lstR_6, lstR_7, lstR_8,
  List.getElem?_cons_succ, List.getElem?_cons_zero, List.set_cons_succ, List.set_cons_zero, List.map_cons, List.map_nil, List.cons_append, List.nil_append, List.replicate_succ, List.replicate_zero, Nat.reduceSub, Option.map_some, Bool.not_true, Bool.not_false, decide_true, decide_false, not_true_eq_false, not_false_eq_true, and_true, true_and, Int.reduceLT, Int.reduceLE, Int.reduceNeg,
  kw_clip_clip, kw_clip_gap, kw_clip_list, kw_clip_lead, kw_gap_clip, kw_gap_gap, kw_gap_list, kw_gap_lead, kw_list_clip, kw_list_gap, kw_list_list, kw_list_lead, kw_lead_clip, kw_lead_gap, kw_lead_list, kw_lead_lead, deref_lay, len_lay, seq_lay, enu_lay, deref_film, len_film, seq_film, enu_film, deref_ls, len_ls, seq_ls, enu_ls, ty_lay, ty_ls, ty_film, kn_lay, kn_ls, kn_film, $xs,*])
/-- a row of lists, the last one of a rank below m -/
def RowOf (f : Film) (rk : Nat → Nat) (m : Nat) (d : Pm.D) : Prop := ∃ (pre : List Int) (n : Nat), d = .tup ((pre ++ [(n : Int)]).map D.int) ∧ n < f.length ∧ rk n < m ∧ pre.length + m ≤ 20
theorem row_last {pre : List Int} {n : Nat} : ixD ((pre ++ [(n : Int)]).map D.int) (-1) = some (.int (n : Int)) := by
  rw [ixD_last (by simp), List.map_append, List.map_cons, List.map_nil, List.getLast?_append]
  rfl
theorem deref_row {xs : List Pm.D} {h : List Ob} : derefD h (.tup xs) = some (.tup xs) := rfl
/-- a list under a name, its own or not -/
def HoldL (xs : List Pm.D) (s : Slot) : Prop := s = .o xs ∨ s = .v (.lst xs)
theorem eq_nil_lst {xs : List Pm.D} : eqF F60 (.lst xs) (.lst []) = some (decide (xs = [])) := by
  cases xs with
  | nil => rfl
  | cons a r => rfl
/-- what the walk holds -/
structure RingI (f : Film) (rk : Nat → Nat) (m : Nat) (met : List Int) (fur : List Pm.D) : Prop where
  nd : met.Nodup
  rg : ∀ x ∈ met, 0 ≤ x ∧ x < (f.length : Int)
  rw_ : ∀ d ∈ fur, RowOf f rk m d
  le : fur.length ≤ met.length
theorem RingI.five {f : Film} {rk : Nat → Nat} {m : Nat} {met : List Int} {fur : List Pm.D} (q : RingI f rk m met fur) (hf : f.length ≤ 5) : met.length ≤ 5 := Nat.le_trans (nd_le q.nd q.rg) hf
theorem ring_none {n : Nat} {f : Film} {rk : Nat → Nat} (hd : Dag f rk) (hf : f.length ≤ 5) (hl : ∀ ls ∈ f, ls.length ≤ 3) (hp : ∀ ls ∈ f, ∀ l ∈ ls, l.length ≤ 60) {b : Nat} (hb : b < f.length) {h : List Ob} :
    callN T cf (n + 4) 136 [filmD f, .int (b : Int)] h = .ok (.v .non) h := by
  refine wpC_eq ?_
  rw [call_ring_from, b_ring_from]
  refine wp_run rfl ?_
  push_cast []
  have rb : rk b ≤ 8 := (hd b f[b] (List.getElem?_eq_getElem hb)).1
  refine wp_whl (fun m σ h' => ∃ (rows : List Pm.D) (met : List Int) (s2 s4 s5 s6 : Slot), σ = [.v (filmD f), .v (.int (b : Int)), s2, .o (met.map D.int), s4, s5, s6] ∧ HoldL rows s2 ∧ (∀ d ∈ rows, RowOf f rk m d) ∧ met.Nodup ∧ (∀ x ∈ met, 0 ≤ x ∧ x < (f.length : Int)) ∧ m ≤ rk b + 1 ∧ h' = h) (rk b + 1)
    ⟨[.tup [.int (b : Int)]], [], _, _, _, _, rfl, .inl rfl, fun d hd => ?_, List.Pairwise.nil, fun x hx => (nomatch hx), Nat.le_refl _, rfl⟩ ?_
  · rw [List.mem_singleton] at hd
    subst hd
    exact ⟨[], b, rfl, hb, by omega, by simp; omega⟩
  · rintro m σ h' ⟨rows, met, s2, s4, s5, s6, rfl, hs2, hr, nd, hm, hmb, rfl⟩
    by_cases hrows : rows = []
    · subst hrows
      rcases hs2 with rfl | rfl <;> push_cast [eq_nil_lst]
    · have hm0 : 0 < m := by
        obtain ⟨d0, r0, e0⟩ := List.exists_cons_of_ne_nil hrows
        obtain ⟨pre, k, _, _, q, _⟩ := hr d0 (by rw [e0]; exact List.mem_cons_self)
        omega
      have key : Wp (forR (callN T cf (n + 3)) cf (bnd1 5) (match b_ring_from with
          | .cons _ (.cons _ (.cons (.whl _ (.cons _ (.cons (.for1 _ _ b) _))) _)) => b
          | _ => .nil) rows [.v (filmD f), .v (.int (b : Int)), .v (.lst rows), .o (met.map D.int), .o [], s5, s6] h') (fun fl σ h2 => fl = .nx ∧ h2 = h' ∧ ∃ met' fur s5 s6, σ = [.v (filmD f), .v (.int (b : Int)), .v (.lst rows), .o (met'.map D.int), .o fur, s5, s6] ∧ RingI f rk (m - 1) met' fur) X0 := by
        refine wp_for (xs := rows) (g := fun d => d) (fun a c σ h2 => h2 = h' ∧ ∃ met' fur s5 s6, σ = [.v (filmD f), .v (.int (b : Int)), .v (.lst rows), .o (met'.map D.int), .o fur, s5, s6] ∧ RingI f rk (m - 1) met' fur) (by rw [List.map_id']) ⟨rfl, met, [], _, _, rfl, ⟨nd, hm, fun d hd => (nomatch hd), Nat.zero_le _⟩⟩ ?_ ?_
        · rintro a d c σ h2 ea ⟨rfl, met', fur, s5, s6, rfl, I⟩
          refine ⟨_, rfl, ?_⟩
          obtain ⟨pre, k, rfl, hk, hkm, hpre⟩ := hr d (by rw [← ea]; simp)
          have ek : f[k]? = some f[k] := List.getElem?_eq_getElem hk
          have mk := List.getElem_mem hk
          dsimp only [b_ring_from]
          push_cast [row_last]
          refine wp_call0 (shown_w hd hf ek (hl _ mk) (hp _ mk)) ?_
          rintro _ h3 ⟨ns, rfl, hns, rfl⟩
          push_cast []
          refine wp_for (xs := ns) (g := D.int) (fun a2 c2 σ h4 => h4 = h3 ∧ ∃ met' fur s6, σ = [.v (filmD f), .v (.int (b : Int)), .v (.lst rows), .o (met'.map D.int), .o fur, .v (.tup ((pre ++ [(k : Int)]).map D.int)), s6] ∧ RingI f rk (m - 1) met' fur) rfl ⟨rfl, met', fur, _, rfl, I⟩ ?_ ?_
          · rintro a2 one c2 σ h4 e2 ⟨rfl, met2, fur2, s6, rfl, I2⟩
            refine ⟨_, rfl, ?_⟩
            obtain ⟨o0, o1, o2⟩ := (hd k _ ek).2 one (hns one (by rw [← e2]; simp))
            have hne : ¬ one = (b : Int) := fun q => by
              rw [q, Int.toNat_natCast] at o2
              omega
            by_cases hmem : one ∈ met2
            · push_cast [hne, hmem]
              exact ⟨_, _, _, rfl, I2⟩
            · have h5 := I2.five hf
              have z1 : (met2.map D.int).length < 100000 := by rw [List.length_map]; omega
              have z2 : fur2.length < 100000 := by have := I2.le; omega
              have z3 : ((pre ++ [(k : Int)]).map D.int).length + [D.int one].length ≤ sizeLine := szA (by simp; omega)
              push_cast [hne, hmem, lsB_l, appR_o z1, appR_o z2, bin_addt z3]
              refine ⟨met2 ++ [one], fur2 ++ [.tup (((pre ++ [(k : Int)]) ++ [one]).map D.int)], .v (.int one), by rw [List.map_append (l₁ := met2), List.map_append (l₁ := pre ++ [(k : Int)])]; rfl, ?_, ?_, ?_, ?_⟩
              · refine List.nodup_append.mpr ⟨I2.nd, List.pairwise_singleton _ _, fun x hx y hy => ?_⟩
                rw [List.mem_singleton] at hy
                subst hy
                exact fun q => hmem (q ▸ hx)
              · intro x hx
                rcases List.mem_append.mp hx with hx | hx
                · exact I2.rg x hx
                · rw [List.mem_singleton.mp hx]; exact ⟨o0, o1⟩
              · intro x hx
                rcases List.mem_append.mp hx with hx | hx
                · exact I2.rw_ x hx
                · rw [List.mem_singleton.mp hx]
                  refine ⟨pre ++ [(k : Int)], one.toNat, ?_, by omega, by omega, by simp; omega⟩
                  rw [show ((one.toNat : Nat) : Int) = one by omega]
              · have := I2.le
                simp
                omega
          · rintro σ h4 ⟨rfl, met2, fur2, s6, rfl, I2⟩
            push_cast []
            exact ⟨_, _, _, _, rfl, I2⟩
        · rintro σ h2 ⟨rfl, met', fur, s5, s6, rfl, I⟩
          exact ⟨rfl, rfl, _, _, _, _, rfl, I⟩
      have fin : ∀ σ h2, (h2 = h' ∧ ∃ met' fur s5 s6, σ = [.v (filmD f), .v (.int (b : Int)), .v (.lst rows), .o (met'.map D.int), .o fur, s5, s6] ∧ RingI f rk (m - 1) met' fur) → Wp (exR (callN T cf (n + 3)) cf (.cons (.set 2 (.var 4)) .nil) σ h2) (TurnW (fun σ h'' => ∃ m', m' < m ∧ ∃ (rows : List Pm.D) (met : List Int) (s2 s4 s5 s6 : Slot), σ = [.v (filmD f), .v (.int (b : Int)), s2, .o (met.map D.int), s4, s5, s6] ∧ HoldL rows s2 ∧ (∀ d ∈ rows, RowOf f rk m' d) ∧ met.Nodup ∧ (∀ x ∈ met, 0 ≤ x ∧ x < (f.length : Int)) ∧ m' ≤ rk b + 1 ∧ h'' = h') (GoesW (callN T cf (n + 3)) cf (.cons (.ret (.con .non)) .nil) (EndsW fun r' h'' => r' = .v .non ∧ h'' = h') fun c p _ h => C0 c p h)) fun c p _ h => C0 c p h := by
        rintro σ h2 ⟨rfl, met', fur, s5, s6, rfl, I⟩
        push_cast []
        exact ⟨m - 1, by omega, fur, met', _, _, _, _, rfl, .inr rfl, I.rw_, I.nd, I.rg, by omega⟩
      rcases hs2 with rfl | rfl
      · push_cast [eq_nil_lst, hrows]
        refine wp_mono key (fun fl σ h2 ⟨e1, q⟩ => ?_) fun _ _ _ _ z => z.elim
        subst e1
        exact fin σ h2 q
      · push_cast [eq_nil_lst, hrows]
        refine wp_mono key (fun fl σ h2 ⟨e1, q⟩ => ?_) fun _ _ _ _ z => z.elim
        subst e1
        exact fin σ h2 q
end Lw

set_option Elab.async false
set_option linter.all false
set_option maxRecDepth 100000
set_option maxHeartbeats 400000
namespace Lw
open PySem PySem.Spec Pm
local macro_rules | `(tactic| push_cast [$xs,*]) => `(tactic| simp only [wx_cons, wx_nil, wx_if, wx_for1, wx_forT, ↓gw_nx, ↓gw_rt, ↓gw_bk, ↓gw_ct, ↓ew_nx, ↓ew_rt, ↓tw_nx, ↓tw_ct, ↓tw_bk, ↓tw_rt, ↓ww_t, ↓ww_f, ↓to_bd, ↓to_ifT, bd_ok, bd_exc, bd_bd, ifT_t, ifT_f, wp_ok, wp_exc, wpC_ok, wpC_exc, ofC_exc, asB_bd, asB_ofC, asB_if, asI_bd, asI_ofC, tupR_bd, lstR_bd, if_bind, chn_le, chn_lt, v_com, v_comf, v_prom, promR_o, x_app, x_ext, cmp_nmem_l, cmp_mem_l, cmp_mem_t, inL_int, v_met, metR_s, v_fld, fldR_s, v_fln, flnR_s, v_new, x_stf, stfR_s, o_met, o_fld, o_new, o_not, o_and, o_or, wp_ofC,
  x_set, x_setT, x_par2, x_ex, x_ret, x_retN, x_pass, x_brk, x_cnt, setTR_o, setO_s, bindS_nil, bindS_cons, v_con, v_glo, v_var, v_tup, v_lst, v_bin, v_cmp, v_cmp2, v_neg, v_and, v_or, v_not, v_ite, v_idx, v_sli, v_rev, v_f1, v_f2, v_isi, v_cal, a_nil', a_cons', o_no', o_so', it_seq, it_enu, it_rng1, it_rng2, seqR_l, seqR_t, seqR_s, seqR_o, enuR_l, enuR_t, enuR_o,
  o_bor, o_con, o_glo, o_tup, o_lst, o_bin, o_neg, o_idx, o_sli, o_rev, o_f1, o_f2, o_isi, o_cal, o_com, o_comf, o_ite, varR_v, varR_o, borR_v, borR_o, binR_s, cmpR_s, idxR_s, f1R_s, sliR_s, revR_s, isiR_s, negR_s, asB_ok, asI_ok, retR_some, retB_some, ofC_ok, Rd_v, Rd_o, Rs_v, Rs_o, cont_s, cont_v, cont_o, contS_v, contS_o,
  deref_int, deref_str, deref_bl, deref_non, deref_tup, deref_lst, deref_ref, derefR_lst, bin_add, bin_sub, cmp_eq, cmp_ne, cmp_lt, cmp_le, cmp_gt, cmp_ge, cmp_isn, cmp_isnn, eqI, eqF_str, eqF_nn, eqF_nt, eqF_tn, isNon_non, isNon_int, isNon_tup, isNon_lst, isNon_str, isNon_bl, ix_lst, ix_tup, ixD_0, ixD_1, ixD_2, ixD_3, ixD_4, ixD_5, ixD_6, ixD_m1, ixD_m2, ixD_m3, ixD_m4, ixD_m5, ixD_m6, ixD_m7, len1, len2, len3, len4, len5, len6, len7, Int.reduceEq, Bool.true_and, Bool.false_and, Bool.and_true, Bool.and_false, sl_lst, sl_tup, rev_lst, f_len_l, f_len_t, f_sum, f_all, f_list_l, f_list_t, f_tup_l, f_tup_t, f_max2, f_min2, ints_map, bools_map,
  ty_ii, ty_ib, ty_in, ty_is, ty_it, ty_il, ty_bi, ty_bb, ty_bn, ty_bs, ty_bt, ty_bl, ty_ti, ty_tb, ty_tn, ty_ts, ty_tt, ty_tl, ty_si, ty_sb, ty_sn, ty_ss, ty_st, ty_sl, ty_li, ty_lb, ty_ln, ty_ls, ty_lt, ty_ll, kn_i, kn_b, kn_n, kn_s, kn_t, kn_l, tupR_0, tupR_1, tupR_2, tupR_3, tupR_4, tupR_5, tupR_6, tupR_7, tupR_8, lstR_0, lstR_1, lstR_2, lstR_3, lstR_4, lstR_5, lstR_6, lstR_7, lstR_8,
  List.getElem?_cons_succ, List.getElem?_cons_zero, List.set_cons_succ, List.set_cons_zero, List.map_cons, List.map_nil, List.cons_append, List.nil_append, List.replicate_succ, List.replicate_zero, Nat.reduceSub, Option.map_some, Bool.not_true, Bool.not_false, decide_true, decide_false, not_true_eq_false, not_false_eq_true, and_true, true_and, Int.reduceLT, Int.reduceLE, Int.reduceNeg,
  kw_clip_clip, kw_clip_gap, kw_clip_list, kw_clip_lead, kw_gap_clip, kw_gap_gap, kw_gap_list, kw_gap_lead, kw_list_clip, kw_list_gap, kw_list_list, kw_list_lead, kw_lead_clip, kw_lead_gap, kw_lead_list, kw_lead_lead, deref_lay, len_lay, seq_lay, enu_lay, deref_film, len_film, seq_film, enu_film, deref_ls, len_ls, seq_ls, enu_ls, ty_lay, ty_ls, ty_film, kn_lay, kn_ls, kn_film, $xs,*])
theorem f_sorted_nil : fn1 .sorted (.lst []) = some (.o []) := id rfl
theorem need_sources_ok {n : Nat} {ss : List Int} {h : List Ob} (hs : Src ss) : callN T cf (n + 2) 127 [.tup (ss.map D.int)] h = .ok (.v .non) h := by
  refine wpC_eq ?_
  rw [call_need_sources, b_need_sources]
  refine wp_run rfl ?_
  have hne : eqF F60 (.tup (ss.map D.int)) (.tup []) = some false := by
    obtain ⟨x, xs, e⟩ := List.exists_cons_of_ne_nil hs.ne
    rw [e]
    rfl
  push_cast [hne, enu_map]
  refine wp_for (xs := ss.zipIdx) (g := fun q : Int × Nat => .tup [.int (q.2 : Int), .int q.1]) (fun a c σ h' => (∃ s1 s2, σ = [.v (.tup (ss.map D.int)), s1, s2]) ∧ h' = h) rfl ⟨⟨_, _, rfl⟩, rfl⟩ ?_ ?_
  · rintro a ⟨x, k⟩ c σ h' ea ⟨⟨s1, s2, rfl⟩, rfl⟩
    obtain ⟨rfl, hk⟩ := zip_split ea
    refine ⟨_, rfl, ?_⟩
    have hlt := (List.getElem?_eq_some_iff.mp hk).1
    have hl := hs.len
    have h6 : ¬ (6 : Int) ≤ (a.length : Int) := by omega
    obtain ⟨x1, x2⟩ := hs.all x (List.mem_of_getElem? hk)
    push_cast [h6, is_between_int, x1, x2]
    exact ⟨_, _, rfl⟩
  · rintro σ h' ⟨⟨s1, s2, rfl⟩, rfl⟩
    push_cast []
theorem need_shape_ok {n : Nat} {ss : List Int} {f : Film} {h : List Ob} (hf : FilmOk ss f) : callN T cf (n + 1) 126 [filmD f] h = .ok (.v .non) h := by
  refine wpC_eq ?_
  rw [call_need_shape, b_need_shape]
  refine wp_run rfl ?_
  push_cast [film_ne hf.ne]
  refine wp_for (xs := f.zipIdx) (g := fun q : List (List Pi) × Nat => .tup [.int (q.2 : Int), lsD q.1]) (fun a c σ h' => (∃ s1 s2, σ = [.v (filmD f), s1, s2]) ∧ h' = h) rfl ⟨⟨_, _, rfl⟩, rfl⟩ ?_ ?_
  · rintro a ⟨ls, k⟩ c σ h' ea ⟨⟨s1, s2, rfl⟩, rfl⟩
    obtain ⟨rfl, hk⟩ := zip_split ea
    refine ⟨_, rfl, ?_⟩
    have hlt := (List.getElem?_eq_some_iff.mp hk).1
    have hl := hf.len
    have h5 : ¬ (5 : Int) ≤ (a.length : Int) := by omega
    obtain ⟨x1, x2⟩ := hf.lay ls (List.mem_of_getElem? hk)
    have y1 : (1 : Int) ≤ (ls.length : Int) := by omega
    have y2 : (ls.length : Int) ≤ 3 := by omega
    push_cast [h5, y1, y2]
    exact ⟨_, _, rfl⟩
  · rintro σ h' ⟨⟨s1, s2, rfl⟩, rfl⟩
    push_cast []
theorem need_layer_ok {n : Nat} {ss : List Int} {L : Int} {l : List Pi} {P : Pm.D} {h : List Ob} (hl : l.length ≤ 60) (hp : ∀ p ∈ l, PiOk ss L p) : callN T cf (n + 6) 123 [layD l, P, .tup (ss.map D.int), .int L] h = .ok (.v .non) h := by
  refine wpC_eq ?_
  rw [call_need_layer, b_need_layer]
  refine wp_run rfl ?_
  push_cast []
  refine wp_for (xs := l.zipIdx) (g := fun q : Pi × Nat => .tup [.int (q.2 : Int), q.1.D]) (fun a c σ h' => (∃ s1 s2, σ = [.v (layD l), .v P, .v (.tup (ss.map D.int)), .v (.int L), s1, s2]) ∧ h' = h) rfl ⟨⟨_, _, rfl⟩, rfl⟩ ?_ ?_
  · rintro a ⟨p, k⟩ c σ h' ea ⟨⟨s1, s2, rfl⟩, rfl⟩
    obtain ⟨rfl, hk⟩ := zip_split ea
    refine ⟨_, rfl, ?_⟩
    have hlt := (List.getElem?_eq_some_iff.mp hk).1
    have h5 : ¬ (60 : Int) ≤ (a.length : Int) := by omega
    have z := okB_t (hp p (List.mem_of_getElem? hk))
    push_cast [h5, is_piece_eq, z]
    exact ⟨_, _, rfl⟩
  · rintro σ h' ⟨⟨s1, s2, rfl⟩, rfl⟩
    push_cast []
theorem need_no_ring_ok {n : Nat} {ss : List Int} {f : Film} {h : List Ob} (hf : FilmOk ss f) : callN T cf (n + 5) 125 [filmD f] h = .ok (.v .non) h := by
  obtain ⟨rk, hd⟩ := hf.dag
  have hl5 := hf.len
  refine wpC_eq ?_
  rw [call_need_no_ring, b_need_no_ring]
  refine wp_run rfl ?_
  have sm : small62 (f.length : Int) = true := small_of (by omega) (by omega)
  push_cast [rngR_s sm, rangeL_map]
  refine wp_comM (xs := List.range f.length) (g := fun j : Nat => D.int j) (f := fun _ => D.non) (s := .un) rfl rfl (szC (by rw [List.length_range]; omega)) (fun j hj => ?_) ?_
  · have hj := List.mem_range.mp hj
    have e := fun h => ring_none (n := n) (h := h) hd hf.len (fun ls hls => (hf.lay ls hls).2) hf.pcs hj
    push_cast [e]
  · push_cast []
    refine wp_comfM (xs := (List.range f.length).map fun _ => D.non) (g := fun d => d) (f := fun d => d) (p := fun _ => false) (s := .un) (by rw [List.map_id']) rfl (szC (by simp; omega)) (fun d hd => ?_) (fun d hd hp => nomatch hp) ?_
    · obtain ⟨_, _, rfl⟩ := List.mem_map.mp hd
      push_cast []
    · have e0 : (((List.range f.length).map fun _ => D.non).filter fun _ => false).map (fun d => d) = ([] : List Int).map D.int := by
        rw [List.filter_eq_nil_iff.mpr fun a _ z => Bool.false_ne_true z]
        rfl
      rw [e0]
      push_cast [f_sorted_nil, eqF_lst60, eqL_nn]
theorem need_film_ok {n : Nat} {ss : List Int} {f : Film} {h : List Ob} (hs : Src ss) (hf : FilmOk ss f) : callN T cf (n + 7) 121 [.tup (ss.map D.int), filmD f] h = .ok (.v .non) h := by
  refine wpC_eq ?_
  rw [call_need_film, b_need_film]
  refine wp_run rfl ?_
  push_cast [need_sources_ok hs, need_shape_ok hf]
  refine wp_for (xs := f.zipIdx) (g := fun q : List (List Pi) × Nat => .tup [.int (q.2 : Int), lsD q.1]) (fun a c σ h' => (∃ s1 s2 s3 s4, σ = [.v (.tup (ss.map D.int)), .v (filmD f), s1, s2, s3, s4]) ∧ h' = h) rfl ⟨⟨_, _, _, _, rfl⟩, rfl⟩ ?_ ?_
  · rintro a ⟨ls, k⟩ c σ h' ea ⟨⟨s1, s2, s3, s4, rfl⟩, rfl⟩
    obtain ⟨rfl, hk⟩ := zip_split ea
    have mk := List.mem_of_getElem? hk
    refine ⟨_, rfl, ?_⟩
    push_cast []
    refine wp_for (xs := ls.zipIdx) (g := fun q : List Pi × Nat => .tup [.int (q.2 : Int), layD q.1]) (fun a2 c2 σ h2 => (∃ s3 s4, σ = [.v (.tup (ss.map D.int)), .v (filmD f), .v (.int (a.length : Int)), .v (lsD ls), s3, s4]) ∧ h2 = h') rfl ⟨⟨_, _, rfl⟩, rfl⟩ ?_ ?_
    · rintro a2 ⟨l, k2⟩ c2 σ h2 ea2 ⟨⟨s3, s4, rfl⟩, rfl⟩
      obtain ⟨rfl, hk2⟩ := zip_split ea2
      have mk2 := List.mem_of_getElem? hk2
      refine ⟨_, rfl, ?_⟩
      have e := fun P h => need_layer_ok (n := n) (P := P) (h := h) (hf.pcs ls mk l mk2) (hf.ok ls mk l mk2)
      push_cast [e]
      exact ⟨_, _, rfl⟩
    · rintro σ h2 ⟨⟨s3, s4, rfl⟩, rfl⟩
      push_cast []
      exact ⟨_, _, _, _, rfl⟩
  · rintro σ h' ⟨⟨s1, s2, s3, s4, rfl⟩, rfl⟩
    push_cast [need_no_ring_ok hf]
end Lw

set_option Elab.async false
set_option linter.all false
set_option maxRecDepth 100000
set_option maxHeartbeats 400000
namespace Lw
open PySem PySem.Spec Pm
local macro_rules | `(tactic| push_cast [$xs,*]) => `(tactic| simp only [wx_cons, wx_nil, wx_if, wx_for1, wx_forT, ↓gw_nx, ↓gw_rt, ↓gw_bk, ↓gw_ct, ↓ew_nx, ↓ew_rt, ↓tw_nx, ↓tw_ct, ↓tw_bk, ↓tw_rt, ↓ww_t, ↓ww_f, ↓to_bd, ↓to_ifT, bd_ok, bd_exc, bd_bd, ifT_t, ifT_f, wp_ok, wp_exc, wpC_ok, wpC_exc, ofC_exc, asB_bd, asB_ofC, asB_if, asI_bd, asI_ofC, tupR_bd, lstR_bd, if_bind, chn_le, chn_lt, v_com, v_comf, v_prom, promR_o, x_app, x_ext, cmp_nmem_l, cmp_mem_l, cmp_mem_t, inL_int, v_met, metR_s, v_fld, fldR_s, v_fln, flnR_s, v_new, x_stf, stfR_s, o_met, o_fld, o_new, o_not, o_and, o_or, wp_ofC,
  x_set, x_setT, x_par2, x_ex, x_ret, x_retN, x_pass, x_brk, x_cnt, setTR_o, setO_s, bindS_nil, bindS_cons, v_con, v_glo, v_var, v_tup, v_lst, v_bin, v_cmp, v_cmp2, v_neg, v_and, v_or, v_not, v_ite, v_idx, v_sli, v_rev, v_f1, v_f2, v_isi, v_cal, a_nil', a_cons', o_no', o_so', it_seq, it_enu, it_rng1, it_rng2, seqR_l, seqR_t, seqR_s, seqR_o, enuR_l, enuR_t, enuR_o,
  o_bor, o_con, o_glo, o_tup, o_lst, o_bin, o_neg, o_idx, o_sli, o_rev, o_f1, o_f2, o_isi, o_cal, o_com, o_comf, o_ite, varR_v, varR_o, borR_v, borR_o, binR_s, cmpR_s, idxR_s, f1R_s, sliR_s, revR_s, isiR_s, negR_s, asB_ok, asI_ok, retR_some, retB_some, ofC_ok, Rd_v, Rd_o, Rs_v, Rs_o, cont_s, cont_v, cont_o, contS_v, contS_o,
  deref_int, deref_str, deref_bl, deref_non, deref_tup, deref_lst, deref_ref, derefR_lst, bin_add, bin_sub, cmp_eq, cmp_ne, cmp_lt, cmp_le, cmp_gt, cmp_ge, cmp_isn, cmp_isnn, eqI, eqF_str, eqF_nn, eqF_nt, eqF_tn, isNon_non, isNon_int, isNon_tup, isNon_lst, isNon_str, isNon_bl, ix_lst, ix_tup, ixD_0, ixD_1, ixD_2, ixD_3, ixD_4, ixD_5, ixD_6, ixD_m1, ixD_m2, ixD_m3, ixD_m4, ixD_m5, ixD_m6, ixD_m7, len1, len2, len3, len4, len5, len6, len7, Int.reduceEq, Bool.true_and, Bool.false_and, Bool.and_true, Bool.and_false, sl_lst, sl_tup, rev_lst, f_len_l, f_len_t, f_sum, f_all, f_list_l, f_list_t, f_tup_l, f_tup_t, f_max2, f_min2, ints_map, bools_map,
  ty_ii, ty_ib, ty_in, ty_is, ty_it, ty_il, ty_bi, ty_bb, ty_bn, ty_bs, ty_bt, ty_bl, ty_ti, ty_tb, ty_tn, ty_ts, ty_tt, ty_tl, ty_si, ty_sb, ty_sn, ty_ss, ty_st, ty_sl, ty_li, ty_lb, ty_ln, ty_ls, ty_lt, ty_ll, kn_i, kn_b, kn_n, kn_s, kn_t, kn_l, tupR_0, tupR_1, tupR_2, tupR_3, tupR_4, tupR_5, tupR_6, tupR_7, tupR_8, lstR_0, lstR_1, lstR_2, lstR_3, lstR_4, lstR_5, lstR_6, lstR_7, lstR_8,
  List.getElem?_cons_succ, List.getElem?_cons_zero, List.set_cons_succ, List.set_cons_zero, List.map_cons, List.map_nil, List.cons_append, List.nil_append, List.replicate_succ, List.replicate_zero, Nat.reduceSub, Option.map_some, Bool.not_true, Bool.not_false, decide_true, decide_false, not_true_eq_false, not_false_eq_true, and_true, true_and, Int.reduceLT, Int.reduceLE, Int.reduceNeg,
  kw_clip_clip, kw_clip_gap, kw_clip_list, kw_clip_lead, kw_gap_clip, kw_gap_gap, kw_gap_list, kw_gap_lead, kw_list_clip, kw_list_gap, kw_list_list, kw_list_lead, kw_lead_clip, kw_lead_gap, kw_lead_list, kw_lead_lead, deref_lay, len_lay, seq_lay, enu_lay, deref_film, len_film, seq_film, enu_film, deref_ls, len_ls, seq_ls, enu_ls, ty_lay, ty_ls, ty_film, kn_lay, kn_ls, kn_film, $xs,*])
def Fv.nonB : Fv → Bool
  | .non => true
  | _ => false
theorem isNon_fv {x : Fv} : isNon x.D = x.nonB := by cases x <;> rfl
theorem deref_fv {x : Fv} {h : List Ob} : derefD h x.D = some x.D := by cases x <;> rfl
def layShow (F : Int → Int → Fv) (l : List Pi) (at_ : Int) : Fv := ((flat F l)[at_.toNat]?).getD .non
def listShow (F : Int → Int → Fv) : List (List Pi) → Int → Fv
  | [], _ => .non
  | l :: r, at_ => if (layShow F l at_).nonB then listShow F r at_ else layShow F l at_
def showK (f : Film) : Nat → Int → Int → Fv
  | 0, _, _ => .non
  | k + 1, n, at_ => listShow (showK f k) (f.getD n.toNat []) at_
def sh (f : Film) : Int → Int → Fv := showK f 20
theorem pl_cong {F G : Int → Int → Fv} {p : Pl} (h : ∀ m ∈ plLists p, ∀ j, F m j = G m j) {j : Int} : showPl F p j = showPl G p j := by
  cases p with
  | lst n b K => exact h n List.mem_cons_self _
  | _ => rfl
theorem pi_cong {F G : Int → Int → Fv} {p : Pi} (h : ∀ m ∈ piLists p, ∀ j, F m j = G m j) {j : Int} : showPi F p j = showPi G p j := by
  cases p with
  | pl p => exact pl_cong h
  | lead a c st of =>
    unfold showPi
    dsimp only
    rw [pl_cong fun m hm j => h m (List.mem_append_left _ hm) j, pl_cong fun m hm j => h m (List.mem_append_right _ hm) j]
theorem flat_cong {F G : Int → Int → Fv} : ∀ {l : List Pi}, (∀ m ∈ l.flatMap piLists, ∀ j, F m j = G m j) → flat F l = flat G l
  | [], _ => rfl
  | p :: l, h => by
    rw [flat_cons, flat_cons, flat_cong (l := l) fun m hm j => h m (by rw [List.flatMap_cons]; exact List.mem_append_right _ hm) j]
    congr 1
    unfold pfl
    exact List.map_congr_left fun j _ => pi_cong fun m hm j => h m (by rw [List.flatMap_cons]; exact List.mem_append_left _ hm) j
theorem list_cong {F G : Int → Int → Fv} : ∀ {ls : List (List Pi)}, (∀ m ∈ shownL ls, ∀ j, F m j = G m j) → ∀ at_, listShow F ls at_ = listShow G ls at_
  | [], _, _ => rfl
  | l :: ls, h, at_ => by
    have e1 : flat F l = flat G l := flat_cong fun m hm j => h m (by unfold shownL; rw [List.flatMap_cons]; exact List.mem_append_left _ hm) j
    have e2 := list_cong (F := F) (G := G) (ls := ls) (fun m hm j => h m (by unfold shownL; rw [List.flatMap_cons]; exact List.mem_append_right _ hm) j) at_
    unfold listShow layShow
    rw [e1, e2]
theorem getD_of {f : Film} {n : Nat} {ls : List (List Pi)} (e : f[n]? = some ls) : f.getD n [] = ls := by
  rw [List.getD_eq_getElem?_getD, e]
  rfl
/-- what a list shows does not hang on how deep one looks -/
theorem show_stable {f : Film} {rk : Nat → Nat} (hd : Dag f rk) : ∀ (k k' : Nat) (m : Int), 0 ≤ m → m < (f.length : Int) → rk m.toNat < k → rk m.toNat < k' → ∀ j, showK f k m j = showK f k' m j := by
  intro k
  induction k with
  | zero => intro k' m _ _ h _; omega
  | succ k ih =>
    intro k' m m0 m1 h h' j
    cases k' with
    | zero => omega
    | succ k' =>
      have hlt : m.toNat < f.length := by omega
      have e : f[m.toNat]? = some f[m.toNat] := List.getElem?_eq_getElem hlt
      show listShow (showK f k) (f.getD m.toNat []) j = listShow (showK f k') (f.getD m.toNat []) j
      rw [getD_of e]
      refine list_cong (fun i hi j => ?_) j
      obtain ⟨i0, i1, i2⟩ := (hd _ _ e).2 i hi
      exact ih k' i i0 i1 (by omega) (by omega) j
theorem sh_eq {f : Film} {rk : Nat → Nat} (hd : Dag f rk) {n : Nat} {ls : List (List Pi)} (e : f[n]? = some ls) (j : Int) : sh f (n : Int) j = listShow (sh f) ls j := by
  have r := (hd n ls e).1
  show listShow (showK f 19) (f.getD ((n : Int)).toNat []) j = _
  rw [Int.toNat_natCast, getD_of e]
  refine list_cong (fun i hi j => ?_) j
  obtain ⟨i0, i1, i2⟩ := (hd _ _ e).2 i hi
  exact show_stable hd 19 20 i i0 i1 (by omega) (by omega) j
theorem tot_take_le {l : List Pi} (hp : AllPos l) {k : Nat} : tot (l.take k) ≤ tot l := by
  have e : tot l = tot (l.take k) + tot (l.drop k) := by rw [← tot_app, List.take_append_drop]
  have := tot_nn (l := l.drop k) fun p hq => hp p (List.mem_of_mem_drop hq)
  omega
theorem flat_at {F : Int → Int → Fv} {l : List Pi} (hp : AllPos l) {k : Nat} {p : Pi} (e : l[k]? = some p) {at_ : Int} (h0 : tot (l.take k) ≤ at_) (h1 : at_ < tot (l.take k) + p.len) (hz : 0 ≤ tot (l.take k)) : (flat F l)[at_.toNat]? = some (showPi F p (at_ - tot (l.take k))) := by
  obtain ⟨hk, ep⟩ := List.getElem?_eq_some_iff.mp e
  have el : l = l.take k ++ p :: l.drop (k + 1) := by
    rw [← ep, List.getElem_cons_drop, List.take_append_drop]
  have hpt : AllPos (l.take k) := fun q hq => hp q (List.mem_of_mem_take hq)
  have hl := flat_len (F := F) hpt
  have h3 : at_.toNat = (tot (l.take k)).toNat + (at_ - tot (l.take k)).toNat := by omega
  have h4 : (at_ - tot (l.take k)).toNat < p.len.toNat := by omega
  have h5 : ((at_ - tot (l.take k)).toNat : Int) = at_ - tot (l.take k) := by omega
  have h6 : (pfl F p)[(at_ - tot (l.take k)).toNat]? = some (showPi F p (at_ - tot (l.take k))) := by
    unfold pfl
    rw [List.getElem?_map, List.getElem?_range h4]
    show some (showPi F p _) = _
    rw [h5]
  have h7 : flat F l = flat F (l.take k) ++ (pfl F p ++ flat F (l.drop (k + 1))) := by
    rw [← flat_cons, ← flat_app, ← el]
  rw [h7, h3, List.getElem?_append_right (by rw [hl]; omega), hl, Nat.add_sub_cancel_left, List.getElem?_append_left (by rw [pfl_len]; exact h4), h6]
theorem flat_out {F : Int → Int → Fv} {l : List Pi} (hp : AllPos l) {at_ : Int} (h : tot l ≤ at_) : (flat F l)[at_.toNat]? = none := by
  refine List.getElem?_eq_none ?_
  rw [flat_len hp]
  omega
/-- a list's frame, by the def -/
def LfOk (f : Film) (m : Int) (v : Nat) : Prop := ∀ (j : Int) (h : List Ob), 0 ≤ j → callN T cf v 112 [filmD f, .int m, .int j] h = .ok (.v (sh f m j).D) h
theorem ok_beg {ss : List Int} {L : Int} {p : Pi} (h : PiOk ss L p) : ∀ q, (p = .pl q ∨ (∃ c st of, p = .lead q c st of) ∨ ∃ a st of, p = .lead a q st of) → ∀ m b K, q = .lst m b K → 0 ≤ b := by
  rintro q hq m b K rfl
  rcases hq with rfl | ⟨c, st, of, rfl⟩ | ⟨a, st, of, rfl⟩
  · exact h.2.2.1
  · exact h.1.2.2.1
  · exact h.2.1.2.2.1
theorem PiOk.pos {ss : List Int} {L : Int} {p : Pi} (h : PiOk ss L p) : 1 ≤ p.len := h.one.1
end Lw

set_option Elab.async false
set_option linter.all false
set_option maxRecDepth 100000
set_option maxHeartbeats 400000
namespace Lw
open PySem PySem.Spec Pm
local macro_rules | `(tactic| push_cast [$xs,*]) => `(tactic| simp only [wx_cons, wx_nil, wx_if, wx_for1, wx_forT, ↓gw_nx, ↓gw_rt, ↓gw_bk, ↓gw_ct, ↓ew_nx, ↓ew_rt, ↓tw_nx, ↓tw_ct, ↓tw_bk, ↓tw_rt, ↓ww_t, ↓ww_f, ↓to_bd, ↓to_ifT, bd_ok, bd_exc, bd_bd, ifT_t, ifT_f, wp_ok, wp_exc, wpC_ok, wpC_exc, ofC_exc, asB_bd, asB_ofC, asB_if, asI_bd, asI_ofC, tupR_bd, lstR_bd, if_bind, chn_le, chn_lt, v_com, v_comf, v_prom, promR_o, x_app, x_ext, cmp_nmem_l, cmp_mem_l, cmp_mem_t, inL_int, v_met, metR_s, v_fld, fldR_s, v_fln, flnR_s, v_new, x_stf, stfR_s, o_met, o_fld, o_new, o_not, o_and, o_or, wp_ofC,
  x_set, x_setT, x_par2, x_ex, x_ret, x_retN, x_pass, x_brk, x_cnt, setTR_o, setO_s, bindS_nil, bindS_cons, v_con, v_glo, v_var, v_tup, v_lst, v_bin, v_cmp, v_cmp2, v_neg, v_and, v_or, v_not, v_ite, v_idx, v_sli, v_rev, v_f1, v_f2, v_isi, v_cal, a_nil', a_cons', o_no', o_so', it_seq, it_enu, it_rng1, it_rng2, seqR_l, seqR_t, seqR_s, seqR_o, enuR_l, enuR_t, enuR_o,
  o_bor, o_con, o_glo, o_tup, o_lst, o_bin, o_neg, o_idx, o_sli, o_rev, o_f1, o_f2, o_isi, o_cal, o_com, o_comf, o_ite, varR_v, varR_o, borR_v, borR_o, binR_s, cmpR_s, idxR_s, f1R_s, sliR_s, revR_s, isiR_s, negR_s, asB_ok, asI_ok, retR_some, retB_some, ofC_ok, Rd_v, Rd_o, Rs_v, Rs_o, cont_s, cont_v, cont_o, contS_v, contS_o,
  deref_int, deref_str, deref_bl, deref_non, deref_tup, deref_lst, deref_ref, derefR_lst, bin_add, bin_sub, cmp_eq, cmp_ne, cmp_lt, cmp_le, cmp_gt, cmp_ge, cmp_isn, cmp_isnn, eqI, eqF_str, eqF_nn, eqF_nt, eqF_tn, isNon_non, isNon_int, isNon_tup, isNon_lst, isNon_str, isNon_bl, ix_lst, ix_tup, ixD_0, ixD_1, ixD_2, ixD_3, ixD_4, ixD_5, ixD_6, ixD_m1, ixD_m2, ixD_m3, ixD_m4, ixD_m5, ixD_m6, ixD_m7, len1, len2, len3, len4, len5, len6, len7, Int.reduceEq, Bool.true_and, Bool.false_and, Bool.and_true, Bool.and_false, sl_lst, sl_tup, rev_lst, f_len_l, f_len_t, f_sum, f_all, f_list_l, f_list_t, f_tup_l, f_tup_t, f_max2, f_min2, ints_map, bools_map,
  ty_ii, ty_ib, ty_in, ty_is, ty_it, ty_il, ty_bi, ty_bb, ty_bn, ty_bs, ty_bt, ty_bl, ty_ti, ty_tb, ty_tn, ty_ts, ty_tt, ty_tl, ty_si, ty_sb, ty_sn, ty_ss, ty_st, ty_sl, ty_li, ty_lb, ty_ln, ty_ls, ty_lt, ty_ll, kn_i, kn_b, kn_n, kn_s, kn_t, kn_l, tupR_0, tupR_1, tupR_2, tupR_3, tupR_4, tupR_5, tupR_6, tupR_7, tupR_8, lstR_0, lstR_1, lstR_2, lstR_3, lstR_4, lstR_5, lstR_6, lstR_7, lstR_8,
  List.getElem?_cons_succ, List.getElem?_cons_zero, List.set_cons_succ, List.set_cons_zero, List.map_cons, List.map_nil, List.cons_append, List.nil_append, List.replicate_succ, List.replicate_zero, Nat.reduceSub, Option.map_some, Bool.not_true, Bool.not_false, decide_true, decide_false, not_true_eq_false, not_false_eq_true, and_true, true_and, Int.reduceLT, Int.reduceLE, Int.reduceNeg,
  kw_clip_clip, kw_clip_gap, kw_clip_list, kw_clip_lead, kw_gap_clip, kw_gap_gap, kw_gap_list, kw_gap_lead, kw_list_clip, kw_list_gap, kw_list_list, kw_list_lead, kw_lead_clip, kw_lead_gap, kw_lead_list, kw_lead_lead, deref_lay, len_lay, seq_lay, enu_lay, deref_film, len_film, seq_film, enu_film, deref_ls, len_ls, seq_ls, enu_ls, ty_lay, ty_ls, ty_film, kn_lay, kn_ls, kn_film, $xs,*])
theorem need_list_ok {n : Nat} {f : Film} {m : Nat} (hm : m < f.length) {h : List Ob} : callN T cf (n + 2) 124 [filmD f, .int (m : Int)] h = .ok (.v .non) h := by
  refine wpC_eq ?_
  rw [call_need_list, b_need_list]
  refine wp_run rfl ?_
  have h1 : (0 : Int) ≤ (m : Int) := by omega
  have h2 : (m : Int) ≤ (f.length : Int) - 1 := by omega
  push_cast [is_between_int, h1, h2]
/-- what a list shows, in a row -/
def rowOf (F : Int → Int → Fv) (m : Int) (b : Int) (k : Nat) : List Fv := (List.range k).map fun i : Nat => F m (b + (i : Int))
theorem rangeL_off {b : Int} {k : Nat} : rangeL b (b + (k : Int)) = (List.range k).map fun i : Nat => D.int (b + (i : Int)) := by
  unfold rangeL
  have e : (b + (k : Int) - b).toNat = k := by omega
  rw [e]
end Lw

set_option Elab.async false
set_option linter.all false
set_option maxRecDepth 100000
set_option maxHeartbeats 400000
namespace Lw
open PySem PySem.Spec Pm
local macro_rules | `(tactic| push_cast [$xs,*]) => `(tactic| simp only [wx_cons, wx_nil, wx_if, wx_for1, wx_forT, ↓gw_nx, ↓gw_rt, ↓gw_bk, ↓gw_ct, ↓ew_nx, ↓ew_rt, ↓tw_nx, ↓tw_ct, ↓tw_bk, ↓tw_rt, ↓ww_t, ↓ww_f, ↓to_bd, ↓to_ifT, bd_ok, bd_exc, bd_bd, ifT_t, ifT_f, wp_ok, wp_exc, wpC_ok, wpC_exc, ofC_exc, asB_bd, asB_ofC, asB_if, asI_bd, asI_ofC, tupR_bd, lstR_bd, if_bind, chn_le, chn_lt, v_com, v_comf, v_prom, promR_o, x_app, x_ext, cmp_nmem_l, cmp_mem_l, cmp_mem_t, inL_int, v_met, metR_s, v_fld, fldR_s, v_fln, flnR_s, v_new, x_stf, stfR_s, o_met, o_fld, o_new, o_not, o_and, o_or, wp_ofC,
  x_set, x_setT, x_par2, x_ex, x_ret, x_retN, x_pass, x_brk, x_cnt, setTR_o, setO_s, bindS_nil, bindS_cons, v_con, v_glo, v_var, v_tup, v_lst, v_bin, v_cmp, v_cmp2, v_neg, v_and, v_or, v_not, v_ite, v_idx, v_sli, v_rev, v_f1, v_f2, v_isi, v_cal, a_nil', a_cons', o_no', o_so', it_seq, it_enu, it_rng1, it_rng2, seqR_l, seqR_t, seqR_s, seqR_o, enuR_l, enuR_t, enuR_o,
  o_bor, o_con, o_glo, o_tup, o_lst, o_bin, o_neg, o_idx, o_sli, o_rev, o_f1, o_f2, o_isi, o_cal, o_com, o_comf, o_ite, varR_v, varR_o, borR_v, borR_o, binR_s, cmpR_s, idxR_s, f1R_s, sliR_s, revR_s, isiR_s, negR_s, asB_ok, asI_ok, retR_some, retB_some, ofC_ok, Rd_v, Rd_o, Rs_v, Rs_o, cont_s, cont_v, cont_o, contS_v, contS_o,
  deref_int, deref_str, deref_bl, deref_non, deref_tup, deref_lst, deref_ref, derefR_lst, bin_add, bin_sub, cmp_eq, cmp_ne, cmp_lt, cmp_le, cmp_gt, cmp_ge, cmp_isn, cmp_isnn, eqI, eqF_str, eqF_nn, eqF_nt, eqF_tn, isNon_non, isNon_int, isNon_tup, isNon_lst, isNon_str, isNon_bl, ix_lst, ix_tup, ixD_0, ixD_1, ixD_2, ixD_3, ixD_4, ixD_5, ixD_6, ixD_m1, ixD_m2, ixD_m3, ixD_m4, ixD_m5, ixD_m6, ixD_m7, len1, len2, len3, len4, len5, len6, len7, Int.reduceEq, Bool.true_and, Bool.false_and, Bool.and_true, Bool.and_false, sl_lst, sl_tup, rev_lst, f_len_l, f_len_t, f_sum, f_all, f_list_l, f_list_t, f_tup_l, f_tup_t, f_max2, f_min2, ints_map, bools_map,
  ty_ii, ty_ib, ty_in, ty_is, ty_it, ty_il, ty_bi, ty_bb, ty_bn, ty_bs, ty_bt, ty_bl, ty_ti, ty_tb, ty_tn, ty_ts, ty_tt, ty_tl, ty_si, ty_sb, ty_sn, ty_ss, ty_st, ty_sl, ty_li, ty_lb, ty_ln, ty_ls, ty_lt, ty_ll, kn_i, kn_b, kn_n, kn_s, kn_t, kn_l, tupR_0, tupR_1, tupR_2, tupR_3, tupR_4, tupR_5, tupR_6, tupR_7, tupR_8, lstR_0, lstR_1, lstR_2, lstR_3, lstR_4, lstR_5, lstR_6, lstR_7, lstR_8,
  List.getElem?_cons_succ, List.getElem?_cons_zero, List.set_cons_succ, List.set_cons_zero, List.map_cons, List.map_nil, List.cons_append, List.nil_append, List.replicate_succ, List.replicate_zero, Nat.reduceSub, Option.map_some, Bool.not_true, Bool.not_false, decide_true, decide_false, not_true_eq_false, not_false_eq_true, and_true, true_and, Int.reduceLT, Int.reduceLE, Int.reduceNeg,
  kw_clip_clip, kw_clip_gap, kw_clip_list, kw_clip_lead, kw_gap_clip, kw_gap_gap, kw_gap_list, kw_gap_lead, kw_list_clip, kw_list_gap, kw_list_list, kw_list_lead, kw_lead_clip, kw_lead_gap, kw_lead_list, kw_lead_lead, deref_lay, len_lay, seq_lay, enu_lay, deref_film, len_film, seq_film, enu_film, deref_ls, len_ls, seq_ls, enu_ls, ty_lay, ty_ls, ty_film, kn_lay, kn_ls, kn_film, $xs,*])
theorem pickI {xs : List Int} {v : Int} {P : Int → Prop} (h0 : 0 ≤ v) (h1 : v < xs.length) (hP : ∀ x ∈ xs, P x) : ∃ z, ixD (xs.map D.int) v = some (.int z) ∧ P z := by
  obtain ⟨m, rfl⟩ : ∃ m : Nat, v = (m : Int) := ⟨v.toNat, by omega⟩
  have hm : m < xs.length := by omega
  refine ⟨xs[m], ?_, hP _ (List.getElem_mem hm)⟩
  rw [ixD_nat, List.getElem?_map, List.getElem?_eq_getElem hm]
  rfl
theorem f_len_ss {ss : List Int} : fn1 .len (.tup (ss.map D.int)) = some (.v (.int (ss.length : Int))) := by
  show some (R.v (D.int ((ss.map D.int).length : Int))) = _
  rw [List.length_map]
theorem ix_ss {ss : List Int} {s : Nat} (h : s < ss.length) : ixD (ss.map D.int) (s : Int) = some (.int (ss.getD s 0)) := by
  rw [ixD_nat, List.getElem?_map, List.getElem?_eq_getElem h, List.getD_eq_getElem?_getD, List.getElem?_eq_getElem h]
  rfl
theorem clip_w {m : Nat} (hn : 2 ≤ m) {ss : List Int} (hs : Src ss) {L : Int} {K : Int} (k0 : 1 ≤ K) (k1 : K ≤ 500) {rest h : List Ob} (hd : DH rest h) : WpC (callN T cf m 41 [.ref 0, .tup (ss.map D.int), .int K] h) (fun r h' => ∃ p : Pl, r = .v p.D ∧ PlOk ss L p ∧ p.len ≤ K ∧ plLists p = [] ∧ DH rest h') C0 := by
  obtain ⟨n, rfl⟩ := Nat.exists_eq_add_of_le' hn
  have l0 : 0 < ss.length := List.length_pos_iff.mpr hs.ne
  have l6 := hs.len
  rw [call__law_clip, b__law_clip]
  refine wp_run rfl ?_
  push_cast [List.length_map]
  refine wp_call0 (off_w (by omega) hd (by omega) (by omega)) ?_
  rintro _ h1 ⟨s, rfl, s0, s1, hd⟩
  push_cast []
  refine wp_call0 (off_w (by omega) hd (by omega) (by omega)) ?_
  rintro _ h2 ⟨a, rfl, a0, a1, hd⟩
  push_cast []
  refine wp_call0 (off_w (by omega) hd (by omega) (by omega)) ?_
  rintro _ h3 ⟨b, rfl, b0, b1, hd⟩
  push_cast []
  refine wp_call0 (off_w (by omega) hd (by omega) (by omega)) ?_
  rintro _ h4 ⟨c, rfl, c0, c1, hd⟩
  obtain ⟨st, e, st0, st1⟩ := pickI (xs := [1, 1, a, 0 - b]) (P := fun z => -9 ≤ z ∧ z ≤ 9) c0 c1 (by
    intro x hx
    simp only [List.mem_cons, List.not_mem_nil, or_false] at hx
    rcases hx with rfl | rfl | rfl | rfl <;> exact ⟨by omega, by omega⟩)
  have e : ixD [.int 1, .int 1, .int a, .int (0 - b)] c = some (.int st) := e
  push_cast [e]
  refine wp_call0 (off_w (by omega) hd (by omega) (by omega)) ?_
  rintro _ h5 ⟨a', rfl, a0', a1', hd⟩
  push_cast []
  refine wp_call0 (off_w (by omega) hd (by omega) (by omega)) ?_
  rintro _ h6 ⟨c', rfl, c0', c1', hd⟩
  obtain ⟨of, e, of0, of1⟩ := pickI (xs := [1, 1, 1 + a']) (P := fun z => 1 ≤ z ∧ z ≤ 9) c0' c1' (by
    intro x hx
    simp only [List.mem_cons, List.not_mem_nil, or_false] at hx
    rcases hx with rfl | rfl | rfl <;> exact ⟨by omega, by omega⟩)
  have e : ixD [.int 1, .int 1, .int (1 + a')] c' = some (.int of) := e
  push_cast [e]
  refine wp_call0 (off_w (by omega) hd (by omega) (by omega)) ?_
  rintro _ h7 ⟨rs, rfl, rs0, rs1, hd⟩
  obtain ⟨s, rfl⟩ : ∃ m : Nat, s = (m : Int) := ⟨s.toNat, by omega⟩
  have sl : s < ss.length := by omega
  have hx := hs.all (ss.getD s 0) (by rw [List.getD_eq_getElem?_getD, List.getElem?_eq_getElem sl]; exact List.getElem_mem sl)
  push_cast [ix_ss sl]
  refine wp_call0 (off_w (by omega) hd (by omega) (by omega)) ?_
  rintro _ h8 ⟨b', rfl, b0', b1', hd⟩
  push_cast []
  have hof : of ≠ 0 := by omega
  have hm : ∀ i, binop .mul (.int i) (.int st) = some (.v (.int (i * st))) := fun i => bin_mulrS (by omega) (by omega)
  have hfd : ∀ i, binop .fdiv (.int i) (.int of) = some (.v (.int (i / of))) := fun i => bin_fdiv (by omega) (by omega)
  have hfd2 : ∀ i, binop .fdiv (.int i) (.int 2) = some (.v (.int (i / 2))) := fun i => bin_fdiv (by omega) (by omega)
  refine wp_whl (fun m σ h' => h' = h8 ∧ (m : Int) ≤ K ∧ 1 ≤ m ∧ σ = [.v (.ref 0), .v (.tup (ss.map D.int)), .v (.int (m : Int)), .v (.int (s : Int)), .v (.int st), .v (.int of), .v (.int rs), .v (.int b')]) K.toNat ⟨rfl, by omega, by omega, by rw [Int.toNat_of_nonneg (by omega)]⟩ ?_
  rintro m σ h' ⟨rfl, m1, m0, rfl⟩
  have fin : (m = 1 ∨ (0 ≤ b' + (rs + ((m : Int) - 1) * st) / of ∧ b' + (rs + ((m : Int) - 1) * st) / of < ss.getD s 0)) → ∃ p : Pl, R.v (.tup [.str "clip", .int (s : Int), .int b', .int st, .int of, .int rs, .int (m : Int)]) = .v p.D ∧ PlOk ss L p ∧ p.len ≤ K ∧ plLists p = [] ∧ DH rest h' := fun q => by
    refine ⟨.clip s b' st of rs m, rfl, ?_, m1, rfl, hd⟩
    refine ⟨⟨by omega, by omega⟩, ⟨b0', ?_⟩, ⟨st0, st1⟩, ⟨of0, of1⟩, ⟨rs0, by omega⟩, ⟨by omega, by omega⟩, ?_⟩
    · rw [Int.toNat_natCast]; omega
    · rw [Int.toNat_natCast]
      unfold cfr
      rcases q with q | q
      · subst q
        have : (rs + (((1 : Nat) : Int) - 1) * st) / of = 0 := by
          rw [show (((1 : Nat) : Int) - 1) = 0 from rfl, Int.zero_mul, Int.add_zero]
          exact Int.ediv_eq_zero_of_lt rs0 rs1
        rw [this]
        omega
      · omega
  by_cases hm1 : (1 : Int) < (m : Int)
  · push_cast [hm1, hm, hfd, ix_ss sl]
    by_cases g0 : 0 ≤ b' + (rs + ((m : Int) - 1) * st) / of
    · push_cast [g0, ix_ss sl]
      by_cases g1 : b' + (rs + ((m : Int) - 1) * st) / of < ss.getD s 0
      · push_cast [g1]
        exact fin (.inr ⟨g0, g1⟩)
      · push_cast [g1, hfd2]
        exact ⟨m / 2, by omega, by omega, by omega, by rw [Int.natCast_ediv]; rfl⟩
    · push_cast [g0, ix_ss sl, hfd2]
      exact ⟨m / 2, by omega, by omega, by omega, by rw [Int.natCast_ediv]; rfl⟩
  · push_cast [hm1]
    exact fin (.inl (by omega))
theorem ix_ns {ns : List Int} {v : Int} {P : Int → Prop} (h0 : 0 ≤ v) (h1 : v < ns.length) (hP : ∀ x ∈ ns, P x) : ∃ z, ixD (ns.map D.int) v = some (.int z) ∧ P z := pickI h0 h1 hP
theorem eq_nil_ns {ns : List Int} : eqF F60 (.lst (ns.map D.int)) (.lst []) = some (decide (ns = [])) := by
  rw [eq_nil_lst]
  congr 1
  exact decide_eq_decide.mpr List.map_eq_nil_iff
/-- the lists that may be shown -/
def Lists (L : Int) (P : Int → Prop) (ns : List Int) : Prop := ns.length ≤ 5 ∧ ∀ x ∈ ns, (0 ≤ x ∧ x ≤ L - 1) ∧ P x
theorem plain_w {m : Nat} (hn : 3 ≤ m) {ss : List Int} (hs : Src ss) {L : Int} {P : Int → Prop} {ns : List Int} (hl : Lists L P ns) {K : Int} (k0 : 1 ≤ K) (k1 : K ≤ 500) {rest h : List Ob} (hd : DH rest h) :
    WpC (callN T cf m 74 [.ref 0, .tup (ss.map D.int), .int K, .lst (ns.map D.int)] h) (fun r h' => ∃ p : Pl, r = .v p.D ∧ PlOk ss L p ∧ p.len ≤ K ∧ (∀ m ∈ plLists p, P m) ∧ DH rest h') C0 := by
  obtain ⟨n, rfl⟩ := Nat.exists_eq_add_of_le' hn
  rw [call__law_plain, b__law_plain]
  refine wp_run rfl ?_
  push_cast []
  refine wp_call0 (off_w (by omega) hd (by omega) (by omega)) ?_
  rintro _ h1 ⟨k, rfl, k2, k3, hd⟩
  by_cases hk : k = 0
  · subst hk
    push_cast [eqI]
    exact ⟨.gap K, rfl, ⟨k0, k1⟩, Int.le_refl _, fun m hm => (nomatch hm), hd⟩
  · push_cast [hk]
    by_cases hk3 : k < 3 ∧ ns ≠ []
    · have n0 := List.length_pos_iff.mpr hk3.2
      have n5 := hl.1
      push_cast [hk3.1, hk3.2, eq_nil_ns]
      refine wp_call0 (off_w (by omega) hd (by omega) (by omega)) ?_
      rintro _ h2 ⟨a, rfl, a0, a1, hd⟩
      push_cast []
      refine wp_call0 (off_w (by omega) hd (by omega) (by omega)) ?_
      rintro _ h3 ⟨b, rfl, b0, b1, hd⟩
      push_cast []
      refine wp_call0 (off_w (by omega) hd (by omega) (by omega)) ?_
      rintro _ h4 ⟨c, rfl, c0, c1, hd⟩
      obtain ⟨z, e, z0, z1⟩ := pickI (xs := [a, b]) (P := fun z => 0 ≤ z ∧ z ≤ 1500 - K) c0 c1 (by
        intro x hx
        simp only [List.mem_cons, List.not_mem_nil, or_false] at hx
        rcases hx with rfl | rfl <;> exact ⟨by omega, by omega⟩)
      have e : ixD [.int a, .int b] c = some (.int z) := e
      push_cast [e, List.length_map]
      refine wp_call0 (off_w (by omega) hd (by omega) (by omega)) ?_
      rintro _ h5 ⟨v, rfl, v0, v1, hd⟩
      obtain ⟨m, e, m0, m1⟩ := pickI (xs := ns) (P := fun x => (0 ≤ x ∧ x ≤ L - 1) ∧ P x) v0 v1 hl.2
      push_cast [e]
      refine ⟨.lst m z K, rfl, ⟨m0, ⟨k0, k1⟩, ⟨z0, z1⟩⟩, Int.le_refl _, fun q hq => ?_, hd⟩
      rw [List.mem_singleton.mp hq]
      exact m1
    · by_cases hk4 : k < 3
      · have hns : ns = [] := Classical.byContradiction fun q => hk3 ⟨hk4, q⟩
        subst hns
        push_cast [hk4, eq_nil_lst]
        refine wp_call0 (clip_w (L := L) (by omega) hs k0 k1 hd) ?_
        rintro _ h2 ⟨p, rfl, hp, hK, hq, hd⟩
        push_cast []
        exact ⟨p, rfl, hp, hK, fun m hm => by rw [hq] at hm; exact (nomatch hm), hd⟩
      · push_cast [hk4]
        refine wp_call0 (clip_w (L := L) (by omega) hs k0 k1 hd) ?_
        rintro _ h2 ⟨p, rfl, hp, hK, hq, hd⟩
        push_cast []
        exact ⟨p, rfl, hp, hK, fun m hm => by rw [hq] at hm; exact (nomatch hm), hd⟩
def setLen (p : Pl) (K : Int) : Pl := match p with
  | .clip s f st of rs _ => .clip s f st of rs K
  | .gap _ => .gap K
  | .lst m f _ => .lst m f K
theorem setLen_part {p : Pl} {K : Int} {ss : List Int} {L : Int} (h : PlOk ss L p) : setLen p K = partPl p 0 K := by
  cases p with
  | clip s f st of rs k =>
    obtain ⟨_, _, _, ⟨o1, _⟩, ⟨r0, r1⟩, _⟩ := h
    unfold setLen partPl
    dsimp only
    rw [Int.zero_mul, Int.add_zero, Int.ediv_eq_zero_of_lt r0 (by omega), Int.emod_eq_of_lt r0 (by omega), Int.add_zero, Int.sub_zero]
  | gap k =>
    unfold setLen partPl
    dsimp only
    rw [Int.sub_zero]
  | lst m f k =>
    unfold setLen partPl
    dsimp only
    rw [Int.sub_zero, Int.add_zero]
theorem setLen_ok {p : Pl} {K : Int} {ss : List Int} {L : Int} (h : PlOk ss L p) (k0 : 1 ≤ K) (k1 : K ≤ p.len) : PlOk ss L (setLen p K) := by
  rw [setLen_part h]
  exact partPl_ok h (by omega) (by omega) k1
theorem setLen_lists {p : Pl} {K : Int} : plLists (setLen p K) = plLists p := by cases p <;> rfl
theorem setLen_len {p : Pl} {K : Int} : (setLen p K).len = K := by cases p <;> rfl
def Pl.ini (p : Pl) : List Pm.D := match p with
  | .clip s b st of rs _ => [.str "clip", .int s, .int b, .int st, .int of, .int rs]
  | .gap _ => [.str "gap"]
  | .lst n b _ => [.str "list", .int n, .int b]
theorem Pl.sl {p : Pl} : slice p.D none (some (-1)) = some (.v (.tup p.ini)) := by cases p <;> rfl
theorem Pl.ap {p : Pl} {K : Int} : binop .add (.tup p.ini) (.tup [.int K]) = some (.v (setLen p K).D) := by
  have hz : p.ini.length + [D.int K].length ≤ sizeLine := szA (by cases p <;> simp [Pl.ini])
  rw [bin_addt hz]
  cases p <;> rfl
theorem piece_w {m : Nat} (hn : 4 ≤ m) {ss : List Int} (hs : Src ss) {L : Int} {P : Int → Prop} {ns : List Int} (hl : Lists L P ns) {rest h : List Ob} (hd : DH rest h) :
    WpC (callN T cf m 71 [.ref 0, .tup (ss.map D.int), .lst (ns.map D.int)] h) (fun r h' => ∃ p : Pi, r = .v p.D ∧ PiOk ss L p ∧ (∀ m ∈ piLists p, P m) ∧ DH rest h') C0 := by
  obtain ⟨n, rfl⟩ := Nat.exists_eq_add_of_le' hn
  rw [call__law_piece, b__law_piece]
  refine wp_run rfl ?_
  push_cast []
  refine wp_call0 (off_w (by omega) hd (by omega) (by omega)) ?_
  rintro _ h1 ⟨a, rfl, a0, a1, hd⟩
  obtain ⟨fa, e, f0, f1⟩ := pickI (xs := [40, 40, 40, 40, 40, 500]) (P := fun z => 1 ≤ z ∧ z ≤ 500) a0 a1 (by
    intro x hx
    simp only [List.mem_cons, List.not_mem_nil, or_false] at hx
    rcases hx with rfl | rfl | rfl | rfl | rfl | rfl <;> exact ⟨by omega, by omega⟩)
  have e : ixD [.int 40, .int 40, .int 40, .int 40, .int 40, .int 500] a = some (.int fa) := e
  push_cast [e]
  refine wp_call0 (off_w (by omega) hd (by omega) (by omega)) ?_
  rintro _ h2 ⟨b, rfl, b0, b1, hd⟩
  obtain ⟨mo, e, m0, m1⟩ := pickI (xs := [9, 9, fa]) (P := fun z => 1 ≤ z ∧ z ≤ 500) b0 b1 (by
    intro x hx
    simp only [List.mem_cons, List.not_mem_nil, or_false] at hx
    rcases hx with rfl | rfl | rfl <;> exact ⟨by omega, by omega⟩)
  have e : ixD [.int 9, .int 9, .int fa] b = some (.int mo) := e
  push_cast [e]
  refine wp_call0 (off_w (by omega) hd (by omega) (by omega)) ?_
  rintro _ h3 ⟨K, rfl, K0, K1, hd⟩
  push_cast []
  refine wp_call0 (plain_w (by omega) hs hl (K := 1 + K) (by omega) (by omega) hd) ?_
  rintro _ h4 ⟨p, rfl, hp, hpK, hpl, hd⟩
  push_cast []
  refine wp_call0 (off_w (by omega) hd (by omega) (by omega)) ?_
  rintro _ h5 ⟨c, rfl, c0, c1, hd⟩
  by_cases hc : 0 < c
  · push_cast [hc]
    exact ⟨.pl p, rfl, hp, hpl, hd⟩
  · push_cast [hc, Pl.dr, Pl.ixl]
    obtain ⟨p0, p1⟩ := hp.one
    refine wp_call0 (plain_w (by omega) hs hl (K := p.len) p0 p1 hd) ?_
    rintro _ h6 ⟨q, rfl, hq, hqK, hql, hd⟩
    obtain ⟨q0, q1⟩ := hq.one
    push_cast [Pl.dr, Pl.ixl, Pl.sl, Pl.ap]
    refine wp_call0 (off_w (by omega) hd (by omega) (by omega)) ?_
    rintro _ h7 ⟨st, rfl, s0, s1, hd⟩
    push_cast [Pl.dr, Pl.ixl]
    refine wp_call0 (off_w (by omega) hd (by omega) (by omega)) ?_
    rintro _ h8 ⟨g, rfl, g0, g1, hd⟩
    push_cast []
    refine ⟨.lead (setLen p q.len) q (1 + st) _, rfl, ⟨setLen_ok hp q0 hqK, hq, setLen_len, ?_, ?_⟩, ?_, hd⟩
    · constructor <;> (split <;> split <;> omega)
    · rw [setLen_len]
      constructor
      · omega
      · split <;> split <;> omega
    · intro x hx
      have hx : x ∈ plLists (setLen p q.len) ++ plLists q := hx
      rw [setLen_lists] at hx
      rcases List.mem_append.mp hx with hx | hx
      · exact hpl x hx
      · exact hql x hx
/-- ranks so far: the lists done are those ahead in the order -/
theorem layer_w {m : Nat} (hn : 5 ≤ m) {ss : List Int} (hs : Src ss) {L : Int} {P : Int → Prop} {ns : List Int} (hl : Lists L P ns) {k : Int} (k0 : 0 ≤ k) (k1 : k ≤ 20) {rest h : List Ob} (hd : DH rest h) :
    WpC (callN T cf m 58 [.ref 0, .tup (ss.map D.int), .lst (ns.map D.int), .int k] h) (fun r h' => ∃ l : List Pi, r = .v (layD l) ∧ l.length ≤ 60 ∧ (∀ p ∈ l, PiOk ss L p ∧ ∀ m ∈ piLists p, P m) ∧ DH rest h') C0 := by
  obtain ⟨n, rfl⟩ := Nat.exists_eq_add_of_le' hn
  rw [call__law_layer, b__law_layer]
  refine wp_run rfl ?_
  by_cases hk : 2 < k
  · push_cast [hk]
    refine wp_call0 (off_w (by omega) hd (by omega) (by omega)) ?_
    rintro _ h1 ⟨v, rfl, v0, v1, hd⟩
    by_cases hv : v = 0
    · subst hv
      push_cast [eqI]
      refine wp_call0 (off_w (by omega) hd (by omega) (by omega)) ?_
      rintro _ h2 ⟨w, rfl, w0, w1, hd⟩
      obtain ⟨m, em⟩ : ∃ m : Nat, 60 - w = (m : Int) := ⟨(60 - w).toNat, by omega⟩
      have sm : small62 (m : Int) = true := small_of (by omega) (by omega)
      push_cast [em, rngR_s sm, rangeL_map]
      refine wp_com (xs := List.range m) (g := fun j : Nat => D.int j) (s := .un) (fun a c acc h' => DH rest h' ∧ ∃ l : List Pi, acc = l.map Pi.D ∧ l.length = a.length ∧ ∀ p ∈ l, PiOk ss L p ∧ ∀ m ∈ piLists p, P m) rfl rfl ⟨hd, [], rfl, rfl, fun p hp => nomatch hp⟩ ?_ ?_
      · rintro l j r acc h3 el ⟨hd, ps, rfl, hn, hx⟩
        have hll : l.length ≤ 60 := by
          have := congrArg List.length el
          simp at this
          omega
        refine ⟨szB (by rw [List.length_map]; omega), ?_⟩
        push_cast []
        refine wp_call0 (off_w (by omega) hd (by omega) (by omega)) ?_
        rintro _ h5 ⟨u, rfl, u0, u1, hd⟩
        push_cast []
        refine wp_call0 (plain_w (by omega) hs hl (K := 1 + u) (by omega) (by omega) hd) ?_
        rintro _ h4 ⟨p, rfl, hp, hpK, hpl, hd⟩
        push_cast []
        refine ⟨hd, ps ++ [.pl p], by rw [List.map_append]; rfl, by simp [hn], fun q hq => ?_⟩
        rcases List.mem_append.mp hq with hq | hq
        · exact hx q hq
        · rw [List.mem_singleton.mp hq]; exact ⟨hp, hpl⟩
      · rintro acc h3 ⟨hd, ps, rfl, hn, hx⟩
        push_cast []
        exact ⟨ps, rfl, by simp at hn; omega, hx, hd⟩
    · push_cast [hv]
      refine wp_call0 (off_w (by omega) hd (by omega) (by omega)) ?_
      rintro _ h2 ⟨a, rfl, a0, a1, hd⟩
      obtain ⟨m, rfl⟩ : ∃ m : Nat, a = (m : Int) := ⟨a.toNat, by omega⟩
      have sm : small62 (m : Int) = true := small_of (by omega) (by omega)
      push_cast [rngR_s sm, rangeL_map]
      refine wp_com (xs := List.range m) (g := fun j : Nat => D.int j) (s := .un) (fun a c acc h' => DH rest h' ∧ ∃ l : List Pi, acc = l.map Pi.D ∧ l.length = a.length ∧ ∀ p ∈ l, PiOk ss L p ∧ ∀ m ∈ piLists p, P m) rfl rfl ⟨hd, [], rfl, rfl, fun p hp => nomatch hp⟩ ?_ ?_
      · rintro l j r acc h3 el ⟨hd, ps, rfl, hn, hx⟩
        have hll : l.length ≤ 60 := by
          have := congrArg List.length el
          simp at this
          omega
        refine ⟨szB (by rw [List.length_map]; omega), ?_⟩
        push_cast []
        refine wp_call0 (piece_w (by omega) hs hl hd) ?_
        rintro _ h4 ⟨p, rfl, hp, hpl, hd⟩
        push_cast []
        refine ⟨hd, ps ++ [p], by rw [List.map_append]; rfl, by simp [hn], fun q hq => ?_⟩
        rcases List.mem_append.mp hq with hq | hq
        · exact hx q hq
        · rw [List.mem_singleton.mp hq]; exact ⟨hp, hpl⟩
      · rintro acc h3 ⟨hd, ps, rfl, hn, hx⟩
        push_cast []
        exact ⟨ps, rfl, by simp at hn; omega, hx, hd⟩
  · push_cast [hk]
    refine wp_call0 (off_w (by omega) hd (by omega) (by omega)) ?_
    rintro _ h2 ⟨a, rfl, a0, a1, hd⟩
    obtain ⟨m, rfl⟩ : ∃ m : Nat, a = (m : Int) := ⟨a.toNat, by omega⟩
    have sm : small62 (m : Int) = true := small_of (by omega) (by omega)
    push_cast [rngR_s sm, rangeL_map]
    refine wp_com (xs := List.range m) (g := fun j : Nat => D.int j) (s := .un) (fun a c acc h' => DH rest h' ∧ ∃ l : List Pi, acc = l.map Pi.D ∧ l.length = a.length ∧ ∀ p ∈ l, PiOk ss L p ∧ ∀ m ∈ piLists p, P m) rfl rfl ⟨hd, [], rfl, rfl, fun p hp => nomatch hp⟩ ?_ ?_
    · rintro l j r acc h3 el ⟨hd, ps, rfl, hn, hx⟩
      have hll : l.length ≤ 60 := by
        have := congrArg List.length el
        simp at this
        omega
      refine ⟨szB (by rw [List.length_map]; omega), ?_⟩
      push_cast []
      refine wp_call0 (piece_w (by omega) hs hl hd) ?_
      rintro _ h4 ⟨p, rfl, hp, hpl, hd⟩
      push_cast []
      refine ⟨hd, ps ++ [p], by rw [List.map_append]; rfl, by simp [hn], fun q hq => ?_⟩
      rcases List.mem_append.mp hq with hq | hq
      · exact hx q hq
      · rw [List.mem_singleton.mp hq]; exact ⟨hp, hpl⟩
    · rintro acc h3 ⟨hd, ps, rfl, hn, hx⟩
      push_cast []
      exact ⟨ps, rfl, by simp at hn; omega, hx, hd⟩
end Lw

set_option Elab.async false
set_option linter.all false
set_option maxRecDepth 100000
set_option maxHeartbeats 400000
namespace Lw
open PySem PySem.Spec Pm
local macro_rules | `(tactic| push_cast [$xs,*]) => `(tactic| simp only [wx_cons, wx_nil, wx_if, wx_for1, wx_forT, ↓gw_nx, ↓gw_rt, ↓gw_bk, ↓gw_ct, ↓ew_nx, ↓ew_rt, ↓tw_nx, ↓tw_ct, ↓tw_bk, ↓tw_rt, ↓ww_t, ↓ww_f, ↓to_bd, ↓to_ifT, bd_ok, bd_exc, bd_bd, ifT_t, ifT_f, wp_ok, wp_exc, wpC_ok, wpC_exc, ofC_exc, asB_bd, asB_ofC, asB_if, asI_bd, asI_ofC, tupR_bd, lstR_bd, if_bind, chn_le, chn_lt, v_com, v_comf, v_prom, promR_o, x_app, x_ext, cmp_nmem_l, cmp_mem_l, cmp_mem_t, inL_int, v_met, metR_s, v_fld, fldR_s, v_fln, flnR_s, v_new, x_stf, stfR_s, o_met, o_fld, o_new, o_not, o_and, o_or, wp_ofC,
  x_set, x_setT, x_par2, x_ex, x_ret, x_retN, x_pass, x_brk, x_cnt, setTR_o, setO_s, bindS_nil, bindS_cons, v_con, v_glo, v_var, v_tup, v_lst, v_bin, v_cmp, v_cmp2, v_neg, v_and, v_or, v_not, v_ite, v_idx, v_sli, v_rev, v_f1, v_f2, v_isi, v_cal, a_nil', a_cons', o_no', o_so', it_seq, it_enu, it_rng1, it_rng2, seqR_l, seqR_t, seqR_s, seqR_o, enuR_l, enuR_t, enuR_o,
  o_bor, o_con, o_glo, o_tup, o_lst, o_bin, o_neg, o_idx, o_sli, o_rev, o_f1, o_f2, o_isi, o_cal, o_com, o_comf, o_ite, varR_v, varR_o, borR_v, borR_o, binR_s, cmpR_s, idxR_s, f1R_s, sliR_s, revR_s, isiR_s, negR_s, asB_ok, asI_ok, retR_some, retB_some, ofC_ok, Rd_v, Rd_o, Rs_v, Rs_o, cont_s, cont_v, cont_o, contS_v, contS_o,
  deref_int, deref_str, deref_bl, deref_non, deref_tup, deref_lst, deref_ref, derefR_lst, bin_add, bin_sub, cmp_eq, cmp_ne, cmp_lt, cmp_le, cmp_gt, cmp_ge, cmp_isn, cmp_isnn, eqI, eqF_str, eqF_nn, eqF_nt, eqF_tn, isNon_non, isNon_int, isNon_tup, isNon_lst, isNon_str, isNon_bl, ix_lst, ix_tup, ixD_0, ixD_1, ixD_2, ixD_3, ixD_4, ixD_5, ixD_6, ixD_m1, ixD_m2, ixD_m3, ixD_m4, ixD_m5, ixD_m6, ixD_m7, len1, len2, len3, len4, len5, len6, len7, Int.reduceEq, Bool.true_and, Bool.false_and, Bool.and_true, Bool.and_false, sl_lst, sl_tup, rev_lst, f_len_l, f_len_t, f_sum, f_all, f_list_l, f_list_t, f_tup_l, f_tup_t, f_max2, f_min2, ints_map, bools_map,
  ty_ii, ty_ib, ty_in, ty_is, ty_it, ty_il, ty_bi, ty_bb, ty_bn, ty_bs, ty_bt, ty_bl, ty_ti, ty_tb, ty_tn, ty_ts, ty_tt, ty_tl, ty_si, ty_sb, ty_sn, ty_ss, ty_st, ty_sl, ty_li, ty_lb, ty_ln, ty_ls, ty_lt, ty_ll, kn_i, kn_b, kn_n, kn_s, kn_t, kn_l, tupR_0, tupR_1, tupR_2, tupR_3, tupR_4, tupR_5, tupR_6, tupR_7, tupR_8, lstR_0, lstR_1, lstR_2, lstR_3, lstR_4, lstR_5, lstR_6, lstR_7, lstR_8,
  List.getElem?_cons_succ, List.getElem?_cons_zero, List.set_cons_succ, List.set_cons_zero, List.map_cons, List.map_nil, List.cons_append, List.nil_append, List.replicate_succ, List.replicate_zero, Nat.reduceSub, Option.map_some, Bool.not_true, Bool.not_false, decide_true, decide_false, not_true_eq_false, not_false_eq_true, and_true, true_and, Int.reduceLT, Int.reduceLE, Int.reduceNeg,
  kw_clip_clip, kw_clip_gap, kw_clip_list, kw_clip_lead, kw_gap_clip, kw_gap_gap, kw_gap_list, kw_gap_lead, kw_list_clip, kw_list_gap, kw_list_list, kw_list_lead, kw_lead_clip, kw_lead_gap, kw_lead_list, kw_lead_lead, deref_lay, len_lay, seq_lay, enu_lay, deref_film, len_film, seq_film, enu_film, deref_ls, len_ls, seq_ls, enu_ls, ty_lay, ty_ls, ty_film, kn_lay, kn_ls, kn_film, $xs,*])
section
variable {Γ : Calls} {C : Cf} {σ : List Slot} {h : List Ob} {i : Nat} {a e k : Pm.E} {xs : List Pm.D} {r : R} {d : Pm.D} {z : Int}
def popR (i : Nat) (r : R) (s : Option Slot) (σ : List Slot) (h : List Ob) : Res R :=
  match r with
  | .v (.int k) => match s with
    | some (.o xs) => if 0 ≤ k ∧ k < xs.length ∧ xs.length ≤ sizeLine then match xs[k.toNat]? with
        | some d => .ok (.v d) (σ.set i (.o (xs.eraseIdx k.toNat))) h
        | none => .stuck
      else .stuck
    | some (.v (.ref j)) => match h[j]? with
      | some (.lst xs) => if 0 ≤ k ∧ k < xs.length ∧ xs.length ≤ sizeLine then match xs[k.toNat]? with
          | some d => .ok (.v d) σ (h.set j (.lst (xs.eraseIdx k.toNat)))
          | none => .stuck
        else .stuck
      | _ => .stuck
    | _ => .stuck
  | _ => .stuck
theorem v_popA : evE Γ C (.popA i a) σ h = ifR (lsB (contS h σ[i]?)) ((evE Γ C a σ h).bind fun r σ h => popR i r σ[i]? σ h) .stuck := by
  rw [evE, lst_slot]
  rfl
theorem popR_o (h0 : 0 ≤ z) (h1 : z < xs.length) (hz : xs.length ≤ 100000) (ed : xs[z.toNat]? = some d) : popR i (.v (.int z)) (some (.o xs)) σ h = .ok (.v d) (σ.set i (.o (xs.eraseIdx z.toNat))) h := by
  show (if 0 ≤ z ∧ z < xs.length ∧ xs.length ≤ sizeLine then _ else _) = _
  rw [if_pos ⟨h0, h1, szC hz⟩, ed]
def stiR (i : Nat) (x : R) (q : R) (s : Option Slot) (σ : List Slot) (h : List Ob) : Res Pm.Flow :=
  match q with
  | .v (.int z) => match s with
    | some (.o xs) => match ixN xs.length z with
      | some n => .ok .nx (σ.set i (.o (xs.set n x.d))) h
      | none => .stuck
    | some (.v (.ref j)) => match h[j]? with
      | some (.lst xs) => match ixN xs.length z with
        | some n => .ok .nx σ (h.set j (.lst (xs.set n x.d)))
        | none => .stuck
      | _ => .stuck
    | _ => .stuck
  | _ => .stuck
theorem x_sti : exS Γ C (.sti i k e) σ h = (evE Γ C e σ h).bind fun r σ h => ifR (lsB (contS h σ[i]?)) ((evE Γ C k σ h).bind fun q σ h => stiR i r q σ[i]? σ h) .stuck := by
  rw [exS]
  congr 1
theorem stiR_o (h0 : 0 ≤ z) (h1 : z < xs.length) : stiR i r (.v (.int z)) (some (.o xs)) σ h = .ok .nx (σ.set i (.o (xs.set z.toNat r.d))) h := by
  have e : ixN xs.length z = some z.toNat := by
    unfold ixN
    rw [if_pos h0, if_pos h1]
  show (match ixN xs.length z with
    | some n => Res.ok Pm.Flow.nx (σ.set i (.o (xs.set n r.d))) h
    | none => .stuck) = _
  rw [e]
end
theorem map_erase {α β : Type} {f : α → β} : ∀ {l : List α} {k : Nat}, (l.map f).eraseIdx k = (l.eraseIdx k).map f
  | [], _ => rfl
  | _ :: _, 0 => rfl
  | a :: l, k + 1 => by
    rw [List.map_cons, List.eraseIdx_cons_succ, List.eraseIdx_cons_succ, List.map_cons, map_erase]
theorem erase_perm {α : Type} : ∀ {l : List α} {k : Nat} {x : α}, l[k]? = some x → (x :: l.eraseIdx k).Perm l
  | [], _, _, e => by cases e
  | a :: l, 0, x, e => by
    cases e
    exact List.Perm.refl _
  | a :: l, k + 1, x, e => by
    rw [List.eraseIdx_cons_succ]
    exact (List.Perm.swap a x _).trans ((erase_perm (l := l) e).cons a)
theorem mixed_w {m : Nat} (hn : 2 ≤ m) {ns : List Int} (hl : ns.length ≤ 1000) {rest h : List Ob} (hd : DH rest h) :
    WpC (callN T cf m 64 [.ref 0, .lst (ns.map D.int)] h) (fun r h' => ∃ os : List Int, r = .v (.lst (os.map D.int)) ∧ os.Perm ns ∧ DH rest h') C0 := by
  obtain ⟨n, rfl⟩ := Nat.exists_eq_add_of_le' hn
  rw [call__law_mixed, b__law_mixed]
  refine wp_run rfl ?_
  push_cast []
  refine wp_whl (fun m σ h' => ∃ left os : List Int, σ = [.v (.ref 0), .v (.lst (ns.map D.int)), .o (left.map D.int), .o (os.map D.int)] ∧ left.length = m ∧ (os ++ left).Perm ns ∧ DH rest h') ns.length ⟨ns, [], rfl, rfl, List.Perm.refl _, hd⟩ ?_
  rintro m σ h1 ⟨left, os, rfl, rfl, hp, hd⟩
  have hlen := hp.length_eq
  rw [List.length_append] at hlen
  by_cases hne : left = []
  · subst hne
    push_cast [eq_nil_ns]
    exact ⟨os, rfl, by rwa [List.append_nil] at hp, hd⟩
  · have h0 := List.length_pos_iff.mpr hne
    push_cast [eq_nil_ns, hne, lsB_l, v_popA, List.length_map]
    refine wp_call0 (off_w (by omega) hd (by omega) (by omega)) ?_
    rintro _ h2 ⟨k, rfl, k0, k1, hd⟩
    have hk : k.toNat < left.length := by omega
    have ek : left[k.toNat]? = some left[k.toNat] := List.getElem?_eq_getElem hk
    have ed : (left.map D.int)[k.toNat]? = some (.int left[k.toNat]) := by rw [List.getElem?_map, ek]; rfl
    have kz : k < (left.map D.int).length := by rw [List.length_map]; exact k1
    have z1 : (left.map D.int).length ≤ 100000 := by rw [List.length_map]; omega
    have z2 : (os.map D.int).length < 100000 := by rw [List.length_map]; omega
    push_cast [popR_o k0 kz z1 ed, appR_o z2]
    refine ⟨left.length - 1, by omega, left.eraseIdx k.toNat, os ++ [left[k.toNat]], by rw [map_erase, List.map_append]; rfl, ?_, ?_, hd⟩
    · rw [List.length_eraseIdx, if_pos hk]
    · refine List.Perm.trans ?_ hp
      rw [List.append_assoc]
      exact List.Perm.append_left os (erase_perm ek)
/-- the lists done so far -/
def Ready (ss : List Int) (L : Nat) (os : List Int) (g : Film) (p : Nat) : Prop := g.length = L ∧ ∀ (i : Nat) (x : Int), i < p → os[i]? = some x → ∃ ls, g[x.toNat]? = some ls ∧ (1 ≤ ls.length ∧ ls.length ≤ 3) ∧ ∀ l ∈ ls, l.length ≤ 60 ∧ ∀ q ∈ l, PiOk ss (L : Int) q ∧ ∀ m ∈ piLists q, m ∈ os.take i
theorem rangeL_ints {k : Nat} : rangeL 0 (k : Int) = ((List.range k).map fun j : Nat => (j : Int)).map D.int := by
  rw [rangeL_map, List.map_map]
  rfl
theorem idx_take {os : List Int} {i : Nat} {x : Int} (h : x ∈ os.take i) : os.idxOf x < i := by
  induction os generalizing i with
  | nil => simp at h
  | cons a os ih =>
    cases i with
    | zero => simp at h
    | succ i =>
      rw [List.take_succ_cons, List.mem_cons] at h
      rw [List.idxOf_cons]
      by_cases hx : (a == x) = true
      · rw [hx]; exact Nat.succ_pos _
      · rw [Bool.not_eq_true] at hx
        rw [hx]
        rcases h with rfl | h
        · simp at hx
        · have := ih h
          show _ + 1 < i + 1
          omega
theorem ready_film {ss : List Int} {L : Nat} {os : List Int} {g : Film} (l0 : 1 ≤ L) (l5 : L ≤ 5) (hp : os.Perm ((List.range L).map fun j : Nat => (j : Int))) (h : Ready ss L os g L) : FilmOk ss g := by
  obtain ⟨hg, h⟩ := h
  have hlen : os.length = L := by rw [hp.length_eq, List.length_map, List.length_range]
  have hmem : ∀ x, x ∈ os ↔ 0 ≤ x ∧ x < (L : Int) := fun x => by
    rw [hp.mem_iff, List.mem_map]
    constructor
    · rintro ⟨j, hj, rfl⟩
      rw [List.mem_range] at hj
      omega
    · rintro ⟨x0, x1⟩
      exact ⟨x.toNat, by rw [List.mem_range]; omega, by omega⟩
  have key : ∀ (n : Nat) (ls : List (List Pi)), g[n]? = some ls → (1 ≤ ls.length ∧ ls.length ≤ 3) ∧ ∀ l ∈ ls, l.length ≤ 60 ∧ ∀ q ∈ l, PiOk ss (L : Int) q ∧ ∀ m ∈ piLists q, m ∈ os.take (os.idxOf (n : Int)) := by
    intro n ls e
    have hn := (List.getElem?_eq_some_iff.mp e).1
    have hx : (n : Int) ∈ os := (hmem _).mpr ⟨by omega, by omega⟩
    have hi := List.idxOf_lt_length_of_mem hx
    obtain ⟨ls', e', q⟩ := h (os.idxOf (n : Int)) (n : Int) (by omega) (by rw [List.getElem?_eq_getElem hi, List.getElem_idxOf])
    rw [Int.toNat_natCast, e] at e'
    cases e'
    exact q
  have at_ : ∀ ls ∈ g, ∃ n : Nat, g[n]? = some ls := fun ls hls => List.getElem?_of_mem hls
  refine ⟨?_, by omega, ?_, ?_, ?_, fun n => os.idxOf (n : Int), ?_⟩
  · rintro rfl
    simp at hg
    omega
  · intro ls hls
    obtain ⟨n, e⟩ := at_ ls hls
    exact (key n ls e).1
  · intro ls hls l hl
    obtain ⟨n, e⟩ := at_ ls hls
    exact ((key n ls e).2 l hl).1
  · intro ls hls l hl p hp
    obtain ⟨n, e⟩ := at_ ls hls
    rw [hg]
    exact (((key n ls e).2 l hl).2 p hp).1
  · intro n ls e
    have hn := (List.getElem?_eq_some_iff.mp e).1
    refine ⟨?_, fun m hm => ?_⟩
    · have hx : (n : Int) ∈ os := (hmem _).mpr ⟨by omega, by omega⟩
      have hi := List.idxOf_lt_length_of_mem hx
      show os.idxOf (n : Int) ≤ 8
      omega
    · unfold shownL at hm
      rw [List.mem_flatMap] at hm
      obtain ⟨l, hl, hm⟩ := hm
      rw [List.mem_flatMap] at hm
      obtain ⟨q, hq, hm⟩ := hm
      have ht := (((key n ls e).2 l hl).2 q hq).2 m hm
      obtain ⟨m0, m1⟩ := (hmem m).mp (List.mem_of_mem_take ht)
      refine ⟨m0, by omega, ?_⟩
      have em : ((m.toNat : Nat) : Int) = m := by omega
      show os.idxOf ((m.toNat : Nat) : Int) < os.idxOf (n : Int)
      rw [em]
      exact idx_take ht
theorem rep_flat {α : Type} {x : α} : ∀ {k : Nat}, (List.replicate k [x]).flatten = List.replicate k x
  | 0 => rfl
  | k + 1 => by
    rw [List.replicate_succ, List.flatten_cons, rep_flat]
    rfl
theorem nat_ints {k : Nat} : ((List.range k).map fun j : Nat => D.int (j : Int)) = ((List.range k).map fun j : Nat => (j : Int)).map D.int := by
  rw [List.map_map]
  rfl
theorem film_w {m : Nat} (hn : 6 ≤ m) {ss : List Int} (hs : Src ss) {rest h : List Ob} (hd : DH rest h) :
    WpC (callN T cf m 47 [.ref 0, .tup (ss.map D.int)] h) (fun r h' => ∃ f : Film, r = .v (filmD f) ∧ FilmOk ss f ∧ DH rest h') C0 := by
  obtain ⟨n, rfl⟩ := Nat.exists_eq_add_of_le' hn
  rw [call__law_film, b__law_film]
  refine wp_run rfl ?_
  push_cast []
  refine wp_call0 (off_w (by omega) hd (by omega) (by omega)) ?_
  rintro _ h1 ⟨k, rfl, k0, k1, hd⟩
  obtain ⟨L, rfl⟩ : ∃ m : Nat, k = (m : Int) := ⟨k.toNat, by omega⟩
  have ek : 1 + (L : Int) = ((L + 1 : Nat) : Int) := by omega
  have sm : small62 ((L + 1 : Nat) : Int) = true := small_of (by omega) (by omega)
  have eL : fn1 .lrange (.int ((L + 1 : Nat) : Int)) = some (.o (((List.range (L + 1)).map fun j : Nat => (j : Int)).map D.int)) := by
    show (if small62 ((L + 1 : Nat) : Int) && decide (((L + 1 : Nat) : Int).toNat ≤ sizeLine) then some (R.o (rangeL 0 ((L + 1 : Nat) : Int))) else none) = _
    rw [sm, decide_eq_true (szC (by omega)), rangeL_ints]
    rfl
  push_cast [ek, eL]
  refine wp_call0 (mixed_w (by omega) (by simp; omega) hd) ?_
  rintro _ h2 ⟨os, rfl, hp, hd⟩
  have hlen : os.length = L + 1 := by rw [hp.length_eq, List.length_map, List.length_range]
  have hmem : ∀ x, x ∈ os ↔ 0 ≤ x ∧ x < ((L + 1 : Nat) : Int) := fun x => by
    rw [hp.mem_iff, List.mem_map]
    constructor
    · rintro ⟨j, hj, rfl⟩
      rw [List.mem_range] at hj
      omega
    · rintro ⟨x0, x1⟩
      exact ⟨x.toNat, by rw [List.mem_range]; omega, by omega⟩
  have hnd : os.Nodup := by
    rw [hp.nodup_iff]
    refine List.Pairwise.map _ (fun a b hab => ?_) List.nodup_range
    exact fun q => hab (by omega)
  have eM : binop .mul (.lst [.tup []]) (.int ((L + 1 : Nat) : Int)) = some (.o ((List.replicate (L + 1) ([] : List (List Pi))).map lsD)) := by
    have z : [D.tup []].length * ((L + 1 : Nat) : Int).toNat ≤ sizeLine := szC (by simp; omega)
    rw [bin_mulL (by omega) (by omega) z, Int.toNat_natCast, rep_flat, List.map_replicate]
    rfl
  push_cast [eM, rngR_s sm, rangeL_map]
  refine wp_for (xs := List.range (L + 1)) (g := fun j : Nat => D.int j) (fun a c σ h' => DH rest h' ∧ ∃ (g : Film) (s5 s6 s7 : Slot), σ = [.v (.ref 0), .v (.tup (ss.map D.int)), .v (.int ((L + 1 : Nat) : Int)), .v (.lst (os.map D.int)), .o (g.map lsD), s5, s6, s7, .un] ∧ Ready ss (L + 1) os g a.length) rfl ⟨hd, List.replicate (L + 1) [], _, _, _, rfl, by rw [List.length_replicate], fun i x hi => absurd hi (Nat.not_lt_zero i)⟩ ?_ ?_
  · rintro a j c σ h3 el ⟨hd, g, s5, s6, s7, rfl, hg, hr⟩
    refine ⟨_, rfl, ?_⟩
    have hll := congrArg List.length el
    rw [List.length_append, List.length_cons, List.length_range] at hll
    have hj : j = a.length := by
      have e1 : (List.range (L + 1))[a.length]? = some j := by
        rw [← el, List.getElem?_append_right (Nat.le_refl _), Nat.sub_self]
        rfl
      rw [List.getElem?_range (by omega)] at e1
      cases e1
      rfl
    subst hj
    push_cast []
    refine wp_call0 (off_w (by omega) hd (by omega) (by omega)) ?_
    rintro _ h4 ⟨y, rfl, y0, y1, hd⟩
    obtain ⟨y, rfl⟩ : ∃ m : Nat, y = (m : Int) := ⟨y.toNat, by omega⟩
    have ey : 1 + (y : Int) = ((y + 1 : Nat) : Int) := by omega
    have sy : small62 ((y + 1 : Nat) : Int) = true := small_of (by omega) (by omega)
    have hL : Lists ((L + 1 : Nat) : Int) (· ∈ os.take a.length) (os.take a.length) := by
      refine ⟨by rw [List.length_take]; omega, fun x hx => ⟨?_, hx⟩⟩
      have := (hmem x).mp (List.mem_of_mem_take hx)
      omega
    have ec : cutL (os.map D.int) none (some (a.length : Int)) = (os.take a.length).map D.int := by
      rw [cut_take (by omega), Int.toNat_natCast, List.map_take]
    push_cast [ey, rngR_s sy, rangeL_map]
    refine wp_com (xs := List.range (y + 1)) (g := fun j : Nat => D.int j) (s := .un) (fun b c acc h' => DH rest h' ∧ ∃ ls : List (List Pi), acc = ls.map layD ∧ ls.length = b.length ∧ ∀ l ∈ ls, l.length ≤ 60 ∧ ∀ q ∈ l, PiOk ss ((L + 1 : Nat) : Int) q ∧ ∀ m ∈ piLists q, m ∈ os.take a.length) rfl rfl ⟨hd, [], rfl, rfl, fun l hl => nomatch hl⟩ ?_ ?_
    · rintro b j c acc h5 el2 ⟨hd, ls, rfl, hb, hx⟩
      have hbl := congrArg List.length el2
      rw [List.length_append, List.length_cons, List.length_range] at hbl
      refine ⟨szB (by rw [List.length_map]; omega), ?_⟩
      push_cast [ec]
      refine wp_call0 (off_w (by omega) hd (by omega) (by omega)) ?_
      rintro _ h6 ⟨z, rfl, z0, z1, hd⟩
      obtain ⟨mo, e, m0, m1⟩ := pickI (xs := [3, 7]) (P := fun z => 0 ≤ z ∧ z ≤ 20) z0 z1 (by
        intro x hx
        simp only [List.mem_cons, List.not_mem_nil, or_false] at hx
        rcases hx with rfl | rfl <;> exact ⟨by omega, by omega⟩)
      have e : ixD [.int 3, .int 7] z = some (.int mo) := e
      push_cast [e]
      refine wp_call0 (layer_w (by omega) hs hL m0 m1 hd) ?_
      rintro _ h7 ⟨l, rfl, hl, hq, hd⟩
      push_cast []
      refine ⟨hd, ls ++ [l], by rw [List.map_append]; rfl, by simp [hb], fun q hq' => ?_⟩
      rcases List.mem_append.mp hq' with hq' | hq'
      · exact hx q hq'
      · rw [List.mem_singleton.mp hq']; exact ⟨hl, hq⟩
    · rintro acc h5 ⟨hd, ls, rfl, hb, hx⟩
      rw [List.length_range] at hb
      have ha : a.length < os.length := by omega
      have eo : os[a.length]? = some os[a.length] := List.getElem?_eq_getElem ha
      obtain ⟨o0, o1⟩ := (hmem os[a.length]).mp (List.getElem_mem ha)
      have ei : ixD (os.map D.int) (a.length : Int) = some (.int os[a.length]) := by
        rw [ixD_nat, List.getElem?_map, eo]
        rfl
      have z1 : os[a.length] < (g.map lsD).length := by rw [List.length_map]; omega
      push_cast [lsB_l, ei, x_sti, stiR_o o0 z1]
      refine ⟨hd, g.set os[a.length].toNat ls, _, _, _, by rw [List.map_set]; rfl, by rw [List.length_set]; exact hg, fun i x hi ex => ?_⟩
      rw [List.length_append, List.length_singleton] at hi
      rw [List.getElem?_set]
      by_cases hia : i = a.length
      · subst hia
        rw [eo] at ex
        cases ex
        rw [if_pos rfl, if_pos (by omega)]
        exact ⟨ls, rfl, ⟨by omega, by omega⟩, hx⟩
      · have hne : os[a.length].toNat ≠ x.toNat := fun q => by
          have hi2 : i < os.length := by omega
          obtain ⟨_, ex'⟩ := List.getElem?_eq_some_iff.mp ex
          obtain ⟨x0, x1⟩ := (hmem x).mp (List.mem_of_getElem? ex)
          have : os[a.length] = x := by omega
          rw [← this, ← eo] at ex
          exact hia ((List.getElem?_inj hi2 hnd).mp ex)
        rw [if_neg hne]
        exact hr i x (by omega) ex
  · rintro σ h3 ⟨hd, g, s5, s6, s7, rfl, hr⟩
    rw [List.length_range] at hr
    push_cast []
    exact ⟨g, rfl, ready_film (by omega) (by omega) hp hr, hd⟩
end Lw

set_option Elab.async false
set_option linter.all false
set_option maxRecDepth 100000
set_option maxHeartbeats 400000
namespace Lw
open PySem PySem.Spec Pm
local macro_rules | `(tactic| push_cast [$xs,*]) => `(tactic| simp only [wx_cons, wx_nil, wx_if, wx_for1, wx_forT, ↓gw_nx, ↓gw_rt, ↓gw_bk, ↓gw_ct, ↓ew_nx, ↓ew_rt, ↓tw_nx, ↓tw_ct, ↓tw_bk, ↓tw_rt, ↓ww_t, ↓ww_f, ↓to_bd, ↓to_ifT, bd_ok, bd_exc, bd_bd, ifT_t, ifT_f, wp_ok, wp_exc, wpC_ok, wpC_exc, ofC_exc, asB_bd, asB_ofC, asB_if, asI_bd, asI_ofC, tupR_bd, lstR_bd, if_bind, chn_le, chn_lt, v_com, v_comf, v_prom, promR_o, x_app, x_ext, cmp_nmem_l, cmp_mem_l, cmp_mem_t, inL_int, v_met, metR_s, v_fld, fldR_s, v_fln, flnR_s, v_new, x_stf, stfR_s, o_met, o_fld, o_new, o_not, o_and, o_or, wp_ofC,
  x_set, x_setT, x_par2, x_ex, x_ret, x_retN, x_pass, x_brk, x_cnt, setTR_o, setO_s, bindS_nil, bindS_cons, v_con, v_glo, v_var, v_tup, v_lst, v_bin, v_cmp, v_cmp2, v_neg, v_and, v_or, v_not, v_ite, v_idx, v_sli, v_rev, v_f1, v_f2, v_isi, v_cal, a_nil', a_cons', o_no', o_so', it_seq, it_enu, it_rng1, it_rng2, seqR_l, seqR_t, seqR_s, seqR_o, enuR_l, enuR_t, enuR_o,
  o_bor, o_con, o_glo, o_tup, o_lst, o_bin, o_neg, o_idx, o_sli, o_rev, o_f1, o_f2, o_isi, o_cal, o_com, o_comf, o_ite, varR_v, varR_o, borR_v, borR_o, binR_s, cmpR_s, idxR_s, f1R_s, sliR_s, revR_s, isiR_s, negR_s, asB_ok, asI_ok, retR_some, retB_some, ofC_ok, Rd_v, Rd_o, Rs_v, Rs_o, cont_s, cont_v, cont_o, contS_v, contS_o,
  deref_int, deref_str, deref_bl, deref_non, deref_tup, deref_lst, deref_ref, derefR_lst, bin_add, bin_sub, cmp_eq, cmp_ne, cmp_lt, cmp_le, cmp_gt, cmp_ge, cmp_isn, cmp_isnn, eqI, eqF_str, eqF_nn, eqF_nt, eqF_tn, isNon_non, isNon_int, isNon_tup, isNon_lst, isNon_str, isNon_bl, ix_lst, ix_tup, ixD_0, ixD_1, ixD_2, ixD_3, ixD_4, ixD_5, ixD_6, ixD_m1, ixD_m2, ixD_m3, ixD_m4, ixD_m5, ixD_m6, ixD_m7, len1, len2, len3, len4, len5, len6, len7, Int.reduceEq, Bool.true_and, Bool.false_and, Bool.and_true, Bool.and_false, sl_lst, sl_tup, rev_lst, f_len_l, f_len_t, f_sum, f_all, f_list_l, f_list_t, f_tup_l, f_tup_t, f_max2, f_min2, ints_map, bools_map,
  ty_ii, ty_ib, ty_in, ty_is, ty_it, ty_il, ty_bi, ty_bb, ty_bn, ty_bs, ty_bt, ty_bl, ty_ti, ty_tb, ty_tn, ty_ts, ty_tt, ty_tl, ty_si, ty_sb, ty_sn, ty_ss, ty_st, ty_sl, ty_li, ty_lb, ty_ln, ty_ls, ty_lt, ty_ll, kn_i, kn_b, kn_n, kn_s, kn_t, kn_l, tupR_0, tupR_1, tupR_2, tupR_3, tupR_4, tupR_5, tupR_6, tupR_7, tupR_8, lstR_0, lstR_1, lstR_2, lstR_3, lstR_4, lstR_5, lstR_6, lstR_7, lstR_8,
  List.getElem?_cons_succ, List.getElem?_cons_zero, List.set_cons_succ, List.set_cons_zero, List.map_cons, List.map_nil, List.cons_append, List.nil_append, List.replicate_succ, List.replicate_zero, Nat.reduceSub, Option.map_some, Bool.not_true, Bool.not_false, decide_true, decide_false, not_true_eq_false, not_false_eq_true, and_true, true_and, Int.reduceLT, Int.reduceLE, Int.reduceNeg,
  kw_clip_clip, kw_clip_gap, kw_clip_list, kw_clip_lead, kw_gap_clip, kw_gap_gap, kw_gap_list, kw_gap_lead, kw_list_clip, kw_list_gap, kw_list_list, kw_list_lead, kw_lead_clip, kw_lead_gap, kw_lead_list, kw_lead_lead, deref_lay, len_lay, seq_lay, enu_lay, deref_film, len_film, seq_film, enu_film, deref_ls, len_ls, seq_ls, enu_ls, ty_lay, ty_ls, ty_film, kn_lay, kn_ls, kn_film, $xs,*])
theorem law_long_eq {n : Nat} {p : Pi} {h : List Ob} : callN T cf (n + 1) 62 [p.D] h = .ok (.v (.int p.len)) h := by
  refine wpC_eq ?_
  rw [call__law_long, b__law_long]
  refine wp_run rfl ?_
  cases p with
  | pl p =>
    have e : (Pi.pl p).D = p.D := rfl
    rw [e]
    push_cast [Pl.dr, Pl.ix0, Pl.kwl, Pl.ixl]
    rfl
  | lead a c st of =>
    unfold Pi.D
    push_cast [Pl.dr, Pl.ix0, Pl.kwl, Pl.ixl]
    rfl
theorem law_size_eq {n : Nat} {l : List Pi} (hl : l.length ≤ 100000) {h : List Ob} : callN T cf (n + 2) 84 [layD l] h = .ok (.v (.int (tot l))) h := by
  refine wpC_eq ?_
  rw [call__law_size, b__law_size]
  refine wp_run rfl ?_
  unfold layD
  push_cast []
  refine wp_comM (xs := l) (g := Pi.D) (f := fun p => .int p.len) (s := .un) rfl rfl (szC hl) (fun p hp => ?_) ?_
  · push_cast [law_long_eq]
  · have e : (l.map fun p => D.int p.len) = (l.map Pi.len).map D.int := by rw [List.map_map]; rfl
    push_cast [e]
    rfl
end Lw

set_option Elab.async false
set_option linter.all false
set_option maxRecDepth 100000
set_option maxHeartbeats 400000
namespace Lw
open PySem PySem.Spec Pm
local macro_rules | `(tactic| push_cast [$xs,*]) => `(tactic| simp only [wx_cons, wx_nil, wx_if, wx_for1, wx_forT, ↓gw_nx, ↓gw_rt, ↓gw_bk, ↓gw_ct, ↓ew_nx, ↓ew_rt, ↓tw_nx, ↓tw_ct, ↓tw_bk, ↓tw_rt, ↓ww_t, ↓ww_f, ↓to_bd, ↓to_ifT, bd_ok, bd_exc, bd_bd, ifT_t, ifT_f, wp_ok, wp_exc, wpC_ok, wpC_exc, ofC_exc, asB_bd, asB_ofC, asB_if, asI_bd, asI_ofC, tupR_bd, lstR_bd, if_bind, chn_le, chn_lt, v_com, v_comf, v_prom, promR_o, x_app, x_ext, cmp_nmem_l, cmp_mem_l, cmp_mem_t, inL_int, v_met, metR_s, v_fld, fldR_s, v_fln, flnR_s, v_new, x_stf, stfR_s, o_met, o_fld, o_new, o_not, o_and, o_or, wp_ofC,
  x_set, x_setT, x_par2, x_ex, x_ret, x_retN, x_pass, x_brk, x_cnt, setTR_o, setO_s, bindS_nil, bindS_cons, v_con, v_glo, v_var, v_tup, v_lst, v_bin, v_cmp, v_cmp2, v_neg, v_and, v_or, v_not, v_ite, v_idx, v_sli, v_rev, v_f1, v_f2, v_isi, v_cal, a_nil', a_cons', o_no', o_so', it_seq, it_enu, it_rng1, it_rng2, seqR_l, seqR_t, seqR_s, seqR_o, enuR_l, enuR_t, enuR_o,
  o_bor, o_con, o_glo, o_tup, o_lst, o_bin, o_neg, o_idx, o_sli, o_rev, o_f1, o_f2, o_isi, o_cal, o_com, o_comf, o_ite, varR_v, varR_o, borR_v, borR_o, binR_s, cmpR_s, idxR_s, f1R_s, sliR_s, revR_s, isiR_s, negR_s, asB_ok, asI_ok, retR_some, retB_some, ofC_ok, Rd_v, Rd_o, Rs_v, Rs_o, cont_s, cont_v, cont_o, contS_v, contS_o,
  deref_int, deref_str, deref_bl, deref_non, deref_tup, deref_lst, deref_ref, derefR_lst, bin_add, bin_sub, cmp_eq, cmp_ne, cmp_lt, cmp_le, cmp_gt, cmp_ge, cmp_isn, cmp_isnn, eqI, eqF_str, eqF_nn, eqF_nt, eqF_tn, isNon_non, isNon_int, isNon_tup, isNon_lst, isNon_str, isNon_bl, ix_lst, ix_tup, ixD_0, ixD_1, ixD_2, ixD_3, ixD_4, ixD_5, ixD_6, ixD_m1, ixD_m2, ixD_m3, ixD_m4, ixD_m5, ixD_m6, ixD_m7, len1, len2, len3, len4, len5, len6, len7, Int.reduceEq, Bool.true_and, Bool.false_and, Bool.and_true, Bool.and_false, sl_lst, sl_tup, rev_lst, f_len_l, f_len_t, f_sum, f_all, f_list_l, f_list_t, f_tup_l, f_tup_t, f_max2, f_min2, ints_map, bools_map,
  ty_ii, ty_ib, ty_in, ty_is, ty_it, ty_il, ty_bi, ty_bb, ty_bn, ty_bs, ty_bt, ty_bl, ty_ti, ty_tb, ty_tn, ty_ts, ty_tt, ty_tl, ty_si, ty_sb, ty_sn, ty_ss, ty_st, ty_sl, ty_li, ty_lb, ty_ln, ty_ls, ty_lt, ty_ll, kn_i, kn_b, kn_n, kn_s, kn_t, kn_l, tupR_0, tupR_1, tupR_2, tupR_3, tupR_4, tupR_5, tupR_6, tupR_7, tupR_8, lstR_0, lstR_1, lstR_2, lstR_3, lstR_4, lstR_5, lstR_6, lstR_7, lstR_8,
  List.getElem?_cons_succ, List.getElem?_cons_zero, List.set_cons_succ, List.set_cons_zero, List.map_cons, List.map_nil, List.cons_append, List.nil_append, List.replicate_succ, List.replicate_zero, Nat.reduceSub, Option.map_some, Bool.not_true, Bool.not_false, decide_true, decide_false, not_true_eq_false, not_false_eq_true, and_true, true_and, Int.reduceLT, Int.reduceLE, Int.reduceNeg,
  kw_clip_clip, kw_clip_gap, kw_clip_list, kw_clip_lead, kw_gap_clip, kw_gap_gap, kw_gap_list, kw_gap_lead, kw_list_clip, kw_list_gap, kw_list_list, kw_list_lead, kw_lead_clip, kw_lead_gap, kw_lead_list, kw_lead_lead, deref_lay, len_lay, seq_lay, enu_lay, deref_film, len_film, seq_film, enu_film, deref_ls, len_ls, seq_ls, enu_ls, ty_lay, ty_ls, ty_film, kn_lay, kn_ls, kn_film, $xs,*])
/-- data that is alike itself -/
def Alk : Nat → Pm.D → Prop
  | 0, _ => False
  | n + 1, d => match d with
    | .non => True
    | .bl _ => True
    | .int _ => True
    | .str _ => True
    | .tup xs => xs.length ≤ 100000 ∧ ∀ x ∈ xs, Alk n x
    | .lst xs => xs.length ≤ 100000 ∧ ∀ x ∈ xs, Alk n x
    | _ => False
theorem eqB_bb {n : Nat} {b : Bool} : eqF n (.bl b) (.bl b) = some true := by
  cases n <;> simp [eqF_bl]
theorem eqS_s {n : Nat} {s : Str} : eqF n (.str s) (.str s) = some true := by
  rw [eqF_str, decide_eq_true rfl]
theorem all_true {k : Nat} : boolsD ((List.range k).map fun _ => D.bl true) = some (List.replicate k true) := by
  have e : ((List.range k).map fun _ => D.bl true) = (List.replicate k true).map D.bl := by
    rw [List.map_replicate, List.map_const', List.length_range]
  rw [e, bools_map]
theorem all_rep {k : Nat} : (List.replicate k true).all id = true := by
  rw [List.all_replicate]
  cases k <;> rfl
theorem alike_self : ∀ {n : Nat} {d : Pm.D} {h : List Ob}, Alk n d → callN T cf n 26 [d, d] h = .ok (.v (.bl true)) h := by
  intro n
  induction n with
  | zero => intro d h q; exact q.elim
  | succ n ih =>
    intro d h q
    refine wpC_eq ?_
    rw [call__law_alike, b__law_alike]
    refine wp_run rfl ?_
    have main : ∀ (xs : List Pm.D) (h : List Ob), (∀ x ∈ xs, Alk n x) → ∀ i : Nat, i < xs.length → ∀ x, xs[i]? = some x → callN T cf n 26 [x, x] h = .ok (.v (.bl true)) h := fun xs h hx i hi x ex => ih (hx x (List.mem_of_getElem? ex))
    cases d with
    | non => push_cast []
    | bl b => push_cast [eqB_bb]
    | int i => push_cast [eqI]
    | str s => push_cast [eqS_s]
    | tup xs =>
      have sz := small_of (i := (xs.length : Int)) (by omega) (by have := q.1; omega)
      push_cast [eqB_bb, eqI, rngR_s sz, rangeL_map]
      refine wp_comM (xs := List.range xs.length) (g := fun j : Nat => D.int j) (f := fun _ => .bl true) (s := .un) rfl rfl (szC (by rw [List.length_range]; exact q.1)) (fun i hi => ?_) ?_
      · rw [List.mem_range] at hi
        have ex : xs[i]? = some xs[i] := List.getElem?_eq_getElem hi
        have e := fun h => main xs h q.2 i hi _ ex
        push_cast [ixD_nat, ex, e]
      · push_cast [all_true, all_rep]
    | lst xs =>
      have sz := small_of (i := (xs.length : Int)) (by omega) (by have := q.1; omega)
      push_cast [eqB_bb, eqI, rngR_s sz, rangeL_map]
      refine wp_comM (xs := List.range xs.length) (g := fun j : Nat => D.int j) (f := fun _ => .bl true) (s := .un) rfl rfl (szC (by rw [List.length_range]; exact q.1)) (fun i hi => ?_) ?_
      · rw [List.mem_range] at hi
        have ex : xs[i]? = some xs[i] := List.getElem?_eq_getElem hi
        have e := fun h => main xs h q.2 i hi _ ex
        push_cast [ixD_nat, ex, e]
      · push_cast [all_true, all_rep]
    | _ => exact q.elim
end Lw

set_option Elab.async false
set_option linter.all false
set_option maxRecDepth 100000
set_option maxHeartbeats 400000
namespace Lw
open PySem PySem.Spec Pm
local macro_rules | `(tactic| push_cast [$xs,*]) => `(tactic| simp only [wx_cons, wx_nil, wx_if, wx_for1, wx_forT, ↓gw_nx, ↓gw_rt, ↓gw_bk, ↓gw_ct, ↓ew_nx, ↓ew_rt, ↓tw_nx, ↓tw_ct, ↓tw_bk, ↓tw_rt, ↓ww_t, ↓ww_f, ↓to_bd, ↓to_ifT, bd_ok, bd_exc, bd_bd, ifT_t, ifT_f, wp_ok, wp_exc, wpC_ok, wpC_exc, ofC_exc, asB_bd, asB_ofC, asB_if, asI_bd, asI_ofC, tupR_bd, lstR_bd, if_bind, chn_le, chn_lt, v_com, v_comf, v_prom, promR_o, x_app, x_ext, cmp_nmem_l, cmp_mem_l, cmp_mem_t, inL_int, v_met, metR_s, v_fld, fldR_s, v_fln, flnR_s, v_new, x_stf, stfR_s, o_met, o_fld, o_new, o_not, o_and, o_or, wp_ofC,
  x_set, x_setT, x_par2, x_ex, x_ret, x_retN, x_pass, x_brk, x_cnt, setTR_o, setO_s, bindS_nil, bindS_cons, v_con, v_glo, v_var, v_tup, v_lst, v_bin, v_cmp, v_cmp2, v_neg, v_and, v_or, v_not, v_ite, v_idx, v_sli, v_rev, v_f1, v_f2, v_isi, v_cal, a_nil', a_cons', o_no', o_so', it_seq, it_enu, it_rng1, it_rng2, seqR_l, seqR_t, seqR_s, seqR_o, enuR_l, enuR_t, enuR_o,
  o_bor, o_con, o_glo, o_tup, o_lst, o_bin, o_neg, o_idx, o_sli, o_rev, o_f1, o_f2, o_isi, o_cal, o_com, o_comf, o_ite, varR_v, varR_o, borR_v, borR_o, binR_s, cmpR_s, idxR_s, f1R_s, sliR_s, revR_s, isiR_s, negR_s, asB_ok, asI_ok, retR_some, retB_some, ofC_ok, Rd_v, Rd_o, Rs_v, Rs_o, cont_s, cont_v, cont_o, contS_v, contS_o,
  deref_int, deref_str, deref_bl, deref_non, deref_tup, deref_lst, deref_ref, derefR_lst, bin_add, bin_sub, cmp_eq, cmp_ne, cmp_lt, cmp_le, cmp_gt, cmp_ge, cmp_isn, cmp_isnn, eqI, eqF_str, eqF_nn, eqF_nt, eqF_tn, isNon_non, isNon_int, isNon_tup, isNon_lst, isNon_str, isNon_bl, ix_lst, ix_tup, ixD_0, ixD_1, ixD_2, ixD_3, ixD_4, ixD_5, ixD_6, ixD_m1, ixD_m2, ixD_m3, ixD_m4, ixD_m5, ixD_m6, ixD_m7, len1, len2, len3, len4, len5, len6, len7, Int.reduceEq, Bool.true_and, Bool.false_and, Bool.and_true, Bool.and_false, sl_lst, sl_tup, rev_lst, f_len_l, f_len_t, f_sum, f_all, f_list_l, f_list_t, f_tup_l, f_tup_t, f_max2, f_min2, ints_map, bools_map,
  ty_ii, ty_ib, ty_in, ty_is, ty_it, ty_il, ty_bi, ty_bb, ty_bn, ty_bs, ty_bt, ty_bl, ty_ti, ty_tb, ty_tn, ty_ts, ty_tt, ty_tl, ty_si, ty_sb, ty_sn, ty_ss, ty_st, ty_sl, ty_li, ty_lb, ty_ln, ty_ls, ty_lt, ty_ll, kn_i, kn_b, kn_n, kn_s, kn_t, kn_l, tupR_0, tupR_1, tupR_2, tupR_3, tupR_4, tupR_5, tupR_6, tupR_7, tupR_8, lstR_0, lstR_1, lstR_2, lstR_3, lstR_4, lstR_5, lstR_6, lstR_7, lstR_8,
  List.getElem?_cons_succ, List.getElem?_cons_zero, List.set_cons_succ, List.set_cons_zero, List.map_cons, List.map_nil, List.cons_append, List.nil_append, List.replicate_succ, List.replicate_zero, Nat.reduceSub, Option.map_some, Bool.not_true, Bool.not_false, decide_true, decide_false, not_true_eq_false, not_false_eq_true, and_true, true_and, Int.reduceLT, Int.reduceLE, Int.reduceNeg,
  kw_clip_clip, kw_clip_gap, kw_clip_list, kw_clip_lead, kw_gap_clip, kw_gap_gap, kw_gap_list, kw_gap_lead, kw_list_clip, kw_list_gap, kw_list_list, kw_list_lead, kw_lead_clip, kw_lead_gap, kw_lead_list, kw_lead_lead, deref_lay, len_lay, seq_lay, enu_lay, deref_film, len_film, seq_film, enu_film, deref_ls, len_ls, seq_ls, enu_ls, ty_lay, ty_ls, ty_film, kn_lay, kn_ls, kn_film, $xs,*])
/-! the editor -/
def edF (ss : List Int) (f : Film) (ah un : List Film) : List (Str × R) := [("sources", .v (.tup (ss.map D.int))), ("film", .v (filmD f)), ("ahead", .o (ah.map filmD)), ("undone", .o (un.map filmD))]
def edO (ss : List Int) (f : Film) (ah un : List Film) : Ob := .ins 0 (edF ss f ah un)
section
variable {ss : List Int} {f : Film} {ah un : List Film} {σ : List Slot} {h : List Ob} {i j : Nat} {r a b c d : R} {Γ : Calls} {es : Es}
theorem sf1 : stfR2 i "sources" r j (some (.ins 0 [])) σ h = .ok .nx σ (h.set j (.ins 0 [("sources", r)])) := by
  rw [stfR2_s (by decide)]; rfl
theorem sf2 : stfR2 i "film" r j (some (.ins 0 [("sources", a)])) σ h = .ok .nx σ (h.set j (.ins 0 [("sources", a), ("film", r)])) := by
  rw [stfR2_s (by show 1 < 100; decide)]; rfl
theorem sf3 : stfR2 i "ahead" r j (some (.ins 0 [("sources", a), ("film", b)])) σ h = .ok .nx σ (h.set j (.ins 0 [("sources", a), ("film", b), ("ahead", r)])) := by
  rw [stfR2_s (by show 2 < 100; decide)]; rfl
theorem sf4 : stfR2 i "undone" r j (some (.ins 0 [("sources", a), ("film", b), ("ahead", c)])) σ h = .ok .nx σ (h.set j (.ins 0 [("sources", a), ("film", b), ("ahead", c), ("undone", r)])) := by
  rw [stfR2_s (by show 3 < 100; decide)]; rfl
theorem fd_film : fldR2 "film" (some (edO ss f ah un)) σ h = .ok (.v (filmD f)) σ h := fldR2_s rfl
theorem fd_src : fldR2 "sources" (some (edO ss f ah un)) σ h = .ok (.v (.tup (ss.map D.int))) σ h := fldR2_s rfl
theorem mt_layer_of : metR2 Γ cf "layer_of" es j (some (edO ss f ah un)) σ h = (evA Γ cf es σ h).bd fun ds σ h => ofC (Γ 12 (.ref j :: ds) h) σ := metR2_s rfl rfl
theorem mt_need_frames : metR2 Γ cf "need_frames" es j (some (edO ss f ah un)) σ h = (evA Γ cf es σ h).bd fun ds σ h => ofC (Γ 15 (.ref j :: ds) h) σ := metR2_s rfl rfl
theorem mt_stretch : metR2 Γ cf "stretch" es j (some (edO ss f ah un)) σ h = (evA Γ cf es σ h).bd fun ds σ h => ofC (Γ 22 (.ref j :: ds) h) σ := metR2_s rfl rfl
end
theorem init_eq {n : Nat} {ss : List Int} {f : Film} (hs : Src ss) (hf : FilmOk ss f) {j : Nat} {h : List Ob} (hj : h[j]? = some (.ins 0 [])) : callN T cf (n + 8) 6 [.ref j, .tup (ss.map D.int), filmD f] h = .ok (.v .non) (h.set j (edO ss f [] [])) := by
  have hl := (List.getElem?_eq_some_iff.mp hj).1
  have hg : ∀ o, (h.set j o)[j]? = some o := fun o => List.getElem?_set_self hl
  refine wpC_eq ?_
  rw [call_Editor___init__, b_Editor___init__]
  refine wp_run rfl ?_
  have e1 := fun h => need_film_ok (n := n) hs hf (h := h)
  push_cast [e1, hj, hg, sf1, sf2, sf3, sf4, List.set_set]
  rfl
theorem layer_of_eq {n : Nat} {ss : List Int} {f : Film} {ah un : List Film} {j m k : Nat} {ls : List (List Pi)} {l : List Pi} (e1 : f[m]? = some ls) (e2 : ls[k]? = some l) {h : List Ob} (hj : h[j]? = some (edO ss f ah un)) : callN T cf (n + 3) 12 [.ref j, .int (m : Int), .int (k : Int)] h = .ok (.v (layD l)) h := by
  refine wpC_eq ?_
  rw [call_Editor_layer_of, b_Editor_layer_of]
  refine wp_run rfl ?_
  have hm := (List.getElem?_eq_some_iff.mp e1).1
  have hk := (List.getElem?_eq_some_iff.mp e2).1
  have nl := fun h => need_list_ok (n := n) hm (h := h)
  have h1 : (0 : Int) ≤ (k : Int) := by omega
  have h2 : (k : Int) ≤ (ls.length : Int) - 1 := by omega
  push_cast [hj, fd_film, nl, ix_film e1, ix_ls e2, is_between_int, h1, h2]
theorem need_frames_eq {n : Nat} {d : Pm.D} {l : List Pi} (hl : l.length ≤ 100000) {b e : Int} (h0 : 0 ≤ b) (h1 : b ≤ e) (h2 : e ≤ tot l) {h : List Ob} : callN T cf (n + 4) 15 [d, layD l, .int b, .int e] h = .ok (.v .non) h := by
  refine wpC_eq ?_
  rw [call_Editor_need_frames, b_Editor_need_frames]
  refine wp_run rfl ?_
  have e1 := fun h => total_eq (n := n) hl (h := h)
  have h3 : b ≤ tot l := by omega
  push_cast [e1, is_between_int, h0, h1, h2, h3]
theorem ed_stretch {n : Nat} {ss : List Int} {f : Film} {ah un : List Film} {j m k : Nat} {ls : List (List Pi)} {l : List Pi} (hok : FilmOk ss f) (e1 : f[m]? = some ls) (e2 : ls[k]? = some l) {b e : Int} (h0 : 0 ≤ b) (h1 : b ≤ e) (h2 : e ≤ tot l) {h : List Ob} (hj : h[j]? = some (edO ss f ah un)) :
    callN T cf (n + 5) 22 [.ref j, .int (m : Int), .int (k : Int), .int b, .int e] h = .ok (.v (layD (strL l 0 b e))) h := by
  have m1 := List.mem_of_getElem? e1
  have m2 := List.mem_of_getElem? e2
  have hl := hok.pcs ls m1 l m2
  have hp := hok.ok ls m1 l m2
  refine wpC_eq ?_
  rw [call_Editor_stretch, b_Editor_stretch]
  refine wp_run rfl ?_
  have a1 := layer_of_eq (n := n + 1) e1 e2 hj
  have a2 := fun d h => need_frames_eq (n := n) (d := d) (l := l) (by omega) h0 h1 h2 (h := h)
  have a3 := fun h => stretch_eq (n := n + 1) (l := l) (by omega) (fun p hq => (hp p hq).go) (b := b) (e := e) (h := h)
  push_cast [hj, mt_layer_of, mt_need_frames, a1, a2, a3]
end Lw

set_option Elab.async false
set_option linter.all false
set_option maxRecDepth 100000
set_option maxHeartbeats 400000
namespace Lw
open PySem PySem.Spec Pm
local macro_rules | `(tactic| push_cast [$xs,*]) => `(tactic| simp only [wx_cons, wx_nil, wx_if, wx_for1, wx_forT, ↓gw_nx, ↓gw_rt, ↓gw_bk, ↓gw_ct, ↓ew_nx, ↓ew_rt, ↓tw_nx, ↓tw_ct, ↓tw_bk, ↓tw_rt, ↓ww_t, ↓ww_f, ↓to_bd, ↓to_ifT, bd_ok, bd_exc, bd_bd, ifT_t, ifT_f, wp_ok, wp_exc, wpC_ok, wpC_exc, ofC_exc, asB_bd, asB_ofC, asB_if, asI_bd, asI_ofC, tupR_bd, lstR_bd, if_bind, chn_le, chn_lt, v_com, v_comf, v_prom, promR_o, x_app, x_ext, cmp_nmem_l, cmp_mem_l, cmp_mem_t, inL_int, v_met, metR_s, v_fld, fldR_s, v_fln, flnR_s, v_new, x_stf, stfR_s, o_met, o_fld, o_new, o_not, o_and, o_or, wp_ofC,
  x_set, x_setT, x_par2, x_ex, x_ret, x_retN, x_pass, x_brk, x_cnt, setTR_o, setO_s, bindS_nil, bindS_cons, v_con, v_glo, v_var, v_tup, v_lst, v_bin, v_cmp, v_cmp2, v_neg, v_and, v_or, v_not, v_ite, v_idx, v_sli, v_rev, v_f1, v_f2, v_isi, v_cal, a_nil', a_cons', o_no', o_so', it_seq, it_enu, it_rng1, it_rng2, seqR_l, seqR_t, seqR_s, seqR_o, enuR_l, enuR_t, enuR_o,
  o_bor, o_con, o_glo, o_tup, o_lst, o_bin, o_neg, o_idx, o_sli, o_rev, o_f1, o_f2, o_isi, o_cal, o_com, o_comf, o_ite, varR_v, varR_o, borR_v, borR_o, binR_s, cmpR_s, idxR_s, f1R_s, sliR_s, revR_s, isiR_s, negR_s, asB_ok, asI_ok, retR_some, retB_some, ofC_ok, Rd_v, Rd_o, Rs_v, Rs_o, cont_s, cont_v, cont_o, contS_v, contS_o,
  deref_int, deref_str, deref_bl, deref_non, deref_tup, deref_lst, deref_ref, derefR_lst, bin_add, bin_sub, cmp_eq, cmp_ne, cmp_lt, cmp_le, cmp_gt, cmp_ge, cmp_isn, cmp_isnn, eqI, eqF_str, eqF_nn, eqF_nt, eqF_tn, isNon_non, isNon_int, isNon_tup, isNon_lst, isNon_str, isNon_bl, ix_lst, ix_tup, ixD_0, ixD_1, ixD_2, ixD_3, ixD_4, ixD_5, ixD_6, ixD_m1, ixD_m2, ixD_m3, ixD_m4, ixD_m5, ixD_m6, ixD_m7, len1, len2, len3, len4, len5, len6, len7, Int.reduceEq, Bool.true_and, Bool.false_and, Bool.and_true, Bool.and_false, sl_lst, sl_tup, rev_lst, f_len_l, f_len_t, f_sum, f_all, f_list_l, f_list_t, f_tup_l, f_tup_t, f_max2, f_min2, ints_map, bools_map,
  ty_ii, ty_ib, ty_in, ty_is, ty_it, ty_il, ty_bi, ty_bb, ty_bn, ty_bs, ty_bt, ty_bl, ty_ti, ty_tb, ty_tn, ty_ts, ty_tt, ty_tl, ty_si, ty_sb, ty_sn, ty_ss, ty_st, ty_sl, ty_li, ty_lb, ty_ln, ty_ls, ty_lt, ty_ll, kn_i, kn_b, kn_n, kn_s, kn_t, kn_l, tupR_0, tupR_1, tupR_2, tupR_3, tupR_4, tupR_5, tupR_6, tupR_7, tupR_8, lstR_0, lstR_1, lstR_2, lstR_3, lstR_4, lstR_5, lstR_6, lstR_7, lstR_8,
  List.getElem?_cons_succ, List.getElem?_cons_zero, List.set_cons_succ, List.set_cons_zero, List.map_cons, List.map_nil, List.cons_append, List.nil_append, List.replicate_succ, List.replicate_zero, Nat.reduceSub, Option.map_some, Bool.not_true, Bool.not_false, decide_true, decide_false, not_true_eq_false, not_false_eq_true, and_true, true_and, Int.reduceLT, Int.reduceLE, Int.reduceNeg,
  kw_clip_clip, kw_clip_gap, kw_clip_list, kw_clip_lead, kw_gap_clip, kw_gap_gap, kw_gap_list, kw_gap_lead, kw_list_clip, kw_list_gap, kw_list_list, kw_list_lead, kw_lead_clip, kw_lead_gap, kw_lead_list, kw_lead_lead, deref_lay, len_lay, seq_lay, enu_lay, deref_film, len_film, seq_film, enu_film, deref_ls, len_ls, seq_ls, enu_ls, ty_lay, ty_ls, ty_film, kn_lay, kn_ls, kn_film, $xs,*])
/-! a list of a film told anew -/
theorem set_mid {α : Type} : ∀ {l : List α} {k : Nat} {x : α}, k < l.length → l.take k ++ [x] ++ l.drop (k + 1) = l.set k x
  | [], _, _, h => absurd h (Nat.not_lt_zero _)
  | a :: l, 0, x, _ => by simp
  | a :: l, k + 1, x, h => by
    rw [List.take_succ_cons, List.drop_succ_cons, List.set_cons_succ, List.cons_append, List.cons_append, set_mid (by simpa using h)]
section
variable {f g : Film} {ls ms : List (List Pi)} {N : Nat} {l : List Pi}
theorem sl_filmT : slice (filmD f) none (some (N : Int)) = some (.v (filmD (f.take N))) := by
  show some (R.v (D.tup (cutL (f.map lsD) none (some (N : Int))))) = _
  rw [cut_take (by omega), Int.toNat_natCast, ← List.map_take]
  rfl
theorem sl_filmD : slice (filmD f) (some ((N : Int) + 1)) none = some (.v (filmD (f.drop (N + 1)))) := by
  show some (R.v (D.tup (cutL (f.map lsD) (some ((N : Int) + 1)) none))) = _
  rw [cut_drop (by omega), show ((N : Int) + 1).toNat = N + 1 by omega, ← List.map_drop]
  rfl
theorem sl_lsT : slice (lsD ls) none (some (N : Int)) = some (.v (lsD (ls.take N))) := by
  show some (R.v (D.tup (cutL (ls.map layD) none (some (N : Int))))) = _
  rw [cut_take (by omega), Int.toNat_natCast, ← List.map_take]
  rfl
theorem sl_lsD : slice (lsD ls) (some ((N : Int) + 1)) none = some (.v (lsD (ls.drop (N + 1)))) := by
  show some (R.v (D.tup (cutL (ls.map layD) (some ((N : Int) + 1)) none))) = _
  rw [cut_drop (by omega), show ((N : Int) + 1).toNat = N + 1 by omega, ← List.map_drop]
  rfl
theorem bin_film (hz : f.length + g.length ≤ 100000) : binop .add (filmD f) (filmD g) = some (.v (filmD (f ++ g))) := by
  unfold filmD
  rw [bin_addt (szA (by rw [List.length_map, List.length_map]; exact hz)), List.map_append]
theorem bin_ls (hz : ls.length + ms.length ≤ 100000) : binop .add (lsD ls) (lsD ms) = some (.v (lsD (ls ++ ms))) := by
  unfold lsD
  rw [bin_addt (szA (by rw [List.length_map, List.length_map]; exact hz)), List.map_append]
theorem film_one : D.tup [lsD ls] = filmD [ls] := rfl
theorem ls_one : D.tup [layD l] = lsD [l] := rfl
end
/-- pieces that show but lists of a lower rank -/
def Under (f : Film) (rk : Nat → Nat) (N : Nat) (l : List Pi) : Prop := ∀ p ∈ l, ∀ m ∈ piLists p, 0 ≤ m ∧ m < (f.length : Int) ∧ rk m.toNat < rk N
theorem under_of {f : Film} {rk : Nat → Nat} (hd : Dag f rk) {N : Nat} {ls : List (List Pi)} (e : f[N]? = some ls) {l : List Pi} (hl : l ∈ ls) : Under f rk N l := by
  intro p hp m hm
  exact (hd N ls e).2 m (List.mem_flatMap.mpr ⟨l, hl, List.mem_flatMap.mpr ⟨p, hp, hm⟩⟩)
theorem set_dag {f : Film} {rk : Nat → Nat} (hd : Dag f rk) {N : Nat} (hN : N < f.length) {ls : List (List Pi)} (hu : ∀ l ∈ ls, Under f rk N l) : Dag (f.set N ls) rk := by
  intro n ls' e
  rw [List.getElem?_set] at e
  rw [List.length_set]
  by_cases hn : N = n
  · subst hn
    rw [if_pos rfl, if_pos hN] at e
    cases e
    refine ⟨(hd N _ (List.getElem?_eq_getElem hN)).1, fun m hm => ?_⟩
    obtain ⟨l, hl, hm⟩ := List.mem_flatMap.mp hm
    obtain ⟨p, hp, hm⟩ := List.mem_flatMap.mp hm
    exact hu l hl p hp m hm
  · rw [if_neg hn] at e
    exact hd n ls' e
/-- a list's layers that can be -/
structure LsOk (ss : List Int) (L : Int) (ls : List (List Pi)) : Prop where
  one : 1 ≤ ls.length
  three : ls.length ≤ 3
  pcs : ∀ l ∈ ls, l.length ≤ 60
  ok : ∀ l ∈ ls, ∀ p ∈ l, PiOk ss L p
theorem FilmOk.at {ss : List Int} {f : Film} (h : FilmOk ss f) {N : Nat} {ls : List (List Pi)} (e : f[N]? = some ls) : LsOk ss (f.length : Int) ls :=
  have m := List.mem_of_getElem? e
  ⟨(h.lay ls m).1, (h.lay ls m).2, h.pcs ls m, h.ok ls m⟩
theorem set_ok {ss : List Int} {f : Film} (h : FilmOk ss f) {rk : Nat → Nat} (hd : Dag f rk) {N : Nat} (hN : N < f.length) {ls : List (List Pi)} (hl : LsOk ss (f.length : Int) ls) (hu : ∀ l ∈ ls, Under f rk N l) : FilmOk ss (f.set N ls) := by
  have hin : ∀ x ∈ f.set N ls, x ∈ f ∨ x = ls := fun x hx => List.mem_or_eq_of_mem_set hx
  refine ⟨fun q => ?_, by rw [List.length_set]; exact h.len, fun x hx => ?_, fun x hx => ?_, fun x hx => ?_, rk, set_dag hd hN hu⟩
  · have := congrArg List.length q
    rw [List.length_set] at this
    have : f.length = 0 := this
    omega
  · rcases hin x hx with hx | rfl
    · exact h.lay x hx
    · exact ⟨hl.one, hl.three⟩
  · rcases hin x hx with hx | rfl
    · exact h.pcs x hx
    · exact hl.pcs
  · rw [List.length_set]
    rcases hin x hx with hx | rfl
    · exact h.ok x hx
    · exact hl.ok
theorem low_same {f : Film} {rk : Nat → Nat} (hd : Dag f rk) {N : Nat} {ls : List (List Pi)} : ∀ (k : Nat) (m : Int), 0 ≤ m → m < (f.length : Int) → rk m.toNat < rk N → ∀ j, showK (f.set N ls) k m j = showK f k m j := by
  intro k
  induction k with
  | zero => intros; rfl
  | succ k ih =>
    intro m m0 m1 hr j
    have hm : m.toNat < f.length := by omega
    have hne : ¬ N = m.toNat := fun q => by rw [q] at hr; omega
    have e1 : f[m.toNat]? = some f[m.toNat] := List.getElem?_eq_getElem hm
    have e2 : (f.set N ls)[m.toNat]? = some f[m.toNat] := by rw [List.getElem?_set, if_neg hne]; exact e1
    show listShow (showK (f.set N ls) k) ((f.set N ls).getD m.toNat []) j = listShow (showK f k) (f.getD m.toNat []) j
    rw [getD_of e1, getD_of e2]
    refine list_cong (fun i hi j => ?_) j
    obtain ⟨i0, i1, i2⟩ := (hd _ _ e1).2 i hi
    exact ih i i0 i1 (by omega) j
theorem set_show {f : Film} {rk : Nat → Nat} (hd : Dag f rk) {N : Nat} (hN : N < f.length) {ls : List (List Pi)} (hu : ∀ l ∈ ls, Under f rk N l) (j : Int) : sh (f.set N ls) (N : Int) j = listShow (sh f) ls j := by
  have e : (f.set N ls)[N]? = some ls := List.getElem?_set_self hN
  rw [sh_eq (set_dag hd hN hu) e]
  refine list_cong (fun i hi j => ?_) j
  obtain ⟨l, hl, hi⟩ := List.mem_flatMap.mp hi
  obtain ⟨p, hp, hi⟩ := List.mem_flatMap.mp hi
  obtain ⟨i0, i1, i2⟩ := hu l hl p hp i hi
  exact low_same hd 20 i i0 i1 i2 j
theorem one_show {F : Int → Int → Fv} {l : List Pi} {j : Int} : listShow F [l] j = layShow F l j := by
  show (if (layShow F l j).nonB then listShow F [] j else layShow F l j) = _
  cases e : layShow F l j <;> rfl
theorem row_take {F : Int → Int → Fv} {l : List Pi} (hp : AllPos l) {k : Nat} (hk : (k : Int) ≤ tot l) : ((List.range k).map fun i : Nat => layShow F l (0 + (i : Int))) = (flat F l).take k := by
  have hlen := flat_len (F := F) hp
  refine List.ext_getElem? fun i => ?_
  rw [List.getElem?_map, List.getElem?_take]
  by_cases hi : i < k
  · have h1 : i < (flat F l).length := by rw [hlen]; omega
    rw [List.getElem?_range hi, if_pos hi, List.getElem?_eq_getElem h1]
    show some (layShow F l (0 + (i : Int))) = _
    unfold layShow
    rw [Int.zero_add, Int.toNat_natCast, List.getElem?_eq_getElem h1]
    rfl
  · rw [if_neg hi, List.getElem?_eq_none (by rw [List.length_range]; omega)]
    rfl
theorem str_pos {ss : List Int} {L : Int} {l : List Pi} (h : ∀ p ∈ l, PiOk ss L p) {hr b e : Int} : AllPos (strL l hr b e) := fun p hp => (str_ok h p hp).pos
theorem all_pos {ss : List Int} {L : Int} {l : List Pi} (h : ∀ p ∈ l, PiOk ss L p) : AllPos l := fun p hp => (h p hp).pos
theorem str_tot {ss : List Int} {L : Int} {l : List Pi} (h : ∀ p ∈ l, PiOk ss L p) {b e : Int} (h0 : 0 ≤ b) (h1 : b ≤ e) (h2 : e ≤ tot l) : tot (strL l 0 b e) = e - b := by
  have a := flat_len (F := fun _ _ => .non) (str_pos h (hr := 0) (b := b) (e := e))
  rw [str_flat (all_pos h) (fun p hp => (h p hp).go) h1, List.length_take, List.length_drop, flat_len (all_pos h)] at a
  have t := tot_nn (str_pos h (hr := 0) (b := b) (e := e))
  omega
theorem str_under {f : Film} {rk : Nat → Nat} {N : Nat} {l : List Pi} (h : Under f rk N l) {b e : Int} : Under f rk N (strL l 0 b e) := by
  intro p hp m hm
  obtain ⟨q, hq, eq⟩ := str_lists p hp
  rw [eq] at hm
  exact h q hq m hm
end Lw

set_option Elab.async false
set_option linter.all false
set_option maxRecDepth 100000
set_option maxHeartbeats 400000
namespace Lw
open PySem PySem.Spec Pm
local macro_rules | `(tactic| push_cast [$xs,*]) => `(tactic| simp only [wx_cons, wx_nil, wx_if, wx_for1, wx_forT, ↓gw_nx, ↓gw_rt, ↓gw_bk, ↓gw_ct, ↓ew_nx, ↓ew_rt, ↓tw_nx, ↓tw_ct, ↓tw_bk, ↓tw_rt, ↓ww_t, ↓ww_f, ↓to_bd, ↓to_ifT, bd_ok, bd_exc, bd_bd, ifT_t, ifT_f, wp_ok, wp_exc, wpC_ok, wpC_exc, ofC_exc, asB_bd, asB_ofC, asB_if, asI_bd, asI_ofC, tupR_bd, lstR_bd, if_bind, chn_le, chn_lt, v_com, v_comf, v_prom, promR_o, x_app, x_ext, cmp_nmem_l, cmp_mem_l, cmp_mem_t, inL_int, v_met, metR_s, v_fld, fldR_s, v_fln, flnR_s, v_new, x_stf, stfR_s, o_met, o_fld, o_new, o_not, o_and, o_or, wp_ofC,
  x_set, x_setT, x_par2, x_ex, x_ret, x_retN, x_pass, x_brk, x_cnt, setTR_o, setO_s, bindS_nil, bindS_cons, v_con, v_glo, v_var, v_tup, v_lst, v_bin, v_cmp, v_cmp2, v_neg, v_and, v_or, v_not, v_ite, v_idx, v_sli, v_rev, v_f1, v_f2, v_isi, v_cal, a_nil', a_cons', o_no', o_so', it_seq, it_enu, it_rng1, it_rng2, seqR_l, seqR_t, seqR_s, seqR_o, enuR_l, enuR_t, enuR_o,
  o_bor, o_con, o_glo, o_tup, o_lst, o_bin, o_neg, o_idx, o_sli, o_rev, o_f1, o_f2, o_isi, o_cal, o_com, o_comf, o_ite, varR_v, varR_o, borR_v, borR_o, binR_s, cmpR_s, idxR_s, f1R_s, sliR_s, revR_s, isiR_s, negR_s, asB_ok, asI_ok, retR_some, retB_some, ofC_ok, Rd_v, Rd_o, Rs_v, Rs_o, cont_s, cont_v, cont_o, contS_v, contS_o,
  deref_int, deref_str, deref_bl, deref_non, deref_tup, deref_lst, deref_ref, derefR_lst, bin_add, bin_sub, cmp_eq, cmp_ne, cmp_lt, cmp_le, cmp_gt, cmp_ge, cmp_isn, cmp_isnn, eqI, eqF_str, eqF_nn, eqF_nt, eqF_tn, isNon_non, isNon_int, isNon_tup, isNon_lst, isNon_str, isNon_bl, ix_lst, ix_tup, ixD_0, ixD_1, ixD_2, ixD_3, ixD_4, ixD_5, ixD_6, ixD_m1, ixD_m2, ixD_m3, ixD_m4, ixD_m5, ixD_m6, ixD_m7, len1, len2, len3, len4, len5, len6, len7, Int.reduceEq, Bool.true_and, Bool.false_and, Bool.and_true, Bool.and_false, sl_lst, sl_tup, rev_lst, f_len_l, f_len_t, f_sum, f_all, f_list_l, f_list_t, f_tup_l, f_tup_t, f_max2, f_min2, ints_map, bools_map,
  ty_ii, ty_ib, ty_in, ty_is, ty_it, ty_il, ty_bi, ty_bb, ty_bn, ty_bs, ty_bt, ty_bl, ty_ti, ty_tb, ty_tn, ty_ts, ty_tt, ty_tl, ty_si, ty_sb, ty_sn, ty_ss, ty_st, ty_sl, ty_li, ty_lb, ty_ln, ty_ls, ty_lt, ty_ll, kn_i, kn_b, kn_n, kn_s, kn_t, kn_l, tupR_0, tupR_1, tupR_2, tupR_3, tupR_4, tupR_5, tupR_6, tupR_7, tupR_8, lstR_0, lstR_1, lstR_2, lstR_3, lstR_4, lstR_5, lstR_6, lstR_7, lstR_8,
  List.getElem?_cons_succ, List.getElem?_cons_zero, List.set_cons_succ, List.set_cons_zero, List.map_cons, List.map_nil, List.cons_append, List.nil_append, List.replicate_succ, List.replicate_zero, Nat.reduceSub, Option.map_some, Bool.not_true, Bool.not_false, decide_true, decide_false, not_true_eq_false, not_false_eq_true, and_true, true_and, Int.reduceLT, Int.reduceLE, Int.reduceNeg,
  kw_clip_clip, kw_clip_gap, kw_clip_list, kw_clip_lead, kw_gap_clip, kw_gap_gap, kw_gap_list, kw_gap_lead, kw_list_clip, kw_list_gap, kw_list_list, kw_list_lead, kw_lead_clip, kw_lead_gap, kw_lead_list, kw_lead_lead, deref_lay, len_lay, seq_lay, enu_lay, deref_film, len_film, seq_film, enu_film, deref_ls, len_ls, seq_ls, enu_ls, ty_lay, ty_ls, ty_film, kn_lay, kn_ls, kn_film, $xs,*])
theorem put_eq {n : Nat} {l m : List Pi} (hl : l.length ≤ 1000) (hm : m.length ≤ 1000) (hg : ∀ p ∈ l, p.go) {b e : Int} {h : List Ob} : callN T cf (n + 4) 134 [layD l, .int b, .int e, layD m] h = .ok (.v (layD (strL l 0 0 b ++ m ++ strL l 0 e (tot l)))) h := by
  refine wpC_eq ?_
  rw [call_put_in, b_put_in]
  refine wp_run rfl ?_
  have e1 := fun b e h => stretch_eq (n := n) hl hg (b := b) (e := e) (h := h)
  have e2 := fun h => total_eq (n := n) (l := l) (by omega) (h := h)
  have l1 := str_len (l := l) (hr := 0) (b := 0) (e := b)
  have l2 := str_len (l := l) (hr := 0) (b := e) (e := tot l)
  push_cast [e1, e2, deref_lay, bin_lay (a := strL l 0 0 b) (c := m) (by omega), bin_lay (a := strL l 0 0 b ++ m) (c := strL l 0 e (tot l)) (by rw [List.length_append]; omega)]
end Lw

set_option Elab.async false
set_option linter.all false
set_option maxRecDepth 100000
set_option maxHeartbeats 400000
namespace Lw
open PySem PySem.Spec Pm
local macro_rules | `(tactic| push_cast [$xs,*]) => `(tactic| simp only [wx_cons, wx_nil, wx_if, wx_for1, wx_forT, ↓gw_nx, ↓gw_rt, ↓gw_bk, ↓gw_ct, ↓ew_nx, ↓ew_rt, ↓tw_nx, ↓tw_ct, ↓tw_bk, ↓tw_rt, ↓ww_t, ↓ww_f, ↓to_bd, ↓to_ifT, bd_ok, bd_exc, bd_bd, ifT_t, ifT_f, wp_ok, wp_exc, wpC_ok, wpC_exc, ofC_exc, asB_bd, asB_ofC, asB_if, asI_bd, asI_ofC, tupR_bd, lstR_bd, if_bind, chn_le, chn_lt, v_com, v_comf, v_prom, promR_o, x_app, x_ext, cmp_nmem_l, cmp_mem_l, cmp_mem_t, inL_int, v_met, metR_s, v_fld, fldR_s, v_fln, flnR_s, v_new, x_stf, stfR_s, o_met, o_fld, o_new, o_not, o_and, o_or, wp_ofC,
  x_set, x_setT, x_par2, x_ex, x_ret, x_retN, x_pass, x_brk, x_cnt, setTR_o, setO_s, bindS_nil, bindS_cons, v_con, v_glo, v_var, v_tup, v_lst, v_bin, v_cmp, v_cmp2, v_neg, v_and, v_or, v_not, v_ite, v_idx, v_sli, v_rev, v_f1, v_f2, v_isi, v_cal, a_nil', a_cons', o_no', o_so', it_seq, it_enu, it_rng1, it_rng2, seqR_l, seqR_t, seqR_s, seqR_o, enuR_l, enuR_t, enuR_o,
  o_bor, o_con, o_glo, o_tup, o_lst, o_bin, o_neg, o_idx, o_sli, o_rev, o_f1, o_f2, o_isi, o_cal, o_com, o_comf, o_ite, varR_v, varR_o, borR_v, borR_o, binR_s, cmpR_s, idxR_s, f1R_s, sliR_s, revR_s, isiR_s, negR_s, asB_ok, asI_ok, retR_some, retB_some, ofC_ok, Rd_v, Rd_o, Rs_v, Rs_o, cont_s, cont_v, cont_o, contS_v, contS_o,
  deref_int, deref_str, deref_bl, deref_non, deref_tup, deref_lst, deref_ref, derefR_lst, bin_add, bin_sub, cmp_eq, cmp_ne, cmp_lt, cmp_le, cmp_gt, cmp_ge, cmp_isn, cmp_isnn, eqI, eqF_str, eqF_nn, eqF_nt, eqF_tn, isNon_non, isNon_int, isNon_tup, isNon_lst, isNon_str, isNon_bl, ix_lst, ix_tup, ixD_0, ixD_1, ixD_2, ixD_3, ixD_4, ixD_5, ixD_6, ixD_m1, ixD_m2, ixD_m3, ixD_m4, ixD_m5, ixD_m6, ixD_m7, len1, len2, len3, len4, len5, len6, len7, Int.reduceEq, Bool.true_and, Bool.false_and, Bool.and_true, Bool.and_false, sl_lst, sl_tup, rev_lst, f_len_l, f_len_t, f_sum, f_all, f_list_l, f_list_t, f_tup_l, f_tup_t, f_max2, f_min2, ints_map, bools_map,
  ty_ii, ty_ib, ty_in, ty_is, ty_it, ty_il, ty_bi, ty_bb, ty_bn, ty_bs, ty_bt, ty_bl, ty_ti, ty_tb, ty_tn, ty_ts, ty_tt, ty_tl, ty_si, ty_sb, ty_sn, ty_ss, ty_st, ty_sl, ty_li, ty_lb, ty_ln, ty_ls, ty_lt, ty_ll, kn_i, kn_b, kn_n, kn_s, kn_t, kn_l, tupR_0, tupR_1, tupR_2, tupR_3, tupR_4, tupR_5, tupR_6, tupR_7, tupR_8, lstR_0, lstR_1, lstR_2, lstR_3, lstR_4, lstR_5, lstR_6, lstR_7, lstR_8,
  List.getElem?_cons_succ, List.getElem?_cons_zero, List.set_cons_succ, List.set_cons_zero, List.map_cons, List.map_nil, List.cons_append, List.nil_append, List.replicate_succ, List.replicate_zero, Nat.reduceSub, Option.map_some, Bool.not_true, Bool.not_false, decide_true, decide_false, not_true_eq_false, not_false_eq_true, and_true, true_and, Int.reduceLT, Int.reduceLE, Int.reduceNeg,
  kw_clip_clip, kw_clip_gap, kw_clip_list, kw_clip_lead, kw_gap_clip, kw_gap_gap, kw_gap_list, kw_gap_lead, kw_list_clip, kw_list_gap, kw_list_list, kw_list_lead, kw_lead_clip, kw_lead_gap, kw_lead_list, kw_lead_lead, deref_lay, len_lay, seq_lay, enu_lay, deref_film, len_film, seq_film, enu_film, deref_ls, len_ls, seq_ls, enu_ls, ty_lay, ty_ls, ty_film, kn_lay, kn_ls, kn_film, $xs,*])
/-! how deep a frame is -/
def Fv.dep : Fv → Nat
  | .non => 0
  | .fr _ _ => 1
  | .lead a c _ _ => max a.dep c.dep + 1
theorem alk_int {n : Nat} {i : Int} : Alk (n + 1) (.int i) := trivial
theorem alk_str {n : Nat} {s : Str} : Alk (n + 1) (.str s) := trivial
theorem alk_fv : ∀ {x : Fv} {n : Nat}, x.dep + 2 ≤ n → Alk n x.D
  | .non, n + 1, _ => trivial
  | .fr s f, n + 2, _ => ⟨by show 2 ≤ 100000; decide, fun x hx => by
      simp only [List.mem_cons, List.not_mem_nil, or_false] at hx
      rcases hx with rfl | rfl <;> exact alk_int⟩
  | .lead a c k m, n + 2, h => by
      have h : max a.dep c.dep + 1 + 2 ≤ n + 2 := h
      refine ⟨by show 5 ≤ 100000; decide, fun x hx => ?_⟩
      have ha := alk_fv (x := a) (n := n + 1) (by omega)
      have hc := alk_fv (x := c) (n := n + 1) (by omega)
      simp only [List.mem_cons, List.not_mem_nil, or_false] at hx
      rcases hx with rfl | rfl | rfl | rfl | rfl
      · exact alk_str
      · exact ha
      · exact hc
      · exact alk_int
      · exact alk_int
theorem dep_pl {F : Int → Int → Fv} {B : Nat} (h : ∀ m j, (F m j).dep ≤ B + 1) (p : Pl) (j : Int) : (showPl F p j).dep ≤ B + 1 := by
  cases p with
  | clip s b st of rs K => exact Nat.le_add_left 1 B
  | gap K => exact Nat.zero_le _
  | lst m b K => exact h m (b + j)
theorem dep_pi {F : Int → Int → Fv} {B : Nat} (h : ∀ m j, (F m j).dep ≤ B + 1) (p : Pi) (j : Int) : (showPi F p j).dep ≤ B + 2 := by
  cases p with
  | pl p => exact Nat.le_succ_of_le (dep_pl h p j)
  | lead a c st of =>
    have h1 := dep_pl h a j
    have h2 := dep_pl h c j
    show max (showPl F a j).dep (showPl F c j).dep + 1 ≤ B + 2
    omega
theorem dep_flat {F : Int → Int → Fv} {B : Nat} (h : ∀ m j, (F m j).dep ≤ B + 1) {l : List Pi} {x : Fv} (hx : x ∈ flat F l) : x.dep ≤ B + 2 := by
  obtain ⟨p, _, hx⟩ := List.mem_flatMap.mp hx
  obtain ⟨j, _, rfl⟩ := List.mem_map.mp hx
  exact dep_pi h p _
theorem dep_list {F : Int → Int → Fv} {B : Nat} (h : ∀ m j, (F m j).dep ≤ B + 1) : ∀ (ls : List (List Pi)) (j : Int), (listShow F ls j).dep ≤ B + 2
  | [], _ => Nat.zero_le _
  | l :: ls, j => by
    unfold listShow
    split
    · exact dep_list h ls j
    · unfold layShow
      cases e : (flat F l)[j.toNat]? with
      | none => exact Nat.zero_le _
      | some x => exact dep_flat h (List.mem_of_getElem? e)
theorem dep_show {f : Film} : ∀ (k : Nat) (n j : Int), (showK f k n j).dep ≤ k + 1
  | 0, _, _ => Nat.zero_le _
  | k + 1, n, j => dep_list (fun m j => dep_show k m j) _ j
theorem alk_row {f : Film} {l : List Pi} {xs : List Fv} (hx : ∀ x ∈ xs, x ∈ flat (sh f) l) (hl : xs.length ≤ 100000) {n : Nat} (hn : 30 ≤ n) : Alk n (.lst (xs.map Fv.D)) := by
  obtain ⟨n, rfl⟩ := Nat.exists_eq_add_of_le' hn
  refine ⟨by rw [List.length_map]; exact hl, fun d hd => ?_⟩
  obtain ⟨x, hx', rfl⟩ := List.mem_map.mp hd
  have := dep_flat (fun m j => dep_show (f := f) 20 m j) (hx x hx')
  exact alk_fv (by omega)
/-! rows cut -/
structure Row (ss : List Int) (f : Film) (rk : Nat → Nat) (N : Nat) (l : List Pi) : Prop where
  le : l.length ≤ 60
  ok : ∀ p ∈ l, PiOk ss (f.length : Int) p
  un : Under f rk N l
theorem Row.film {ss : List Int} {f : Film} {rk : Nat → Nat} {N : Nat} {l : List Pi} (r : Row ss f rk N l) (hf : FilmOk ss f) (hd : Dag f rk) (hN : N < f.length) : FilmOk ss (f.set N [l]) := by
  refine set_ok hf hd hN ⟨Nat.le_refl _, by show 1 ≤ 3; omega, fun x hx => ?_, fun x hx => ?_⟩ fun x hx => ?_
  · rw [List.mem_singleton.mp hx]; exact r.le
  · rw [List.mem_singleton.mp hx]; exact r.ok
  · rw [List.mem_singleton.mp hx]; exact r.un
theorem Row.str {ss : List Int} {f : Film} {rk : Nat → Nat} {N : Nat} {l : List Pi} (r : Row ss f rk N l) {b e : Int} : Row ss f rk N (strL l 0 b e) :=
  ⟨Nat.le_trans str_len r.le, str_ok r.ok, str_under r.un⟩
/-- places to cut at -/
structure Cuts (S : Int) (ps : List Int) : Prop where
  two : 2 ≤ ps.length
  le : ps.length ≤ 64
  fst : ps[0]? = some 0
  lst : ps[ps.length - 1]? = some S
  up : ∀ (i : Nat) (x y : Int), ps[i]? = some x → ps[i + 1]? = some y → 0 ≤ x ∧ x ≤ y ∧ y ≤ S
theorem cuts_of {S : Int} (hS : 0 ≤ S) {qs : List Int} (hq : qs.length ≤ 62) (hp : qs.Pairwise (· ≤ ·)) (hx : ∀ x ∈ qs, 0 ≤ x ∧ x ≤ S) : Cuts S (0 :: (qs ++ [S])) := by
  have pw : (0 :: (qs ++ [S])).Pairwise (· ≤ ·) := by
    refine List.pairwise_cons.mpr ⟨fun x h => ?_, List.pairwise_append.mpr ⟨hp, List.pairwise_singleton _ _, fun x h y hy => ?_⟩⟩
    · rcases List.mem_append.mp h with h | h
      · exact (hx x h).1
      · rw [List.mem_singleton.mp h]; exact hS
    · rw [List.mem_singleton.mp hy]; exact (hx x h).2
  have rg : ∀ x ∈ 0 :: (qs ++ [S]), 0 ≤ x ∧ x ≤ S := by
    intro x h
    rcases List.mem_cons.mp h with rfl | h
    · omega
    · rcases List.mem_append.mp h with h | h
      · exact hx x h
      · rw [List.mem_singleton.mp h]; omega
  refine ⟨by simp, by simp; omega, rfl, ?_, fun i x y e1 e2 => ?_⟩
  · have : (0 :: (qs ++ [S])).length - 1 = qs.length + 1 := by simp
    rw [this, List.getElem?_cons_succ, List.getElem?_append_right (Nat.le_refl _), Nat.sub_self]
    rfl
  · obtain ⟨h1, rfl⟩ := List.getElem?_eq_some_iff.mp e1
    obtain ⟨h2, rfl⟩ := List.getElem?_eq_some_iff.mp e2
    exact ⟨(rg _ (List.getElem_mem h1)).1, (List.pairwise_iff_getElem.mp pw) i (i + 1) h1 h2 (Nat.lt_succ_self i), (rg _ (List.getElem_mem h2)).2⟩
end Lw

set_option Elab.async false
set_option linter.all false
set_option maxRecDepth 100000
set_option maxHeartbeats 400000
namespace Lw
open PySem PySem.Spec Pm
local macro_rules | `(tactic| push_cast [$xs,*]) => `(tactic| simp only [wx_cons, wx_nil, wx_if, wx_for1, wx_forT, ↓gw_nx, ↓gw_rt, ↓gw_bk, ↓gw_ct, ↓ew_nx, ↓ew_rt, ↓tw_nx, ↓tw_ct, ↓tw_bk, ↓tw_rt, ↓ww_t, ↓ww_f, ↓to_bd, ↓to_ifT, bd_ok, bd_exc, bd_bd, ifT_t, ifT_f, wp_ok, wp_exc, wpC_ok, wpC_exc, ofC_exc, asB_bd, asB_ofC, asB_if, asI_bd, asI_ofC, tupR_bd, lstR_bd, if_bind, chn_le, chn_lt, v_com, v_comf, v_prom, promR_o, x_app, x_ext, cmp_nmem_l, cmp_mem_l, cmp_mem_t, inL_int, v_met, metR_s, v_fld, fldR_s, v_fln, flnR_s, v_new, x_stf, stfR_s, o_met, o_fld, o_new, o_not, o_and, o_or, wp_ofC,
  x_set, x_setT, x_par2, x_ex, x_ret, x_retN, x_pass, x_brk, x_cnt, setTR_o, setO_s, bindS_nil, bindS_cons, v_con, v_glo, v_var, v_tup, v_lst, v_bin, v_cmp, v_cmp2, v_neg, v_and, v_or, v_not, v_ite, v_idx, v_sli, v_rev, v_f1, v_f2, v_isi, v_cal, a_nil', a_cons', o_no', o_so', it_seq, it_enu, it_rng1, it_rng2, seqR_l, seqR_t, seqR_s, seqR_o, enuR_l, enuR_t, enuR_o,
  o_bor, o_con, o_glo, o_tup, o_lst, o_bin, o_neg, o_idx, o_sli, o_rev, o_f1, o_f2, o_isi, o_cal, o_com, o_comf, o_ite, varR_v, varR_o, borR_v, borR_o, binR_s, cmpR_s, idxR_s, f1R_s, sliR_s, revR_s, isiR_s, negR_s, asB_ok, asI_ok, retR_some, retB_some, ofC_ok, Rd_v, Rd_o, Rs_v, Rs_o, cont_s, cont_v, cont_o, contS_v, contS_o,
  deref_int, deref_str, deref_bl, deref_non, deref_tup, deref_lst, deref_ref, derefR_lst, bin_add, bin_sub, cmp_eq, cmp_ne, cmp_lt, cmp_le, cmp_gt, cmp_ge, cmp_isn, cmp_isnn, eqI, eqF_str, eqF_nn, eqF_nt, eqF_tn, isNon_non, isNon_int, isNon_tup, isNon_lst, isNon_str, isNon_bl, ix_lst, ix_tup, ixD_0, ixD_1, ixD_2, ixD_3, ixD_4, ixD_5, ixD_6, ixD_m1, ixD_m2, ixD_m3, ixD_m4, ixD_m5, ixD_m6, ixD_m7, len1, len2, len3, len4, len5, len6, len7, Int.reduceEq, Bool.true_and, Bool.false_and, Bool.and_true, Bool.and_false, sl_lst, sl_tup, rev_lst, f_len_l, f_len_t, f_sum, f_all, f_list_l, f_list_t, f_tup_l, f_tup_t, f_max2, f_min2, ints_map, bools_map,
  ty_ii, ty_ib, ty_in, ty_is, ty_it, ty_il, ty_bi, ty_bb, ty_bn, ty_bs, ty_bt, ty_bl, ty_ti, ty_tb, ty_tn, ty_ts, ty_tt, ty_tl, ty_si, ty_sb, ty_sn, ty_ss, ty_st, ty_sl, ty_li, ty_lb, ty_ln, ty_ls, ty_lt, ty_ll, kn_i, kn_b, kn_n, kn_s, kn_t, kn_l, tupR_0, tupR_1, tupR_2, tupR_3, tupR_4, tupR_5, tupR_6, tupR_7, tupR_8, lstR_0, lstR_1, lstR_2, lstR_3, lstR_4, lstR_5, lstR_6, lstR_7, lstR_8,
  List.getElem?_cons_succ, List.getElem?_cons_zero, List.set_cons_succ, List.set_cons_zero, List.map_cons, List.map_nil, List.cons_append, List.nil_append, List.replicate_succ, List.replicate_zero, Nat.reduceSub, Option.map_some, Bool.not_true, Bool.not_false, decide_true, decide_false, not_true_eq_false, not_false_eq_true, and_true, true_and, Int.reduceLT, Int.reduceLE, Int.reduceNeg,
  kw_clip_clip, kw_clip_gap, kw_clip_list, kw_clip_lead, kw_gap_clip, kw_gap_gap, kw_gap_list, kw_gap_lead, kw_list_clip, kw_list_gap, kw_list_list, kw_list_lead, kw_lead_clip, kw_lead_gap, kw_lead_list, kw_lead_lead, deref_lay, len_lay, seq_lay, enu_lay, deref_film, len_film, seq_film, enu_film, deref_ls, len_ls, seq_ls, enu_ls, ty_lay, ty_ls, ty_film, kn_lay, kn_ls, kn_film, $xs,*])
theorem sl_layT {l : List Pi} {k : Int} (h : 0 ≤ k) : slice (layD l) none (some k) = some (.v (layD (l.take k.toNat))) := by
  show some (R.v (D.tup (cutL (l.map Pi.D) none (some k)))) = _
  rw [cut_take h, ← List.map_take]
  rfl
theorem min_eq {a b : Int} : (if b < a then b else a) = min a b := by
  split <;> omega
/-- a row's parts -/
def partK (l : List Pi) (ps : List Int) (k : Nat) : List Pi := strL l 0 (ps.getD k 0) (ps.getD (k + 1) 0)
theorem getD_at {ps : List Int} {k : Nat} (h : k < ps.length) : ps[k]? = some (ps.getD k 0) := by
  rw [List.getD_eq_getElem?_getD, List.getElem?_eq_getElem h]
  rfl
theorem ix_ps {ps : List Int} {k : Nat} (h : k < ps.length) : ixD (ps.map D.int) (k : Int) = some (.int (ps.getD k 0)) := by
  rw [ixD_nat, List.getElem?_map, getD_at h]
  rfl
theorem ix_ps1 {ps : List Int} {k : Nat} (h : k + 1 < ps.length) : ixD (ps.map D.int) ((k : Int) + 1) = some (.int (ps.getD (k + 1) 0)) := ix_ps h
section
variable {ss : List Int} {f : Film} {rk : Nat → Nat} {N : Nat} {l : List Pi} {S : Int} {ps : List Int}
theorem cuts_at (c : Cuts S ps) {k : Nat} (h : k + 1 < ps.length) : 0 ≤ ps.getD k 0 ∧ ps.getD k 0 ≤ ps.getD (k + 1) 0 ∧ ps.getD (k + 1) 0 ≤ S :=
  c.up k _ _ (getD_at (by omega)) (getD_at h)
theorem part_tot (r : Row ss f rk N l) (c : Cuts S ps) (hS : S ≤ tot l) {k : Nat} (h : k + 1 < ps.length) : tot (partK l ps k) = ps.getD (k + 1) 0 - ps.getD k 0 := by
  obtain ⟨a, b, d⟩ := cuts_at c h
  exact str_tot r.ok a b (by omega)
theorem take_more {α : Type} {X : List α} {a b : Nat} (h : a ≤ b) : X.take a ++ (X.drop a).take (b - a) = X.take b := by
  obtain ⟨c, rfl⟩ := Nat.exists_eq_add_of_le h
  rw [Nat.add_sub_cancel_left, List.take_add]
theorem part_flat (r : Row ss f rk N l) (c : Cuts S ps) {k : Nat} (h : k + 1 < ps.length) {F : Int → Int → Fv} : flat F (partK l ps k) = ((flat F l).drop (ps.getD k 0).toNat).take ((ps.getD (k + 1) 0).toNat - (ps.getD k 0).toNat) := by
  obtain ⟨a, b, d⟩ := cuts_at c h
  unfold partK
  rw [str_flat (all_pos r.ok) (fun p hp => (r.ok p hp).go) b, Int.sub_zero, Int.sub_zero]
theorem part_row (r : Row ss f rk N l) {k : Nat} : Row ss f rk N (partK l ps k) := r.str
/-- all parts ahead of one -/
def partsTo (l : List Pi) (ps : List Int) (a : Nat) : List Pi := (List.range a).flatMap (partK l ps)
theorem to_succ {a : Nat} : partsTo l ps (a + 1) = partsTo l ps a ++ partK l ps a := by
  unfold partsTo
  rw [List.range_succ, List.flatMap_append, List.flatMap_cons, List.flatMap_nil, List.append_nil]
theorem to_flat (r : Row ss f rk N l) (c : Cuts S ps) {F : Int → Int → Fv} : ∀ {a : Nat}, a < ps.length → flat F (partsTo l ps a) = (flat F l).take (ps.getD a 0).toNat
  | 0, _ => by
    have e : ps.getD 0 0 = 0 := by rw [List.getD_eq_getElem?_getD, c.fst]; rfl
    rw [e]
    rfl
  | a + 1, h => by
    obtain ⟨x, y, z⟩ := cuts_at c h
    rw [to_succ, flat_app, to_flat r c (by omega), part_flat r c h, take_more (by omega)]
theorem to_tot (r : Row ss f rk N l) (c : Cuts S ps) (hS : S ≤ tot l) : ∀ {a : Nat}, a < ps.length → tot (partsTo l ps a) = ps.getD a 0
  | 0, _ => by
    have e : ps.getD 0 0 = 0 := by rw [List.getD_eq_getElem?_getD, c.fst]; rfl
    rw [e]
    rfl
  | a + 1, h => by
    rw [to_succ, tot_app, to_tot r c hS (by omega), part_tot r c hS h]
    omega
theorem to_len (r : Row ss f rk N l) : ∀ {a : Nat}, (partsTo l ps a).length ≤ 60 * a
  | 0 => Nat.le_refl _
  | a + 1 => by
    have h1 := to_len r (a := a)
    have h2 := (part_row r (ps := ps) (k := a)).le
    rw [to_succ, List.length_append]
    omega
theorem to_row (r : Row ss f rk N l) {a : Nat} (h : (partsTo l ps a).length ≤ 60) : Row ss f rk N (partsTo l ps a) := by
  refine ⟨h, fun p hp => ?_, fun p hp => ?_⟩
  · obtain ⟨k, _, hp⟩ := List.mem_flatMap.mp hp
    exact (part_row r).ok p hp
  · obtain ⟨k, _, hp⟩ := List.mem_flatMap.mp hp
    exact (part_row r).un p hp
theorem range_split {pre c : List Nat} {k n : Nat} (e : pre ++ k :: c = List.range n) : k = pre.length ∧ k < n := by
  have h1 : (List.range n)[pre.length]? = some k := by
    rw [← e, List.getElem?_append_right (Nat.le_refl _), Nat.sub_self]
    rfl
  have hl := congrArg List.length e
  rw [List.length_append, List.length_cons, List.length_range] at hl
  rw [List.getElem?_range (by omega)] at h1
  cases h1
  exact ⟨rfl, by omega⟩
theorem varR_hold {xs : List Pm.D} {s : Slot} {i : Nat} {σ : List Slot} {h : List Ob} (H : HoldL xs s) (hs : σ[i]? = some s) : varR i (some s) σ h = .ok (.v (.lst xs)) (σ.set i (.v (.lst xs))) h := by
  rcases H with rfl | rfl
  · exact varR_o
  · rw [set_same hs]
    exact varR_v
end
end Lw

set_option Elab.async false
set_option linter.all false
set_option maxRecDepth 100000
set_option maxHeartbeats 400000
namespace Lw
open PySem PySem.Spec Pm
local macro_rules | `(tactic| push_cast [$xs,*]) => `(tactic| simp only [wx_cons, wx_nil, wx_if, wx_for1, wx_forT, ↓gw_nx, ↓gw_rt, ↓gw_bk, ↓gw_ct, ↓ew_nx, ↓ew_rt, ↓tw_nx, ↓tw_ct, ↓tw_bk, ↓tw_rt, ↓ww_t, ↓ww_f, ↓to_bd, ↓to_ifT, bd_ok, bd_exc, bd_bd, ifT_t, ifT_f, wp_ok, wp_exc, wpC_ok, wpC_exc, ofC_exc, asB_bd, asB_ofC, asB_if, asI_bd, asI_ofC, tupR_bd, lstR_bd, if_bind, chn_le, chn_lt, v_com, v_comf, v_prom, promR_o, x_app, x_ext, cmp_nmem_l, cmp_mem_l, cmp_mem_t, inL_int, v_met, metR_s, v_fld, fldR_s, v_fln, flnR_s, v_new, x_stf, stfR_s, o_met, o_fld, o_new, o_not, o_and, o_or, wp_ofC,
  x_set, x_setT, x_par2, x_ex, x_ret, x_retN, x_pass, x_brk, x_cnt, setTR_o, setO_s, bindS_nil, bindS_cons, v_con, v_glo, v_var, v_tup, v_lst, v_bin, v_cmp, v_cmp2, v_neg, v_and, v_or, v_not, v_ite, v_idx, v_sli, v_rev, v_f1, v_f2, v_isi, v_cal, a_nil', a_cons', o_no', o_so', it_seq, it_enu, it_rng1, it_rng2, seqR_l, seqR_t, seqR_s, seqR_o, enuR_l, enuR_t, enuR_o,
  o_bor, o_con, o_glo, o_tup, o_lst, o_bin, o_neg, o_idx, o_sli, o_rev, o_f1, o_f2, o_isi, o_cal, o_com, o_comf, o_ite, varR_v, varR_o, borR_v, borR_o, binR_s, cmpR_s, idxR_s, f1R_s, sliR_s, revR_s, isiR_s, negR_s, asB_ok, asI_ok, retR_some, retB_some, ofC_ok, Rd_v, Rd_o, Rs_v, Rs_o, cont_s, cont_v, cont_o, contS_v, contS_o,
  deref_int, deref_str, deref_bl, deref_non, deref_tup, deref_lst, deref_ref, derefR_lst, bin_add, bin_sub, cmp_eq, cmp_ne, cmp_lt, cmp_le, cmp_gt, cmp_ge, cmp_isn, cmp_isnn, eqI, eqF_str, eqF_nn, eqF_nt, eqF_tn, isNon_non, isNon_int, isNon_tup, isNon_lst, isNon_str, isNon_bl, ix_lst, ix_tup, ixD_0, ixD_1, ixD_2, ixD_3, ixD_4, ixD_5, ixD_6, ixD_m1, ixD_m2, ixD_m3, ixD_m4, ixD_m5, ixD_m6, ixD_m7, len1, len2, len3, len4, len5, len6, len7, Int.reduceEq, Bool.true_and, Bool.false_and, Bool.and_true, Bool.and_false, sl_lst, sl_tup, rev_lst, f_len_l, f_len_t, f_sum, f_all, f_list_l, f_list_t, f_tup_l, f_tup_t, f_max2, f_min2, ints_map, bools_map,
  ty_ii, ty_ib, ty_in, ty_is, ty_it, ty_il, ty_bi, ty_bb, ty_bn, ty_bs, ty_bt, ty_bl, ty_ti, ty_tb, ty_tn, ty_ts, ty_tt, ty_tl, ty_si, ty_sb, ty_sn, ty_ss, ty_st, ty_sl, ty_li, ty_lb, ty_ln, ty_ls, ty_lt, ty_ll, kn_i, kn_b, kn_n, kn_s, kn_t, kn_l, tupR_0, tupR_1, tupR_2, tupR_3, tupR_4, tupR_5, tupR_6, tupR_7, tupR_8, lstR_0, lstR_1, lstR_2, lstR_3, lstR_4, lstR_5, lstR_6, lstR_7, lstR_8,
  List.getElem?_cons_succ, List.getElem?_cons_zero, List.set_cons_succ, List.set_cons_zero, List.map_cons, List.map_nil, List.cons_append, List.nil_append, List.replicate_succ, List.replicate_zero, Nat.reduceSub, Option.map_some, Bool.not_true, Bool.not_false, decide_true, decide_false, not_true_eq_false, not_false_eq_true, and_true, true_and, Int.reduceLT, Int.reduceLE, Int.reduceNeg,
  kw_clip_clip, kw_clip_gap, kw_clip_list, kw_clip_lead, kw_gap_clip, kw_gap_gap, kw_gap_list, kw_gap_lead, kw_list_clip, kw_list_gap, kw_list_list, kw_list_lead, kw_lead_clip, kw_lead_gap, kw_lead_list, kw_lead_lead, deref_lay, len_lay, seq_lay, enu_lay, deref_film, len_film, seq_film, enu_film, deref_ls, len_ls, seq_ls, enu_ls, ty_lay, ty_ls, ty_film, kn_lay, kn_ls, kn_film, $xs,*])
/-! what is shown, by the law's own going -/
def LgOk (f : Film) (m : Int) (v : Nat) : Prop := ∀ (j : Int) (h : List Ob), 0 ≤ j → callN T cf v 61 [filmD f, .int m, .int j] h = .ok (.v (sh f m j).D) h
theorem lpiece_pl {n : Nat} {f : Film} {p : Pl} (hg : p.go) (hb : ∀ m b K, p = .lst m b K → 0 ≤ b) (hl : ∀ m ∈ plLists p, LgOk f m n) {j : Int} (hj : 0 ≤ j) {h : List Ob} : callN T cf (n + 1) 72 [filmD f, p.D, .int j] h = .ok (.v (showPl (sh f) p j).D) h := by
  refine wpC_eq ?_
  rw [call__law_piece_shows, b__law_piece_shows]
  refine wp_run rfl ?_
  cases p with
  | clip s b st of rs K =>
    have hm : binop .mul (.int j) (.int st) = some (.v (.int (j * st))) := bin_mulrS (by have := hg.1.1; omega) (by have := hg.1.2; omega)
    have hf : ∀ i, binop .fdiv (.int i) (.int of) = some (.v (.int (i / of))) := fun i => bin_fdiv (by have := hg.2.1; omega) (by have := hg.2.2; omega)
    unfold Pl.D
    push_cast [hm, hf]
    rfl
  | gap K =>
    unfold Pl.D
    push_cast []
    rfl
  | lst m b K =>
    have h0 := hb m b K rfl
    have e := fun h => hl m List.mem_cons_self (b + j) h (by omega)
    unfold Pl.D
    push_cast [e]
    rfl
theorem lpiece_eq {n : Nat} {f : Film} {p : Pi} (hg : p.go) (hb : ∀ q, (p = .pl q ∨ (∃ c st of, p = .lead q c st of) ∨ ∃ a st of, p = .lead a q st of) → ∀ m b K, q = .lst m b K → 0 ≤ b) (hl : ∀ m ∈ piLists p, LgOk f m n ∧ LgOk f m (n + 1)) {j : Int} (hj : 0 ≤ j) {h : List Ob} :
    callN T cf (n + 2) 72 [filmD f, p.D, .int j] h = .ok (.v (showPi (sh f) p j).D) h := by
  cases p with
  | pl p => exact lpiece_pl (n := n + 1) hg (hb p (.inl rfl)) (fun m hm => (hl m hm).2) hj
  | lead a c st of =>
    have e1 := fun h => lpiece_pl (n := n) (f := f) hg.1 (hb a (.inr (.inl ⟨_, _, _, rfl⟩))) (fun m hm => (hl m (List.mem_append_left _ hm)).1) hj (h := h)
    have e2 := fun h => lpiece_pl (n := n) (f := f) hg.2 (hb c (.inr (.inr ⟨_, _, _, rfl⟩))) (fun m hm => (hl m (List.mem_append_right _ hm)).1) hj (h := h)
    refine wpC_eq ?_
    rw [call__law_piece_shows, b__law_piece_shows]
    refine wp_run rfl ?_
    unfold Pi.D
    push_cast [e1, e2]
    rfl
theorem tot_split {l a c : List Pi} {p : Pi} (e : a ++ p :: c = l) : a = l.take a.length ∧ l[a.length]? = some p := by
  subst e
  exact ⟨(List.take_left (l₁ := a)).symm, by rw [List.getElem?_append_right (Nat.le_refl _), Nat.sub_self]; rfl⟩
theorem llayer_eq {n : Nat} {ss : List Int} {L : Int} {f : Film} {l : List Pi} (hok : ∀ p ∈ l, PiOk ss L p) (hl : ∀ p ∈ l, ∀ m ∈ piLists p, LgOk f m n ∧ LgOk f m (n + 1)) {j : Int} (hj : 0 ≤ j) {h : List Ob} :
    callN T cf (n + 3) 59 [filmD f, layD l, .int j] h = .ok (.v (layShow (sh f) l j).D) h := by
  have hpos : AllPos l := fun p hp => (hok p hp).pos
  refine wpC_eq ?_
  rw [call__law_layer_shows, b__law_layer_shows]
  refine wp_run rfl ?_
  push_cast [seq_lay]
  refine wp_for (xs := l) (g := Pi.D) (fun a c σ h' => (∃ s3, σ = [.v (filmD f), .v (layD l), .v (.int (j - tot a)), s3]) ∧ h' = h ∧ tot a ≤ j) rfl ⟨⟨_, by rw [tot_nil, Int.sub_zero]⟩, rfl, hj⟩ ?_ ?_
  · rintro a p c σ h' el ⟨⟨s3, rfl⟩, rfl, ha⟩
    refine ⟨_, rfl, ?_⟩
    obtain ⟨ea, ek⟩ := tot_split el
    have hpm : p ∈ l := List.mem_of_getElem? ek
    have hz : 0 ≤ tot a := tot_nn fun q hq => hpos q (by rw [← el]; exact List.mem_append_left _ hq)
    have le := fun h => law_long_eq (n := n + 1) (p := p) (h := h)
    by_cases hlt : j - tot a < p.len
    · have pe := fun h => lpiece_eq (n := n) (f := f) (hok p hpm).go (ok_beg (hok p hpm)) (hl p hpm) (j := j - tot a) (by omega) (h := h)
      push_cast [le, hlt, pe]
      have et : tot (l.take a.length) = tot a := by rw [← ea]
      have := flat_at (F := sh f) hpos ek (at_ := j) (by omega) (by omega) (by omega)
      unfold layShow
      rw [this, et]
      rfl
    · push_cast [le, hlt]
      rw [tot_app, tot_cons, tot_nil]
      exact ⟨⟨_, by rw [Int.add_zero, Int.sub_sub]⟩, by omega⟩
  · rintro σ h' ⟨⟨s3, rfl⟩, rfl, ha⟩
    push_cast []
    unfold layShow
    rw [flat_out hpos ha]
    rfl
theorem lframe_step {ss : List Int} {f : Film} (hf : FilmOk ss f) {rk : Nat → Nat} (hd : Dag f rk) {n : Nat} {ls : List (List Pi)} (e : f[n]? = some ls) {w : Nat} (hl : ∀ m ∈ shownL ls, LgOk f m w ∧ LgOk f m (w + 1)) : LgOk f (n : Int) (w + 4) := by
  intro j h hj
  refine wpC_eq ?_
  rw [call__law_list_shows, b__law_list_shows]
  refine wp_run rfl ?_
  have hls : ls ∈ f := List.mem_of_getElem? e
  rw [sh_eq hd e]
  push_cast [ix_film e]
  refine wp_for (xs := ls) (g := layD) (fun a c σ h' => (∃ s3 s4, σ = [.v (filmD f), .v (.int (n : Int)), .v (.int j), s3, s4]) ∧ h' = h ∧ listShow (sh f) ls j = listShow (sh f) c j) rfl ⟨⟨_, _, rfl⟩, rfl, rfl⟩ ?_ ?_
  · rintro a l c σ h' el ⟨⟨s3, s4, rfl⟩, rfl, hs⟩
    refine ⟨_, rfl, ?_⟩
    have hlm : l ∈ ls := by rw [← el]; simp
    have pe := fun h => llayer_eq (n := w) (f := f) (l := l) (hf.ok ls hls l hlm) (fun p hp m hm => hl m (List.mem_flatMap.mpr ⟨l, hlm, List.mem_flatMap.mpr ⟨p, hp, hm⟩⟩)) hj (h := h)
    push_cast [pe, deref_fv, isNon_fv]
    by_cases hn : (layShow (sh f) l j).nonB = true
    · push_cast [hn]
      refine ⟨⟨_, _, rfl⟩, ?_⟩
      rw [hs, listShow, if_pos hn]
    · have hn' : (layShow (sh f) l j).nonB = false := by simpa using hn
      push_cast [hn']
      rw [hs, listShow, if_neg hn]
  · rintro σ h' ⟨⟨s3, s4, rfl⟩, rfl, hs⟩
    push_cast []
    rw [hs]
    rfl
theorem lframe_ok {ss : List Int} {f : Film} (hf : FilmOk ss f) {rk : Nat → Nat} (hd : Dag f rk) : ∀ (r : Nat) (n : Nat), n < f.length → rk n ≤ r → ∀ v, 4 * r + 4 ≤ v → LgOk f (n : Int) v := by
  intro r
  induction r with
  | zero =>
    intro n hn hr v hv
    obtain ⟨w, rfl⟩ : ∃ w, v = w + 4 := ⟨v - 4, by omega⟩
    have e : f[n]? = some f[n] := List.getElem?_eq_getElem hn
    refine lframe_step hf hd e fun m hm => ?_
    obtain ⟨_, _, h2⟩ := (hd n _ e).2 m hm
    omega
  | succ r ih =>
    intro n hn hr v hv
    obtain ⟨w, rfl⟩ : ∃ w, v = w + 4 := ⟨v - 4, by omega⟩
    have e : f[n]? = some f[n] := List.getElem?_eq_getElem hn
    refine lframe_step hf hd e fun m hm => ?_
    obtain ⟨h0, h1, h2⟩ := (hd n _ e).2 m hm
    have em : ((m.toNat : Nat) : Int) = m := by omega
    have := ih m.toNat (by omega) (by omega)
    rw [em] at this
    exact ⟨this _ (by omega), this _ (by omega)⟩
/-- all lists, by own going -/
theorem lframe_all {ss : List Int} {f : Film} (hf : FilmOk ss f) {m : Int} (h0 : 0 ≤ m) (h1 : m < (f.length : Int)) {v : Nat} (hv : 36 ≤ v) : LgOk f m v := by
  obtain ⟨rk, hd⟩ := hf.dag
  have hm : m.toNat < f.length := by omega
  have em : ((m.toNat : Nat) : Int) = m := by omega
  have := lframe_ok hf hd 8 m.toNat hm (hd _ _ (List.getElem?_eq_getElem hm)).1 v (by omega)
  rwa [em] at this
theorem PlOk.rng {ss : List Int} {L : Int} {p : Pl} (h : PlOk ss L p) : ∀ m ∈ plLists p, 0 ≤ m ∧ m < L := by
  cases p with
  | lst m b K =>
    intro x hx
    rw [List.mem_singleton.mp hx]
    have := h.1
    omega
  | _ => intro x hx; exact nomatch hx
theorem PiOk.rng {ss : List Int} {L : Int} {p : Pi} (h : PiOk ss L p) : ∀ m ∈ piLists p, 0 ≤ m ∧ m < L := by
  cases p with
  | pl p => exact PlOk.rng h
  | lead a c st of =>
    intro x hx
    rcases List.mem_append.mp hx with hx | hx
    · exact h.1.rng x hx
    · exact h.2.1.rng x hx
theorem lpiece_all {n : Nat} {ss : List Int} {f : Film} (hf : FilmOk ss f) {p : Pi} (hp : PiOk ss (f.length : Int) p) {j : Int} (hj : 0 ≤ j) {h : List Ob} : callN T cf (n + 38) 72 [filmD f, p.D, .int j] h = .ok (.v (showPi (sh f) p j).D) h :=
  lpiece_eq (n := n + 36) hp.go (ok_beg hp) (fun m hm => ⟨lframe_all hf (hp.rng m hm).1 (hp.rng m hm).2 (by omega), lframe_all hf (hp.rng m hm).1 (hp.rng m hm).2 (by omega)⟩) hj
theorem llayer_all {n : Nat} {ss : List Int} {f : Film} (hf : FilmOk ss f) {l : List Pi} (hp : ∀ p ∈ l, PiOk ss (f.length : Int) p) {j : Int} (hj : 0 ≤ j) {h : List Ob} : callN T cf (n + 39) 59 [filmD f, layD l, .int j] h = .ok (.v (layShow (sh f) l j).D) h :=
  llayer_eq (n := n + 36) hp (fun p hq m hm => ⟨lframe_all hf ((hp p hq).rng m hm).1 ((hp p hq).rng m hm).2 (by omega), lframe_all hf ((hp p hq).rng m hm).1 ((hp p hq).rng m hm).2 (by omega)⟩) hj
theorem law_all_eq {n : Nat} {ss : List Int} {f : Film} (hf : FilmOk ss f) {l : List Pi} (hl : l.length ≤ 1000) (hp : ∀ p ∈ l, PiOk ss (f.length : Int) p) {M : Nat} (hM : M ≤ 10000) {h : List Ob} : callN T cf (n + 40) 27 [filmD f, layD l, .int (M : Int)] h = .ok (.o (((flat (sh f) l).take M).map Fv.D)) h := by
  refine wpC_eq ?_
  rw [call__law_all, b__law_all]
  refine wp_run rfl ?_
  have sz : ∀ h, callN T cf (n + 39) 84 [layD l] h = _ := fun h => law_size_eq (n := n + 37) (l := l) (by omega) (h := h)
  have tn := tot_nn (all_pos hp)
  have em : ∀ a b : Int, (if b < a then b else a) = min a b := fun a b => by split <;> omega
  obtain ⟨k, ek⟩ : ∃ k : Nat, min (M : Int) (tot l) = (k : Int) := ⟨(min (M : Int) (tot l)).toNat, by omega⟩
  have sk := small_of (i := (k : Int)) (by omega) (by omega)
  push_cast [sz, em, ek, rngR_s sk, rangeL_map]
  refine wp_comM (xs := List.range k) (g := fun j : Nat => D.int j) (f := fun i : Nat => (layShow (sh f) l (0 + (i : Int))).D) (s := .un) rfl rfl (szC (by rw [List.length_range]; omega)) (fun i hi => ?_) ?_
  · have e := fun h => llayer_all (n := n) hf hp (j := (i : Int)) (by omega) (h := h)
    push_cast [e]
    rw [Int.zero_add]
  · push_cast []
    have e1 : ((List.range k).map fun i : Nat => (layShow (sh f) l (0 + (i : Int))).D) = ((List.range k).map fun i : Nat => layShow (sh f) l (0 + (i : Int))).map Fv.D := by rw [List.map_map]; rfl
    have hlen := flat_len (F := sh f) (all_pos hp)
    have e2 : (flat (sh f) l).take k = (flat (sh f) l).take M := by
      by_cases hc : (M : Int) ≤ tot l
      · have : k = M := by omega
        rw [this]
      · rw [List.take_of_length_le (by omega), List.take_of_length_le (by omega)]
    rw [e1, row_take (all_pos hp) (by omega), e2]
end Lw

set_option Elab.async false
set_option linter.all false
set_option maxRecDepth 100000
set_option maxHeartbeats 400000
namespace Lw
open PySem PySem.Spec Pm
local macro_rules | `(tactic| push_cast [$xs,*]) => `(tactic| simp only [wx_cons, wx_nil, wx_if, wx_for1, wx_forT, ↓gw_nx, ↓gw_rt, ↓gw_bk, ↓gw_ct, ↓ew_nx, ↓ew_rt, ↓tw_nx, ↓tw_ct, ↓tw_bk, ↓tw_rt, ↓ww_t, ↓ww_f, ↓to_bd, ↓to_ifT, bd_ok, bd_exc, bd_bd, ifT_t, ifT_f, wp_ok, wp_exc, wpC_ok, wpC_exc, ofC_exc, asB_bd, asB_ofC, asB_if, asI_bd, asI_ofC, tupR_bd, lstR_bd, if_bind, chn_le, chn_lt, v_com, v_comf, v_prom, promR_o, x_app, x_ext, cmp_nmem_l, cmp_mem_l, cmp_mem_t, inL_int, v_met, metR_s, v_fld, fldR_s, v_fln, flnR_s, v_new, x_stf, stfR_s, o_met, o_fld, o_new, o_not, o_and, o_or, wp_ofC,
  x_set, x_setT, x_par2, x_ex, x_ret, x_retN, x_pass, x_brk, x_cnt, setTR_o, setO_s, bindS_nil, bindS_cons, v_con, v_glo, v_var, v_tup, v_lst, v_bin, v_cmp, v_cmp2, v_neg, v_and, v_or, v_not, v_ite, v_idx, v_sli, v_rev, v_f1, v_f2, v_isi, v_cal, a_nil', a_cons', o_no', o_so', it_seq, it_enu, it_rng1, it_rng2, seqR_l, seqR_t, seqR_s, seqR_o, enuR_l, enuR_t, enuR_o,
  o_bor, o_con, o_glo, o_tup, o_lst, o_bin, o_neg, o_idx, o_sli, o_rev, o_f1, o_f2, o_isi, o_cal, o_com, o_comf, o_ite, varR_v, varR_o, borR_v, borR_o, binR_s, cmpR_s, idxR_s, f1R_s, sliR_s, revR_s, isiR_s, negR_s, asB_ok, asI_ok, retR_some, retB_some, ofC_ok, Rd_v, Rd_o, Rs_v, Rs_o, cont_s, cont_v, cont_o, contS_v, contS_o,
  deref_int, deref_str, deref_bl, deref_non, deref_tup, deref_lst, deref_ref, derefR_lst, bin_add, bin_sub, cmp_eq, cmp_ne, cmp_lt, cmp_le, cmp_gt, cmp_ge, cmp_isn, cmp_isnn, eqI, eqF_str, eqF_nn, eqF_nt, eqF_tn, isNon_non, isNon_int, isNon_tup, isNon_lst, isNon_str, isNon_bl, ix_lst, ix_tup, ixD_0, ixD_1, ixD_2, ixD_3, ixD_4, ixD_5, ixD_6, ixD_m1, ixD_m2, ixD_m3, ixD_m4, ixD_m5, ixD_m6, ixD_m7, len1, len2, len3, len4, len5, len6, len7, Int.reduceEq, Bool.true_and, Bool.false_and, Bool.and_true, Bool.and_false, sl_lst, sl_tup, rev_lst, f_len_l, f_len_t, f_sum, f_all, f_list_l, f_list_t, f_tup_l, f_tup_t, f_max2, f_min2, ints_map, bools_map,
  ty_ii, ty_ib, ty_in, ty_is, ty_it, ty_il, ty_bi, ty_bb, ty_bn, ty_bs, ty_bt, ty_bl, ty_ti, ty_tb, ty_tn, ty_ts, ty_tt, ty_tl, ty_si, ty_sb, ty_sn, ty_ss, ty_st, ty_sl, ty_li, ty_lb, ty_ln, ty_ls, ty_lt, ty_ll, kn_i, kn_b, kn_n, kn_s, kn_t, kn_l, tupR_0, tupR_1, tupR_2, tupR_3, tupR_4, tupR_5, tupR_6, tupR_7, tupR_8, lstR_0, lstR_1, lstR_2, lstR_3, lstR_4, lstR_5, lstR_6, lstR_7, lstR_8,
  List.getElem?_cons_succ, List.getElem?_cons_zero, List.set_cons_succ, List.set_cons_zero, List.map_cons, List.map_nil, List.cons_append, List.nil_append, List.replicate_succ, List.replicate_zero, Nat.reduceSub, Option.map_some, Bool.not_true, Bool.not_false, decide_true, decide_false, not_true_eq_false, not_false_eq_true, and_true, true_and, Int.reduceLT, Int.reduceLE, Int.reduceNeg,
  kw_clip_clip, kw_clip_gap, kw_clip_list, kw_clip_lead, kw_gap_clip, kw_gap_gap, kw_gap_list, kw_gap_lead, kw_list_clip, kw_list_gap, kw_list_list, kw_list_lead, kw_lead_clip, kw_lead_gap, kw_lead_list, kw_lead_lead, deref_lay, len_lay, seq_lay, enu_lay, deref_film, len_film, seq_film, enu_film, deref_ls, len_ls, seq_ls, enu_ls, ty_lay, ty_ls, ty_film, kn_lay, kn_ls, kn_film, $xs,*])
section
variable {Γ : Calls} {C : Cf} {σ : List Slot} {h : List Ob} {i j : Nat} {e : Pm.E} {fn : Str} {r : R} {ss : List Int} {f g : Film} {ah un : List Film} {es : Es}
def appFR2 (fn : Str) (r : R) (j : Nat) (o : Option Ob) (σ : List Slot) (h : List Ob) : Res Pm.Flow :=
  match o with
  | some (.ins c fs) => match fs.lookup fn with
    | some (.o xs) => if keysOk fs && decide (xs.length < sizeLine) then .ok .nx σ (h.set j (.ins c (putR fn (.o (xs ++ [r.d])) fs))) else .stuck
    | _ => .stuck
  | _ => .stuck
def appFR (fn : Str) (r : R) (s : Option Slot) (σ : List Slot) (h : List Ob) : Res Pm.Flow :=
  match s with
  | some (.v (.ref j)) => appFR2 fn r j h[j]? σ h
  | _ => .stuck
theorem x_appF : exS Γ C (.appF i fn e) σ h = (evE Γ C e σ h).bind fun r σ h => appFR fn r σ[i]? σ h := by
  rw [exS]
  congr 1
theorem appFR_s : appFR fn r (some (.v (.ref j))) σ h = appFR2 fn r j h[j]? σ h := rfl
theorem ed_keys : keysOk (edF ss f ah un) = true := by
  show decide (["sources", "film", "ahead", "undone"] : List Str).Nodup = true
  decide
theorem af_ahead (hl : ah.length < 100000) : appFR2 "ahead" (.v (filmD g)) j (some (edO ss f ah un)) σ h = .ok .nx σ (h.set j (edO ss f (ah ++ [g]) un)) := by
  have e : (edF ss f ah un).lookup ("ahead" : Str) = some (.o (ah.map filmD)) := rfl
  show (match (edF ss f ah un).lookup ("ahead" : Str) with
    | some (.o xs) => if keysOk (edF ss f ah un) && decide (xs.length < sizeLine) then Res.ok Pm.Flow.nx σ (h.set j (.ins 0 (putR "ahead" (.o (xs ++ [(R.v (filmD g)).d])) (edF ss f ah un)))) else .stuck
    | _ => .stuck) = _
  rw [e]
  dsimp only
  rw [ed_keys, decide_eq_true (szB (by rw [List.length_map]; exact hl))]
  have e2 : putR "ahead" (.o (ah.map filmD ++ [(R.v (filmD g)).d])) (edF ss f ah un) = edF ss f (ah ++ [g]) un := by
    unfold edF
    rw [List.map_append]
    rfl
  rw [e2]
  rfl
theorem sf_undone : stfR2 i "undone" (.o []) j (some (edO ss f ah un)) σ h = .ok .nx σ (h.set j (edO ss f ah [])) := by
  unfold edO
  rw [stfR2_s (by show 4 < 100; decide)]; rfl
theorem sf_film : stfR2 i "film" (.v (filmD g)) j (some (edO ss f ah un)) σ h = .ok .nx σ (h.set j (edO ss g ah un)) := by
  unfold edO
  rw [stfR2_s (by show 4 < 100; decide)]; rfl
theorem mt_take : metR2 Γ cf "take" es j (some (edO ss f ah un)) σ h = (evA Γ cf es σ h).bd fun ds σ h => ofC (Γ 23 (.ref j :: ds) h) σ := metR2_s rfl rfl
theorem mt_need_piece : metR2 Γ cf "need_piece" es j (some (edO ss f ah un)) σ h = (evA Γ cf es σ h).bd fun ds σ h => ofC (Γ 17 (.ref j :: ds) h) σ := metR2_s rfl rfl
theorem mt_shown : metR2 Γ cf "shown" es j (some (edO ss f ah un)) σ h = (evA Γ cf es σ h).bd fun ds σ h => ofC (Γ 20 (.ref j :: ds) h) σ := metR2_s rfl rfl
theorem mt_put : metR2 Γ cf "put" es j (some (edO ss f ah un)) σ h = (evA Γ cf es σ h).bd fun ds σ h => ofC (Γ 18 (.ref j :: ds) h) σ := metR2_s rfl rfl
theorem mt_lay : metR2 Γ cf "lay" es j (some (edO ss f ah un)) σ h = (evA Γ cf es σ h).bd fun ds σ h => ofC (Γ 11 (.ref j :: ds) h) σ := metR2_s rfl rfl
theorem mt_cut : metR2 Γ cf "cut" es j (some (edO ss f ah un)) σ h = (evA Γ cf es σ h).bd fun ds σ h => ofC (Γ 8 (.ref j :: ds) h) σ := metR2_s rfl rfl
theorem mt_lift : metR2 Γ cf "lift" es j (some (edO ss f ah un)) σ h = (evA Γ cf es σ h).bd fun ds σ h => ofC (Γ 14 (.ref j :: ds) h) σ := metR2_s rfl rfl
end
theorem ed_shown {n : Nat} {ss : List Int} {f : Film} {ah un : List Film} {j : Nat} {h : List Ob} (hj : h[j]? = some (edO ss f ah un)) : callN T cf (n + 1) 20 [.ref j] h = .ok (.v (filmD f)) h := by
  refine wpC_eq ?_
  rw [call_Editor_shown, b_Editor_shown]
  refine wp_run rfl ?_
  push_cast [hj, fd_film]
theorem take_eq {n : Nat} {ss : List Int} {f : Film} {ah un : List Film} {j N K : Nat} {ls : List (List Pi)} {l row : List Pi} (hf : FilmOk ss f) (e1 : f[N]? = some ls) (e2 : ls[K]? = some l) (hr : row.length ≤ 60) (hn : FilmOk ss (f.set N (ls.set K row))) (ha : ah.length < 100000) {h : List Ob} (hj : h[j]? = some (edO ss f ah un)) :
    callN T cf (n + 6) 23 [.ref j, .int (N : Int), .int (K : Int), layD row] h = .ok (.v .non) (h.set j (edO ss (f.set N (ls.set K row)) (ah ++ [f]) [])) := by
  have hl := (List.getElem?_eq_some_iff.mp hj).1
  have hN := (List.getElem?_eq_some_iff.mp e1).1
  have hK := (List.getElem?_eq_some_iff.mp e2).1
  have hg : ∀ o, (h.set j o)[j]? = some o := fun o => List.getElem?_set_self hl
  have f5 := hf.len
  have l3 := (hf.at e1).three
  refine wpC_eq ?_
  rw [call_Editor_take, b_Editor_take]
  refine wp_run rfl ?_
  have h60 : ¬ (60 : Int) < (row.length : Int) := by omega
  have bl1 : binop .add (lsD (ls.take K)) (lsD [row]) = some (.v (lsD (ls.take K ++ [row]))) := bin_ls (by rw [List.length_take]; show _ + 1 ≤ _; omega)
  have bl2 : binop .add (lsD (ls.take K ++ [row])) (lsD (ls.drop (K + 1))) = some (.v (lsD (ls.set K row))) := by
    rw [bin_ls (by rw [List.length_append, List.length_take, List.length_drop]; show _ + 1 + _ ≤ _; omega), set_mid hK]
  have bf1 : binop .add (filmD (f.take N)) (filmD [ls.set K row]) = some (.v (filmD (f.take N ++ [ls.set K row]))) := bin_film (by rw [List.length_take]; show _ + 1 ≤ _; omega)
  have bf2 : binop .add (filmD (f.take N ++ [ls.set K row])) (filmD (f.drop (N + 1))) = some (.v (filmD (f.set N (ls.set K row)))) := by
    rw [bin_film (by rw [List.length_append, List.length_take, List.length_drop]; show _ + 1 + _ ≤ _; omega), set_mid hN]
  have nr := fun h => need_no_ring_ok (n := n) hn (h := h)
  push_cast [len_lay, h60, hj, fd_film, ix_film e1, sl_lsT, sl_lsD, ls_one, bl1, bl2, sl_filmT, sl_filmD, film_one, bf1, bf2, nr, x_appF, appFR_s, af_ahead ha, hg, sf_undone, sf_film, List.set_set]
theorem need_piece_eq {n : Nat} {ss : List Int} {f : Film} {ah un : List Film} {j : Nat} {p : Pi} (hp : PiOk ss (f.length : Int) p) {h : List Ob} (hj : h[j]? = some (edO ss f ah un)) : callN T cf (n + 6) 17 [.ref j, p.D] h = .ok (.v .non) h := by
  refine wpC_eq ?_
  rw [call_Editor_need_piece, b_Editor_need_piece]
  refine wp_run rfl ?_
  have e := fun h => is_piece_eq (n := n) (ss := ss) (L := (f.length : Int)) (p := p) (h := h)
  push_cast [hj, fd_film, fd_src, e, okB_t hp]
/-- a row told anew between two frames -/
def putL (l : List Pi) (b e : Int) (m : List Pi) : List Pi := strL l 0 0 b ++ m ++ strL l 0 e (tot l)
section
variable {n : Nat} {ss : List Int} {f : Film} {ah un : List Film} {j N K : Nat} {ls : List (List Pi)} {l : List Pi} {at_ b e : Int} {p : Pi} {h : List Ob}
theorem put_ok {m : List Pi} (hf : FilmOk ss f) (e1 : f[N]? = some ls) (e2 : ls[K]? = some l) (hm : m.length ≤ 1000) : callN T cf (n + 4) 134 [layD l, .int b, .int e, layD m] h = .ok (.v (layD (putL l b e m))) h := by
  have ok := (hf.at e1)
  have ml := List.mem_of_getElem? e2
  exact put_eq (by have := ok.pcs l ml; omega) hm fun p hp => (ok.ok l ml p hp).go
theorem ed_put (hf : FilmOk ss f) (e1 : f[N]? = some ls) (e2 : ls[K]? = some l) (hp : PiOk ss (f.length : Int) p) (h0 : 0 ≤ at_) (h1 : at_ ≤ tot l) (hr : (putL l at_ at_ [p]).length ≤ 60) (hn : FilmOk ss (f.set N (ls.set K (putL l at_ at_ [p])))) (ha : ah.length < 100000) (hj : h[j]? = some (edO ss f ah un)) :
    callN T cf (n + 7) 18 [.ref j, .int (N : Int), .int (K : Int), .int at_, p.D] h = .ok (.v .non) (h.set j (edO ss (f.set N (ls.set K (putL l at_ at_ [p]))) (ah ++ [f]) [])) := by
  have hl := (hf.at e1).pcs l (List.mem_of_getElem? e2)
  refine wpC_eq ?_
  rw [call_Editor_put, b_Editor_put]
  refine wp_run rfl ?_
  have a1 := layer_of_eq (n := n + 3) e1 e2 hj
  have a2 := fun d h => need_frames_eq (n := n + 2) (d := d) (l := l) (by omega) h0 (Int.le_refl _) h1 (h := h)
  have a3 := need_piece_eq (n := n) hp hj
  have a4 := fun h => put_ok (n := n + 2) (m := [p]) (b := at_) (e := at_) hf e1 e2 (by show 1 ≤ 1000; decide) (h := h)
  have a5 := take_eq (n := n) hf e1 e2 hr hn ha hj
  push_cast [hj, mt_layer_of, mt_need_frames, mt_need_piece, mt_take, a1, a2, a3, lay_one, a4, a5]
theorem ed_cut (hf : FilmOk ss f) (e1 : f[N]? = some ls) (e2 : ls[K]? = some l) (h0 : 0 ≤ b) (h1 : b ≤ e) (h2 : e ≤ tot l) (hr : (putL l b e []).length ≤ 60) (hn : FilmOk ss (f.set N (ls.set K (putL l b e [])))) (ha : ah.length < 100000) (hj : h[j]? = some (edO ss f ah un)) :
    callN T cf (n + 7) 8 [.ref j, .int (N : Int), .int (K : Int), .int b, .int e] h = .ok (.v .non) (h.set j (edO ss (f.set N (ls.set K (putL l b e []))) (ah ++ [f]) [])) := by
  have hl := (hf.at e1).pcs l (List.mem_of_getElem? e2)
  refine wpC_eq ?_
  rw [call_Editor_cut, b_Editor_cut]
  refine wp_run rfl ?_
  have a1 := layer_of_eq (n := n + 3) e1 e2 hj
  have a2 := fun d h => need_frames_eq (n := n + 2) (d := d) (l := l) (by omega) h0 h1 h2 (h := h)
  have a4 := fun h => put_ok (n := n + 2) (m := []) (b := b) (e := e) hf e1 e2 (by show 0 ≤ 1000; decide) (h := h)
  have a5 := take_eq (n := n) hf e1 e2 hr hn ha hj
  push_cast [hj, mt_layer_of, mt_need_frames, mt_take, a1, a2, lay_nil, a4, a5]
/-- gaps, so many frames -/
def gapsL (m : Nat) : List Pi := List.replicate (m / 500) (.pl (.gap 500)) ++ (if m % 500 = 0 then [] else [.pl (.gap ((m % 500 : Nat) : Int))])
theorem gaps_len {m : Nat} : (gapsL m).length ≤ m / 500 + 1 := by
  unfold gapsL
  rw [List.length_append, List.length_replicate]
  split
  · exact Nat.le_succ _
  · exact Nat.le_refl _
end
end Lw

set_option Elab.async false
set_option linter.all false
set_option maxRecDepth 100000
set_option maxHeartbeats 400000
namespace Lw
open PySem PySem.Spec Pm
local macro_rules | `(tactic| push_cast [$xs,*]) => `(tactic| simp only [wx_cons, wx_nil, wx_if, wx_for1, wx_forT, ↓gw_nx, ↓gw_rt, ↓gw_bk, ↓gw_ct, ↓ew_nx, ↓ew_rt, ↓tw_nx, ↓tw_ct, ↓tw_bk, ↓tw_rt, ↓ww_t, ↓ww_f, ↓to_bd, ↓to_ifT, bd_ok, bd_exc, bd_bd, ifT_t, ifT_f, wp_ok, wp_exc, wpC_ok, wpC_exc, ofC_exc, asB_bd, asB_ofC, asB_if, asI_bd, asI_ofC, tupR_bd, lstR_bd, if_bind, chn_le, chn_lt, v_com, v_comf, v_prom, promR_o, x_app, x_ext, cmp_nmem_l, cmp_mem_l, cmp_mem_t, inL_int, v_met, metR_s, v_fld, fldR_s, v_fln, flnR_s, v_new, x_stf, stfR_s, o_met, o_fld, o_new, o_not, o_and, o_or, wp_ofC,
  x_set, x_setT, x_par2, x_ex, x_ret, x_retN, x_pass, x_brk, x_cnt, setTR_o, setO_s, bindS_nil, bindS_cons, v_con, v_glo, v_var, v_tup, v_lst, v_bin, v_cmp, v_cmp2, v_neg, v_and, v_or, v_not, v_ite, v_idx, v_sli, v_rev, v_f1, v_f2, v_isi, v_cal, a_nil', a_cons', o_no', o_so', it_seq, it_enu, it_rng1, it_rng2, seqR_l, seqR_t, seqR_s, seqR_o, enuR_l, enuR_t, enuR_o,
  o_bor, o_con, o_glo, o_tup, o_lst, o_bin, o_neg, o_idx, o_sli, o_rev, o_f1, o_f2, o_isi, o_cal, o_com, o_comf, o_ite, varR_v, varR_o, borR_v, borR_o, binR_s, cmpR_s, idxR_s, f1R_s, sliR_s, revR_s, isiR_s, negR_s, asB_ok, asI_ok, retR_some, retB_some, ofC_ok, Rd_v, Rd_o, Rs_v, Rs_o, cont_s, cont_v, cont_o, contS_v, contS_o,
  deref_int, deref_str, deref_bl, deref_non, deref_tup, deref_lst, deref_ref, derefR_lst, bin_add, bin_sub, cmp_eq, cmp_ne, cmp_lt, cmp_le, cmp_gt, cmp_ge, cmp_isn, cmp_isnn, eqI, eqF_str, eqF_nn, eqF_nt, eqF_tn, isNon_non, isNon_int, isNon_tup, isNon_lst, isNon_str, isNon_bl, ix_lst, ix_tup, ixD_0, ixD_1, ixD_2, ixD_3, ixD_4, ixD_5, ixD_6, ixD_m1, ixD_m2, ixD_m3, ixD_m4, ixD_m5, ixD_m6, ixD_m7, len1, len2, len3, len4, len5, len6, len7, Int.reduceEq, Bool.true_and, Bool.false_and, Bool.and_true, Bool.and_false, sl_lst, sl_tup, rev_lst, f_len_l, f_len_t, f_sum, f_all, f_list_l, f_list_t, f_tup_l, f_tup_t, f_max2, f_min2, ints_map, bools_map,
  ty_ii, ty_ib, ty_in, ty_is, ty_it, ty_il, ty_bi, ty_bb, ty_bn, ty_bs, ty_bt, ty_bl, ty_ti, ty_tb, ty_tn, ty_ts, ty_tt, ty_tl, ty_si, ty_sb, ty_sn, ty_ss, ty_st, ty_sl, ty_li, ty_lb, ty_ln, ty_ls, ty_lt, ty_ll, kn_i, kn_b, kn_n, kn_s, kn_t, kn_l, tupR_0, tupR_1, tupR_2, tupR_3, tupR_4, tupR_5, tupR_6, tupR_7, tupR_8, lstR_0, lstR_1, lstR_2, lstR_3, lstR_4, lstR_5, lstR_6, lstR_7, lstR_8,
  List.getElem?_cons_succ, List.getElem?_cons_zero, List.set_cons_succ, List.set_cons_zero, List.map_cons, List.map_nil, List.cons_append, List.nil_append, List.replicate_succ, List.replicate_zero, Nat.reduceSub, Option.map_some, Bool.not_true, Bool.not_false, decide_true, decide_false, not_true_eq_false, not_false_eq_true, and_true, true_and, Int.reduceLT, Int.reduceLE, Int.reduceNeg,
  kw_clip_clip, kw_clip_gap, kw_clip_list, kw_clip_lead, kw_gap_clip, kw_gap_gap, kw_gap_list, kw_gap_lead, kw_list_clip, kw_list_gap, kw_list_list, kw_list_lead, kw_lead_clip, kw_lead_gap, kw_lead_list, kw_lead_lead, deref_lay, len_lay, seq_lay, enu_lay, deref_film, len_film, seq_film, enu_film, deref_ls, len_ls, seq_ls, enu_ls, ty_lay, ty_ls, ty_film, kn_lay, kn_ls, kn_film, $xs,*])
/-! data that is equal to itself -/
def EqS : Nat → Pm.D → Prop
  | _, .non => True
  | _, .bl _ => True
  | _, .int _ => True
  | _, .str _ => True
  | n + 1, .tup xs => ∀ x ∈ xs, EqS n x
  | n + 1, .lst xs => ∀ x ∈ xs, EqS n x
  | _, _ => False
theorem eqL_self {f : Pm.D → Pm.D → Option Bool} : ∀ {xs : List Pm.D}, (∀ x ∈ xs, f x x = some true) → eqL f xs xs = some true
  | [], _ => rfl
  | x :: xs, h => by
    rw [eqL_cc (h x List.mem_cons_self) (eqL_self fun y hy => h y (List.mem_cons_of_mem _ hy))]
    rfl
theorem eqF_self : ∀ {n : Nat} {d : Pm.D}, EqS n d → eqF n d d = some true := by
  intro n
  induction n with
  | zero =>
    intro d h
    cases d <;> first | exact h.elim | simp
  | succ n ih =>
    intro d h
    cases d with
    | tup xs => rw [eqF_succ_tup]; exact eqL_self fun x hx => ih (h x hx)
    | lst xs => rw [eqF_succ_lst]; exact eqL_self fun x hx => ih (h x hx)
    | non => simp
    | bl b => simp
    | int i => simp
    | str s => simp
    | _ => exact h.elim
theorem eqS_int {n : Nat} {i : Int} : EqS n (.int i) := by cases n <;> trivial
theorem eqS_str {n : Nat} {s : Str} : EqS n (.str s) := by cases n <;> trivial
theorem eqS_pl {n : Nat} {p : Pl} : EqS (n + 1) p.D := by
  cases p <;> (intro x hx; simp only [List.mem_cons, List.not_mem_nil, or_false] at hx)
  · rcases hx with rfl | rfl | rfl | rfl | rfl | rfl | rfl <;> first | exact eqS_int | exact eqS_str
  · rcases hx with rfl | rfl <;> first | exact eqS_int | exact eqS_str
  · rcases hx with rfl | rfl | rfl | rfl <;> first | exact eqS_int | exact eqS_str
theorem eqS_pi {n : Nat} {p : Pi} : EqS (n + 2) p.D := by
  cases p with
  | pl p => exact eqS_pl
  | lead a c st of =>
    intro x hx
    simp only [List.mem_cons, List.not_mem_nil, or_false] at hx
    rcases hx with rfl | rfl | rfl | rfl | rfl
    · exact eqS_str
    · exact eqS_pl
    · exact eqS_pl
    · exact eqS_int
    · exact eqS_int
theorem eqS_lay {n : Nat} {l : List Pi} : EqS (n + 3) (layD l) := fun x hx => by
  obtain ⟨p, _, rfl⟩ := List.mem_map.mp hx
  exact eqS_pi
theorem eqF_lay {l : List Pi} : eqF F60 (layD l) (layD l) = some true := eqF_self (n := 60) (eqS_lay (n := 57))
theorem eqF_ints {ns : List Int} : eqF F60 (.lst (ns.map D.int)) (.lst (ns.map D.int)) = some true := eqF_self (n := 60) fun x hx => by
  obtain ⟨i, _, rfl⟩ := List.mem_map.mp hx
  exact eqS_int
theorem eqF_pair {a b c d : Int} : eqF F60 (.tup [.int a, .int b]) (.tup [.int c, .int d]) = some (decide (a = c) && decide (b = d)) := by
  rw [eqF_tup60]
  have e : ∀ i j : Int, eqF 59 (.int i) (.int j) = some (decide (i = j)) := fun _ _ => eqI
  have e2 : eqL (eqF 59) [D.int b] [D.int d] = some (decide (b = d) && true) := eqL_cc (e b d) rfl
  rw [eqL_cc (e a c) e2, Bool.and_true]
/-! the lists shown, by the law's own look -/
def Pl.isL : Pl → Bool
  | .lst _ _ _ => true
  | _ => false
def Pl.lstD : Pl → Pm.D
  | .lst n _ _ => .int n
  | _ => .non
theorem pls_D : ∀ {ps : List Pl}, (ps.filter Pl.isL).map Pl.lstD = (ps.flatMap plLists).map D.int
  | [] => rfl
  | p :: ps => by
    rw [List.flatMap_cons, List.map_append, ← pls_D (ps := ps)]
    cases p <;> rfl
theorem law_shows_eq {n : Nat} {f : Film} {k : Nat} {ls : List (List Pi)} (e : f[k]? = some ls) (hl : ls.length ≤ 3) (hp : ∀ l ∈ ls, l.length ≤ 60) {h : List Ob} :
    callN T cf (n + 1) 82 [filmD f, .int (k : Int)] h = .ok (.v (.lst ((shownL ls).map D.int))) h := by
  refine wpC_eq ?_
  rw [call__law_shows, b__law_shows]
  refine wp_run rfl ?_
  push_cast [ix_film e]
  have hlen := shownL_len hp
  have hbig : (shownL ls).length ≤ 360 := by
    have : 2 * 60 * ls.length ≤ 2 * 60 * 3 := Nat.mul_le_mul_left _ hl
    omega
  refine wp_for (xs := ls) (g := layD) (fun a c σ h' => (∃ s3 s4 s5, σ = [.v (filmD f), .v (.int (k : Int)), .o ((shownL a).map D.int), s3, s4, s5, .un]) ∧ h' = h) rfl ⟨⟨_, _, _, rfl⟩, rfl⟩ ?_ ?_
  · rintro a l c σ h' el ⟨⟨s3, s4, s5, rfl⟩, rfl⟩
    refine ⟨_, rfl, ?_⟩
    push_cast []
    refine wp_for (xs := l) (g := Pi.D) (fun a2 c2 σ h2 => (∃ s4 s5, σ = [.v (filmD f), .v (.int (k : Int)), .o ((shownL a ++ a2.flatMap piLists).map D.int), .v (layD l), s4, s5, .un]) ∧ h2 = h') rfl ⟨⟨_, _, by rw [List.flatMap_nil, List.append_nil]⟩, rfl⟩ ?_ ?_
    · rintro a2 p c2 σ h2 el2 ⟨⟨s4, s5, rfl⟩, rfl⟩
      refine ⟨_, rfl, ?_⟩
      have hz : ((shownL a ++ a2.flatMap piLists).map D.int).length + ((piLists p).map D.int).length ≤ 100000 := by
        have h1 : (shownL a ++ a2.flatMap piLists).length ≤ (shownL ls).length := by
          rw [← el, ← el2]
          unfold shownL
          simp only [List.flatMap_append, List.flatMap_cons, List.length_append]
          omega
        have := piLists_len (p := p)
        rw [List.length_map, List.length_map]
        omega
      have fin : ∀ (X : Pm.D), ∃ s4 s5, [Slot.v (filmD f), .v (.int (k : Int)), .o ((shownL a ++ a2.flatMap piLists).map D.int ++ (piLists p).map D.int), .v (layD l), .v p.D, .v X, .un] = [Slot.v (filmD f), .v (.int (k : Int)), .o ((shownL a ++ (a2 ++ [p]).flatMap piLists).map D.int), .v (layD l), s4, s5, .un] := fun X => ⟨_, _, by rw [List.flatMap_append, List.flatMap_cons, List.flatMap_nil, List.append_nil, ← List.append_assoc, List.map_append (l₂ := piLists p)]⟩
      cases p with
      | pl p =>
        have e1 : (Pi.pl p).D = p.D := rfl
        have e2 : (piLists (.pl p)) = [p].flatMap plLists := by rw [List.flatMap_cons, List.flatMap_nil, List.append_nil]; rfl
        rw [e2] at hz fin
        rw [e1] at fin ⊢
        push_cast [Pl.dr, Pl.ix0, Pl.kwl, lsB_l]
        refine wp_comfM (xs := [p]) (g := Pl.D) (f := Pl.lstD) (p := Pl.isL) (s := .un) rfl rfl (szC (by simp)) (fun q hq => ?_) (fun q hq hq2 => ?_) ?_
        · cases q <;> (unfold Pl.D; push_cast []; rfl)
        · cases q <;> first | (exact Bool.noConfusion hq2) | (unfold Pl.D; push_cast []; rfl)
        · push_cast [pls_D, extR_o hz]
          exact fin _
      | lead a c st of =>
        have sl : cutL [D.str "lead", a.D, c.D, .int st, .int of] (some 1) (some 3) = [a.D, c.D] := rfl
        have e2 : (piLists (.lead a c st of)) = [a, c].flatMap plLists := by rw [List.flatMap_cons, List.flatMap_cons, List.flatMap_nil, List.append_nil]; rfl
        rw [e2] at hz fin
        unfold Pi.D at fin ⊢
        push_cast [sl, lsB_l]
        refine wp_comfM (xs := [a, c]) (g := Pl.D) (f := Pl.lstD) (p := Pl.isL) (s := .un) rfl rfl (szC (by simp)) (fun q hq => ?_) (fun q hq hq2 => ?_) ?_
        · cases q <;> (unfold Pl.D; push_cast []; rfl)
        · cases q <;> first | (exact Bool.noConfusion hq2) | (unfold Pl.D; push_cast []; rfl)
        · push_cast [pls_D, extR_o hz]
          exact fin _
    · rintro σ h2 ⟨⟨s4, s5, rfl⟩, rfl⟩
      push_cast []
      have es : shownL (a ++ [l]) = shownL a ++ l.flatMap piLists := by
        unfold shownL
        rw [List.flatMap_append, List.flatMap_cons, List.flatMap_nil, List.append_nil]
      rw [es]
      exact ⟨_, _, _, rfl⟩
  · rintro σ h' ⟨⟨s3, s4, s5, rfl⟩, rfl⟩
    push_cast []
end Lw

set_option Elab.async false
set_option linter.all false
set_option maxRecDepth 100000
set_option maxHeartbeats 400000
namespace Lw
open PySem PySem.Spec Pm
local macro_rules | `(tactic| push_cast [$xs,*]) => `(tactic| simp only [wx_cons, wx_nil, wx_if, wx_for1, wx_forT, ↓gw_nx, ↓gw_rt, ↓gw_bk, ↓gw_ct, ↓ew_nx, ↓ew_rt, ↓tw_nx, ↓tw_ct, ↓tw_bk, ↓tw_rt, ↓ww_t, ↓ww_f, ↓to_bd, ↓to_ifT, bd_ok, bd_exc, bd_bd, ifT_t, ifT_f, wp_ok, wp_exc, wpC_ok, wpC_exc, ofC_exc, asB_bd, asB_ofC, asB_if, asI_bd, asI_ofC, tupR_bd, lstR_bd, if_bind, chn_le, chn_lt, v_com, v_comf, v_prom, promR_o, x_app, x_ext, cmp_nmem_l, cmp_mem_l, cmp_mem_t, inL_int, v_met, metR_s, v_fld, fldR_s, v_fln, flnR_s, v_new, x_stf, stfR_s, o_met, o_fld, o_new, o_not, o_and, o_or, wp_ofC,
  x_set, x_setT, x_par2, x_ex, x_ret, x_retN, x_pass, x_brk, x_cnt, setTR_o, setO_s, bindS_nil, bindS_cons, v_con, v_glo, v_var, v_tup, v_lst, v_bin, v_cmp, v_cmp2, v_neg, v_and, v_or, v_not, v_ite, v_idx, v_sli, v_rev, v_f1, v_f2, v_isi, v_cal, a_nil', a_cons', o_no', o_so', it_seq, it_enu, it_rng1, it_rng2, seqR_l, seqR_t, seqR_s, seqR_o, enuR_l, enuR_t, enuR_o,
  o_bor, o_con, o_glo, o_tup, o_lst, o_bin, o_neg, o_idx, o_sli, o_rev, o_f1, o_f2, o_isi, o_cal, o_com, o_comf, o_ite, varR_v, varR_o, borR_v, borR_o, binR_s, cmpR_s, idxR_s, f1R_s, sliR_s, revR_s, isiR_s, negR_s, asB_ok, asI_ok, retR_some, retB_some, ofC_ok, Rd_v, Rd_o, Rs_v, Rs_o, cont_s, cont_v, cont_o, contS_v, contS_o,
  deref_int, deref_str, deref_bl, deref_non, deref_tup, deref_lst, deref_ref, derefR_lst, bin_add, bin_sub, cmp_eq, cmp_ne, cmp_lt, cmp_le, cmp_gt, cmp_ge, cmp_isn, cmp_isnn, eqI, eqF_str, eqF_nn, eqF_nt, eqF_tn, isNon_non, isNon_int, isNon_tup, isNon_lst, isNon_str, isNon_bl, ix_lst, ix_tup, ixD_0, ixD_1, ixD_2, ixD_3, ixD_4, ixD_5, ixD_6, ixD_m1, ixD_m2, ixD_m3, ixD_m4, ixD_m5, ixD_m6, ixD_m7, len1, len2, len3, len4, len5, len6, len7, Int.reduceEq, Bool.true_and, Bool.false_and, Bool.and_true, Bool.and_false, sl_lst, sl_tup, rev_lst, f_len_l, f_len_t, f_sum, f_all, f_list_l, f_list_t, f_tup_l, f_tup_t, f_max2, f_min2, ints_map, bools_map,
  ty_ii, ty_ib, ty_in, ty_is, ty_it, ty_il, ty_bi, ty_bb, ty_bn, ty_bs, ty_bt, ty_bl, ty_ti, ty_tb, ty_tn, ty_ts, ty_tt, ty_tl, ty_si, ty_sb, ty_sn, ty_ss, ty_st, ty_sl, ty_li, ty_lb, ty_ln, ty_ls, ty_lt, ty_ll, kn_i, kn_b, kn_n, kn_s, kn_t, kn_l, tupR_0, tupR_1, tupR_2, tupR_3, tupR_4, tupR_5, tupR_6, tupR_7, tupR_8, lstR_0, lstR_1, lstR_2, lstR_3, lstR_4, lstR_5, lstR_6, lstR_7, lstR_8,
  List.getElem?_cons_succ, List.getElem?_cons_zero, List.set_cons_succ, List.set_cons_zero, List.map_cons, List.map_nil, List.cons_append, List.nil_append, List.replicate_succ, List.replicate_zero, Nat.reduceSub, Option.map_some, Bool.not_true, Bool.not_false, decide_true, decide_false, not_true_eq_false, not_false_eq_true, and_true, true_and, Int.reduceLT, Int.reduceLE, Int.reduceNeg,
  kw_clip_clip, kw_clip_gap, kw_clip_list, kw_clip_lead, kw_gap_clip, kw_gap_gap, kw_gap_list, kw_gap_lead, kw_list_clip, kw_list_gap, kw_list_list, kw_list_lead, kw_lead_clip, kw_lead_gap, kw_lead_list, kw_lead_lead, deref_lay, len_lay, seq_lay, enu_lay, deref_film, len_film, seq_film, enu_film, deref_ls, len_ls, seq_ls, enu_ls, ty_lay, ty_ls, ty_film, kn_lay, kn_ls, kn_film, $xs,*])
/-- the lists that one shows -/
def shownOf (f : Film) (x : Int) : List Int := shownL (f.getD x.toNat [])
def allIn (f : Film) (c : List Int) (x : Int) : Bool := decide ((shownOf f x).filter (fun m => !decide (m ∈ c)) = [])
def stepFr (f : Film) (c : List Int) : List Int := c.filter (allIn f c)
def Closed (f : Film) (c : List Int) : Prop := ∀ x ∈ c, ∀ m ∈ shownOf f x, m ∈ c
theorem allIn_iff {f : Film} {c : List Int} {x : Int} : allIn f c x = true ↔ ∀ m ∈ shownOf f x, m ∈ c := by
  unfold allIn
  rw [decide_eq_true_iff, List.filter_eq_nil_iff]
  constructor
  · intro h m hm
    have := h m hm
    simpa using this
  · intro h m hm
    simpa using h m hm
theorem step_closed {f : Film} {c : List Int} (h : Closed f c) : stepFr f c = c := List.filter_eq_self.mpr fun x hx => allIn_iff.mpr (h x hx)
theorem step_less {f : Film} {c : List Int} (h : ¬ Closed f c) : (stepFr f c).length < c.length := by
  refine Nat.lt_of_le_of_ne (List.length_filter_le _ _) fun q => h fun x hx => ?_
  have := List.filter_eq_self.mp (List.filter_sublist.eq_of_length q)
  exact allIn_iff.mp (this x hx)
/-- what may be shown -/
structure Free (f : Film) (N : Nat) (c : List Int) : Prop where
  le : c.length ≤ 5
  rg : ∀ x ∈ c, (0 ≤ x ∧ x < (f.length : Int)) ∧ x ≠ (N : Int)
  cl : Closed f c
theorem law_free_w {n : Nat} {ss : List Int} {f : Film} (hf : FilmOk ss f) {N : Nat} (hN : N < f.length) {h : List Ob} :
    WpC (callN T cf (n + 2) 49 [filmD f, .int (N : Int)] h) (fun r h' => ∃ c : List Int, r = .v (.lst (c.map D.int)) ∧ Free f N c ∧ h' = h) C0 := by
  rw [call__law_free, b__law_free]
  refine wp_run rfl ?_
  have f5 := hf.len
  have sf := small_of (i := (f.length : Int)) (by omega) (by omega)
  push_cast [rngR_s sf, rangeL_map]
  refine wp_comfM (xs := List.range f.length) (g := fun j : Nat => D.int j) (f := fun j : Nat => D.int j) (p := fun j : Nat => !decide ((j : Int) = (N : Int))) (s := .un) rfl rfl (szC (by rw [List.length_range]; omega)) (fun j hj => ?_) (fun j hj hp => ?_) ?_
  · push_cast []
  · push_cast []
  · obtain ⟨c0, ec⟩ : ∃ c0 : List Int, c0 = ((List.range f.length).filter fun j : Nat => !decide ((j : Int) = (N : Int))).map fun j : Nat => (j : Int) := ⟨_, rfl⟩
    have ec2 : ((List.range f.length).filter fun j : Nat => !decide ((j : Int) = (N : Int))).map (fun j : Nat => D.int (j : Int)) = c0.map D.int := by rw [ec, List.map_map]; rfl
    have c0r : ∀ x ∈ c0, (0 ≤ x ∧ x < (f.length : Int)) ∧ x ≠ (N : Int) := by
      intro x hx
      rw [ec] at hx
      obtain ⟨j, hj, rfl⟩ := List.mem_map.mp hx
      obtain ⟨h1, h2⟩ := List.mem_filter.mp hj
      rw [List.mem_range] at h1
      have h3 : ¬ (j : Int) = (N : Int) := by simpa using h2
      exact ⟨⟨by omega, by omega⟩, h3⟩
    have c0l : c0.length + 1 ≤ f.length := by
      rw [ec, List.length_map]
      have h1 : ((List.range f.length).filter fun j : Nat => !decide ((j : Int) = (N : Int))).length < (List.range f.length).length := by
        refine Nat.lt_of_le_of_ne (List.length_filter_le _ _) fun q => ?_
        have := List.filter_eq_self.mp (List.filter_sublist.eq_of_length q) N (List.mem_range.mpr hN)
        simp at this
      rw [List.length_range] at h1
      omega
    push_cast [ec2, rngR_s sf, rangeL_map]
    refine wp_for (xs := List.range f.length) (g := fun j : Nat => D.int j) (fun p q σ h' => h' = h ∧ ∃ (c : List Int) (s2 s3 : Slot), σ = [.v (filmD f), .v (.int (N : Int)), s2, s3, .un, .un] ∧ HoldL (c.map D.int) s2 ∧ (∀ x ∈ c, (0 ≤ x ∧ x < (f.length : Int)) ∧ x ≠ (N : Int)) ∧ (Closed f c ∨ c.length + p.length + 1 ≤ f.length) ∧ c.length ≤ 5) rfl ⟨rfl, c0, _, _, rfl, .inl rfl, c0r, .inr (by simpa using c0l), by omega⟩ ?_ ?_
    · rintro p j q σ h' ej ⟨rfl, c, s2, s3, rfl, H, hr, hc, h5⟩
      refine ⟨_, rfl, ?_⟩
      push_cast [varR_hold H]
      refine wp_comfM (xs := c) (g := D.int) (f := D.int) (p := allIn f c) (s := .un) rfl rfl (szC (by omega)) (fun x hx => ?_) (fun x hx hp => ?_) ?_
      · obtain ⟨⟨x0, x1⟩, _⟩ := hr x hx
        have hxl : x.toNat < f.length := by omega
        have ex : f[x.toNat]? = some f[x.toNat] := List.getElem?_eq_getElem hxl
        have em : ((x.toNat : Nat) : Int) = x := by omega
        have hls := hf.at ex
        have sh1 := fun h => law_shows_eq (n := n) ex hls.three hls.pcs (h := h)
        rw [em] at sh1
        have hlen := shownL_len hls.pcs
        have hbig : (shownL f[x.toNat]).length ≤ 360 := by
          have : 2 * 60 * f[x.toNat].length ≤ 2 * 60 * 3 := Nat.mul_le_mul_left _ hls.three
          omega
        push_cast [sh1]
        refine wp_comfM (xs := shownL f[x.toNat]) (g := D.int) (f := D.int) (p := fun m => !decide (m ∈ c)) (s := .un) rfl rfl (szC (by omega)) (fun m hm => ?_) (fun m hm hp => ?_) ?_
        · push_cast [inL_int]
        · push_cast []
        · push_cast [eq_nil_ns]
          unfold allIn shownOf
          rw [getD_of ex]
      · push_cast []
      · push_cast []
        refine ⟨stepFr f c, _, _, rfl, .inl rfl, fun x hx => hr x ((List.mem_filter.mp hx).1), ?_, Nat.le_trans (List.length_filter_le _ _) h5⟩
        by_cases hcl : Closed f c
        · left
          rw [step_closed hcl]
          exact hcl
        · right
          have := step_less hcl
          rcases hc with hc | hc
          · exact absurd hc hcl
          · rw [List.length_append, List.length_singleton]
            omega
    · rintro σ h' ⟨rfl, c, s2, s3, rfl, H, hr, hc, h5⟩
      rw [List.length_range] at hc
      push_cast [varR_hold H]
      refine ⟨c, rfl, h5, hr, ?_⟩
      rcases hc with hc | hc
      · exact hc
      · omega
theorem law_cases_w {m : Nat} (hn : 9 ≤ m) {rest h : List Ob} (hd : DH rest h) :
    WpC (callN T cf m 37 [.ref 0] h) (fun r h' => ∃ (ss : List Int) (f : Film) (N K : Nat) (ls : List (List Pi)) (l : List Pi), r = .v (.tup [.tup (ss.map D.int), filmD f, .ref (rest.length + 1), .int (N : Int), .int (K : Int)]) ∧ Src ss ∧ FilmOk ss f ∧ f[N]? = some ls ∧ ls[K]? = some l ∧ DH (rest ++ [edO ss f [] []]) h') C0 := by
  obtain ⟨n, rfl⟩ := Nat.exists_eq_add_of_le' hn
  rw [call__law_cases, b__law_cases]
  refine wp_run rfl ?_
  push_cast []
  refine wp_call0 (sources_w (by omega) hd) ?_
  rintro _ h2 ⟨ss, rfl, hs, hd⟩
  push_cast []
  refine wp_call0 (film_w (by omega) hs hd) ?_
  rintro _ h3 ⟨f, rfl, hf, hd⟩
  have f0 : 0 < f.length := List.length_pos_iff.mpr hf.ne
  have f5 := hf.len
  push_cast []
  refine wp_call0 (off_w (by omega) hd (by omega) (by omega)) ?_
  rintro _ h4 ⟨N, rfl, N0, N1, hd⟩
  obtain ⟨N, rfl⟩ : ∃ m : Nat, N = (m : Int) := ⟨N.toNat, by omega⟩
  have hN : N < f.length := by omega
  have eN : f[N]? = some f[N] := List.getElem?_eq_getElem hN
  have hls := hf.at eN
  have hj : h4.length = rest.length + 1 := hd.len
  have ini : callN T cf (n + 8) 6 [.ref (rest.length + 1), .tup (ss.map D.int), filmD f] (h4 ++ [.ins 0 []]) = .ok (.v .non) (h4 ++ [edO ss f [] []]) := by
    have := init_eq (n := n) hs hf (j := h4.length) (h := h4 ++ [.ins 0 []]) (by rw [List.getElem?_append_right (Nat.le_refl _), Nat.sub_self]; rfl)
    rw [hj] at this
    rw [this, List.set_append_right _ _ (by omega), hj, Nat.sub_self]
    rfl
  have hd : DH (rest ++ [edO ss f [] []]) (h4 ++ [edO ss f [] []]) := hd.app
  have l1 := hls.one
  have l3 := hls.three
  push_cast [v_new, hj, ini, newR_ok, ix_film eN]
  refine wp_call0 (off_w (by omega) hd (by omega) (by omega)) ?_
  rintro _ h5 ⟨K, rfl, K0, K1, hd⟩
  obtain ⟨K, rfl⟩ : ∃ m : Nat, K = (m : Int) := ⟨K.toNat, by omega⟩
  have hK : K < f[N].length := by omega
  push_cast []
  exact ⟨ss, f, N, K, f[N], f[N][K], rfl, hs, hf, eN, List.getElem?_eq_getElem hK, hd⟩
theorem cmp_ne_t {a b : Pm.D} : cmpop .ne a b = (eqF F60 a b).map (!·) := rfl
/-- all layers but one are as they were -/
theorem others_stay_eq {n : Nat} {ss : List Int} {f : Film} (hf : FilmOk ss f) {N K : Nat} {ls : List (List Pi)} {row : List Pi} (e1 : f[N]? = some ls) (hK : K < ls.length) {h : List Ob} :
    callN T cf (n + 1) 70 [filmD (f.set N (ls.set K row)), filmD f, .int (N : Int), .int (K : Int)] h = .ok (.v (.bl true)) h := by
  have hN := (List.getElem?_eq_some_iff.mp e1).1
  have f5 := hf.len
  obtain ⟨g, eg⟩ : ∃ g, g = f.set N (ls.set K row) := ⟨_, rfl⟩
  have gl : g.length = f.length := by rw [eg, List.length_set]
  have sf := small_of (i := (f.length : Int)) (by omega) (by omega)
  refine wpC_eq ?_
  rw [call__law_others_stay, b__law_others_stay, ← eg]
  refine wp_run rfl ?_
  push_cast [gl, eqI, rngR_s sf, rangeL_map]
  refine wp_for (xs := List.range f.length) (g := fun j : Nat => D.int j) (fun p q σ h' => h' = h ∧ ∃ (s4 s5 : Slot), σ = [.v (filmD g), .v (filmD f), .v (.int (N : Int)), .v (.int (K : Int)), s4, s5, .un]) rfl ⟨rfl, _, _, rfl⟩ ?_ ?_
  · rintro p i q σ h' ei ⟨rfl, s4, s5, rfl⟩
    obtain ⟨_, hi⟩ := range_split ei
    refine ⟨_, rfl, ?_⟩
    have ef : f[i]? = some f[i] := List.getElem?_eq_getElem hi
    have hls := hf.at ef
    obtain ⟨gs, hg, hgs⟩ : ∃ gs, g[i]? = some gs ∧ gs.length = f[i].length ∧ ∀ j, (¬ (i = N ∧ j = K)) → gs[j]? = f[i][j]? := by
      by_cases hiN : i = N
      · subst hiN
        rw [ef] at e1
        cases e1
        refine ⟨f[i].set K row, by rw [eg, List.getElem?_set_self hN], by rw [List.length_set], fun j hj => ?_⟩
        rw [List.getElem?_set, if_neg fun q => hj ⟨rfl, q.symm⟩]
      · refine ⟨f[i], by rw [eg, List.getElem?_set, if_neg (fun q => hiN q.symm), ef], rfl, fun j _ => rfl⟩
    have l3 := hls.three
    have sl := small_of (i := (f[i].length : Int)) (by omega) (by omega)
    push_cast [ix_film ef, rngR_s sl, rangeL_map]
    refine wp_for (xs := List.range f[i].length) (g := fun j : Nat => D.int j) (fun p q σ h2 => h2 = h' ∧ ∃ (s5 : Slot), σ = [.v (filmD g), .v (filmD f), .v (.int (N : Int)), .v (.int (K : Int)), .v (.int (i : Int)), s5, .un]) rfl ⟨rfl, _, rfl⟩ ?_ ?_
    · rintro p j q σ h2 ej ⟨rfl, s5, rfl⟩
      obtain ⟨_, hj⟩ := range_split ej
      refine ⟨_, rfl, ?_⟩
      have ej : f[i][j]? = some f[i][j] := List.getElem?_eq_getElem hj
      by_cases hij : i = N ∧ j = K
      · have h1 : ((i : Int) = (N : Int)) := by omega
        have h2 : ((j : Int) = (K : Int)) := by omega
        push_cast [eqF_pair, h1, h2]
        exact ⟨_, rfl⟩
      · have h1 : (decide ((i : Int) = (N : Int)) && decide ((j : Int) = (K : Int))) = false := by
          rw [← Bool.decide_and]
          exact decide_eq_false fun q => hij ⟨by omega, by omega⟩
        have eg2 : gs[j]? = some f[i][j] := by rw [hgs.2 j hij]; exact ej
        push_cast [eqF_pair, h1, ix_film ef, ix_film hg, ix_ls ej, ix_ls eg2, eqF_lay]
        exact ⟨_, rfl⟩
    · rintro σ h2 ⟨rfl, s5, rfl⟩
      push_cast []
      exact ⟨_, _, rfl⟩
  · rintro σ h' ⟨rfl, s4, s5, rfl⟩
    have eq : g.map (fun ls => (ls.length : Int)) = f.map fun ls => (ls.length : Int) := by
      rw [eg, List.map_set, List.length_set]
      refine List.ext_getElem? fun i => ?_
      rw [List.getElem?_set]
      split
      · rename_i hi
        subst hi
        rw [List.length_map, if_pos hN, List.getElem?_map, e1]
        rfl
      · rfl
    push_cast []
    refine wp_comM (xs := g) (g := lsD) (f := fun ls => D.int (ls.length : Int)) (s := .un) rfl rfl (szC (by omega)) (fun x hx => ?_) ?_
    · push_cast []
    · push_cast []
      refine wp_comM (xs := f) (g := lsD) (f := fun ls => D.int (ls.length : Int)) (s := .un) rfl rfl (szC (by omega)) (fun x hx => ?_) ?_
      · push_cast []
      · have e3 : ∀ f : Film, (f.map fun ls => D.int (ls.length : Int)) = (f.map fun ls => (ls.length : Int)).map D.int := fun f => by rw [List.map_map]; rfl
        have e4 : eqF F60 (.lst (g.map fun ls => D.int (ls.length : Int))) (.lst (f.map fun ls => D.int (ls.length : Int))) = some true := by
          rw [e3, e3, eq]
          exact eqF_ints
        push_cast [e4]
end Lw

set_option Elab.async false
set_option linter.all false
set_option maxRecDepth 100000
set_option maxHeartbeats 400000
namespace Lw
open PySem PySem.Spec Pm
local macro_rules | `(tactic| push_cast [$xs,*]) => `(tactic| simp only [wx_cons, wx_nil, wx_if, wx_for1, wx_forT, ↓gw_nx, ↓gw_rt, ↓gw_bk, ↓gw_ct, ↓ew_nx, ↓ew_rt, ↓tw_nx, ↓tw_ct, ↓tw_bk, ↓tw_rt, ↓ww_t, ↓ww_f, ↓to_bd, ↓to_ifT, bd_ok, bd_exc, bd_bd, ifT_t, ifT_f, wp_ok, wp_exc, wpC_ok, wpC_exc, ofC_exc, asB_bd, asB_ofC, asB_if, asI_bd, asI_ofC, tupR_bd, lstR_bd, if_bind, chn_le, chn_lt, v_com, v_comf, v_prom, promR_o, x_app, x_ext, cmp_nmem_l, cmp_mem_l, cmp_mem_t, inL_int, v_met, metR_s, v_fld, fldR_s, v_fln, flnR_s, v_new, x_stf, stfR_s, o_met, o_fld, o_new, o_not, o_and, o_or, wp_ofC,
  x_set, x_setT, x_par2, x_ex, x_ret, x_retN, x_pass, x_brk, x_cnt, setTR_o, setO_s, bindS_nil, bindS_cons, v_con, v_glo, v_var, v_tup, v_lst, v_bin, v_cmp, v_cmp2, v_neg, v_and, v_or, v_not, v_ite, v_idx, v_sli, v_rev, v_f1, v_f2, v_isi, v_cal, a_nil', a_cons', o_no', o_so', it_seq, it_enu, it_rng1, it_rng2, seqR_l, seqR_t, seqR_s, seqR_o, enuR_l, enuR_t, enuR_o,
  o_bor, o_con, o_glo, o_tup, o_lst, o_bin, o_neg, o_idx, o_sli, o_rev, o_f1, o_f2, o_isi, o_cal, o_com, o_comf, o_ite, varR_v, varR_o, borR_v, borR_o, binR_s, cmpR_s, idxR_s, f1R_s, sliR_s, revR_s, isiR_s, negR_s, asB_ok, asI_ok, retR_some, retB_some, ofC_ok, Rd_v, Rd_o, Rs_v, Rs_o, cont_s, cont_v, cont_o, contS_v, contS_o,
  deref_int, deref_str, deref_bl, deref_non, deref_tup, deref_lst, deref_ref, derefR_lst, bin_add, bin_sub, cmp_eq, cmp_ne, cmp_lt, cmp_le, cmp_gt, cmp_ge, cmp_isn, cmp_isnn, eqI, eqF_str, eqF_nn, eqF_nt, eqF_tn, isNon_non, isNon_int, isNon_tup, isNon_lst, isNon_str, isNon_bl, ix_lst, ix_tup, ixD_0, ixD_1, ixD_2, ixD_3, ixD_4, ixD_5, ixD_6, ixD_m1, ixD_m2, ixD_m3, ixD_m4, ixD_m5, ixD_m6, ixD_m7, len1, len2, len3, len4, len5, len6, len7, Int.reduceEq, Bool.true_and, Bool.false_and, Bool.and_true, Bool.and_false, sl_lst, sl_tup, rev_lst, f_len_l, f_len_t, f_sum, f_all, f_list_l, f_list_t, f_tup_l, f_tup_t, f_max2, f_min2, ints_map, bools_map,
  ty_ii, ty_ib, ty_in, ty_is, ty_it, ty_il, ty_bi, ty_bb, ty_bn, ty_bs, ty_bt, ty_bl, ty_ti, ty_tb, ty_tn, ty_ts, ty_tt, ty_tl, ty_si, ty_sb, ty_sn, ty_ss, ty_st, ty_sl, ty_li, ty_lb, ty_ln, ty_ls, ty_lt, ty_ll, kn_i, kn_b, kn_n, kn_s, kn_t, kn_l, tupR_0, tupR_1, tupR_2, tupR_3, tupR_4, tupR_5, tupR_6, tupR_7, tupR_8, lstR_0, lstR_1, lstR_2, lstR_3, lstR_4, lstR_5, lstR_6, lstR_7, lstR_8,
  List.getElem?_cons_succ, List.getElem?_cons_zero, List.set_cons_succ, List.set_cons_zero, List.map_cons, List.map_nil, List.cons_append, List.nil_append, List.replicate_succ, List.replicate_zero, Nat.reduceSub, Option.map_some, Bool.not_true, Bool.not_false, decide_true, decide_false, not_true_eq_false, not_false_eq_true, and_true, true_and, Int.reduceLT, Int.reduceLE, Int.reduceNeg,
  kw_clip_clip, kw_clip_gap, kw_clip_list, kw_clip_lead, kw_gap_clip, kw_gap_gap, kw_gap_list, kw_gap_lead, kw_list_clip, kw_list_gap, kw_list_list, kw_list_lead, kw_lead_clip, kw_lead_gap, kw_lead_list, kw_lead_lead, deref_lay, len_lay, seq_lay, enu_lay, deref_film, len_film, seq_film, enu_film, deref_ls, len_ls, seq_ls, enu_ls, ty_lay, ty_ls, ty_film, kn_lay, kn_ls, kn_film, $xs,*])
theorem count_lt {α : Type} {p q : α → Bool} : ∀ {l : List α}, (∀ x ∈ l, p x = true → q x = true) → (∃ x ∈ l, q x = true ∧ p x = false) → (l.filter p).length < (l.filter q).length
  | [], _, ⟨_, hx, _⟩ => nomatch hx
  | a :: l, h, ⟨x, hx, h1, h2⟩ => by
    have hl : ∀ y ∈ l, p y = true → q y = true := fun y hy => h y (List.mem_cons_of_mem _ hy)
    have le : (l.filter p).length ≤ (l.filter q).length := by
      clear hx h
      induction l with
      | nil => exact Nat.le_refl _
      | cons b l ih =>
        have := ih fun y hy => hl y (List.mem_cons_of_mem _ hy)
        have hb := hl b List.mem_cons_self
        rw [List.filter_cons, List.filter_cons]
        cases e1 : p b <;> cases e2 : q b
        · exact this
        · exact Nat.le_succ_of_le this
        · rw [hb e1] at e2; cases e2
        · exact Nat.succ_le_succ this
    rw [List.filter_cons, List.filter_cons]
    rcases List.mem_cons.mp hx with rfl | hx
    · rw [h1, h2]
      exact Nat.lt_succ_of_le le
    · have lt := count_lt hl ⟨x, hx, h1, h2⟩
      have ha := h a List.mem_cons_self
      cases e1 : p a <;> cases e2 : q a
      · exact lt
      · exact Nat.lt_succ_of_lt lt
      · rw [ha e1] at e2; cases e2
      · exact Nat.succ_lt_succ lt
/-- ranks made small -/
theorem dag_norm {f : Film} (hf : f.length ≤ 5) (r1 : Nat → Nat) (h : ∀ (n : Nat) (ls : List (List Pi)), f[n]? = some ls → ∀ m ∈ shownL ls, 0 ≤ m ∧ m < (f.length : Int) ∧ r1 m.toNat < r1 n) : ∃ rk, Dag f rk ∧ ∀ a b, a < f.length → r1 a < r1 b → rk a < rk b := by
  have key : ∀ a b, a < f.length → r1 a < r1 b → ((List.range f.length).filter fun m => decide (r1 m < r1 a)).length < ((List.range f.length).filter fun m => decide (r1 m < r1 b)).length := fun a b ha hab =>
    count_lt (fun x _ hx => decide_eq_true (Nat.lt_trans (of_decide_eq_true hx) hab)) ⟨a, List.mem_range.mpr ha, decide_eq_true hab, decide_eq_false (Nat.lt_irrefl _)⟩
  refine ⟨fun n => ((List.range f.length).filter fun m => decide (r1 m < r1 n)).length, fun n ls e => ⟨?_, fun m hm => ?_⟩, key⟩
  · have := List.length_filter_le (fun m => decide (r1 m < r1 n)) (List.range f.length)
    rw [List.length_range] at this
    show ((List.range f.length).filter fun m => decide (r1 m < r1 n)).length ≤ 8
    omega
  · obtain ⟨m0, m1, m2⟩ := h n ls e m hm
    exact ⟨m0, m1, key _ _ (by omega) m2⟩
theorem free_rank {f : Film} {rk : Nat → Nat} (hf : f.length ≤ 5) (hd : Dag f rk) {N : Nat} {c : List Int} (hc : Free f N c) : ∃ rk', Dag f rk' ∧ ∀ x ∈ c, rk' x.toNat < rk' N := by
  have hbig : ∀ n, n < f.length → rk n ≤ 8 := fun n hn => (hd n _ (List.getElem?_eq_getElem hn)).1
  have em : ∀ x ∈ c, ((x.toNat : Nat) : Int) = x := fun x hx => by have := (hc.rg x hx).1.1; omega
  obtain ⟨rk', d1, d2⟩ := dag_norm hf (fun n => if (n : Int) ∈ c then rk n else rk n + 9) (fun n ls e m hm => by
    obtain ⟨m0, m1, m2⟩ := (hd n ls e).2 m hm
    refine ⟨m0, m1, ?_⟩
    have em2 : ((m.toNat : Nat) : Int) = m := by omega
    show (if ((m.toNat : Nat) : Int) ∈ c then rk m.toNat else rk m.toNat + 9) < (if (n : Int) ∈ c then rk n else rk n + 9)
    rw [em2]
    by_cases hn : (n : Int) ∈ c
    · have hmc : m ∈ c := hc.cl (n : Int) hn m (by
        unfold shownOf
        rw [Int.toNat_natCast, getD_of e]
        exact hm)
      rw [if_pos hn, if_pos hmc]
      exact m2
    · rw [if_neg hn]
      have := hbig m.toNat (by omega)
      split <;> omega)
  refine ⟨rk', d1, fun x hx => d2 _ _ (by have := (hc.rg x hx).1; omega) ?_⟩
  have hN : ¬ (N : Int) ∈ c := fun q => (hc.rg _ q).2 rfl
  have := hbig x.toNat (by have := (hc.rg x hx).1; omega)
  show (if ((x.toNat : Nat) : Int) ∈ c then rk x.toNat else rk x.toNat + 9) < (if (N : Int) ∈ c then rk N else rk N + 9)
  rw [em x hx, if_pos hx, if_neg hN]
  omega
/-! one layer told anew -/
section
variable {ss : List Int} {f : Film} {rk : Nat → Nat} {N K : Nat} {ls : List (List Pi)} {row : List Pi}
theorem edit_film (hf : FilmOk ss f) (hd : Dag f rk) (e1 : f[N]? = some ls) (r : Row ss f rk N row) : FilmOk ss (f.set N (ls.set K row)) := by
  have hls := hf.at e1
  have hin : ∀ x ∈ ls.set K row, x ∈ ls ∨ x = row := fun x hx => List.mem_or_eq_of_mem_set hx
  refine set_ok hf hd (List.getElem?_eq_some_iff.mp e1).1 ⟨by rw [List.length_set]; exact hls.one, by rw [List.length_set]; exact hls.three, fun x hx => ?_, fun x hx => ?_⟩ fun x hx => ?_
  · rcases hin x hx with hx | rfl
    · exact hls.pcs x hx
    · exact r.le
  · rcases hin x hx with hx | rfl
    · exact hls.ok x hx
    · exact r.ok
  · rcases hin x hx with hx | rfl
    · exact under_of hd e1 hx
    · exact r.un
theorem piece_low (hd : Dag f rk) {X : List (List Pi)} {p : Pi} (h : ∀ m ∈ piLists p, 0 ≤ m ∧ m < (f.length : Int) ∧ rk m.toNat < rk N) {j : Int} : showPi (sh (f.set N X)) p j = showPi (sh f) p j :=
  pi_cong fun m hm j => low_same hd 20 m (h m hm).1 (h m hm).2.1 (h m hm).2.2 j
theorem row_low (hd : Dag f rk) {X : List (List Pi)} (r : Row ss f rk N row) : flat (sh (f.set N X)) row = flat (sh f) row :=
  flat_cong fun m hm j => by
    obtain ⟨p, hp, hm⟩ := List.mem_flatMap.mp hm
    exact low_same hd 20 m (r.un p hp m hm).1 (r.un p hp m hm).2.1 (r.un p hp m hm).2.2 j
theorem Row.put {b e : Int} {m : List Pi} (r : Row ss f rk N row) (hm : ∀ p ∈ m, PiOk ss (f.length : Int) p) (hu : Under f rk N m) (hl : (putL row b e m).length ≤ 60) : Row ss f rk N (putL row b e m) := by
  refine ⟨hl, fun p hp => ?_, fun p hp => ?_⟩ <;>
  · unfold putL at hp
    rcases List.mem_append.mp hp with hp | hp
    · rcases List.mem_append.mp hp with hp | hp
      · first | exact r.str.ok p hp | exact r.str.un p hp
      · first | exact hm p hp | exact hu p hp
    · first | exact r.str.ok p hp | exact r.str.un p hp
end
theorem str_none {b e : Int} : ∀ {l : List Pi} {hr : Int}, AllPos l → e ≤ hr → strL l hr b e = []
  | [], _, _, _ => rfl
  | p :: r, hr, hp, h => by
    have p1 := hp p List.mem_cons_self
    have c : ¬ mx b hr < mn e (hr + p.len) := by
      rw [mx_eq, mn_eq]
      omega
    rw [strL, if_neg c, str_none (fun q hq => hp q (List.mem_cons_of_mem _ hq)) (by omega)]
    rfl
theorem str_swap {b e : Int} (h : e ≤ b) : ∀ {l : List Pi} {hr : Int}, strL l hr b e = []
  | [], _ => rfl
  | p :: r, hr => by
    have c : ¬ mx b hr < mn e (hr + p.len) := by
      rw [mx_eq, mn_eq]
      omega
    rw [strL, if_neg c, str_swap h]
    rfl
theorem str_before {b e : Int} : ∀ {l : List Pi} {hr : Int}, AllPos l → hr + tot l ≤ b → strL l hr b e = []
  | [], _, _, _ => rfl
  | p :: r, hr, hp, h => by
    have hp' : AllPos r := fun q hq => hp q (List.mem_cons_of_mem _ hq)
    have t := tot_nn hp'
    rw [tot_cons] at h
    have c : ¬ mx b hr < mn e (hr + p.len) := by
      rw [mx_eq, mn_eq]
      omega
    rw [strL, if_neg c, str_before hp' (by omega)]
    rfl
theorem str_one {b e : Int} {p : Pi} {r : List Pi} {hr : Int} : (strL (p :: r) hr b e).length ≤ 1 + (strL r (hr + p.len) b e).length := by
  rw [strL, List.length_append]
  split
  · exact Nat.le_refl _
  · show 0 + _ ≤ _
    omega
theorem str_two {lo b e hi : Int} (hbe : b ≤ e) : ∀ {l : List Pi} {hr : Int}, AllPos l → (strL l hr lo b).length + (strL l hr e hi).length ≤ l.length + 1
  | [], _, _ => Nat.zero_le _
  | p :: r, hr, hp => by
    have hp' : AllPos r := fun q hq => hp q (List.mem_cons_of_mem _ hq)
    have a := str_one (b := lo) (e := b) (p := p) (r := r) (hr := hr)
    have c := str_one (b := e) (e := hi) (p := p) (r := r) (hr := hr)
    have d := str_len (l := r) (hr := hr + p.len) (b := e) (e := hi)
    rw [List.length_cons]
    by_cases h : b < hr + p.len
    · rw [str_none hp' (by omega : b ≤ hr + p.len), List.length_nil] at a
      omega
    · have ih := str_two (lo := lo) (hi := hi) hbe (l := r) (hr := hr + p.len) hp'
      have n2 : ¬ mx e hr < mn hi (hr + p.len) := by
        rw [mx_eq, mn_eq]
        omega
      have e2 : strL (p :: r) hr e hi = strL r (hr + p.len) e hi := by
        rw [strL, if_neg n2]
        rfl
      rw [e2]
      omega
theorem str_three {lo b e hi : Int} (hbe : b ≤ e) : ∀ {l : List Pi} {hr : Int}, AllPos l → (strL l hr lo b).length + (strL l hr b e).length + (strL l hr e hi).length ≤ l.length + 2
  | [], _, _ => Nat.zero_le _
  | p :: r, hr, hp => by
    have hp' : AllPos r := fun q hq => hp q (List.mem_cons_of_mem _ hq)
    have a := str_one (b := lo) (e := b) (p := p) (r := r) (hr := hr)
    have c := str_one (b := b) (e := e) (p := p) (r := r) (hr := hr)
    have d := str_one (b := e) (e := hi) (p := p) (r := r) (hr := hr)
    have dl := str_len (l := r) (hr := hr + p.len) (b := e) (e := hi)
    rw [List.length_cons]
    by_cases h1 : b < hr + p.len
    · rw [str_none hp' (by omega : b ≤ hr + p.len), List.length_nil] at a
      by_cases h2 : e < hr + p.len
      · rw [str_none hp' (by omega : e ≤ hr + p.len), List.length_nil] at c
        omega
      · have two := str_two (lo := b) (b := e) (e := e) (hi := hi) (Int.le_refl _) (l := r) (hr := hr + p.len) hp'
        have n2 : ¬ mx e hr < mn hi (hr + p.len) := by
          rw [mx_eq, mn_eq]
          omega
        have e2 : strL (p :: r) hr e hi = strL r (hr + p.len) e hi := by
          rw [strL, if_neg n2]
          rfl
        rw [e2]
        omega
    · have ih := str_three (lo := lo) (hi := hi) hbe (l := r) (hr := hr + p.len) hp'
      have n2 : ¬ mx e hr < mn hi (hr + p.len) := by
        rw [mx_eq, mn_eq]
        omega
      have n3 : ¬ mx b hr < mn e (hr + p.len) := by
        rw [mx_eq, mn_eq]
        omega
      have e2 : strL (p :: r) hr e hi = strL r (hr + p.len) e hi := by
        rw [strL, if_neg n2]
        rfl
      have e3 : strL (p :: r) hr b e = strL r (hr + p.len) b e := by
        rw [strL, if_neg n3]
        rfl
      rw [e2, e3]
      omega
theorem put_flat {F : Int → Int → Fv} {ss : List Int} {L : Int} {l m : List Pi} (h : ∀ p ∈ l, PiOk ss L p) {b e : Int} (h0 : 0 ≤ b) (h1 : 0 ≤ e) : flat F (putL l b e m) = (flat F l).take b.toNat ++ flat F m ++ (flat F l).drop e.toNat := by
  have hp := all_pos h
  have hg := fun p hp => (h p hp).go
  have fl := flat_len (F := F) hp
  have t := tot_nn hp
  unfold putL
  rw [flat_app, flat_app, str_flat hp hg h0]
  by_cases he : e ≤ tot l
  · rw [str_flat hp hg he]
    simp only [Int.sub_zero, Int.toNat_zero, List.drop_zero, Nat.sub_zero]
    rw [List.take_of_length_le (l := (flat F l).drop e.toNat) (by rw [List.length_drop]; omega)]
  · have x1 : strL l 0 e (tot l) = [] := str_swap (by omega)
    have x2 : (flat F l).drop e.toNat = [] := List.drop_of_length_le (by omega)
    rw [x1, x2]
    simp only [Int.sub_zero, Int.toNat_zero, List.drop_zero, Nat.sub_zero]
    rfl
theorem tot_le {ss : List Int} {L : Int} : ∀ {l : List Pi}, (∀ p ∈ l, PiOk ss L p) → tot l ≤ 500 * (l.length : Int)
  | [], _ => by decide
  | p :: l, h => by
    have h1 := (h p List.mem_cons_self).one.2
    have h2 := tot_le (l := l) fun q hq => h q (List.mem_cons_of_mem _ hq)
    rw [tot_cons, List.length_cons]
    omega
theorem gaps_le {m k : Nat} (h : m ≤ 500 * k) : (gapsL m).length ≤ k := by
  unfold gapsL
  rw [List.length_append, List.length_replicate]
  split
  · show _ + 0 ≤ _
    omega
  · show _ + 1 ≤ _
    omega
/-- a lifted row is not too long -/
theorem lift_len {ss : List Int} {L : Int} {l : List Pi} (h : ∀ p ∈ l, PiOk ss L p) {b e : Int} (h0 : 0 ≤ b) (h1 : b ≤ e) (h2 : e ≤ tot l) {w : Nat} (hw : e - b = (w : Int)) : (putL l b e (gapsL w)).length ≤ l.length + 2 := by
  have t3 := str_three (lo := 0) (hi := tot l) h1 (hr := 0) (all_pos h)
  have tt := str_tot h h0 h1 h2
  have tl := tot_le (str_ok h (hr := 0) (b := b) (e := e))
  have g := gaps_le (m := w) (k := (strL l 0 b e).length) (by omega)
  unfold putL
  rw [List.length_append, List.length_append]
  omega
theorem put_len {ss : List Int} {L : Int} {l m : List Pi} (h : ∀ p ∈ l, PiOk ss L p) {b e : Int} (h1 : b ≤ e) : (putL l b e m).length ≤ l.length + 1 + m.length := by
  have t := str_two (lo := 0) (hi := tot l) h1 (hr := 0) (all_pos h)
  unfold putL
  rw [List.length_append, List.length_append]
  omega
theorem gaps_ok {ss : List Int} {L : Int} {m : Nat} : ∀ p ∈ gapsL m, PiOk ss L p := by
  intro p hp
  unfold gapsL at hp
  rcases List.mem_append.mp hp with hp | hp
  · rw [List.eq_of_mem_replicate hp]
    exact ⟨by omega, by omega⟩
  · split at hp
    · exact nomatch hp
    · rw [List.mem_singleton.mp hp]
      exact ⟨by omega, by omega⟩
theorem gaps_under {f : Film} {rk : Nat → Nat} {N m : Nat} : Under f rk N (gapsL m) := by
  intro p hp x hx
  unfold gapsL at hp
  rcases List.mem_append.mp hp with hp | hp
  · rw [List.eq_of_mem_replicate hp] at hx
    exact nomatch hx
  · split at hp
    · exact nomatch hp
    · rw [List.mem_singleton.mp hp] at hx
      exact nomatch hx
theorem gaps_tot {m : Nat} : tot (gapsL m) = (m : Int) := by
  have r : ∀ k : Nat, tot (List.replicate k (.pl (.gap 500))) = 500 * (k : Int) := fun k => by
    induction k with
    | zero => rfl
    | succ k ih =>
      rw [List.replicate_succ, tot_cons, ih]
      show 500 + _ = _
      omega
  unfold gapsL
  rw [tot_app, r]
  split
  · rw [tot_nil]; omega
  · rw [tot_cons, tot_nil]
    show _ + (((m % 500 : Nat) : Int) + 0) = _
    omega
theorem gaps_flat {F : Int → Int → Fv} {m : Nat} : flat F (gapsL m) = List.replicate m .non := by
  refine List.eq_replicate_iff.mpr ⟨?_, fun x hx => ?_⟩
  · rw [flat_len (all_pos (ss := []) (L := 0) gaps_ok), gaps_tot]
    rfl
  · obtain ⟨p, hp, hx⟩ := List.mem_flatMap.mp hx
    obtain ⟨j, _, rfl⟩ := List.mem_map.mp hx
    unfold gapsL at hp
    rcases List.mem_append.mp hp with hp | hp
    · rw [List.eq_of_mem_replicate hp]
      rfl
    · split at hp
      · exact nomatch hp
      · rw [List.mem_singleton.mp hp]
        rfl
end Lw

set_option Elab.async false
set_option linter.all false
set_option maxRecDepth 100000
set_option maxHeartbeats 400000
namespace Lw
open PySem PySem.Spec Pm
local macro_rules | `(tactic| push_cast [$xs,*]) => `(tactic| simp only [wx_cons, wx_nil, wx_if, wx_for1, wx_forT, ↓gw_nx, ↓gw_rt, ↓gw_bk, ↓gw_ct, ↓ew_nx, ↓ew_rt, ↓tw_nx, ↓tw_ct, ↓tw_bk, ↓tw_rt, ↓ww_t, ↓ww_f, ↓to_bd, ↓to_ifT, bd_ok, bd_exc, bd_bd, ifT_t, ifT_f, wp_ok, wp_exc, wpC_ok, wpC_exc, ofC_exc, asB_bd, asB_ofC, asB_if, asI_bd, asI_ofC, tupR_bd, lstR_bd, if_bind, chn_le, chn_lt, v_com, v_comf, v_prom, promR_o, x_app, x_ext, cmp_nmem_l, cmp_mem_l, cmp_mem_t, inL_int, v_met, metR_s, v_fld, fldR_s, v_fln, flnR_s, v_new, x_stf, stfR_s, o_met, o_fld, o_new, o_not, o_and, o_or, wp_ofC,
  x_set, x_setT, x_par2, x_ex, x_ret, x_retN, x_pass, x_brk, x_cnt, setTR_o, setO_s, bindS_nil, bindS_cons, v_con, v_glo, v_var, v_tup, v_lst, v_bin, v_cmp, v_cmp2, v_neg, v_and, v_or, v_not, v_ite, v_idx, v_sli, v_rev, v_f1, v_f2, v_isi, v_cal, a_nil', a_cons', o_no', o_so', it_seq, it_enu, it_rng1, it_rng2, seqR_l, seqR_t, seqR_s, seqR_o, enuR_l, enuR_t, enuR_o,
  o_bor, o_con, o_glo, o_tup, o_lst, o_bin, o_neg, o_idx, o_sli, o_rev, o_f1, o_f2, o_isi, o_cal, o_com, o_comf, o_ite, varR_v, varR_o, borR_v, borR_o, binR_s, cmpR_s, idxR_s, f1R_s, sliR_s, revR_s, isiR_s, negR_s, asB_ok, asI_ok, retR_some, retB_some, ofC_ok, Rd_v, Rd_o, Rs_v, Rs_o, cont_s, cont_v, cont_o, contS_v, contS_o,
  deref_int, deref_str, deref_bl, deref_non, deref_tup, deref_lst, deref_ref, derefR_lst, bin_add, bin_sub, cmp_eq, cmp_ne, cmp_lt, cmp_le, cmp_gt, cmp_ge, cmp_isn, cmp_isnn, eqI, eqF_str, eqF_nn, eqF_nt, eqF_tn, isNon_non, isNon_int, isNon_tup, isNon_lst, isNon_str, isNon_bl, ix_lst, ix_tup, ixD_0, ixD_1, ixD_2, ixD_3, ixD_4, ixD_5, ixD_6, ixD_m1, ixD_m2, ixD_m3, ixD_m4, ixD_m5, ixD_m6, ixD_m7, len1, len2, len3, len4, len5, len6, len7, Int.reduceEq, Bool.true_and, Bool.false_and, Bool.and_true, Bool.and_false, sl_lst, sl_tup, rev_lst, f_len_l, f_len_t, f_sum, f_all, f_list_l, f_list_t, f_tup_l, f_tup_t, f_max2, f_min2, ints_map, bools_map,
  ty_ii, ty_ib, ty_in, ty_is, ty_it, ty_il, ty_bi, ty_bb, ty_bn, ty_bs, ty_bt, ty_bl, ty_ti, ty_tb, ty_tn, ty_ts, ty_tt, ty_tl, ty_si, ty_sb, ty_sn, ty_ss, ty_st, ty_sl, ty_li, ty_lb, ty_ln, ty_ls, ty_lt, ty_ll, kn_i, kn_b, kn_n, kn_s, kn_t, kn_l, tupR_0, tupR_1, tupR_2, tupR_3, tupR_4, tupR_5, tupR_6, tupR_7, tupR_8, lstR_0, lstR_1, lstR_2, lstR_3, lstR_4, lstR_5, lstR_6, lstR_7, lstR_8,
  List.getElem?_cons_succ, List.getElem?_cons_zero, List.set_cons_succ, List.set_cons_zero, List.map_cons, List.map_nil, List.cons_append, List.nil_append, List.replicate_succ, List.replicate_zero, Nat.reduceSub, Option.map_some, Bool.not_true, Bool.not_false, decide_true, decide_false, not_true_eq_false, not_false_eq_true, and_true, true_and, Int.reduceLT, Int.reduceLE, Int.reduceNeg,
  kw_clip_clip, kw_clip_gap, kw_clip_list, kw_clip_lead, kw_gap_clip, kw_gap_gap, kw_gap_list, kw_gap_lead, kw_list_clip, kw_list_gap, kw_list_list, kw_list_lead, kw_lead_clip, kw_lead_gap, kw_lead_list, kw_lead_lead, deref_lay, len_lay, seq_lay, enu_lay, deref_film, len_film, seq_film, enu_film, deref_ls, len_ls, seq_ls, enu_ls, ty_lay, ty_ls, ty_film, kn_lay, kn_ls, kn_film, $xs,*])
theorem min_nat {a b : Nat} : min (a : Int) (b : Int) = ((min a b : Nat) : Int) := by omega
section
variable {F : Int → Int → Fv} {xs : List Fv}
theorem bin_fv {a c : List Fv} (hz : a.length + c.length ≤ 100000) : binop .add (.lst (a.map Fv.D)) (.lst (c.map Fv.D)) = some (.o ((a ++ c).map Fv.D)) := by
  rw [bin_addl (szA (by rw [List.length_map, List.length_map]; exact hz)), List.map_append]
theorem cutT_fv {k : Nat} : cutL (xs.map Fv.D) none (some (k : Int)) = (xs.take k).map Fv.D := by
  rw [cut_take (by omega), Int.toNat_natCast, List.map_take]
theorem cutD_fv {k : Nat} : cutL (xs.map Fv.D) (some (k : Int)) none = (xs.drop k).map Fv.D := by
  rw [cut_drop (by omega), Int.toNat_natCast, List.map_drop]
end
/-- all of a row's frames are alike themselves -/
theorem alk_rows {f : Film} {xs : List Fv} (hx : ∀ x ∈ xs, x.dep ≤ 24) (hl : xs.length ≤ 100000) {n : Nat} (hn : 30 ≤ n) : Alk n (.lst (xs.map Fv.D)) := by
  obtain ⟨n, rfl⟩ := Nat.exists_eq_add_of_le' hn
  refine ⟨by rw [List.length_map]; exact hl, fun d hd => ?_⟩
  obtain ⟨x, hx', rfl⟩ := List.mem_map.mp hd
  have := hx x hx'
  exact alk_fv (by omega)
theorem row_dep {f : Film} {l : List Pi} : ∀ x ∈ flat (sh f) l, x.dep ≤ 24 := fun x hx => by
  have := dep_flat (fun m j => dep_show (f := f) 20 m j) hx
  omega
theorem DH.set {rest h : List Ob} (q : DH rest h) {k : Nat} {o : Ob} : DH (rest.set k o) (h.set (k + 1) o) := by
  obtain ⟨a, b, r, rfl, hl⟩ := q
  exact ⟨a, b, r, rfl, hl⟩
theorem set_self {α : Type} {l : List α} {k : Nat} {x : α} (e : l[k]? = some x) : l.set k x = l := by
  refine List.ext_getElem? fun i => ?_
  rw [List.getElem?_set]
  split
  · rename_i hi
    subst hi
    rw [if_pos (List.getElem?_eq_some_iff.mp e).1, e]
  · rfl
/-- a turn's film, one layer told anew -/
structure Turn (ss : List Int) (f : Film) (rk : Nat → Nat) (N K : Nat) (ls : List (List Pi)) (row : List Pi) (g : Film) : Prop where
  eg : g = f.set N (ls.set K row)
  ok : FilmOk ss g
  len : g.length = f.length
  at1 : g[N]? = some (ls.set K row)
  at2 : (ls.set K row)[K]? = some row
  low : flat (sh g) row = flat (sh f) row
  pl : ∀ p : Pi, (∀ m ∈ piLists p, 0 ≤ m ∧ m < (f.length : Int) ∧ rk m.toNat < rk N) → ∀ j, showPi (sh g) p j = showPi (sh f) p j
  nx : ∀ row', g.set N ((ls.set K row).set K row') = f.set N (ls.set K row')
theorem turn_of {ss : List Int} {f : Film} {rk : Nat → Nat} {N K : Nat} {ls : List (List Pi)} {row : List Pi} (hf : FilmOk ss f) (hd : Dag f rk) (e1 : f[N]? = some ls) (hK : K < ls.length) (r : Row ss f rk N row) : Turn ss f rk N K ls row (f.set N (ls.set K row)) := by
  have hN := (List.getElem?_eq_some_iff.mp e1).1
  exact ⟨rfl, edit_film hf hd e1 r, by rw [List.length_set], List.getElem?_set_self hN, List.getElem?_set_self hK, row_low hd r, fun p hp j => piece_low hd hp, fun row' => by rw [List.set_set, List.set_set]⟩
end Lw

set_option Elab.async false
set_option linter.all false
set_option maxRecDepth 100000
set_option maxHeartbeats 400000
namespace Lw
open PySem PySem.Spec Pm
local macro_rules | `(tactic| push_cast [$xs,*]) => `(tactic| simp only [wx_cons, wx_nil, wx_if, wx_for1, wx_forT, ↓gw_nx, ↓gw_rt, ↓gw_bk, ↓gw_ct, ↓ew_nx, ↓ew_rt, ↓tw_nx, ↓tw_ct, ↓tw_bk, ↓tw_rt, ↓ww_t, ↓ww_f, ↓to_bd, ↓to_ifT, bd_ok, bd_exc, bd_bd, ifT_t, ifT_f, wp_ok, wp_exc, wpC_ok, wpC_exc, ofC_exc, asB_bd, asB_ofC, asB_if, asI_bd, asI_ofC, tupR_bd, lstR_bd, if_bind, chn_le, chn_lt, v_com, v_comf, v_prom, promR_o, x_app, x_ext, cmp_nmem_l, cmp_mem_l, cmp_mem_t, inL_int, v_met, metR_s, v_fld, fldR_s, v_fln, flnR_s, v_new, x_stf, stfR_s, o_met, o_fld, o_new, o_not, o_and, o_or, wp_ofC,
  x_set, x_setT, x_par2, x_ex, x_ret, x_retN, x_pass, x_brk, x_cnt, setTR_o, setO_s, bindS_nil, bindS_cons, v_con, v_glo, v_var, v_tup, v_lst, v_bin, v_cmp, v_cmp2, v_neg, v_and, v_or, v_not, v_ite, v_idx, v_sli, v_rev, v_f1, v_f2, v_isi, v_cal, a_nil', a_cons', o_no', o_so', it_seq, it_enu, it_rng1, it_rng2, seqR_l, seqR_t, seqR_s, seqR_o, enuR_l, enuR_t, enuR_o,
  o_bor, o_con, o_glo, o_tup, o_lst, o_bin, o_neg, o_idx, o_sli, o_rev, o_f1, o_f2, o_isi, o_cal, o_com, o_comf, o_ite, varR_v, varR_o, borR_v, borR_o, binR_s, cmpR_s, idxR_s, f1R_s, sliR_s, revR_s, isiR_s, negR_s, asB_ok, asI_ok, retR_some, retB_some, ofC_ok, Rd_v, Rd_o, Rs_v, Rs_o, cont_s, cont_v, cont_o, contS_v, contS_o,
  deref_int, deref_str, deref_bl, deref_non, deref_tup, deref_lst, deref_ref, derefR_lst, bin_add, bin_sub, cmp_eq, cmp_ne, cmp_lt, cmp_le, cmp_gt, cmp_ge, cmp_isn, cmp_isnn, eqI, eqF_str, eqF_nn, eqF_nt, eqF_tn, isNon_non, isNon_int, isNon_tup, isNon_lst, isNon_str, isNon_bl, ix_lst, ix_tup, ixD_0, ixD_1, ixD_2, ixD_3, ixD_4, ixD_5, ixD_6, ixD_m1, ixD_m2, ixD_m3, ixD_m4, ixD_m5, ixD_m6, ixD_m7, len1, len2, len3, len4, len5, len6, len7, Int.reduceEq, Bool.true_and, Bool.false_and, Bool.and_true, Bool.and_false, sl_lst, sl_tup, rev_lst, f_len_l, f_len_t, f_sum, f_all, f_list_l, f_list_t, f_tup_l, f_tup_t, f_max2, f_min2, ints_map, bools_map,
  ty_ii, ty_ib, ty_in, ty_is, ty_it, ty_il, ty_bi, ty_bb, ty_bn, ty_bs, ty_bt, ty_bl, ty_ti, ty_tb, ty_tn, ty_ts, ty_tt, ty_tl, ty_si, ty_sb, ty_sn, ty_ss, ty_st, ty_sl, ty_li, ty_lb, ty_ln, ty_ls, ty_lt, ty_ll, kn_i, kn_b, kn_n, kn_s, kn_t, kn_l, tupR_0, tupR_1, tupR_2, tupR_3, tupR_4, tupR_5, tupR_6, tupR_7, tupR_8, lstR_0, lstR_1, lstR_2, lstR_3, lstR_4, lstR_5, lstR_6, lstR_7, lstR_8,
  List.getElem?_cons_succ, List.getElem?_cons_zero, List.set_cons_succ, List.set_cons_zero, List.map_cons, List.map_nil, List.cons_append, List.nil_append, List.replicate_succ, List.replicate_zero, Nat.reduceSub, Option.map_some, Bool.not_true, Bool.not_false, decide_true, decide_false, not_true_eq_false, not_false_eq_true, and_true, true_and, Int.reduceLT, Int.reduceLE, Int.reduceNeg,
  kw_clip_clip, kw_clip_gap, kw_clip_list, kw_clip_lead, kw_gap_clip, kw_gap_gap, kw_gap_list, kw_gap_lead, kw_list_clip, kw_list_gap, kw_list_list, kw_list_lead, kw_lead_clip, kw_lead_gap, kw_lead_list, kw_lead_lead, deref_lay, len_lay, seq_lay, enu_lay, deref_film, len_film, seq_film, enu_film, deref_ls, len_ls, seq_ls, enu_ls, ty_lay, ty_ls, ty_film, kn_lay, kn_ls, kn_film, $xs,*])
set_option maxHeartbeats 0 in
theorem law_w {n : Nat} {ns : List Int} (hl : ns.length ≤ 63) : WpC (callN T cf (n + 60) 109 [.scr ns] []) (fun r _ => r = .v (.bl true)) C0 := by
  rw [call_law, b_law]
  refine wp_run rfl ?_
  push_cast []
  refine wp_call0 (dice_w (n := n + 58) hl) ?_
  rintro _ h1 ⟨a, xs, rfl, hx, rfl⟩
  have hd : DH [] [.lst ((a :: 0 :: xs).map D.int)] := ⟨a, 0, xs, rfl, by omega⟩
  have sm2 : small62 2 = true := small_of (by omega) (by omega)
  have r2 : rangeL 0 2 = (List.range 2).map fun j : Nat => D.int j := rangeL_map (k := 2)
  have sm3 : small62 3 = true := small_of (by omega) (by omega)
  have r3 : rangeL 0 3 = (List.range 3).map fun j : Nat => D.int j := rangeL_map (k := 3)
  push_cast [List.length_nil, rngR_s sm2]
  refine wp_for (xs := List.range 2) (g := fun j : Nat => D.int j) (fun pre c σ h' => ∃ (rest : List Ob) (s2 s3 s4 s5 s6 s7 s8 s9 s10 s11 s12 s13 s14 s15 s16 s17 s18 : Slot), DH rest h' ∧
    σ = [.v (.scr ns), .v (.ref 0), s2, s3, s4, s5, s6, s7, s8, s9, s10, s11, s12, s13, s14, s15, s16, s17, s18, .un]) r2
    ⟨[], _, _, _, _, _, _, _, _, _, _, _, _, _, _, _, _, _, hd, rfl⟩ ?_ ?_
  · rintro pre k c σ h5 ek ⟨rest, s2, s3, s4, s5, s6, s7, s8, s9, s10, s11, s12, s13, s14, s15, s16, s17, s18, hd, rfl⟩
    refine ⟨_, rfl, ?_⟩
    push_cast []
    refine wp_call0 (law_cases_w (by omega) hd) ?_
    rintro _ h6 ⟨ss, f, N, K, ls, l, rfl, hs, hf, e1, e2, hd⟩
    have hN := (List.getElem?_eq_some_iff.mp e1).1
    have hK := (List.getElem?_eq_some_iff.mp e2).1
    have hf5 := hf.len
    push_cast []
    refine wp_call0 (law_free_w (n := n + 57) hf hN) ?_
    rintro _ _ ⟨c, rfl, hc, rfl⟩
    obtain ⟨rk0, hd0⟩ := hf.dag
    obtain ⟨rk, hdag, hcr⟩ := free_rank hf5 hd0 hc
    have hL : Lists (f.length : Int) (· ∈ c) c := ⟨hc.le, fun x hx => ⟨by have := (hc.rg x hx).1; omega, hx⟩⟩
    have lm := List.mem_of_getElem? e2
    have rl : Row ss f rk N l := ⟨(hf.at e1).pcs l lm, (hf.at e1).ok l lm, under_of hdag e1 lm⟩
    push_cast [rngR_s sm3]
    refine wp_for (xs := List.range 3) (g := fun j : Nat => D.int j) (fun pre q σ h' => ∃ (row : List Pi) (ah : List Film) (R : List Ob) (s4 s10 s11 s12 s13 s14 s15 s16 s17 s18 : Slot), DH R h' ∧ R[rest.length]? = some (edO ss (f.set N (ls.set K row)) ah []) ∧ Row ss f rk N row ∧ ah.length ≤ pre.length ∧
      σ = [.v (.scr ns), .v (.ref 0), .v (.int (k : Int)), .v (.lst (c.map D.int)), s4, .v (.tup (ss.map D.int)), .v (filmD f), .v (.ref (rest.length + 1)), .v (.int (N : Int)), .v (.int (K : Int)), s10, s11, s12, s13, s14, s15, s16, s17, s18, .un]) r3
      ⟨l, [], rest ++ [edO ss f [] []], _, _, _, _, _, _, _, _, _, _, hd, by rw [List.getElem?_append_right (Nat.le_refl _), Nat.sub_self, set_self e2, set_self e1]; rfl, rl, Nat.le_refl _, rfl⟩ ?_ ?_
    · clear rl
      rintro pre i q σ h7 ei ⟨row, ah, R, s4, s10, s11, s12, s13, s14, s15, s16, s17, s18, hd, hR, r, hah, rfl⟩
      refine ⟨_, rfl, ?_⟩
      have hp3 : pre.length < 3 := (range_split ei).1 ▸ (range_split ei).2
      have tn := turn_of (K := K) hf hdag e1 hK r
      obtain ⟨g, eg⟩ : ∃ g, g = f.set N (ls.set K row) := ⟨_, rfl⟩
      rw [← eg] at hR tn
      have hE : h7[rest.length + 1]? = some (edO ss g ah []) := by rw [hd.get]; exact hR
      have hok : ∀ p ∈ row, PiOk ss (g.length : Int) p := by rw [tn.len]; exact r.ok
      have hpos := all_pos r.ok
      have sw : callN T cf (n + 59) 20 [.ref (rest.length + 1)] h7 = .ok (.v (filmD g)) h7 := ed_shown (n := n + 58) hE
      obtain ⟨X, eX⟩ : ∃ X, X = flat (sh f) row := ⟨_, rfl⟩
      have la : ∀ h, callN T cf (n + 59) 27 [filmD g, layD row, .int 3000] h = .ok (.o ((X.take 3000).map Fv.D)) h := fun h => by
        have := law_all_eq (n := n + 19) (l := row) tn.ok (by have := r.le; omega) hok (M := 3000) (by omega) (h := h)
        rw [tn.low, ← eX] at this
        exact this
      have sz : ∀ h, callN T cf (n + 59) 84 [layD row] h = .ok (.v (.int (tot row))) h := fun h => law_size_eq (n := n + 57) (l := row) (by have := r.le; omega) (h := h)
      have Xl : X.length = (tot row).toNat := by rw [eX]; exact flat_len hpos
      have tn0 := tot_nn hpos
      have xl3 : (X.take 3000).length ≤ 3000 := by rw [List.length_take]; omega
      push_cast [hE, mt_shown, sw, ix_film tn.at1, ix_ls tn.at2, la, List.length_map]
      refine wp_call0 (off_w (by omega) hd (by omega) (by omega)) ?_
      rintro _ h8 ⟨a, rfl, a0, a1, hd⟩
      obtain ⟨a, rfl⟩ : ∃ m : Nat, a = (m : Int) := ⟨a.toNat, by omega⟩
      have hRl : rest.length < R.length := (List.getElem?_eq_some_iff.mp hR).1
      by_cases h57 : (57 : Int) < (row.length : Int)
      · push_cast [len_lay, h57]
      · by_cases hs25 : (2500 : Int) < tot row
        · push_cast [len_lay, h57, sz, hs25]
        · push_cast [len_lay, h57, sz, hs25]
          have X3 : X.take 3000 = X := List.take_of_length_le (by omega)
          rw [X3] at a1
          refine wp_call0 (off_w (by omega) hd (by omega) (by omega)) ?_
          rintro _ h9 ⟨v, rfl, v0, v1, hd⟩
          by_cases hv : v = 0
          · push_cast [hv, X3]
            refine wp_call0 (piece_w (by omega) hs hL hd) ?_
            rintro _ h10 ⟨p, rfl, hp, hpl, hd⟩
            have hpu : ∀ m ∈ piLists p, 0 ≤ m ∧ m < (f.length : Int) ∧ rk m.toNat < rk N := fun m hm => ⟨(hp.rng m hm).1, (hp.rng m hm).2, hcr m (hpl m hm)⟩
            have p1 := hp.one
            obtain ⟨w, ew⟩ : ∃ w : Nat, p.len = (w : Int) := ⟨p.len.toNat, by omega⟩
            have sw' := small_of (i := (w : Int)) (by omega) (by omega)
            have lg : ∀ h, callN T cf (n + 59) 62 [p.D] h = .ok (.v (.int (w : Int))) h := fun h => by rw [← ew]; exact law_long_eq (n := n + 58)
            push_cast [lg, rngR_s sw', rangeL_map]
            refine wp_comM (xs := List.range w) (g := fun j : Nat => D.int j) (f := fun j : Nat => (showPi (sh f) p (j : Int)).D) (s := .un) rfl rfl (szC (by rw [List.length_range]; omega)) (fun i hi => ?_) ?_
            · have ps : ∀ h, callN T cf (n + 59) 72 [filmD g, p.D, .int (i : Int)] h = .ok (.v (showPi (sh f) p (i : Int)).D) h := fun h => by
                rw [← tn.pl p hpu]
                exact lpiece_all (n := n + 21) tn.ok (by rw [tn.len]; exact hp) (by omega)
              push_cast [ps]
            · have ePf : ((List.range w).map fun j : Nat => (showPi (sh f) p (j : Int)).D) = (flat (sh f) [p]).map Fv.D := by
                rw [flat_cons, flat_nil, List.append_nil]
                unfold pfl
                rw [ew, Int.toNat_natCast, List.map_map]
                rfl
              have pfl1 : (flat (sh f) [p]).length ≤ 500 := by
                rw [flat_cons, flat_nil, List.append_nil, pfl_len]
                omega
              obtain ⟨row', er⟩ : ∃ row', row' = putL row (a : Int) (a : Int) [p] := ⟨_, rfl⟩
              obtain ⟨Y, eY⟩ : ∃ Y, Y = flat (sh f) row' := ⟨_, rfl⟩
              have eY2 : Y = X.take a ++ flat (sh f) [p] ++ X.drop a := by rw [eY, er, put_flat r.ok (by omega) (by omega), Int.toNat_natCast, ← eX]
              have b1 : binop .add (.lst ((X.take a).map Fv.D)) (.lst ((flat (sh f) [p]).map Fv.D)) = some (.o ((X.take a ++ flat (sh f) [p]).map Fv.D)) := bin_fv (by rw [List.length_take]; omega)
              have b2 : binop .add (.lst ((X.take a ++ flat (sh f) [p]).map Fv.D)) (.lst ((X.drop a).map Fv.D)) = some (.o (Y.map Fv.D)) := by
                rw [bin_fv (by rw [List.length_append, List.length_take, List.length_drop]; omega), eY2]
              by_cases hY : (2500 : Int) < (Y.length : Int)
              · push_cast [ePf, cutT_fv, cutD_fv, b1, b2, len_lay, h57, List.length_map, hY]
              · push_cast [ePf, cutT_fv, cutD_fv, b1, b2, len_lay, h57, List.length_map, hY]
                have rl' := put_len (m := [p]) r.ok (b := (a : Int)) (e := (a : Int)) (Int.le_refl _)
                have rl2 : (putL row (a : Int) (a : Int) [p]).length ≤ 60 := by
                  have : [p].length = 1 := rfl
                  omega
                have r' : Row ss f rk N row' := by
                  rw [er]
                  exact r.put (fun q hq => by rw [List.mem_singleton.mp hq]; exact hp) (fun q hq => by rw [List.mem_singleton.mp hq]; exact hpu) rl2
                have tn' := turn_of (K := K) hf hdag e1 hK r'
                obtain ⟨g', eg'⟩ : ∃ g', g' = f.set N (ls.set K row') := ⟨_, rfl⟩
                rw [← eg'] at tn'
                have hE : h10[rest.length + 1]? = some (edO ss g ah []) := by rw [hd.get]; exact hR
                have ep : callN T cf (n + 59) 18 [.ref (rest.length + 1), .int (N : Int), .int (K : Int), .int (a : Int), p.D] h10 = .ok (.v .non) (h10.set (rest.length + 1) (edO ss g' (ah ++ [g]) [])) := by
                  have := ed_put (n := n + 52) tn.ok tn.at1 tn.at2 (p := p) (by rw [tn.len]; exact hp) (at_ := (a : Int)) (by omega) (by omega) rl2 (by rw [tn.nx, ← er, ← tn'.eg]; exact tn'.ok) (by omega) hE
                  rw [tn.nx, ← er, ← tn'.eg] at this
                  exact this
                have al : ∀ h, callN T cf (n + 59) 26 [.lst (Y.map Fv.D), .lst (Y.map Fv.D)] h = .ok (.v (.bl true)) h := fun h => alike_self (alk_rows (f := f) (fun x hx => by rw [eY] at hx; exact row_dep (f := f) (l := row') x hx) (by omega) (by omega))
                have la2 : ∀ h, callN T cf (n + 59) 27 [filmD g', layD row', .int 5000] h = .ok (.o (Y.map Fv.D)) h := fun h => by
                  have := law_all_eq (n := n + 19) (l := row') tn'.ok (by have := r'.le; omega) (by rw [tn'.len]; exact r'.ok) (M := 5000) (by omega) (h := h)
                  rw [tn'.low, List.take_of_length_le (by rw [← eY]; omega), ← eY] at this
                  exact this
                have os : ∀ h, callN T cf (n + 59) 70 [filmD g', filmD f, .int (N : Int), .int (K : Int)] h = .ok (.v (.bl true)) h := fun h => by
                  rw [tn'.eg]
                  exact others_stay_eq (n := n + 58) hf e1 hK
                have hjl : rest.length + 1 < h10.length := (List.getElem?_eq_some_iff.mp hE).1
                have hEn : (h10.set (rest.length + 1) (edO ss g' (ah ++ [g]) []))[rest.length + 1]? = some (edO ss g' (ah ++ [g]) []) := List.getElem?_set_self hjl
                have sw2 : callN T cf (n + 59) 20 [.ref (rest.length + 1)] (h10.set (rest.length + 1) (edO ss g' (ah ++ [g]) [])) = .ok (.v (filmD g')) (h10.set (rest.length + 1) (edO ss g' (ah ++ [g]) [])) := ed_shown (n := n + 58) hEn
                push_cast [hE, mt_put, ep, hEn, mt_shown, sw2, ix_film tn'.at1, ix_ls tn'.at2, la2, al, os]
                refine ⟨row', ah ++ [g], R.set rest.length (edO ss g' (ah ++ [g]) []), _, _, _, _, _, _, _, _, _, _, hd.set, by rw [← tn'.eg]; exact List.getElem?_set_self hRl, r', by rw [List.length_append, List.length_append]; exact Nat.add_le_add_right hah 1, rfl⟩
          · push_cast [hv, X3, List.length_map]
            refine wp_call0 (off_w (by omega) hd (by omega) (by omega)) ?_
            rintro _ h10 ⟨u, rfl, u0, u1, hd⟩
            obtain ⟨u, rfl⟩ : ∃ m : Nat, u = (m : Int) := ⟨u.toNat, by omega⟩
            have ee : (a : Int) + (u : Int) = ((a + u : Nat) : Int) := by omega
            obtain ⟨row', er⟩ : ∃ row', row' = putL row (a : Int) ((a + u : Nat) : Int) [] := ⟨_, rfl⟩
            obtain ⟨Y, eY⟩ : ∃ Y, Y = flat (sh f) row' := ⟨_, rfl⟩
            have eY2 : Y = X.take a ++ X.drop (a + u) := by rw [eY, er, put_flat r.ok (by omega) (by omega), Int.toNat_natCast, Int.toNat_natCast, ← eX, flat_nil, List.append_nil]
            have b2 : binop .add (.lst ((X.take a).map Fv.D)) (.lst ((X.drop (a + u)).map Fv.D)) = some (.o (Y.map Fv.D)) := by
              rw [bin_fv (by rw [List.length_take, List.length_drop]; omega), eY2]
            have hY : Y.length ≤ 2500 := by
              rw [eY2, List.length_append, List.length_take, List.length_drop]
              omega
            have rl' := put_len (m := []) r.ok (b := (a : Int)) (e := ((a + u : Nat) : Int)) (by omega)
            have rl2 : (putL row (a : Int) ((a + u : Nat) : Int) []).length ≤ 60 := by
              have : ([] : List Pi).length = 0 := rfl
              omega
            have r' : Row ss f rk N row' := by
              rw [er]
              exact r.put (fun q hq => nomatch hq) (fun q hq => nomatch hq) rl2
            have tn' := turn_of (K := K) hf hdag e1 hK r'
            obtain ⟨g', eg'⟩ : ∃ g', g' = f.set N (ls.set K row') := ⟨_, rfl⟩
            rw [← eg'] at tn'
            have hE : h10[rest.length + 1]? = some (edO ss g ah []) := by rw [hd.get]; exact hR
            have ep : callN T cf (n + 59) 8 [.ref (rest.length + 1), .int (N : Int), .int (K : Int), .int (a : Int), .int ((a + u : Nat) : Int)] h10 = .ok (.v .non) (h10.set (rest.length + 1) (edO ss g' (ah ++ [g]) [])) := by
              have := ed_cut (n := n + 52) tn.ok tn.at1 tn.at2 (b := (a : Int)) (e := ((a + u : Nat) : Int)) (by omega) (by omega) (by omega) rl2 (by rw [tn.nx, ← er, ← tn'.eg]; exact tn'.ok) (by omega) hE
              rw [tn.nx, ← er, ← tn'.eg] at this
              exact this
            have al : ∀ h, callN T cf (n + 59) 26 [.lst (Y.map Fv.D), .lst (Y.map Fv.D)] h = .ok (.v (.bl true)) h := fun h => alike_self (alk_rows (f := f) (fun x hx => by rw [eY] at hx; exact row_dep (f := f) (l := row') x hx) (by omega) (by omega))
            have la2 : ∀ h, callN T cf (n + 59) 27 [filmD g', layD row', .int 5000] h = .ok (.o (Y.map Fv.D)) h := fun h => by
              have := law_all_eq (n := n + 19) (l := row') tn'.ok (by have := r'.le; omega) (by rw [tn'.len]; exact r'.ok) (M := 5000) (by omega) (h := h)
              rw [tn'.low, List.take_of_length_le (by rw [← eY]; omega), ← eY] at this
              exact this
            have os : ∀ h, callN T cf (n + 59) 70 [filmD g', filmD f, .int (N : Int), .int (K : Int)] h = .ok (.v (.bl true)) h := fun h => by
              rw [tn'.eg]
              exact others_stay_eq (n := n + 58) hf e1 hK
            have hjl : rest.length + 1 < h10.length := (List.getElem?_eq_some_iff.mp hE).1
            have hEn : (h10.set (rest.length + 1) (edO ss g' (ah ++ [g]) []))[rest.length + 1]? = some (edO ss g' (ah ++ [g]) []) := List.getElem?_set_self hjl
            have sw2 : callN T cf (n + 59) 20 [.ref (rest.length + 1)] (h10.set (rest.length + 1) (edO ss g' (ah ++ [g]) [])) = .ok (.v (filmD g')) (h10.set (rest.length + 1) (edO ss g' (ah ++ [g]) [])) := ed_shown (n := n + 58) hEn
            push_cast [ee, cutT_fv, cutD_fv, b2, hE, mt_cut, ep, hEn, mt_shown, sw2, ix_film tn'.at1, ix_ls tn'.at2, la2, al, os]
            refine ⟨row', ah ++ [g], R.set rest.length (edO ss g' (ah ++ [g]) []), _, _, _, _, _, _, _, _, _, _, hd.set, by rw [← tn'.eg]; exact List.getElem?_set_self hRl, r', by rw [List.length_append, List.length_append]; exact Nat.add_le_add_right hah 1, rfl⟩
    · rintro σ h7 ⟨row, ah, R, s4, s10, s11, s12, s13, s14, s15, s16, s17, s18, hd, hR, r, hah, rfl⟩
      push_cast []
      exact ⟨_, _, _, _, _, _, _, _, _, _, _, _, _, _, _, _, _, _, hd, rfl⟩
  · rintro σ h5 ⟨rest, s2, s3, s4, s5, s6, s7, s8, s9, s10, s11, s12, s13, s14, s15, s16, s17, s18, hd, rfl⟩
    push_cast []
def lev : Nat := 60
theorem law_true : ∀ ns : List Int, ns.length ≤ 63 → ∃ h', callN (tabOf defs) (cfOf cl) lev 109 [.scr ns] [] = .ok (.v (.bl true)) h' := fun ns hl => by
  obtain ⟨r, h, e, rfl⟩ := wpC_ex (law_w (n := 0) hl)
  exact ⟨h, e⟩
end Lw

set_option maxHeartbeats 0
set_option maxHeartbeats 0
open PySem PySem.W PySem.Calls PyProof.Rows
theorem PySem.Challenge.cw_cutlist_k04_put_and_cut_holds : PySem.Challenge.rw_cutlist_k04_put_and_cut.Holds := by
  refine Hd.opened fun said => ?_
  refine HandSHeadRun.head_any (r := OpenLaw.row PySem.Challenge.rw_cutlist_k04_put_and_cut) (q := view (OpenLaw.row PySem.Challenge.rw_cutlist_k04_put_and_cut).prog [69]) (H := Hd.hk) (ob := Hd.ob) (M := 30000) (loose := Hd.names) (d := HandSHeadRun.topDef (OpenLaw.row PySem.Challenge.rw_cutlist_k04_put_and_cut).prog 69) (kwd := []) Hd.ob_eq
    (by kernel_rfl) (fun s => by kernel_rfl) Hd.run (by kernel_rfl) (by kernel_rfl) (by kernel_rfl) (by rfl) (by first | assumption | decide +kernel) (by decide +kernel) Hd.bare ?hw ?hc
  case hw => w_witness2
  case hc =>
    refine L2.walk_ofE (l := PySem.Challenge.rw_cutlist_k04_put_and_cut) (n := 63) (k := 2 * Lw.lev) (x := "_law_script") (CX := L2.CX0) rfl (by decide) (by kernel_rfl) ⟨rfl, by decide, by decide⟩ ?F (fun _ _ _ _ z => z)
    intro w mg fa h Y G hmg0
    obtain ⟨K, KX, c⟩ := Y
    have hmg : mg Lw.D_law.name = some (.ref fa) := by
      have e : (HandSHeadRun.topDef (OpenLaw.row PySem.Challenge.rw_cutlist_k04_put_and_cut).prog 69).name = Lw.D_law.name := by kernel_rfl
      rw [← e]
      exact hmg0
    have e1 : Hd.fa = Pm.faOf Lw.defs Lw.glo Lw.cl := by kernel_rfl
    have e2 : Hd.fn = Lw.defs.map Pm.DefI.d := by kernel_rfl
    rw [e1, e2] at c
    exact Pm.law_end (cl := Lw.cl) (DL := Lw.D_law) (fl := 109) KX G c (by decide +kernel) Lw.q_all Lw.c_all Lw.cl_ok rfl rfl rfl hmg Lw.law_true
