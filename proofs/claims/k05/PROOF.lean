import PyProof.Rows.All
import Wide.All
import OpenK.AllK
import Wide.FinOn
import HandS.ForMost
import HandS.EndTab
import HandS.HeadWalk
import HandS.HeadHook4
import HandS.Head2
import HandS.NestedK
import HandS.Nested
import HandS.Lambda
import HandS.Exc
import HandS.TryOnly
import HandS.WordsExc
import HandS.TupAny
import HandS.TupMul
import HandS.Deep
import HandS.Defaults
import HandS.Style
import HandS.Zip
import HandS.Iter
import KE.GoesNew
import KE.GoesMore
import HandS.NoneIn
import HandS.Text
import HandS.Strs
import HandS.List
import HandS.IsInst
import HandS.Small
import PyProof.ReprRoads
import PyProof.ReprBulk
import KE.KDictZip
import KE.KItemsList
import KE.KDictPairs
import HandS.Call
import PyProof.StrLawsRepr
import PySem.Challenge.RW_notraces_k05_main_whole_rows_and_what_th
section
set_option Elab.async false
set_option linter.all false
set_option maxRecDepth 100000
namespace Mm
open PySem PySem.Spec PyProof.Rows L2 LamX
/-! ## what the head looks at -/
def tyS : Nat → String
  | 0 => "NoneType"
  | 1 => "bool"
  | 2 => "int"
  | 3 => "str"
  | 4 => "list"
  | 5 => "tuple"
  | _ => "dict"
def exW (tf : List He.Defn) (K : PySem.W.Frag) : Bool :=
  (He.eqO (PySem.W.findIn K (.ref (He.ga K "Work")) "__class__") (some (some (.builtin "object.__class__"))) && (He.eqO (PySem.W.specialIn K (.builtin "object.__class__") "__get__") (some (some (.builtin "getset_descriptor.__get__"))) &&
    (decide (PySem.W.takesIn K (.builtin "object.__class__") = some true) && (decide (PySem.W.mroIn K (He.ga K "Work") (.type "object") = some true) && (List.range 7).all fun n => decide (PySem.W.kitOne K (.type (tyS n)) (.ref (He.ga K "Work")) = some false))))) && decide ((tf.map fun p => (He.cT K p).2).Nodup)
end Mm
namespace Mm
open PySem PySem.Spec PyProof.Rows L2 LamX
/-! ## the head's run, in parts -/
theorem some_at {α β : Type} {E : Option α} {f : α → β} {v : β} (h : E.map f = some v) : ∃ s, E = some s ∧ f s = v := by
  cases E with
  | none => cases h
  | some s => exact ⟨s, rfl, Option.some.inj h⟩
theorem map_at {α β : Type} {E : Option α} {s : α} {f : α → β} {v : β} (e : E = some s) (h : E.map f = some v) : f s = v := by
  subst e
  exact Option.some.inj h
theorem obsD_app {f1 f2 : List He.Fa} {n1 n2 : List He.DefD} {K : PySem.W.Frag} (h1 : He.obsD f1 n1 K = He.valD n1) (h2 : He.obsD f2 n2 K = He.valD n2) : He.obsD (f1 ++ f2) (n1 ++ n2) K = He.valD (n1 ++ n2) := by
  unfold He.obsD He.valD at h1 h2 ⊢
  obtain ⟨a1, b1⟩ := Prod.mk.inj h1
  obtain ⟨a2, b2⟩ := Prod.mk.inj h2
  rw [Bool.and_eq_true] at a1 a2
  rw [List.all_append, List.all_append, a1.1, a2.1, a1.2, a2.2, List.map_append, List.map_append, b1, b2]
  rfl
end Mm
namespace Mm
open PySem PySem.Spec PyProof.Rows L2 LamX
/-! ## a Hook that looks at all that stands behind the top -/
def allAt (N : Nat) : List Addr := mainGlobals :: (List.range N).reverse
def frR (N : Nat) (g : Addr → Option Obj) : PySem.W.Frag := He.frT g (allAt N)
abbrev AlR : Type := He.AlD × Bool
def obsR (N : Nat) (fa : List He.Fa) (fn : List He.DefD) (tf : List He.Defn) (ex : PySem.W.Frag → Bool) (g : Addr → Option Obj) : AlR := (He.obsD fa fn (frR N g), ex (frR N g) && He.tabsB g tf (frR N g))
theorem and_two {a b : Bool} (h : (a && b) = true) : a = true ∧ b = true := by simpa using h
theorem saysR {N : Nat} {fa : List He.Fa} {fn : List He.DefD} {tf : List He.Defn} {ex : PySem.W.Frag → Bool} {w : World} {h : Heap} (e : obsR N fa fn tf ex h.get? = (He.valD fn, true)) : He.SaysX fa fn [] tf ex w h (frR N h.get?) := by
  obtain ⟨q1, q2⟩ := Prod.mk.inj e
  obtain ⟨q3, q4⟩ := and_two q2
  have each : ∀ p ∈ tf, PySem.W.codeHdIn (frR N h.get?) (He.cT (frR N h.get?) p).1 (He.cT (frR N h.get?) p).2 = true ∧ ∃ o, h.get? (He.cT (frR N h.get?) p).2 = some o ∧ He.emptyTab o = true := fun p hp => by
    have z := List.all_eq_true.mp q4 p hp
    obtain ⟨z1, z2⟩ := and_two z
    refine ⟨z1, ?_⟩
    cases y : h.get? (He.cT (frR N h.get?) p).2 with
    | none => rw [y] at z2; cases z2
    | some o => rw [y] at z2; exact ⟨o, rfl, z2⟩
  refine ⟨?_, q3, fun p hp => (each p hp).1, fun p hp => ?_, fun p hp => ?_⟩
  · show (He.obsD fa fn (frR N h.get?), []) = (He.valD fn, [])
    rw [q1]
  · obtain ⟨_, o, y, z⟩ := each p hp
    exact He.frT_none y z
  · obtain ⟨_, o, y, z⟩ := each p hp
    rw [y, He.emptyTab_eq z]
def hookR (N : Nat) (fa : List He.Fa) (fn : List He.DefD) (tf : List He.Defn) (ex : PySem.W.Frag → Bool) : PySem.W.Hook where
  α := AlR
  obs := fun s => obsR N fa fn tf ex s.heap.get?
  val := fun _ => (He.valD fn, true)
  says := fun w h => ∃ K : PySem.W.Frag, K.In h ∧ He.SaysX fa fn [] tf ex w h K
  of := fun _ _ e => ⟨_, He.frT_in, saysR e⟩
  keeps := fun _ _ _ ⟨K, hK, c⟩ k => ⟨K, PySem.W.Frag.In.keeps hK k, ⟨c.t, c.more, c.hd, c.out, fun p hp => k _ _ (c.empty p hp)⟩⟩
theorem obsR_eq {N : Nat} {fa : List He.Fa} {fn : List He.DefD} {tf : List He.Defn} {ex : PySem.W.Frag → Bool} {g : Addr → Option Obj} {s : Shared} (h : ∀ a, g a = s.heap.get? a) : obsR N fa fn tf ex g = (hookR N fa fn tf ex).obs s := by
  rw [show g = s.heap.get? from funext h]
  rfl
end Mm
end

section
set_option Elab.async false
set_option linter.all false
set_option maxRecDepth 100000
set_option synthInstance.maxHeartbeats 4000000
set_option synthInstance.maxSize 100000
set_option maxHeartbeats 0
namespace K05
open PySem PySem.Spec PyProof.Rows L2 NdefX LamX Mm
/-! ## the head -/
def top (i : Nat) : Stmt := PySem.Challenge.pw_notraces_k05_main_whole_rows_and_what_th.main.body.getD i (.Pass ⟨0, 0, 0, 0⟩)
def inK (s : Stmt) (j : Nat) : Stmt := match s with
  | .ClassDef _ _ _ body _ _ _ _ _ _ _ => body.getD j (.Pass ⟨0, 0, 0, 0⟩)
  | s => s
def fa0 : List He.Fa := ([.glo "_law_take", .glo "_law_names", .glo "_law_lot", .glo "_law_pick", .glo "_law_work", .glo "_law_drawn", .glo "_law_row", .glo "check_work", .glo "is_tuple_of", .glo "first_wrong", .glo "is_string", .glo "is_one_of", .glo "are_some", .glo "is_marks", .glo "check_marks", .glo "check_marked", .glo "is_whole", .glo "is_between", .glo "is_step", .glo "wrong_step", .glo "is_row", .glo "check_row", .glo "check_asked", .glo "marks_with", .glo "bit_of", .glo "lot_with", .glo "lot_of", .glo "lots_of", .glo "takes_from", .glo "puts_of"] : List He.Fa) ++ ([.glo "uses_of", .glo "is_in_made", .glo "lot_behind", .glo "lots_behind", .glo "lots_along", .glo "marks_behind"] : List He.Fa)
def fa1 : List He.Fa := ([.glo "behind", .glo "is_made_of", .glo "is_name", .glo "wrong_name", .glo "check_tools", .glo "check_stuffs", .glo "is_recipe", .glo "is_recipe_behind", .glo "wrong_recipe", .glo "check_recipes", .glo "is_wash", .glo "is_wash_behind", .glo "wrong_wash", .glo "check_washes", .glo "_law_made", .glo "_law_marks", .glo "stuffs_in", .glo "made_by", .glo "made", .glo "bars_of", .glo "is_foul_by", .glo "foul_stuffs", .glo "first_foul_by", .glo "is_clean", .glo "_law_behind", .glo "_law_gone", .glo "_law_same", .glo "first_foul", .glo "_law_is_told", .glo "_law_right"] : List He.Fa) ++ ([.glo "_law_purse", .glo "law", .free "abs", .free "all", .free "any", .free "bool"] : List He.Fa)
def fa2 : List He.Fa := ([.free "dict", .free "enumerate", .free "int", .free "isinstance", .free "len", .free "max", .free "min", .free "range", .free "repr", .free "sorted", .free "str", .free "sum", .free "tuple", .free "zip", .int "FEWEST_TOOLS" 2, .int "LONGEST_NAME" 8, .str "MAKE" "make", .int "MOST_PRICE" 9, .int "MOST_RECIPES" 6, .int "MOST_STEPS" 60, .int "MOST_STUFFS" 4, .int "MOST_TOOLS" 6, .int "MOST_WASHES" 6, .int "SIZE_OF_RECIPE" 4, .int "SIZE_OF_WASH" 3, .str "SMALL_LETTERS" "abcdefghijklmnopqrstuvwxyz", .str "WASH" "wash", .glo "Work", .cls "Work", .mkr "Work"] : List He.Fa) ++ ([.noat "Work" "tools", .noat "Work" "stuffs", .noat "Work" "recipes", .noat "Work" "washes"] : List He.Fa)
def fa : List He.Fa := fa0 ++ (fa1 ++ (fa2))
def fn0 : List He.DefD := ([⟨("_law_take", none), "_law_take", "_law_take", defArgs (top 83), defBody (top 83), defScope (top 83), [], []⟩,
  ⟨("_law_names", none), "_law_names", "_law_names", defArgs (top 86), defBody (top 86), defScope (top 86), [], []⟩,
  ⟨("_law_lot", none), "_law_lot", "_law_lot", defArgs (top 87), defBody (top 87), defScope (top 87), [], []⟩,
  ⟨("_law_pick", none), "_law_pick", "_law_pick", defArgs (top 84), defBody (top 84), defScope (top 84), [], []⟩,
  ⟨("_law_work", none), "_law_work", "_law_work", defArgs (top 88), defBody (top 88), defScope (top 88), [], []⟩,
  ⟨("_law_drawn", none), "_law_drawn", "_law_drawn", defArgs (top 89), defBody (top 89), defScope (top 89), [], []⟩,
  ⟨("_law_row", none), "_law_row", "_law_row", defArgs (top 91), defBody (top 91), defScope (top 91), [], []⟩,
  ⟨("check_work", none), "check_work", "check_work", defArgs (top 71), defBody (top 71), defScope (top 71), [], []⟩,
  ⟨("is_tuple_of", none), "is_tuple_of", "is_tuple_of", defArgs (top 17), defBody (top 17), defScope (top 17), [], []⟩,
  ⟨("first_wrong", none), "first_wrong", "first_wrong", defArgs (top 19), defBody (top 19), defScope (top 19), [], []⟩,
  ⟨("is_string", none), "is_string", "is_string", defArgs (top 14), defBody (top 14), defScope (top 14), [], []⟩,
  ⟨("is_one_of", none), "is_one_of", "is_one_of", defArgs (top 56), defBody (top 56), defScope (top 56), [], []⟩,
  ⟨("are_some", none), "are_some", "are_some", defArgs (top 57), defBody (top 57), defScope (top 57), [], []⟩,
  ⟨("is_marks", none), "is_marks", "is_marks", defArgs (top 72), defBody (top 72), defScope (top 72), [], []⟩,
  ⟨("check_marks", none), "check_marks", "check_marks", defArgs (top 73), defBody (top 73), defScope (top 73), [], []⟩,
  ⟨("check_marked", none), "check_marked", "check_marked", defArgs (top 75), defBody (top 75), defScope (top 75), [], []⟩,
  ⟨("is_whole", none), "is_whole", "is_whole", defArgs (top 12), defBody (top 12), defScope (top 12), [], []⟩,
  ⟨("is_between", none), "is_between", "is_between", defArgs (top 13), defBody (top 13), defScope (top 13), [], []⟩,
  ⟨("is_step", none), "is_step", "is_step", defArgs (top 24), defBody (top 24), defScope (top 24), [], []⟩,
  ⟨("wrong_step", none), "wrong_step", "wrong_step", defArgs (top 25), defBody (top 25), defScope (top 25), [], []⟩,
  ⟨("is_row", none), "is_row", "is_row", defArgs (top 18), defBody (top 18), defScope (top 18), [], []⟩,
  ⟨("check_row", none), "check_row", "check_row", defArgs (top 26), defBody (top 26), defScope (top 26), [], []⟩,
  ⟨("check_asked", none), "check_asked", "check_asked", defArgs (top 76), defBody (top 76), defScope (top 76), [], []⟩] : List He.DefD)
def fn1 : List He.DefD := ([⟨("marks_with", none), "marks_with", "marks_with", defArgs (top 36), defBody (top 36), defScope (top 36), [], []⟩,
  ⟨("bit_of", none), "bit_of", "bit_of", defArgs (top 32), defBody (top 32), defScope (top 32), [], []⟩,
  ⟨("lot_with", none), "lot_with", "lot_with", defArgs (top 33), defBody (top 33), defScope (top 33), [], []⟩,
  ⟨("lot_of", none), "lot_of", "lot_of", defArgs (top 34), defBody (top 34), defScope (top 34), [], []⟩,
  ⟨("lots_of", none), "lots_of", "lots_of", defArgs (top 35), defBody (top 35), defScope (top 35), [], []⟩,
  ⟨("takes_from", none), "takes_from", "takes_from", defArgs (top 30), defBody (top 30), defScope (top 30), [], []⟩,
  ⟨("puts_of", none), "puts_of", "puts_of", defArgs (top 27), defBody (top 27), defScope (top 27), [], []⟩,
  ⟨("uses_of", none), "uses_of", "uses_of", defArgs (top 28), defBody (top 28), defScope (top 28), [], []⟩,
  ⟨("is_in_made", none), "is_in_made", "is_in_made", defArgs (top 37), defBody (top 37), defScope (top 37), [], []⟩,
  ⟨("lot_behind", none), "lot_behind", "lot_behind", defArgs (top 38), defBody (top 38), defScope (top 38), [], []⟩,
  ⟨("lots_behind", none), "lots_behind", "lots_behind", defArgs (top 40), defBody (top 40), defScope (top 40), [], []⟩,
  ⟨("lots_along", none), "lots_along", "lots_along", defArgs (top 42), defBody (top 42), defScope (top 42), [], []⟩,
  ⟨("marks_behind", none), "marks_behind", "marks_behind", defArgs (top 43), defBody (top 43), defScope (top 43), [], []⟩,
  ⟨("behind", none), "behind", "behind", defArgs (top 77), defBody (top 77), defScope (top 77), [], []⟩,
  ⟨("is_made_of", none), "is_made_of", "is_made_of", defArgs (top 15), defBody (top 15), defScope (top 15), [], []⟩,
  ⟨("is_name", none), "is_name", "is_name", defArgs (top 16), defBody (top 16), defScope (top 16), [], []⟩,
  ⟨("wrong_name", none), "wrong_name", "wrong_name", defArgs (top 62), defBody (top 62), defScope (top 62), [], []⟩,
  ⟨("check_tools", none), "check_tools", "check_tools", defArgs (top 65), defBody (top 65), defScope (top 65), [], []⟩,
  ⟨("check_stuffs", none), "check_stuffs", "check_stuffs", defArgs (top 66), defBody (top 66), defScope (top 66), [], []⟩,
  ⟨("is_recipe", none), "is_recipe", "is_recipe", defArgs (top 58), defBody (top 58), defScope (top 58), [], []⟩,
  ⟨("is_recipe_behind", none), "is_recipe_behind", "is_recipe_behind", defArgs (top 59), defBody (top 59), defScope (top 59), [], []⟩,
  ⟨("wrong_recipe", none), "wrong_recipe", "wrong_recipe", defArgs (top 63), defBody (top 63), defScope (top 63), [], []⟩,
  ⟨("check_recipes", none), "check_recipes", "check_recipes", defArgs (top 67), defBody (top 67), defScope (top 67), [], []⟩] : List He.DefD)
def fn2 : List He.DefD := ([⟨("is_wash", none), "is_wash", "is_wash", defArgs (top 60), defBody (top 60), defScope (top 60), [], []⟩,
  ⟨("is_wash_behind", none), "is_wash_behind", "is_wash_behind", defArgs (top 61), defBody (top 61), defScope (top 61), [], []⟩,
  ⟨("wrong_wash", none), "wrong_wash", "wrong_wash", defArgs (top 64), defBody (top 64), defScope (top 64), [], []⟩,
  ⟨("check_washes", none), "check_washes", "check_washes", defArgs (top 68), defBody (top 68), defScope (top 68), [], []⟩,
  ⟨("Work", some "__init__"), "__init__", "Work.__init__", defArgs (inK (top 69) 0), defBody (inK (top 69) 0), defScope (inK (top 69) 0), [.adr (He.dflAt ("Work", some "__init__") 0)], []⟩,
  ⟨("_law_made", none), "_law_made", "_law_made", defArgs (top 92), defBody (top 92), defScope (top 92), [], []⟩,
  ⟨("_law_marks", none), "_law_marks", "_law_marks", defArgs (top 90), defBody (top 90), defScope (top 90), [], []⟩,
  ⟨("stuffs_in", none), "stuffs_in", "stuffs_in", defArgs (top 44), defBody (top 44), defScope (top 44), [], []⟩,
  ⟨("made_by", none), "made_by", "made_by", defArgs (top 45), defBody (top 45), defScope (top 45), [], []⟩,
  ⟨("made", none), "made", "made", defArgs (top 78), defBody (top 78), defScope (top 78), [], []⟩,
  ⟨("bars_of", none), "bars_of", "bars_of", defArgs (top 29), defBody (top 29), defScope (top 29), [], []⟩,
  ⟨("is_foul_by", none), "is_foul_by", "is_foul_by", defArgs (top 39), defBody (top 39), defScope (top 39), [], []⟩,
  ⟨("foul_stuffs", none), "foul_stuffs", "foul_stuffs", defArgs (top 41), defBody (top 41), defScope (top 41), [], []⟩,
  ⟨("first_foul_by", none), "first_foul_by", "first_foul_by", defArgs (top 46), defBody (top 46), defScope (top 46), [], []⟩,
  ⟨("is_clean", none), "is_clean", "is_clean", defArgs (top 79), defBody (top 79), defScope (top 79), [], []⟩,
  ⟨("_law_behind", none), "_law_behind", "_law_behind", defArgs (top 93), defBody (top 93), defScope (top 93), [], []⟩,
  ⟨("_law_gone", none), "_law_gone", "_law_gone", defArgs (top 94), defBody (top 94), defScope (top 94), [], []⟩,
  ⟨("_law_same", none), "_law_same", "_law_same", defArgs (top 85), defBody (top 85), defScope (top 85), [], []⟩,
  ⟨("first_foul", none), "first_foul", "first_foul", defArgs (top 80), defBody (top 80), defScope (top 80), [], []⟩,
  ⟨("_law_is_told", none), "_law_is_told", "_law_is_told", defArgs (top 95), defBody (top 95), defScope (top 95), [], []⟩,
  ⟨("_law_right", none), "_law_right", "_law_right", defArgs (top 96), defBody (top 96), defScope (top 96), [], []⟩,
  ⟨("_law_purse", none), "_law_purse", "_law_purse", defArgs (top 82), defBody (top 82), defScope (top 82), [], []⟩,
  ⟨("law", none), "law", "law", defArgs (top 97), defBody (top 97), defScope (top 97), [], []⟩] : List He.DefD)
def fn : List He.DefD := fn0 ++ (fn1 ++ (fn2))
def tf : List He.Defn := [("are_some", none), ("wrong_name", none), ("wrong_recipe", none), ("wrong_wash", none)]
abbrev R : PySem.W.OpenRow := PySem.W.OpenLaw.row PySem.Challenge.rw_notraces_k05_main_whole_rows_and_what_th
abbrev qv : Program := PySem.W.view R.prog [97]
def loose : List Str := (["__name__", "TraceError", "InvalidMarks", "NotAWork", "InvalidTools", "InvalidStuffs", "InvalidRecipes", "InvalidWashes", "InvalidRow", "SMALL_LETTERS", "LONGEST_NAME", "is_whole", "is_between", "is_string", "is_made_of", "is_name", "is_tuple_of", "is_row", "first_wrong", "MAKE", "WASH", "MOST_STEPS", "is_step", "wrong_step", "check_row", "puts_of", "uses_of", "bars_of", "takes_from", "bit_of"] : List Str) ++ (["lot_with", "lot_of", "lots_of", "marks_with", "is_in_made", "lot_behind", "is_foul_by", "lots_behind", "foul_stuffs", "lots_along", "marks_behind", "stuffs_in", "made_by", "first_foul_by", "FEWEST_TOOLS", "MOST_TOOLS", "MOST_STUFFS", "MOST_RECIPES", "MOST_WASHES", "MOST_PRICE", "SIZE_OF_RECIPE", "SIZE_OF_WASH", "is_one_of", "are_some", "is_recipe", "is_recipe_behind", "is_wash", "is_wash_behind", "wrong_name", "wrong_recipe"] : List Str) ++ (["wrong_wash", "check_tools", "check_stuffs", "check_recipes", "check_washes", "Work", "parts_of", "check_work", "is_marks", "check_marks", "check_marked", "check_asked", "behind", "made", "is_clean", "first_foul", "_law_purse", "_law_take", "_law_pick", "_law_same", "_law_names", "_law_lot", "_law_work", "_law_drawn", "_law_marks", "_law_row", "_law_made", "_law_behind", "_law_gone", "_law_is_told"] : List Str) ++ (["_law_right"] : List Str)
abbrev hk : PySem.W.Hook := hookR 2000 fa fn tf (exW tf)
def ob (s : PySem.W.SharedT) : AlR := obsR 2000 fa fn tf (exW tf) (HandSHeadRun.getT s)
theorem ob_eq (s : PySem.W.SharedT) : ob s = hk.obs s.abs := obsR_eq (HandSHeadRun.getT_eq s)
/-- the top, run -/
noncomputable abbrev top_end (w : World) (os : OsState) : Option PySem.W.SharedT := HandSHeadRun.endF (HandSHeadRun.stepQ (HandSHeadRun.denQ HandSHeadRun.tabQ) R.prog w) 40000 R.prog w os
/-- what stands behind it -/
def frg (s : PySem.W.SharedT) : PySem.W.Frag := frR 2000 (HandSHeadRun.getT s)
theorem run_a (w : World) (os : OsState) : (top_end w os).map (fun s => (HandSHeadRun.looksF R.prog (PySem.W.boot_heap w.params) s.abs, HandSHeadRun.seenQ qv loose (PySem.importedModules R.prog.main.body) (fun s => PySem.W.xlAt qv [] s && PySem.W.recOk R.toRowW.records s) s.abs, exW tf (frg s) && He.tabsB (HandSHeadRun.getT s) tf (frg s))) = some (true, PySem.W.openGood qv loose, true) := by
  kernel_rfl
theorem run_0 (w : World) (os : OsState) : (top_end w os).map (fun s => He.obsD fa0 fn0 (frg s)) = some (He.valD fn0) := by
  kernel_rfl
theorem run_1 (w : World) (os : OsState) : (top_end w os).map (fun s => He.obsD fa1 fn1 (frg s)) = some (He.valD fn1) := by
  kernel_rfl
theorem run_2 (w : World) (os : OsState) : (top_end w os).map (fun s => He.obsD fa2 fn2 (frg s)) = some (He.valD fn2) := by
  kernel_rfl
theorem run (w : World) : HandSHeadRun.RunEq R qv hk ob 40000 loose w := by
  intro os
  obtain ⟨s, e, ea⟩ := some_at (run_a w os)
  have e0 := map_at e (run_0 w os)
  have e1 := map_at e (run_1 w os)
  have e2 := map_at e (run_2 w os)
  have ed : He.obsD fa fn (frg s) = He.valD fn := (obsD_app e0 (obsD_app e1 e2))
  show (top_end w os).map _ = _
  rw [e]
  obtain ⟨a1, a2⟩ := Prod.mk.inj ea
  obtain ⟨a2, a3⟩ := Prod.mk.inj a2
  show some (_, _, (He.obsD fa fn (frg s), exW tf (frg s) && He.tabsB (HandSHeadRun.getT s) tf (frg s))) = some (true, PySem.W.openGood qv loose, (He.valD fn, true))
  rw [ed, a1, a2, a3]

end K05
end

section
set_option Elab.async false
set_option linter.all false
set_option maxRecDepth 100000
namespace Mm
open PySem PySem.Spec PyProof.Rows L2

/-! ## tuples that are made: known to have no dict -/
section
variable {X : Cx} {es : List Expr} {t : TA} {pos : Pos}
theorem laidX {pins : List (Addr × Obj)} {σ : L2.St} {H : Hp} {s : Shared} {us : List Value} {vs : List V} (I : L2.Inv X pins σ H s) (r : Vals vs us) (hz : vs.length ≤ sizeLine) (tk : Nat) :
    L2.Inv X pins σ (upd H s.heap.objs.size (.frz { cls := .type "tuple", data := .seq us.toArray } (.tup vs))) { s with heap := s.heap.push { cls := .type "tuple", data := .seq us.toArray }, toks := tk } :=
  I.laid (t' := tk) (fun b u e => Heap.get?_push_of_some _ e) (Nat.le_refl _) ⟨Heap.get?_push_size _ rfl, hz, us, r, IsTup.new _ _⟩
/-- Q at every new tuple of vs -/
def NewT (vs : List V) (H : Hp) (Q : VK) : Prop := ∀ (p : Addr) (o : Obj), H p = none → o.dict = none → Q (.ref p) (upd H p (.frz o (.tup vs)))
theorem NewT.ep {pins : List (Addr × Obj)} {σ : L2.St} {H : Hp} {s : Shared} {us : List Value} {vs : List V} {Q : VK} (I : L2.Inv X pins σ H s) (r : Vals vs us) (hz : vs.length ≤ sizeLine) (tk : Nat) (q : NewT vs H Q) :
    EP X pins σ Q (.ref s.heap.objs.size) { s with heap := s.heap.push { cls := .type "tuple", data := .seq us.toArray }, toks := tk } :=
  ⟨.ref s.heap.objs.size, _, laidX I r hz tk, rfl, q _ _ (I.hok.fresh (Nat.le_refl _)) rfl⟩
def tTupX (t : TA) : TE := fun σ H Q => t σ H fun xs H1 => xs.length ≤ sizeLine ∧ NewT xs H1 Q
theorem pe_tupX {x1} (h : PA X es t) : PE X (.Tuple es x1 pos) (tTupX t) :=
  ⟨fun pins s σ H Q I hq => wpAny_Tuple_spliced (thn (h.run pos pins s σ H _ I hq) fun us s1 ⟨xs, H1, I1, r, z, q⟩ => ⟨by rw [← r.length]; exact z, NewT.ep I1 r z s1.toks q⟩)⟩
theorem call_tupleX : CallR X (.type "tuple") (fun xs H Q => ∃ p ys, xs = [.ref p] ∧ ((SqL X.K H p ys ∧ NewT ys H Q) ∨ (SqT X.K H p ys ∧ Q (.ref p) H))) := by
  intro pins s σ H xs us Q I r h
  obtain ⟨p, ys, rfl, h⟩ := h
  obtain ⟨u, rfl, rx⟩ := vals1 r
  cases rx
  rcases h with ⟨hq, q⟩ | ⟨hq, q⟩
  · obtain ⟨its, r', pl, hz⟩ := I.list hq
    have hlen := r'.length
    apply call_tuple_list pl.isList (fun h' kp => ?_) (by simp only [List.size_toArray] <;> omega)
    exact NewT.ep (I.kept (t' := s.toks) kp) r' hz s.toks q
  · obtain ⟨its, r', pl, hz⟩ := I.tuple hq
    exact call_tuple_same pl ⟨.ref p, H, I, rfl, q⟩
/-- t + u: an empty one gives the other itself -/
def rCatX (K : PySem.W.Frag) : R2 := fun x y H Q => ∃ a b xs ys, x = .ref a ∧ y = .ref b ∧ SqT K H a xs ∧ SqT K H b ys ∧ xs.length + ys.length ≤ sizeLine ∧
  (xs = [] → Q (.ref b) H) ∧ (xs ≠ [] → ys = [] → Q (.ref a) H) ∧ (xs ≠ [] → ys ≠ [] → NewT (xs ++ ys) H Q)
theorem op_catX : OpR X (binaryOp .Add) (rCatX X.K) := by
  intro pins s σ H x y v u Q I rx ry h
  obtain ⟨a, b, xs, ys, rfl, rfl, ha, hb, hz, q0, q1, q2⟩ := h
  cases rx
  cases ry
  obtain ⟨its, r1, p1, _⟩ := I.tuple ha
  obtain ⟨its2, r2, p2, _⟩ := I.tuple hb
  by_cases hx : xs = []
  · subst hx
    cases r1
    exact cat_tup0 p1 p2 ⟨.ref b, H, I, rfl, q0 rfl⟩
  · have hx' : its ≠ [] := fun z => hx (r1.nil_iff.mp z)
    apply HT.cat_tup p1 p2 hx' (fun z => ⟨.ref a, H, I, rfl, q1 hx (r2.nil_iff.mp z)⟩) (fun z => ?_) (by rw [← r1.length, ← r2.length]; exact hz)
    exact NewT.ep I (r1.append r2) (by rw [List.length_append]; exact hz) s.toks (q2 hx fun w => z (r2.nil_iff.mpr w))
/-- t[lo:hi]: the whole of it is t itself -/
def rSlX (K : PySem.W.Frag) : V → Option Int → Option Int → Hp → VK → Prop := fun x lo hi H Q => ∃ a xs, x = .ref a ∧ SqT K H a xs ∧
  (HT.sIx xs.length 0 lo = 0 ∧ HT.sIx xs.length xs.length hi = xs.length → Q (.ref a) H) ∧ (¬ (HT.sIx xs.length 0 lo = 0 ∧ HT.sIx xs.length xs.length hi = xs.length) → NewT (cutV xs lo hi) H Q)
theorem sl_tupX : SlR X (rSlX X.K) := by
  intro pins s σ H x v vl vu lo hi sl Q I rx hs pl pu h
  obtain ⟨a, xs, rfl, hx, q1, q2⟩ := h
  by_cases hw : HT.sIx xs.length 0 lo = 0 ∧ HT.sIx xs.length xs.length hi = xs.length
  · exact sl_tupA pins s σ H _ v vl vu lo hi sl Q I rx hs pl pu ⟨a, xs, rfl, hx, q1, fun z => absurd hw z⟩
  · cases rx
    obtain ⟨its, r, ht, hz⟩ := I.tuple hx
    have hlen : its.toArray.size = xs.length := by rw [List.size_toArray]; exact r.length.symm
    refine ⟨"tuple", _, PyProof.Rows.slot_tuple_getitem.lookup, ht.typeIs, ?_⟩
    apply HT.getItem_tuple_cut ht hs pl pu (by rw [hlen]; exact hw) ?_ (by rw [hlen]; exact hz)
    rw [hlen]
    exact NewT.ep I ((r.drop (HT.sIx xs.length 0 lo)).take (HT.sIx xs.length xs.length hi - HT.sIx xs.length 0 lo)) (Nat.le_trans (cutV_length xs lo hi) hz) s.toks (q2 hw)
end
end Mm
end

section
set_option Elab.async false
set_option linter.all false
set_option maxRecDepth 100000
namespace Mm
open PySem PySem.Spec PyProof.Rows L2

/-! ## plain data and the small store -/
inductive PV where
  | non | bl (b : Bool) | int (i : Int) | str (x : Str) | tup (xs : List PV) | lst (xs : List PV)
  | dic (kvs : List (Key × PV)) | ins (c : Nat) (fs : List PV) | scr (xs : List PV)
inductive RV where
  | p (x : PV) | l (n : Nat)
inductive MO where
  | lst (xs : List PV) | dic (kvs : List (Key × PV)) | ins (c : Nat) (fs : List PV)
abbrev Sto := List MO
abbrev MEnv := List (Option RV)
abbrev Ads := List (Option Addr)
instance : Inhabited PV := ⟨.non⟩

inductive Res (α : Type) where
  | ok (x : α) (S : Sto) | exn (c : Nat) (fs : List PV) (S : Sto) | bad
inductive ResS where
  | next (e : MEnv) (S : Sto) | ret (x : RV) (S : Sto) | brk (e : MEnv) (S : Sto) | cnt (e : MEnv) (S : Sto)
  | exn (c : Nat) (fs : List PV) (e : MEnv) (S : Sto) | bad

/-- classes by number: where they stand, their attributes -/
structure GC where
  K : PySem.W.Frag
  cls : Nat → Addr
  flds : Nat → List Str
  T : List (Addr × Str)

/-- a tuple that has no dict of its own -/
def SqX (K : PySem.W.Frag) (H : Hp) (a : Addr) (vs : List V) : Prop :=
  (∃ o : Obj, H a = some (.frz o (.tup vs)) ∧ o.dict = none) ∨ ∃ (o : Obj) (its : Array Value) (n : Nat), K.lookup a = some o ∧ o.cls = .type "tuple" ∧ o.data = .seq its n ∧ its.size ≤ sizeLine ∧ Vals vs its.toList ∧ o.dict = none
theorem SqX.t {K : PySem.W.Frag} {H : Hp} {a : Addr} {vs : List V} (h : SqX K H a vs) : SqT K H a vs := by
  rcases h with ⟨o, h, _⟩ | ⟨o, its, n, h1, h2, h3, h4, h5, _⟩
  · exact .inl (.inr ⟨o, h⟩)
  · exact .inr ⟨o, its, n, h1, h2, h3, h4, h5⟩
mutual
def Is (G : GC) (r : Ads) (H : Hp) : PV → V → Prop
  | .non, v => v = .non
  | .bl b, v => v = .bl b
  | .int i, v => v = .int i
  | .str x, v => v = .str x
  | .tup xs, v => ∃ a vs, v = .ref a ∧ SqX G.K H a vs ∧ IsAll G r H xs vs
  | .lst xs, v => ∃ a vs, v = .ref a ∧ some a ∉ r ∧ H a = some (.lst vs) ∧ IsAll G r H xs vs
  | .scr xs, v => ∃ a vs, v = .ref a ∧ some a ∉ r ∧ SqL G.K H a vs ∧ IsAll G r H xs vs
  | .dic kvs, v => ∃ a ws, v = .ref a ∧ some a ∉ r ∧ H a = some (.dK ws) ∧ IsKv G r H kvs ws
  | .ins c fs, v => ∃ a dx vs, v = .ref a ∧ some a ∉ r ∧ H a = some (.ins (G.cls c) dx ((G.flds c).zip vs)) ∧ vs.length ≤ (G.flds c).length ∧ IsAll G r H fs vs
def IsAll (G : GC) (r : Ads) (H : Hp) : List PV → List V → Prop
  | [], vs => vs = []
  | x :: xs, vs => ∃ v ws, vs = v :: ws ∧ Is G r H x v ∧ IsAll G r H xs ws
def IsKv (G : GC) (r : Ads) (H : Hp) : List (Key × PV) → List (Key × V) → Prop
  | [], ws => ws = []
  | (k, x) :: xs, ws => ∃ v us, ws = (k, v) :: us ∧ Is G r H x v ∧ IsKv G r H xs us
end

def RIs (G : GC) (r : Ads) (H : Hp) : RV → V → Prop
  | .p x, v => Is G r H x v
  | .l n, v => ∃ a, r[n]? = some (some a) ∧ v = .ref a
def RIsAll (G : GC) (r : Ads) (H : Hp) : List RV → List V → Prop
  | [], vs => vs = []
  | x :: xs, vs => ∃ v ws, vs = v :: ws ∧ RIs G r H x v ∧ RIsAll G r H xs ws

def MOk (G : GC) (r : Ads) (H : Hp) (a : Addr) : MO → Prop
  | .lst xs => ∃ vs, H a = some (.lst vs) ∧ IsAll G r H xs vs
  | .dic kvs => ∃ ws, H a = some (.dK ws) ∧ IsKv G r H kvs ws
  | .ins c fs => ∃ dx vs, H a = some (.ins (G.cls c) dx ((G.flds c).zip vs)) ∧ vs.length ≤ (G.flds c).length ∧ IsAll G r H fs vs

/-- all that stood and is not owned stands -/
structure Step (K : PySem.W.Frag) (r : Ads) (H : Hp) (r' : Ads) (H' : Hp) : Prop where
  keep : ∀ b o, H b = some o → some b ∉ r → (∀ ps, o ≠ .tbl ps) → H' b = some o
  tups : ∀ b xs, H b = some (.tup xs) → H' b = some (.tup xs)
  new : ∀ b, some b ∈ r' → some b ∈ r ∨ ((∀ o, H b = some o → ∃ ps, o = .tbl ps) ∧ K.lookup b = none)
structure StepE (K : PySem.W.Frag) (r : Ads) (H : Hp) (r' : Ads) (H' : Hp) : Prop extends Step K r H r' H' where
  pre : ∀ n, n < r.length → r'[n]? = r[n]?
  len : r.length ≤ r'.length

section
variable {K : PySem.W.Frag}
theorem nw {H : Hp} {b : Addr} (h : H b = none) : ∀ o, H b = some o → ∃ ps, o = .tbl ps := fun o e => by rw [h] at e; cases e
theorem Step.refl (r : Ads) (H : Hp) : Step K r H r H := ⟨fun _ _ h _ _ => h, fun _ _ h => h, fun _ h => .inl h⟩
theorem StepE.refl (r : Ads) (H : Hp) : StepE K r H r H := ⟨Step.refl r H, fun _ _ => rfl, Nat.le_refl _⟩
theorem Step.out {r r1 : Ads} {H H1 : Hp} (a : Step K r H r1 H1) {b : Addr} {o : HO} (h : H b = some o) (hb : some b ∉ r) (ht : ∀ ps, o ≠ .tbl ps) : some b ∉ r1 := fun z =>
  (a.new b z).elim hb fun n => (n.1 o h).elim fun ps e => ht ps e
theorem Step.trans {r r1 r2 : Ads} {H H1 H2 : Hp} (a : Step K r H r1 H1) (b : Step K r1 H1 r2 H2) : Step K r H r2 H2 := by
  refine ⟨fun c o h hc ht => b.keep c o (a.keep c o h hc ht) (a.out h hc ht) ht, fun c xs h => b.tups c xs (a.tups c xs h), fun c hc => ?_⟩
  rcases b.new c hc with h1 | ⟨h1, h1k⟩
  · exact a.new c h1
  · by_cases hr : some c ∈ r
    · exact .inl hr
    · refine .inr ⟨fun o e => ?_, h1k⟩
      by_cases ht : ∃ ps, o = .tbl ps
      · exact ht
      · exact h1 o (a.keep c o e hr fun ps z => ht ⟨ps, z⟩)
theorem StepE.trans {r r1 r2 : Ads} {H H1 H2 : Hp} (a : StepE K r H r1 H1) (b : StepE K r1 H1 r2 H2) : StepE K r H r2 H2 :=
  ⟨a.toStep.trans b.toStep, fun n h => (b.pre n (Nat.lt_of_lt_of_le h a.len)).trans (a.pre n h), Nat.le_trans a.len b.len⟩

/-! ### readings stay -/
theorem Step.lst {r r1 : Ads} {H H1 : Hp} (a : Step K r H r1 H1) {c : Addr} {vs : List V} (hc : some c ∉ r) (h : SqL K H c vs) : some c ∉ r1 ∧ SqL K H1 c vs := by
  rcases h with (h | ⟨o, h⟩) | ⟨o, its, n, h, q⟩
  · exact ⟨a.out h hc (fun _ z => by cases z), .inl (.inl (a.keep _ _ h hc fun _ z => by cases z))⟩
  · exact ⟨a.out h hc (fun _ z => by cases z), .inl (.inr ⟨o, a.keep _ _ h hc fun _ z => by cases z⟩)⟩
  · refine ⟨fun z => ?_, .inr ⟨o, its, n, h, q⟩⟩
    rcases a.new c z with q | ⟨_, q⟩
    · exact hc q
    · rw [h] at q; cases q
/-- what is owned is no frozen thing -/
def NoFrz (r : Ads) (H : Hp) : Prop := ∀ b, some b ∈ r → ∀ o u, H b ≠ some (.frz o u)
theorem Step.tup {r r1 : Ads} {H H1 : Hp} (a : Step K r H r1 H1) (ho : NoFrz r H) {c : Addr} {vs : List V} (h : SqT K H c vs) : SqT K H1 c vs := by
  rcases h with (h | ⟨o, h⟩) | h
  · exact .inl (.inl (a.tups _ _ h))
  · refine .inl (.inr ⟨o, a.keep _ _ h (fun z => ho c z o _ h) fun _ z => by cases z⟩)
  · exact .inr h
end
theorem Step.tupX {K : PySem.W.Frag} {r r1 : Ads} {H H1 : Hp} (a : Step K r H r1 H1) (ho : NoFrz r H) {c : Addr} {vs : List V} (h : SqX K H c vs) : SqX K H1 c vs := by
  rcases h with ⟨o, h, q⟩ | h
  · exact .inl ⟨o, a.keep _ _ h (fun z => ho c z o _ h) (fun _ z => by cases z), q⟩
  · exact .inr h
section
variable {G : GC} {r r1 : Ads} {H H1 : Hp}
mutual
theorem Is.step (a : Step G.K r H r1 H1) (ho : NoFrz r H) : ∀ {x : PV} {v : V}, Is G r H x v → Is G r1 H1 x v
  | .non, v, h => h
  | .bl b, v, h => h
  | .int i, v, h => h
  | .str x, v, h => h
  | .tup xs, v, h => by
    unfold Is at h ⊢
    obtain ⟨c, vs, e, q, t⟩ := h
    exact ⟨c, vs, e, a.tupX ho q, IsAll.step a ho t⟩
  | .lst xs, v, h => by
    unfold Is at h ⊢
    obtain ⟨c, vs, e, n, q, t⟩ := h
    exact ⟨c, vs, e, a.out q n (fun _ z => by cases z), a.keep _ _ q n (fun _ z => by cases z), IsAll.step a ho t⟩
  | .scr xs, v, h => by
    unfold Is at h ⊢
    obtain ⟨c, vs, e, n, q, t⟩ := h
    obtain ⟨n', q'⟩ := a.lst n q
    exact ⟨c, vs, e, n', q', IsAll.step a ho t⟩
  | .dic kvs, v, h => by
    unfold Is at h ⊢
    obtain ⟨c, ws, e, n, q, t⟩ := h
    exact ⟨c, ws, e, a.out q n (fun _ z => by cases z), a.keep _ _ q n (fun _ z => by cases z), IsKv.step a ho t⟩
  | .ins k fs, v, h => by
    unfold Is at h ⊢
    obtain ⟨c, dx, vs, e, n, q, l, t⟩ := h
    exact ⟨c, dx, vs, e, a.out q n (fun _ z => by cases z), a.keep _ _ q n (fun _ z => by cases z), l, IsAll.step a ho t⟩
theorem IsAll.step (a : Step G.K r H r1 H1) (ho : NoFrz r H) : ∀ {xs : List PV} {vs : List V}, IsAll G r H xs vs → IsAll G r1 H1 xs vs
  | [], vs, h => h
  | x :: xs, vs, h => by
    unfold IsAll at h ⊢
    obtain ⟨v, ws, e, q, t⟩ := h
    exact ⟨v, ws, e, Is.step a ho q, IsAll.step a ho t⟩
theorem IsKv.step (a : Step G.K r H r1 H1) (ho : NoFrz r H) : ∀ {xs : List (Key × PV)} {vs : List (Key × V)}, IsKv G r H xs vs → IsKv G r1 H1 xs vs
  | [], vs, h => h
  | (k, x) :: xs, vs, h => by
    unfold IsKv at h ⊢
    obtain ⟨v, ws, e, q, t⟩ := h
    exact ⟨v, ws, e, Is.step a ho q, IsKv.step a ho t⟩
end
theorem RIs.step (a : StepE G.K r H r1 H1) (ho : NoFrz r H) {x : RV} {v : V} (h : RIs G r H x v) : RIs G r1 H1 x v := by
  cases x with
  | p x => exact Is.step a.toStep ho h
  | l n =>
    obtain ⟨c, e, q⟩ := h
    refine ⟨c, (a.pre n ?_).trans e, q⟩
    exact (List.getElem?_eq_some_iff.mp e).1
theorem RIsAll.step (a : StepE G.K r H r1 H1) (ho : NoFrz r H) : ∀ {xs : List RV} {vs : List V}, RIsAll G r H xs vs → RIsAll G r1 H1 xs vs
  | [], vs, h => h
  | x :: xs, vs, h => by
    unfold RIsAll at h ⊢
    obtain ⟨v, ws, e, q, t⟩ := h
    exact ⟨v, ws, e, q.step a ho, RIsAll.step a ho t⟩
theorem IsAll.len : ∀ {xs : List PV} {vs : List V}, IsAll G r H xs vs → xs.length = vs.length
  | [], vs, h => by unfold IsAll at h; subst h; rfl
  | x :: xs, vs, h => by
    unfold IsAll at h
    obtain ⟨v, ws, e, q, t⟩ := h
    rw [e, List.length_cons, List.length_cons, IsAll.len t]
theorem RIsAll.len : ∀ {xs : List RV} {vs : List V}, RIsAll G r H xs vs → xs.length = vs.length
  | [], vs, h => by unfold RIsAll at h; subst h; rfl
  | x :: xs, vs, h => by
    unfold RIsAll at h
    obtain ⟨v, ws, e, q, t⟩ := h
    rw [e, List.length_cons, List.length_cons, RIsAll.len t]
theorem IsAll.cons {x : PV} {xs : List PV} {v : V} {vs : List V} : IsAll G r H (x :: xs) (v :: vs) ↔ Is G r H x v ∧ IsAll G r H xs vs := by
  constructor
  · intro h
    unfold IsAll at h
    obtain ⟨v', ws, e, q, t⟩ := h
    cases e
    exact ⟨q, t⟩
  · intro ⟨q, t⟩
    unfold IsAll
    exact ⟨v, vs, rfl, q, t⟩
theorem IsAll.nil : IsAll G r H [] [] := by unfold IsAll; rfl
theorem IsAll.get : ∀ {xs : List PV} {vs : List V} {i : Nat} {v : V}, IsAll G r H xs vs → vs[i]? = some v → ∃ x, xs[i]? = some x ∧ Is G r H x v
  | [], vs, i, v, h, e => by unfold IsAll at h; subst h; simp at e
  | x :: xs, vs, 0, v, h, e => by
    unfold IsAll at h
    obtain ⟨v', ws, rfl, q, t⟩ := h
    simp at e
    subst e
    exact ⟨x, rfl, q⟩
  | x :: xs, vs, i + 1, v, h, e => by
    unfold IsAll at h
    obtain ⟨v', ws, rfl, q, t⟩ := h
    obtain ⟨y, h1, h2⟩ := IsAll.get (i := i) t (by simpa using e)
    exact ⟨y, by simpa using h1, h2⟩
theorem IsAll.get' : ∀ {xs : List PV} {vs : List V} {i : Nat} {x : PV}, IsAll G r H xs vs → xs[i]? = some x → ∃ v, vs[i]? = some v ∧ Is G r H x v
  | [], vs, i, x, h, e => by simp at e
  | y :: xs, vs, 0, x, h, e => by
    unfold IsAll at h
    obtain ⟨v', ws, rfl, q, t⟩ := h
    simp at e
    subst e
    exact ⟨v', rfl, q⟩
  | y :: xs, vs, i + 1, x, h, e => by
    unfold IsAll at h
    obtain ⟨v', ws, rfl, q, t⟩ := h
    obtain ⟨y, h1, h2⟩ := IsAll.get' (i := i) t (by simpa using e)
    exact ⟨y, by simpa using h1, h2⟩
theorem IsAll.append : ∀ {xs ys : List PV} {vs ws : List V}, IsAll G r H xs vs → IsAll G r H ys ws → IsAll G r H (xs ++ ys) (vs ++ ws)
  | [], ys, vs, ws, h, h' => by unfold IsAll at h; subst h; exact h'
  | x :: xs, ys, vs, ws, h, h' => by
    unfold IsAll at h
    obtain ⟨v', us, rfl, q, t⟩ := h
    exact IsAll.cons.mpr ⟨q, IsAll.append t h'⟩
theorem IsAll.drop : ∀ {xs : List PV} {vs : List V} (n : Nat), IsAll G r H xs vs → IsAll G r H (xs.drop n) (vs.drop n)
  | xs, vs, 0, h => h
  | [], vs, n + 1, h => by unfold IsAll at h; subst h; exact IsAll.nil
  | x :: xs, vs, n + 1, h => by
    unfold IsAll at h
    obtain ⟨v', us, rfl, q, t⟩ := h
    exact IsAll.drop n t
theorem IsAll.take : ∀ {xs : List PV} {vs : List V} (n : Nat), IsAll G r H xs vs → IsAll G r H (xs.take n) (vs.take n)
  | xs, vs, 0, h => IsAll.nil
  | [], vs, n + 1, h => by unfold IsAll at h; subst h; exact IsAll.nil
  | x :: xs, vs, n + 1, h => by
    unfold IsAll at h
    obtain ⟨v', us, rfl, q, t⟩ := h
    exact IsAll.cons.mpr ⟨q, IsAll.take n t⟩
theorem IsAll.set : ∀ {xs : List PV} {vs : List V} (n : Nat) {x : PV} {v : V}, IsAll G r H xs vs → Is G r H x v → IsAll G r H (xs.set n x) (vs.set n v)
  | [], vs, n, x, v, h, q => by unfold IsAll at h; subst h; exact IsAll.nil
  | y :: xs, vs, 0, x, v, h, q => by
    unfold IsAll at h
    obtain ⟨v', us, rfl, q', t⟩ := h
    exact IsAll.cons.mpr ⟨q, t⟩
  | y :: xs, vs, n + 1, x, v, h, q => by
    unfold IsAll at h
    obtain ⟨v', us, rfl, q', t⟩ := h
    exact IsAll.cons.mpr ⟨q', IsAll.set n t q⟩
theorem RIsAll.cons {x : RV} {xs : List RV} {v : V} {vs : List V} : RIsAll G r H (x :: xs) (v :: vs) ↔ RIs G r H x v ∧ RIsAll G r H xs vs := by
  constructor
  · intro h
    unfold RIsAll at h
    obtain ⟨v', ws, e, q, t⟩ := h
    cases e
    exact ⟨q, t⟩
  · intro ⟨q, t⟩
    unfold RIsAll
    exact ⟨v, vs, rfl, q, t⟩
theorem RIsAll.nil : RIsAll G r H [] [] := by unfold RIsAll; rfl
theorem RIsAll.get' : ∀ {xs : List RV} {vs : List V} {i : Nat} {x : RV}, RIsAll G r H xs vs → xs[i]? = some x → ∃ v, vs[i]? = some v ∧ RIs G r H x v
  | [], vs, i, x, h, e => by simp at e
  | y :: xs, vs, 0, x, h, e => by
    unfold RIsAll at h
    obtain ⟨v', ws, rfl, q, t⟩ := h
    simp at e
    subst e
    exact ⟨v', rfl, q⟩
  | y :: xs, vs, i + 1, x, h, e => by
    unfold RIsAll at h
    obtain ⟨v', ws, rfl, q, t⟩ := h
    obtain ⟨y, h1, h2⟩ := RIsAll.get' (i := i) t (by simpa using e)
    exact ⟨y, by simpa using h1, h2⟩
end

/-! ## the state -/
/-- what the top wrote is not tracked; no list or tuple is longer than the line -/
structure KF (K : PySem.W.Frag) (H : Hp) : Prop where
  top : ∀ b o, K.lookup b = some o → H b = none
  szL : ∀ a vs, SqL K H a vs → vs.length ≤ sizeLine
  szT : ∀ a vs, SqT K H a vs → vs.length ≤ sizeLine
structure StR0 (G : GC) (r : Ads) (H : Hp) (S : Sto) : Prop where
  len : r.length = S.length
  nd : ∀ (i j : Nat) a, r[i]? = some (some a) → r[j]? = some (some a) → i = j
  obj : ∀ (n : Nat) a, r[n]? = some (some a) → ∃ m, S[n]? = some m ∧ MOk G r H a m
  tabs : LamX.Tabs G.T H
structure StR (G : GC) (r : Ads) (H : Hp) (S : Sto) : Prop extends StR0 G r H S where
  kf : KF G.K H
def EnvOk (G : GC) (r : Ads) (H : Hp) (e : MEnv) (σ : L2.St) : Prop := e.length = σ.length ∧ ∀ (i : Nat) (x : RV), e[i]? = some (some x) → ∃ v, σ[i]? = some (some v) ∧ RIs G r H x v
structure SR (G : GC) (r : Ads) (H : Hp) (S : Sto) (e : MEnv) (σ : L2.St) : Prop where
  st : StR G r H S
  env : EnvOk G r H e σ
theorem MOk.noFrz {G : GC} {r : Ads} {H : Hp} {a : Addr} : ∀ {m : MO}, MOk G r H a m → ∀ o u, H a ≠ some (.frz o u)
  | .lst xs, ⟨vs, h, _⟩, o, u => by rw [h]; intro z; cases z
  | .dic kvs, ⟨ws, h, _⟩, o, u => by rw [h]; intro z; cases z
  | .ins c fs, ⟨dx, vs, h, _⟩, o, u => by rw [h]; intro z; cases z
theorem MOk.noTup {G : GC} {r : Ads} {H : Hp} {a : Addr} : ∀ {m : MO}, MOk G r H a m → ∀ xs, H a ≠ some (.tup xs)
  | .lst xs, ⟨vs, h, _⟩, u => by rw [h]; intro z; cases z
  | .dic kvs, ⟨ws, h, _⟩, u => by rw [h]; intro z; cases z
  | .ins c fs, ⟨dx, vs, h, _⟩, u => by rw [h]; intro z; cases z
theorem MOk.noTbl {G : GC} {r : Ads} {H : Hp} {a : Addr} : ∀ {m : MO}, MOk G r H a m → ∀ xs, H a ≠ some (.tbl xs)
  | .lst xs, ⟨vs, h, _⟩, u => by rw [h]; intro z; cases z
  | .dic kvs, ⟨ws, h, _⟩, u => by rw [h]; intro z; cases z
  | .ins c fs, ⟨dx, vs, h, _⟩, u => by rw [h]; intro z; cases z
theorem MOk.ex {G : GC} {r : Ads} {H : Hp} {a : Addr} : ∀ {m : MO}, MOk G r H a m → ∃ o, H a = some o
  | .lst xs, ⟨vs, h, _⟩ => ⟨_, h⟩
  | .dic kvs, ⟨ws, h, _⟩ => ⟨_, h⟩
  | .ins c fs, ⟨dx, vs, h, _⟩ => ⟨_, h⟩
theorem ads_at {r : Ads} {b : Addr} (h : some b ∈ r) : ∃ n : Nat, r[n]? = some (some b) := by
  obtain ⟨n, hn⟩ := List.mem_iff_getElem?.mp h
  exact ⟨n, hn⟩
theorem StR0.noFrz {G : GC} {r : Ads} {H : Hp} {S : Sto} (s : StR0 G r H S) : NoFrz r H := fun b hb o u => by
  obtain ⟨n, hn⟩ := ads_at hb
  obtain ⟨m, _, q⟩ := s.obj n b hn
  exact q.noFrz o u
end Mm
end

section
set_option Elab.async false
set_option linter.all false
set_option maxRecDepth 100000
namespace Mm
open PySem PySem.Spec PyProof.Rows L2

/-! ## what a mirror promises -/
/-- an error as it lies: its class, its one attribute -/
def ExnIs (G : GC) (r : Ads) (H : Hp) (c : Nat) (fs : List PV) (cls : Value) (d : Option Addr) : Prop :=
  cls = .ref (G.cls c) ∧ ((G.flds c = [] ∧ fs = []) ∨ ∃ dx vs, d = some dx ∧ H dx = some (.xd ((G.flds c).zip vs)) ∧ vs.length = (G.flds c).length ∧ IsAll G r H fs vs)
def ExG (G : GC) (W : WX) (r : Ads) (H : Hp) (e : MEnv) (c : Nat) (fs : List PV) (S' : Sto) : Prop :=
  ∀ r' H' σ' cls d, StepE G.K r H r' H' → StR G r' H' S' → EnvOk G r' H' e σ' → ExnIs G r' H' c fs cls d → W cls d σ' H'
/-- the mirror's outcome, told of every heap that it may stand for -/
def Sat {α β : Type} (R : Ads → Hp → α → β → Prop) (G : GC) (W : WX) (r : Ads) (H : Hp) (e : MEnv) (σ : L2.St) (Q : β → Hp → Prop) : Res α → Prop
  | .ok x S' => ∀ r' H' v, StepE G.K r H r' H' → SR G r' H' S' e σ → R r' H' x v → Q v H'
  | .exn c fs S' => ExG G W r H e c fs S'
  | .bad => False
def rdX {α β : Type} (R : Ads → Hp → α → β → Prop) (G : GC) (W : WX) (m : MEnv → Sto → Res α) : L2.St → Hp → (β → Hp → Prop) → Prop :=
  fun σ H Q => ∃ r S e, SR G r H S e σ ∧ Sat R G W r H e σ Q (m e S)
abbrev RB : Ads → Hp → Bool → Bool → Prop := fun _ _ a b => a = b
abbrev rd (G : GC) (W : WX) (m : MEnv → Sto → Res RV) : TE := rdX (RIs G) G W m
abbrev rdT (G : GC) (W : WX) (m : MEnv → Sto → Res Bool) : TT := rdX RB G W m
abbrev rdA (G : GC) (W : WX) (m : MEnv → Sto → Res (List RV)) : TA := rdX (RIsAll G) G W m
abbrev MExp := MEnv → Sto → Res RV
abbrev MTst := MEnv → Sto → Res Bool
abbrev MArg := MEnv → Sto → Res (List RV)

section
variable {G : GC} {W : WX} {r r1 : Ads} {H H1 : Hp} {e : MEnv} {σ : L2.St} {S S' : Sto}
theorem ExG.step {c : Nat} {fs : List PV} (st : StepE G.K r H r1 H1) (h : ExG G W r H e c fs S') : ExG G W r1 H1 e c fs S' :=
  fun r' H' σ' cls d st' => h r' H' σ' cls d (st.trans st')
theorem Sat.step {α β : Type} {R : Ads → Hp → α → β → Prop} {Q : β → Hp → Prop} {x : Res α} (st : StepE G.K r H r1 H1) (h : Sat R G W r H e σ Q x) : Sat R G W r1 H1 e σ Q x := by
  cases x with
  | ok x S' => exact fun r' H' v st' => h r' H' v (st.trans st')
  | exn c fs S' => exact ExG.step st h
  | bad => exact h
theorem Sat.mono {α β : Type} {R : Ads → Hp → α → β → Prop} {Q Q' : β → Hp → Prop} {x : Res α} (h : Sat R G W r H e σ Q x) (q : ∀ v H', Q v H' → Q' v H') : Sat R G W r H e σ Q' x := by
  cases x with
  | ok x S' => exact fun r' H' v st' s' i => q _ _ (h r' H' v st' s' i)
  | exn c fs S' => exact h
  | bad => exact h
end
def bindM {α β : Type} (m : MEnv → Sto → Res α) (k : α → MEnv → Sto → Res β) : MEnv → Sto → Res β := fun e S =>
  match m e S with
  | .ok x S1 => k x e S1
  | .exn c fs S1 => .exn c fs S1
  | .bad => .bad
section
variable {G : GC} {W : WX} {r : Ads} {H : Hp} {e : MEnv} {σ : L2.St} {S : Sto}
theorem bind_rd {α β γ δ : Type} {R : Ads → Hp → α → β → Prop} {R' : Ads → Hp → γ → δ → Prop} {m : MEnv → Sto → Res α} {k : α → MEnv → Sto → Res γ} {Q : δ → Hp → Prop} {Q1 : β → Hp → Prop}
    (sr : SR G r H S e σ) (h : Sat R' G W r H e σ Q (bindM m k e S))
    (c : ∀ x S1 r1 H1 v1, StepE G.K r H r1 H1 → SR G r1 H1 S1 e σ → R r1 H1 x v1 → Sat R' G W r1 H1 e σ Q (k x e S1) → Q1 v1 H1) : rdX R G W m σ H Q1 := by
  refine ⟨r, S, e, sr, ?_⟩
  unfold bindM at h
  cases hm : m e S with
  | ok x S1 =>
    rw [hm] at h
    exact fun r1 H1 v1 st s1 i => c x S1 r1 H1 v1 st s1 i (h.step st)
  | exn c fs S1 =>
    rw [hm] at h
    exact h
  | bad =>
    rw [hm] at h
    exact h
end

/-! ## rules by readings -/
section
variable {X : Cx}
theorem Inv.kfree {pins : List (Addr × Obj)} {σ : L2.St} {H : Hp} {s : Shared} (I : L2.Inv X pins σ H s) : KF X.K H where
  top := fun b o e => (I.bs b o (I.ok.mod.kin b o e)).2
  szL := fun a vs h => let ⟨_, _, _, z⟩ := I.list h; z
  szT := fun a vs h => let ⟨_, _, _, z⟩ := I.tuple h; z
theorem peI {e : Expr} {t t' : TE} (h : PE X e t) (w : ∀ σ H Q, KF X.K H → t' σ H Q → t σ H (fun v H' => KF X.K H' → Q v H')) : PE X e t' :=
  ⟨fun pins s σ H Q I h' => thn (h.run pins s σ H _ I (w σ H Q (Inv.kfree I) h')) fun u s1 ⟨v, H1, I1, r1, q1⟩ => ⟨v, H1, I1, r1, q1 (Inv.kfree I1)⟩⟩
theorem ptI {e : Expr} {t t' : TT} (h : PT X e t) (w : ∀ σ H Q, KF X.K H → t' σ H Q → t σ H (fun v H' => KF X.K H' → Q v H')) : PT X e t' :=
  ⟨fun pins s σ H Q I h' => thn (h.run pins s σ H _ I (w σ H Q (Inv.kfree I) h')) fun u s1 ⟨H1, I1, q1⟩ => ⟨H1, I1, q1 (Inv.kfree I1)⟩⟩
theorem pwI {e : Expr} {t t' : TT} (h : PW X e t) (w : ∀ σ H Q, KF X.K H → t' σ H Q → t σ H (fun v H' => KF X.K H' → Q v H')) : PW X e t' :=
  ⟨fun wh pins s σ H Q I h' => thn (h.run wh pins s σ H _ I (w σ H Q (Inv.kfree I) h')) fun u s1 ⟨H1, I1, q1⟩ => ⟨H1, I1, q1 (Inv.kfree I1)⟩⟩
theorem paI {es : List Expr} {t t' : TA} (h : PA X es t) (w : ∀ σ H Q, KF X.K H → t' σ H Q → t σ H (fun v H' => KF X.K H' → Q v H')) : PA X es t' :=
  ⟨fun pos pins s σ H Q I h' => thn (h.run pos pins s σ H _ I (w σ H Q (Inv.kfree I) h')) fun u s1 ⟨v, H1, I1, r1, q1⟩ => ⟨v, H1, I1, r1, q1 (Inv.kfree I1)⟩⟩
end

/-! ### names, constants -/
def mVar (i : Nat) : MExp := fun e S => match e[i]? with
  | some (some x) => .ok x S
  | _ => .bad
def mC (x : PV) : MExp := fun _ S => .ok (.p x) S
section
variable {X : Cx} {G : GC} {W : WX}
theorem me_var (i : Nat) {x : Str} {pos : Pos} (hN : X.N[i]? = some x := by rfl) (hv : Vis X.env.scope x := by first | exact Or.inl rfl | exact Or.inr (Or.inl rfl) | exact Or.inr (Or.inr rfl)) (hd : (x == ("__debug__" : Str)) = false := by decide)
    (hcd : (x == ("__classdict__" : Str)) = false := by decide) : PE X (.Name x pos) (rd G W (mVar i)) := by
  refine peI (pe_var hN hv hd hcd) fun σ H Q _ ⟨r, S, e, sr, h⟩ => ?_
  unfold mVar at h
  split at h
  · rename_i x hx
    obtain ⟨v, e1, i1⟩ := sr.env.2 i x hx
    exact ⟨v, e1, fun _ => h r H v (StepE.refl r H) sr i1⟩
  · exact h.elim
theorem me_C {e : Expr} {x : PV} {v : V} (h : PE X e (tC v)) (hi : ∀ r H, Is G r H x v) : PE X e (rd G W (mC x)) :=
  peI h fun σ H Q _ ⟨r, S, e, sr, h⟩ _ => h r H v (StepE.refl r H) sr (hi r H)
theorem me_int {i j pos} : PE X (.Constant (.int i) j pos) (rd G W (mC (.int i))) := me_C pe_int fun _ _ => by unfold Is; rfl
theorem me_bl {b j pos} : PE X (.Constant (.bool b) j pos) (rd G W (mC (.bl b))) := me_C pe_bl fun _ _ => by unfold Is; rfl
theorem me_non {j pos} : PE X (.Constant .none j pos) (rd G W (mC .non)) := me_C pe_non fun _ _ => by unfold Is; rfl
theorem me_str {x j pos} : PE X (.Constant (.str x) j pos) (rd G W (mC (.str x))) := me_C pe_str fun _ _ => by unfold Is; rfl
theorem me_gint {x : Str} {i : Int} {pos : Pos} (hg : Gl X x) (hm : ∃ t, X.mg x = some (.int i t)) (hd : (x == ("__debug__" : Str)) = false := by decide) : PE X (.Name x pos) (rd G W (mC (.int i))) := by
  obtain ⟨t, hm⟩ := hm
  exact me_C (pe_glob (v := .int i) hg hm ⟨t, rfl⟩ hd) fun _ _ => by unfold Is; rfl
theorem me_gstr {x z : Str} {pos : Pos} (hg : Gl X x) (hm : ∃ t, X.mg x = some (.str z t)) (hd : (x == ("__debug__" : Str)) = false := by decide) : PE X (.Name x pos) (rd G W (mC (.str z))) := by
  obtain ⟨t, hm⟩ := hm
  exact me_C (pe_glob (v := .str z) hg hm ⟨t, rfl⟩ hd) fun _ _ => by unfold Is; rfl
end

/-! ### operations on values: a plain function -/
/-- f on plain values, without a change: none where it is not served -/
abbrev F2 := PV → PV → Option PV
def mOp2 (f : F2) (ma mb : MExp) : MExp := bindM ma fun x => bindM mb fun y e S =>
  match x, y with
  | .p x, .p y => (match f x y with
    | some z => .ok (.p z) S
    | none => .bad)
  | _, _ => .bad
/-- a rule of values serves f -/
def Serves2 (G : GC) (t : R2) (f : F2) : Prop := ∀ (r : Ads) (H : Hp) (S : Sto) (x y z : PV) (v w : V) (Q : VK), StR G r H S → Is G r H x v → Is G r H y w → f x y = some z →
  (∀ u H', (H' = H ∨ ∃ p o, H p = none ∧ (∀ ps, o ≠ .tbl ps) ∧ H' = upd H p o) → Is G r H' z u → Q u H') → t v w H Q
section
variable {X : Cx} {G : GC} {W : WX}
/-- one thing is laid that nobody owns -/
theorem Step.laid {K : PySem.W.Frag} {r : Ads} {H : Hp} {p : Addr} {o : HO} (h : H p = none) : Step K r H r (upd H p o) :=
  ⟨fun b u e _ _ => by rw [upd_ne (ne_of_none e h)]; exact e, fun b xs e => by rw [upd_ne (ne_of_none e h)]; exact e, fun _ h => .inl h⟩
theorem StepE.laid {K : PySem.W.Frag} {r : Ads} {H : Hp} {p : Addr} {o : HO} (h : H p = none) : StepE K r H r (upd H p o) := ⟨Step.laid h, fun _ _ => rfl, Nat.le_refl _⟩
theorem IsKv.len {r : Ads} {H : Hp} : ∀ {xs : List (Key × PV)} {vs : List (Key × V)}, IsKv G r H xs vs → xs.length = vs.length
  | [], vs, h => by unfold IsKv at h; subst h; rfl
  | (k, x) :: xs, vs, h => by
    unfold IsKv at h
    obtain ⟨v, ws, e, q, t⟩ := h
    rw [e, List.length_cons, List.length_cons, IsKv.len t]
/-- the owned objects stay as they were where the heap grows elsewhere -/
theorem MOk.step {r r1 : Ads} {H H1 : Hp} {a : Addr} (st : StepE G.K r H r1 H1) (nf : NoFrz r H) (ha : H1 a = H a) : ∀ {m : MO}, MOk G r H a m → MOk G r1 H1 a m
  | .lst xs, ⟨vs, h, q⟩ => ⟨vs, by rw [ha]; exact h, q.step st.toStep nf⟩
  | .dic kvs, ⟨ws, h, q⟩ => ⟨ws, by rw [ha]; exact h, q.step st.toStep nf⟩
  | .ins c fs, ⟨dx, vs, h, l, q⟩ => ⟨dx, vs, by rw [ha]; exact h, l, q.step st.toStep nf⟩
theorem Tabs.laid {T : List (Addr × Str)} {H : Hp} {p : Addr} {o : HO} (t : LamX.Tabs T H) (h : H p = none) : LamX.Tabs T (upd H p o) :=
  t.ext fun b u e => by rw [upd_ne (ne_of_none e h)]; exact e
theorem StR.laid {r : Ads} {H : Hp} {S : Sto} {p : Addr} {o : HO} (s : StR G r H S) (h : H p = none) (kf : KF G.K (upd H p o)) : StR G r (upd H p o) S :=
  ⟨⟨s.len, s.nd, fun n a ha => by
    obtain ⟨m, hm, q⟩ := s.obj n a ha
    obtain ⟨u, hu⟩ := q.ex
    exact ⟨m, hm, q.step (StepE.laid h) s.noFrz (by rw [upd_ne (ne_of_none hu h)])⟩, Tabs.laid s.tabs h⟩, kf⟩
theorem EnvOk.step {r r1 : Ads} {H H1 : Hp} {e : MEnv} {σ : L2.St} (v : EnvOk G r H e σ) (st : StepE G.K r H r1 H1) (nf : NoFrz r H) : EnvOk G r1 H1 e σ :=
  ⟨v.1, fun i x h => let ⟨w, h1, h2⟩ := v.2 i x h; ⟨w, h1, h2.step st nf⟩⟩
theorem SR.laid {r : Ads} {H : Hp} {S : Sto} {e : MEnv} {σ : L2.St} {p : Addr} {o : HO} (s : SR G r H S e σ) (h : H p = none) (kf : KF G.K (upd H p o)) : SR G r (upd H p o) S e σ :=
  ⟨s.st.laid h kf, s.env.step (StepE.laid h) s.st.noFrz⟩
theorem op2_sim {t : R2} {f : F2} (sv : Serves2 G t f) {ma mb : MExp} {σ : L2.St} {H : Hp} {Q : VK} (h : rd G W (mOp2 f ma mb) σ H Q) : tOp t (rd G W ma) (rd G W mb) σ H (fun v H' => KF G.K H' → Q v H') := by
  obtain ⟨r, S, e, sr, h⟩ := h
  refine bind_rd sr h fun x S1 r1 H1 v1 st1 sr1 i1 h1 => ?_
  refine bind_rd sr1 h1 fun y S2 r2 H2 v2 st2 sr2 i2 h2 => ?_
  have i1' := i1.step st2 sr1.st.noFrz
  cases x with
  | l n => exact h2.elim
  | p x =>
    cases y with
    | l n => exact h2.elim
    | p y =>
      dsimp only at h2
      cases hf : f x y with
      | none => rw [hf] at h2; exact h2.elim
      | some z =>
        rw [hf] at h2
        refine sv r2 H2 S2 x y z v1 v2 _ sr2.st i1' i2 hf fun u H' hh iz kf => ?_
        rcases hh with rfl | ⟨p, o, hp, ho, rfl⟩
        · exact h2 r2 _ u (StepE.refl _ _) sr2 iz
        · exact h2 r2 _ u (StepE.laid hp) (sr2.laid hp kf) iz
theorem me_op {op : Operator} {t : R2} {f : F2} {a b : Expr} {ma mb : MExp} {pos : Pos} (hG : X.K = G.K) (ho : OpR X (binaryOp op) t) (sv : Serves2 G t f) (ha : PE X a (rd G W ma)) (hb : PE X b (rd G W mb)) : PE X (.BinOp a op b pos) (rd G W (mOp2 f ma mb)) :=
  peI (pe_op ho ha hb) fun σ H Q _ h => by rw [hG]; exact op2_sim sv h
end
end Mm
end

section
set_option Elab.async false
set_option linter.all false
set_option maxRecDepth 100000
namespace Mm
open PySem PySem.Spec PyProof.Rows L2

/-! ### data of the library -/
mutual
def PV.D : PV → PyData
  | .non => .none
  | .bl b => .bool b
  | .int i => .int i
  | .str x => .str x
  | .tup xs => .tuple (PV.Ds xs)
  | .lst xs => .list (PV.Ds xs)
  | .scr xs => .list (PV.Ds xs)
  | .dic _ => .dict []
  | .ins _ _ => .dict []
def PV.Ds : List PV → List PyData
  | [] => []
  | x :: xs => PV.D x :: PV.Ds xs
end
def shp (x : PV) : Bool := SeqAt.shaped x.D
theorem Ds_map : ∀ xs : List PV, PV.Ds xs = xs.map PV.D
  | [] => by simp [PV.Ds]
  | x :: xs => by simp [PV.Ds, Ds_map xs]
section
variable {G : GC} {r : Ads} {H : Hp}
mutual
theorem Is.dp : ∀ {x : PV} {v : V}, Is G r H x v → x.D.canLay0 = true → Dp G.K H v x.D
  | .non, v, h, _ => by unfold Is at h; subst h; unfold PV.D; exact .non
  | .bl b, v, h, _ => by unfold Is at h; subst h; unfold PV.D; exact .bl b
  | .int b, v, h, _ => by unfold Is at h; subst h; unfold PV.D; exact .int b
  | .str b, v, h, _ => by unfold Is at h; subst h; unfold PV.D; exact .str b
  | .tup xs, v, h, c => by
    unfold Is at h
    obtain ⟨a, vs, rfl, q, t⟩ := h
    unfold PV.D at c ⊢
    exact .tup q.t (IsAll.dp t (by simpa [PyData.canLay0] using c))
  | .lst xs, v, h, c => by
    unfold Is at h
    obtain ⟨a, vs, rfl, _, q, t⟩ := h
    unfold PV.D at c ⊢
    exact .lst (SqL.of q) (IsAll.dp t (by simpa [PyData.canLay0] using c))
  | .scr xs, v, h, c => by
    unfold Is at h
    obtain ⟨a, vs, rfl, _, q, t⟩ := h
    unfold PV.D at c ⊢
    exact .lst q (IsAll.dp t (by simpa [PyData.canLay0] using c))
  | .dic xs, v, h, c => by unfold PV.D at c; simp [PyData.canLay0] at c
  | .ins k xs, v, h, c => by unfold PV.D at c; simp [PyData.canLay0] at c
theorem IsAll.dp : ∀ {xs : List PV} {vs : List V}, IsAll G r H xs vs → PyData.canLayAll0 (PV.Ds xs) = true → DpAll G.K H vs (PV.Ds xs)
  | [], vs, h, _ => by unfold IsAll at h; subst h; unfold PV.Ds; exact .nil
  | x :: xs, vs, h, c => by
    unfold IsAll at h
    obtain ⟨v, ws, rfl, q, t⟩ := h
    unfold PV.Ds at c ⊢
    have c' : x.D.canLay0 = true ∧ PyData.canLayAll0 (PV.Ds xs) = true := by simpa [PyData.canLayAll0] using c
    exact .cons (Is.dp q c'.1) (IsAll.dp t c'.2)
end
theorem Is.dps {x : PV} {v : V} (h : Is G r H x v) (s : shp x = true) : Dp G.K H v x.D := h.dp (SeqAt.canLay_of_shaped s)
end

/-! ### flat values -/
def PV.flat : PV → Option V
  | .non => some .non
  | .bl b => some (.bl b)
  | .int i => some (.int i)
  | .str x => some (.str x)
  | _ => none
def flats : List PV → Option (List V)
  | [] => some []
  | x :: xs => match x.flat, flats xs with
    | some v, some vs => some (v :: vs)
    | _, _ => none
section
variable {G : GC} {r : Ads} {H : Hp}
theorem Is.flat {x : PV} {v w : V} (h : Is G r H x v) (f : x.flat = some w) : v = w ∧ flatV w = true := by
  cases x with
  | non => unfold Is at h; cases f; exact ⟨h, rfl⟩
  | bl b => unfold Is at h; cases f; exact ⟨h, rfl⟩
  | int b => unfold Is at h; cases f; exact ⟨h, rfl⟩
  | str b => unfold Is at h; cases f; exact ⟨h, rfl⟩
  | _ => cases f
theorem IsAll.flats : ∀ {xs : List PV} {vs ws : List V}, IsAll G r H xs vs → flats xs = some ws → vs = ws ∧ ws.all flatV = true
  | [], vs, ws, h, f => by unfold IsAll at h; unfold Mm.flats at f; cases f; exact ⟨h, rfl⟩
  | x :: xs, vs, ws, h, f => by
    unfold IsAll at h
    obtain ⟨v, us, rfl, q, t⟩ := h
    unfold Mm.flats at f
    cases e1 : x.flat with
    | none => rw [e1] at f; cases f
    | some w =>
      cases e2 : Mm.flats xs with
      | none => rw [e1, e2] at f; cases f
      | some w2 =>
        rw [e1, e2] at f
        cases f
        obtain ⟨h1, h2⟩ := q.flat e1
        obtain ⟨h3, h4⟩ := IsAll.flats t e2
        refine ⟨by rw [h1, h3], ?_⟩
        rw [List.all_cons, h2, h4]
        rfl
end

/-! ### the operators -/
def fInt (g : Int → Int → Int) : F2
  | .int i, .int j => some (.int (g i j))
  | _, _ => none
def fIntC (c : Int → Int → Bool) (g : Int → Int → Int) : F2
  | .int i, .int j => if c i j then some (.int (g i j)) else none
  | _, _ => none
theorem sv_int {G : GC} (g : Int → Int → Int) : Serves2 G (rI0 fun i j => .int (g i j)) (fInt g) := by
  intro r H S x y z v w Q st hx hy hf k
  cases x <;> cases y <;> first | (unfold fInt at hf; cases hf; done) | skip
  rename_i i j
  unfold Is at hx hy
  subst hx hy
  cases hf
  exact ⟨i, j, rfl, rfl, k _ H (.inl rfl) (by unfold Is; rfl)⟩
theorem sv_intC {G : GC} {C : Int → Int → Prop} {c : Int → Int → Bool} (g : Int → Int → Int) (hc : ∀ i j, c i j = true → C i j) : Serves2 G (rI C fun i j => .int (g i j)) (fIntC c g) := by
  intro r H S x y z v w Q st hx hy hf k
  cases x <;> cases y <;> first | (unfold fIntC at hf; cases hf; done) | skip
  rename_i i j
  unfold Is at hx hy
  subst hx hy
  have hf : (if c i j = true then some (PV.int (g i j)) else none) = some z := hf
  split at hf
  · rename_i h
    cases hf
    exact ⟨i, j, rfl, rfl, hc i j h, k _ H (.inl rfl) (by unfold Is; rfl)⟩
  · cases hf
theorem Serves2.or {G : GC} {t t' : R2} {f f' g : F2} (h : Serves2 G t f) (h' : Serves2 G t' f') (hg : ∀ x y z, g x y = some z → f x y = some z ∨ f' x y = some z) : Serves2 G (fun x y H Q => t x y H Q ∨ t' x y H Q) g := by
  intro r H S x y z v w Q st hx hy hf k
  rcases hg x y z hf with q | q
  · exact .inl (h r H S x y z v w Q st hx hy q k)
  · exact .inr (h' r H S x y z v w Q st hx hy q k)
def fCatS : F2
  | .str a, .str b => if a.length + b.length ≤ sizeLine then some (.str (a ++ b)) else none
  | _, _ => none
def fCatT : F2
  | .tup a, .tup b => if a.length + b.length ≤ sizeLine then some (.tup (a ++ b)) else none
  | _, _ => none
def fCatL : F2
  | .lst a, .lst b => if a.length + b.length ≤ sizeLine then some (.lst (a ++ b)) else none
  | _, _ => none
theorem sv_catS {G : GC} : Serves2 G (fun x y H Q => ∃ i j, x = .str i ∧ y = .str j ∧ i.length + j.length ≤ sizeLine ∧ Q (.str (i ++ j)) H) fCatS := by
  intro r H S x y z v w Q st hx hy hf k
  cases x <;> cases y <;> first | (unfold fCatS at hf; cases hf; done) | skip
  rename_i i j
  unfold Is at hx hy
  subst hx hy
  have hf : (if i.length + j.length ≤ sizeLine then some (PV.str (i ++ j)) else none) = some z := hf
  split at hf
  · rename_i h
    cases hf
    exact ⟨i, j, rfl, rfl, h, k _ H (.inl rfl) (by unfold Is; rfl)⟩
  · cases hf
/-- an address that is new is nobody's -/
theorem StR0.fresh {G : GC} {r : Ads} {H : Hp} {S : Sto} (s : StR0 G r H S) {p : Addr} (h : H p = none) : some p ∉ r := fun z => by
  obtain ⟨n, hn⟩ := ads_at z
  obtain ⟨m, _, q⟩ := s.obj n p hn
  obtain ⟨o, ho⟩ := q.ex
  rw [h] at ho
  cases ho
theorem IsAll.laid {G : GC} {r : Ads} {H : Hp} {S : Sto} (s : StR0 G r H S) {p : Addr} {o : HO} (h : H p = none) {xs : List PV} {vs : List V} (i : IsAll G r H xs vs) : IsAll G r (upd H p o) xs vs := i.step (Step.laid h) s.noFrz
theorem Is.laid {G : GC} {r : Ads} {H : Hp} {S : Sto} (s : StR0 G r H S) {p : Addr} {o : HO} (h : H p = none) {x : PV} {v : V} (i : Is G r H x v) : Is G r (upd H p o) x v := i.step (Step.laid h) s.noFrz
theorem is_tupN {G : GC} {r : Ads} {H : Hp} {S : Sto} (s : StR0 G r H S) {p : Addr} (h : H p = none) {xs : List PV} {vs : List V} {o : Obj} (ho : o.dict = none) (i : IsAll G r H xs vs) : Is G r (upd H p (.frz o (.tup vs))) (.tup xs) (.ref p) := by
  unfold Is
  exact ⟨p, vs, rfl, .inl ⟨o, upd_same, ho⟩, IsAll.laid s h i⟩
theorem noF {p : Array Value} {o : Obj} {u : HO} : HO.frz o u ≠ .tbl p := by intro z; cases z
theorem is_lstN {G : GC} {r : Ads} {H : Hp} {S : Sto} (s : StR0 G r H S) {p : Addr} (h : H p = none) {xs : List PV} {vs : List V} (i : IsAll G r H xs vs) : Is G r (upd H p (.lst vs)) (.lst xs) (.ref p) := by
  unfold Is
  exact ⟨p, vs, rfl, s.fresh h, upd_same, IsAll.laid s h i⟩
theorem noT {p : Array Value} {xs : List V} : HO.tup xs ≠ .tbl p := by intro z; cases z
theorem noL {p : Array Value} {xs : List V} : HO.lst xs ≠ .tbl p := by intro z; cases z
theorem sv_catT {G : GC} : Serves2 G (rCatX G.K) fCatT := by
  intro r H S x y z v w Q st hx hy hf k
  cases x <;> cases y <;> first | (unfold fCatT at hf; cases hf; done) | skip
  rename_i xs ys
  have hx0 := hx
  have hy0 := hy
  unfold Is at hx hy
  obtain ⟨a, vs, rfl, q1, t1⟩ := hx
  obtain ⟨b, ws, rfl, q2, t2⟩ := hy
  have hf : (if xs.length + ys.length ≤ sizeLine then some (PV.tup (xs ++ ys)) else none) = some z := hf
  split at hf
  · rename_i h
    cases hf
    have l1 := t1.len
    have l2 := t2.len
    refine ⟨a, b, vs, ws, rfl, rfl, q1.t, q2.t, by omega, fun e => k _ H (.inl rfl) ?_, fun _ e => k _ H (.inl rfl) ?_, fun _ _ p o hp ho => k _ _ (.inr ⟨p, _, hp, fun _ => noF, rfl⟩) (is_tupN st.toStR0 hp ho (t1.append t2))⟩
    · subst e
      have : xs = [] := List.eq_nil_of_length_eq_zero l1
      subst this
      exact hy0
    · subst e
      have : ys = [] := List.eq_nil_of_length_eq_zero l2
      subst this
      rw [List.append_nil]
      exact hx0
  · cases hf
theorem sv_catL {G : GC} : Serves2 G rCat fCatL := by
  intro r H S x y z v w Q st hx hy hf k
  cases x <;> cases y <;> first | (unfold fCatL at hf; cases hf; done) | skip
  rename_i xs ys
  unfold Is at hx hy
  obtain ⟨a, vs, rfl, _, q1, t1⟩ := hx
  obtain ⟨b, ws, rfl, _, q2, t2⟩ := hy
  have hf : (if xs.length + ys.length ≤ sizeLine then some (PV.lst (xs ++ ys)) else none) = some z := hf
  split at hf
  · rename_i h
    cases hf
    have l1 := t1.len
    have l2 := t2.len
    exact ⟨a, b, vs, ws, rfl, rfl, q1, q2, by omega, fun p hp => k _ _ (.inr ⟨p, _, hp, fun _ => noL, rfl⟩) (is_lstN st.toStR0 hp (t1.append t2))⟩
  · cases hf
/-- + -/
def fAdd : F2
  | .int i, .int j => some (.int (i + j))
  | .str a, .str b => if a.length + b.length ≤ sizeLine then some (.str (a ++ b)) else none
  | .tup a, .tup b => if a.length + b.length ≤ sizeLine then some (.tup (a ++ b)) else none
  | .lst a, .lst b => if a.length + b.length ≤ sizeLine then some (.lst (a ++ b)) else none
  | _, _ => none
theorem sv_add {G : GC} : Serves2 G (fun x y H Q => rI0 (fun i j => .int (i + j)) x y H Q ∨ ((∃ i j, x = .str i ∧ y = .str j ∧ i.length + j.length ≤ sizeLine ∧ Q (.str (i ++ j)) H) ∨ (rCatX G.K x y H Q ∨ rCat x y H Q))) fAdd := by
  refine (sv_int fun i j => i + j).or (sv_catS.or (sv_catT.or sv_catL (g := fun x y => match x, y with | .tup a, .tup b => fCatT (.tup a) (.tup b) | x, y => fCatL x y) fun x y z h => ?_) (g := fun x y => match x, y with | .str a, .str b => fCatS (.str a) (.str b) | .tup a, .tup b => fCatT (.tup a) (.tup b) | x, y => fCatL x y) fun x y z h => ?_) fun x y z h => ?_
  · cases x <;> cases y <;> first | exact .inl h | exact .inr h
  · cases x <;> cases y <;> first | exact .inl h | exact .inr h
  · cases x <;> cases y <;> first | exact .inl h | exact .inr h
section
variable {X : Cx}
theorem ox_add {G : GC} (hG : X.K = G.K) : OpR X (binaryOp .Add) (fun x y H Q => rI0 (fun i j => .int (i + j)) x y H Q ∨ ((∃ i j, x = .str i ∧ y = .str j ∧ i.length + j.length ≤ sizeLine ∧ Q (.str (i ++ j)) H) ∨ (rCatX G.K x y H Q ∨ rCat x y H Q))) := by
  rw [← hG]
  exact op_add.or (op_add_str.or (op_catX.or op_cat))
variable {G : GC} {W : WX} {a b : Expr} {ma mb : MExp} {pos : Pos}
theorem me_add (hG : X.K = G.K) (ha : PE X a (rd G W ma)) (hb : PE X b (rd G W mb)) : PE X (.BinOp a .Add b pos) (rd G W (mOp2 fAdd ma mb)) := me_op hG (ox_add hG) sv_add ha hb
theorem me_sub (hG : X.K = G.K) (ha : PE X a (rd G W ma)) (hb : PE X b (rd G W mb)) : PE X (.BinOp a .Sub b pos) (rd G W (mOp2 (fInt fun i j => i - j) ma mb)) := me_op hG op_sub (sv_int _) ha hb
def cMul (i j : Int) : Bool := (decide (-(2 ^ 64) < i) && decide (i < 2 ^ 64)) || (decide (-(2 ^ 64) < j) && decide (j < 2 ^ 64))
theorem me_mul (hG : X.K = G.K) (ha : PE X a (rd G W ma)) (hb : PE X b (rd G W mb)) : PE X (.BinOp a .Mult b pos) (rd G W (mOp2 (fIntC cMul fun i j => i * j) ma mb)) :=
  me_op hG op_mul (sv_intC _ fun i j h => by
    unfold cMul at h
    simp only [Bool.or_eq_true, Bool.and_eq_true, decide_eq_true_eq] at h
    exact h) ha hb
def cDiv (i j : Int) : Bool := decide (0 < j) && decide (j < 1073741824)
theorem me_fdiv (hG : X.K = G.K) (ha : PE X a (rd G W ma)) (hb : PE X b (rd G W mb)) : PE X (.BinOp a .FloorDiv b pos) (rd G W (mOp2 (fIntC cDiv fun i j => i / j) ma mb)) :=
  me_op hG op_fdiv (sv_intC _ fun i j h => by
    unfold cDiv at h
    simp only [Bool.and_eq_true, decide_eq_true_eq] at h
    exact h) ha hb
theorem me_mod (hG : X.K = G.K) (ha : PE X a (rd G W ma)) (hb : PE X b (rd G W mb)) : PE X (.BinOp a .Mod b pos) (rd G W (mOp2 (fIntC (fun _ j => decide (0 < j)) fun i j => i % j) ma mb)) :=
  me_op hG op_mod (sv_intC _ fun i j h => of_decide_eq_true h) ha hb
def cPow (i j : Int) : Bool := decide (0 ≤ j) && decide (j ≤ 1000000) && decide (i.natAbs < 2 ^ 64)
theorem cPow_ok (i j : Int) (h : cPow i j = true) : CPow i j := by
  unfold cPow at h
  simp only [Bool.and_eq_true, decide_eq_true_eq] at h
  exact ⟨h.1.1, h.1.2, h.2⟩
theorem me_pow (hG : X.K = G.K) (ha : PE X a (rd G W ma)) (hb : PE X b (rd G W mb)) : PE X (.BinOp a .Pow b pos) (rd G W (mOp2 (fIntC cPow fun i j => i ^ j.toNat) ma mb)) := me_op hG op_pow (sv_intC _ cPow_ok) ha hb
theorem me_shl (hG : X.K = G.K) (ha : PE X a (rd G W ma)) (hb : PE X b (rd G W mb)) : PE X (.BinOp a .LShift b pos) (rd G W (mOp2 (fIntC cPow fun i j => i * 2 ^ j.toNat) ma mb)) := me_op hG op_shl (sv_intC _ cPow_ok) ha hb
theorem me_shr (hG : X.K = G.K) (ha : PE X a (rd G W ma)) (hb : PE X b (rd G W mb)) : PE X (.BinOp a .RShift b pos) (rd G W (mOp2 (fIntC (fun _ j => decide (0 ≤ j)) fun i j => i / 2 ^ j.toNat) ma mb)) :=
  me_op hG op_shr (sv_intC _ fun i j h => of_decide_eq_true h) ha hb
theorem me_and (hG : X.K = G.K) (ha : PE X a (rd G W ma)) (hb : PE X b (rd G W mb)) : PE X (.BinOp a .BitAnd b pos) (rd G W (mOp2 (fInt Builtin.bitAnd) ma mb)) := me_op hG op_and (sv_int _) ha hb
theorem me_or (hG : X.K = G.K) (ha : PE X a (rd G W ma)) (hb : PE X b (rd G W mb)) : PE X (.BinOp a .BitOr b pos) (rd G W (mOp2 (fInt Builtin.bitOr) ma mb)) := me_op hG op_or (sv_int _) ha hb
end

/-! ### comparisons -/
abbrev FB := PV → PV → Option Bool
def ServesB (G : GC) (t : R2) (f : FB) : Prop := ∀ (r : Ads) (H : Hp) (S : Sto) (x y : PV) (z : Bool) (v w : V) (Q : VK), StR G r H S → Is G r H x v → Is G r H y w → f x y = some z → Q (.bl z) H → t v w H Q
theorem ServesB.or {G : GC} {t t' : R2} {f f' g : FB} (h : ServesB G t f) (h' : ServesB G t' f') (hg : ∀ x y z, g x y = some z → f x y = some z ∨ f' x y = some z) : ServesB G (fun x y H Q => t x y H Q ∨ t' x y H Q) g := by
  intro r H S x y z v w Q st hx hy hf k
  rcases hg x y z hf with q | q
  · exact .inl (h r H S x y z v w Q st hx hy q k)
  · exact .inr (h' r H S x y z v w Q st hx hy q k)
def mCmp (f : FB) (ma mb : MExp) : MExp := bindM ma fun x => bindM mb fun y e S =>
  match x, y with
  | .p x, .p y => (match f x y with
    | some z => .ok (.p (.bl z)) S
    | none => .bad)
  | _, _ => .bad
def mCmpT (f : FB) (ma mb : MExp) : MTst := bindM ma fun x => bindM mb fun y e S =>
  match x, y with
  | .p x, .p y => (match f x y with
    | some z => .ok z S
    | none => .bad)
  | _, _ => .bad
theorem is_bl {G : GC} {r : Ads} {H : Hp} {b : Bool} : RIs G r H (.p (.bl b)) (.bl b) := by
  show Is G r H _ _
  unfold Is
  rfl
theorem is_int {G : GC} {r : Ads} {H : Hp} {b : Int} : RIs G r H (.p (.int b)) (.int b) := by
  show Is G r H _ _
  unfold Is
  rfl
section
variable {X : Cx} {G : GC} {W : WX}
theorem cmp_sim {t : R2} {f : FB} (sv : ServesB G t f) {ma mb : MExp} {σ : L2.St} {H : Hp} {Q : VK} (h : rd G W (mCmp f ma mb) σ H Q) : tOp t (rd G W ma) (rd G W mb) σ H Q := by
  obtain ⟨r, S, e, sr, h⟩ := h
  refine bind_rd sr h fun x S1 r1 H1 v1 st1 sr1 i1 h1 => ?_
  refine bind_rd sr1 h1 fun y S2 r2 H2 v2 st2 sr2 i2 h2 => ?_
  have i1' := i1.step st2 sr1.st.noFrz
  cases x with
  | l n => exact h2.elim
  | p x =>
    cases y with
    | l n => exact h2.elim
    | p y =>
      dsimp only at h2
      cases hf : f x y with
      | none => rw [hf] at h2; exact h2.elim
      | some z =>
        rw [hf] at h2
        exact sv r2 H2 S2 x y z v1 v2 Q sr2.st i1' i2 hf (h2 r2 _ _ (StepE.refl _ _) sr2 is_bl)
theorem cmpT_sim {t : R2} {f : FB} (sv : ServesB G t f) {ma mb : MExp} {σ : L2.St} {H : Hp} {Q : Bool → Hp → Prop} (h : rdT G W (mCmpT f ma mb) σ H Q) : tTest (tOp t (rd G W ma) (rd G W mb)) σ H Q := by
  obtain ⟨r, S, e, sr, h⟩ := h
  refine bind_rd sr h fun x S1 r1 H1 v1 st1 sr1 i1 h1 => ?_
  refine bind_rd sr1 h1 fun y S2 r2 H2 v2 st2 sr2 i2 h2 => ?_
  have i1' := i1.step st2 sr1.st.noFrz
  cases x with
  | l n => exact h2.elim
  | p x =>
    cases y with
    | l n => exact h2.elim
    | p y =>
      dsimp only at h2
      cases hf : f x y with
      | none => rw [hf] at h2; exact h2.elim
      | some z =>
        rw [hf] at h2
        exact sv r2 H2 S2 x y z v1 v2 _ sr2.st i1' i2 hf ⟨z, rfl, h2 r2 _ _ (StepE.refl _ _) sr2 rfl⟩
theorem me_cmpB {op : CmpOp} {t : R2} {f : FB} {a b : Expr} {ma mb : MExp} {pos : Pos} (hG : X.K = G.K) (ho : OpR X (compareOp op) t) (sv : ServesB G t f) (ha : PE X a (rd G W ma)) (hb : PE X b (rd G W mb)) (hm : behindInMarks op b = false) : PE X (.Compare a [op] [b] pos) (rd G W (mCmp f ma mb)) :=
  peI (pe_cmpR ho ha hb hm) fun σ H Q _ h => cmp_sim sv (by
    obtain ⟨r, S, e, sr, h⟩ := h
    exact ⟨r, S, e, sr, h.mono fun v H' q _ => q⟩)
theorem mt_cmpB {op : CmpOp} {t : R2} {f : FB} {a b : Expr} {ma mb : MExp} {pos : Pos} (hG : X.K = G.K) (ho : OpR X (compareOp op) t) (sv : ServesB G t f) (ha : PE X a (rd G W ma)) (hb : PE X b (rd G W mb)) (hm : behindInMarks op b = false) : PT X (.Compare a [op] [b] pos) (rdT G W (mCmpT f ma mb)) :=
  ptI (pt_cmpR ho ha hb hm) fun σ H Q _ h => cmpT_sim sv (by
    obtain ⟨r, S, e, sr, h⟩ := h
    exact ⟨r, S, e, sr, h.mono fun v H' q _ => q⟩)
end
/-- == : texts, numbers, truths, None plainly; all else as data -/
def eqF (x y : PV) : Option Bool := match x, y with
  | .str a, .str b => some (a == b)
  | .int a, .int b => some (a == b)
  | .bl a, .bl b => some (a == b)
  | .non, .non => some true
  | x, y => if shp x && shp y then some (PyData.eqv x.D y.D) else none
def fEq (neg : Bool) : FB := fun x y => match eqF x y with
  | some b => some (if neg then !b else b)
  | none => none
theorem sv_eq {G : GC} : ServesB G (fun x y H Q => rEq x y H Q ∨ rEqD G.K x y H Q) (fEq false) := by
  intro r H S x y z v w Q st hx hy hf k
  unfold fEq at hf
  cases e : eqF x y with
  | none => rw [e] at hf; cases hf
  | some b =>
    rw [e] at hf
    cases hf
    have gen : (shp x && shp y) = true → PyData.eqv x.D y.D = b → rEq v w H Q ∨ rEqD G.K v w H Q := fun h eb => by
      rw [Bool.and_eq_true] at h
      exact .inr ⟨x.D, y.D, hx.dps h.1, hy.dps h.2, h.1, h.2, (by rw [eb]; exact k)⟩
    unfold eqF at e
    split at e
    · cases e
      unfold Is at hx hy
      subst hx hy
      exact .inl ⟨rfl, (by rw [dec_str]; exact k)⟩
    · cases e
      unfold Is at hx hy
      subst hx hy
      exact .inl ⟨rfl, (by rw [dec_int]; exact k)⟩
    · cases e
      unfold Is at hx hy
      subst hx hy
      exact .inl ⟨rfl, (by rw [dec_bl]; exact k)⟩
    · cases e
      unfold Is at hx hy
      subst hx hy
      exact .inl ⟨rfl, k⟩
    · split at e
      · rename_i h
        cases e
        exact gen h rfl
      · cases e
theorem sv_ne {G : GC} : ServesB G (fun x y H Q => rNe x y H Q ∨ rNeD G.K x y H Q) (fEq true) := by
  intro r H S x y z v w Q st hx hy hf k
  unfold fEq at hf
  cases e : eqF x y with
  | none => rw [e] at hf; cases hf
  | some b =>
    rw [e] at hf
    cases hf
    have gen : (shp x && shp y) = true → PyData.eqv x.D y.D = b → rNe v w H Q ∨ rNeD G.K v w H Q := fun h eb => by
      rw [Bool.and_eq_true] at h
      exact .inr ⟨x.D, y.D, hx.dps h.1, hy.dps h.2, h.1, h.2, (by rw [eb]; exact k)⟩
    unfold eqF at e
    split at e
    · cases e
      unfold Is at hx hy
      subst hx hy
      exact .inl ⟨rfl, (by rw [dec_str]; exact k)⟩
    · cases e
      unfold Is at hx hy
      subst hx hy
      exact .inl ⟨rfl, (by rw [dec_int]; exact k)⟩
    · cases e
      unfold Is at hx hy
      subst hx hy
      exact .inl ⟨rfl, (by rw [dec_bl]; exact k)⟩
    · cases e
      unfold Is at hx hy
      subst hx hy
      exact .inl ⟨rfl, k⟩
    · split at e
      · rename_i h
        cases e
        exact gen h rfl
      · cases e
def fCmp (p : Int → Int → Bool) : FB
  | .int i, .int j => some (p i j)
  | _, _ => none
theorem sv_cmp {G : GC} (p : Int → Int → Bool) : ServesB G (rI0 fun i j => .bl (p i j)) (fCmp p) := by
  intro r H S x y z v w Q st hx hy hf k
  cases x <;> cases y <;> first | (unfold fCmp at hf; cases hf; done) | skip
  rename_i i j
  unfold Is at hx hy
  subst hx hy
  cases hf
  exact ⟨i, j, rfl, rfl, k⟩
def fLt : FB
  | .int i, .int j => some (decide (i < j))
  | .str i, .str j => some (decide (i.cps.toList < j.cps.toList))
  | _, _ => none
theorem sv_ltS {G : GC} : ServesB G (fun x y H Q => ∃ i j, x = .str i ∧ y = .str j ∧ Q (.bl (decide (i.cps.toList < j.cps.toList))) H) (fun x y => match x, y with | .str i, .str j => some (decide (i.cps.toList < j.cps.toList)) | _, _ => none) := by
  intro r H S x y z v w Q st hx hy hf k
  cases x <;> cases y <;> first | (cases hf; done) | skip
  rename_i i j
  unfold Is at hx hy
  subst hx hy
  cases hf
  exact ⟨i, j, rfl, rfl, k⟩
theorem sv_lt {G : GC} : ServesB G (fun x y H Q => rI0 (fun i j => .bl (decide (i < j))) x y H Q ∨ (∃ i j, x = .str i ∧ y = .str j ∧ Q (.bl (decide (i.cps.toList < j.cps.toList))) H)) fLt := by
  refine (sv_cmp fun i j => decide (i < j)).or sv_ltS fun x y z h => ?_
  cases x <;> cases y <;> first | exact .inl h | exact .inr h
/-- data in a tuple of data -/
def rInT (K : PySem.W.Frag) : R2 := fun x y H Q => ∃ b us, Dp K H x b ∧ Dp K H y (.tuple us) ∧ SeqAt.shaped b = true ∧ SeqAt.shaped (.tuple us) = true ∧ Q (.bl (us.any fun z => PyData.eqv z b)) H
def rOffT (K : PySem.W.Frag) : R2 := fun x y H Q => ∃ b us, Dp K H x b ∧ Dp K H y (.tuple us) ∧ SeqAt.shaped b = true ∧ SeqAt.shaped (.tuple us) = true ∧ Q (.bl (!us.any fun z => PyData.eqv z b)) H
theorem room_T {b : PyData} {us : List PyData} {u : Nat} (sb : SeqAt.shaped b = true) (hu : u + 65 < cLine) : u + 1 + min (PyData.depthAll us) b.depth < cLine := by
  unfold SeqAt.shaped at sb
  rw [Bool.and_eq_true, decide_eq_true_eq] at sb
  have := Nat.min_le_right (PyData.depthAll us) b.depth
  omega
theorem op_inT {X : Cx} (hu : X.A.units + 65 < cLine) : OpR X (compareOp .In) (rInT X.K) := by
  intro pins s σ H x y v0 v1 Q I r0 r1 h
  obtain ⟨b, us, q0, q1, s0, s1, q⟩ := h
  obtain ⟨_, g0⟩ := Dp.reads I b x v0 q0 r0
  obtain ⟨_, g1⟩ := Dp.reads I (.tuple us) y v1 q1 r1
  have lay : PyData.canLayAll0 us = true := SeqAt.canLay_of_shaped s1
  exact SeqAt.in_tuple_reads g1 g0 lay (SeqAt.canLay_of_shaped s0) (room_T s0 hu) ⟨.bl _, H, I, rfl, q⟩
theorem op_offT {X : Cx} (hu : X.A.units + 65 < cLine) : OpR X (compareOp .NotIn) (rOffT X.K) := by
  intro pins s σ H x y v0 v1 Q I r0 r1 h
  obtain ⟨b, us, q0, q1, s0, s1, q⟩ := h
  obtain ⟨_, g0⟩ := Dp.reads I b x v0 q0 r0
  obtain ⟨_, g1⟩ := Dp.reads I (.tuple us) y v1 q1 r1
  have lay : PyData.canLayAll0 us = true := SeqAt.canLay_of_shaped s1
  exact SeqAt.notIn_tuple_reads g1 g0 lay (SeqAt.canLay_of_shaped s0) (room_T s0 hu) ⟨.bl _, H, I, rfl, q⟩
/-- x in y: flat in a list or tuple, data in a list or tuple, a text in a text -/
def fIn (neg : Bool) : FB := fun x y => match y with
  | .str j => (match x with
    | .str i => some (if neg then !(!(Builtin.Str.occurrences j i 0 j.length 1).isEmpty) else !(Builtin.Str.occurrences j i 0 j.length 1).isEmpty)
    | _ => none)
  | .tup ys => (match x.flat, flats ys with
    | some v, some vs => some (if neg then !inV v vs else inV v vs)
    | _, _ => if shp x && shp (.tup ys) then some (if neg then !(PV.Ds ys).any (fun z => PyData.eqv z x.D) else (PV.Ds ys).any fun z => PyData.eqv z x.D) else none)
  | .lst ys => (match x.flat, flats ys with
    | some v, some vs => some (if neg then !inV v vs else inV v vs)
    | _, _ => if shp x && shp (.lst ys) then some (if neg then !(PV.Ds ys).any (fun z => PyData.eqv z x.D) else (PV.Ds ys).any fun z => PyData.eqv z x.D) else none)
  | _ => none
abbrev tIn (K : PySem.W.Frag) : R2 := fun x y H Q => rIn K false x y H Q ∨ ((∃ i j, x = .str i ∧ y = .str j ∧ Q (.bl (!(Builtin.Str.occurrences j i 0 j.length 1).isEmpty)) H) ∨ (rInD K x y H Q ∨ rInT K x y H Q))
abbrev tNotIn (K : PySem.W.Frag) : R2 := fun x y H Q => rIn K true x y H Q ∨ ((∃ i j, x = .str i ∧ y = .str j ∧ Q (.bl (!(!(Builtin.Str.occurrences j i 0 j.length 1).isEmpty))) H) ∨ (rNotInD K x y H Q ∨ rOffT K x y H Q))
theorem sv_in {G : GC} : ServesB G (tIn G.K) (fIn false) := by
  intro r H S x y z v w Q st hx hy hf k
  unfold fIn at hf
  split at hf
  · split at hf
    · cases hf
      unfold Is at hx hy
      subst hx hy
      exact .inr (.inl ⟨_, _, rfl, rfl, k⟩)
    · cases hf
  · split at hf
    · rename_i ys v1 vs1 e1 e2
      cases hf
      obtain ⟨h1, h2⟩ := hx.flat e1
      unfold Is at hy
      obtain ⟨a, us, rfl, q, t⟩ := hy
      obtain ⟨h3, h4⟩ := t.flats e2
      subst h1 h3
      exact .inl ⟨a, _, rfl, .inr q.t, h2, h4, k⟩
    · split at hf
      · rename_i ys _ _ _ h
        cases hf
        rw [Bool.and_eq_true] at h
        have d2 := hy.dps h.2
        unfold PV.D at d2
        have s2 := h.2
        unfold shp PV.D at s2
        exact .inr (.inr (.inr ⟨x.D, PV.Ds ys, hx.dps h.1, d2, h.1, s2, k⟩))
      · cases hf
  · split at hf
    · rename_i ys v1 vs1 e1 e2
      cases hf
      obtain ⟨h1, h2⟩ := hx.flat e1
      unfold Is at hy
      obtain ⟨a, us, rfl, _, q, t⟩ := hy
      obtain ⟨h3, h4⟩ := t.flats e2
      subst h1 h3
      exact .inl ⟨a, _, rfl, .inl (SqL.of q), h2, h4, k⟩
    · split at hf
      · rename_i ys _ _ _ h
        cases hf
        rw [Bool.and_eq_true] at h
        have d2 := hy.dps h.2
        unfold PV.D at d2
        have s2 := h.2
        unfold shp PV.D at s2
        exact .inr (.inr (.inl ⟨x.D, PV.Ds ys, hx.dps h.1, d2, h.1, s2, k⟩))
      · cases hf
  · cases hf
theorem sv_notin {G : GC} : ServesB G (tNotIn G.K) (fIn true) := by
  intro r H S x y z v w Q st hx hy hf k
  unfold fIn at hf
  split at hf
  · split at hf
    · cases hf
      unfold Is at hx hy
      subst hx hy
      exact .inr (.inl ⟨_, _, rfl, rfl, k⟩)
    · cases hf
  · split at hf
    · rename_i ys v1 vs1 e1 e2
      cases hf
      obtain ⟨h1, h2⟩ := hx.flat e1
      unfold Is at hy
      obtain ⟨a, us, rfl, q, t⟩ := hy
      obtain ⟨h3, h4⟩ := t.flats e2
      subst h1 h3
      exact .inl ⟨a, _, rfl, .inr q.t, h2, h4, k⟩
    · split at hf
      · rename_i ys _ _ _ h
        cases hf
        rw [Bool.and_eq_true] at h
        have d2 := hy.dps h.2
        unfold PV.D at d2
        have s2 := h.2
        unfold shp PV.D at s2
        exact .inr (.inr (.inr ⟨x.D, PV.Ds ys, hx.dps h.1, d2, h.1, s2, k⟩))
      · cases hf
  · split at hf
    · rename_i ys v1 vs1 e1 e2
      cases hf
      obtain ⟨h1, h2⟩ := hx.flat e1
      unfold Is at hy
      obtain ⟨a, us, rfl, _, q, t⟩ := hy
      obtain ⟨h3, h4⟩ := t.flats e2
      subst h1 h3
      exact .inl ⟨a, _, rfl, .inl (SqL.of q), h2, h4, k⟩
    · split at hf
      · rename_i ys _ _ _ h
        cases hf
        rw [Bool.and_eq_true] at h
        have d2 := hy.dps h.2
        unfold PV.D at d2
        have s2 := h.2
        unfold shp PV.D at s2
        exact .inr (.inr (.inl ⟨x.D, PV.Ds ys, hx.dps h.1, d2, h.1, s2, k⟩))
      · cases hf
  · cases hf
section
variable {X : Cx} {G : GC} {W : WX} {a b : Expr} {ma mb : MExp} {pos : Pos}
theorem me_eq (hG : X.K = G.K) (hu : X.A.units + 65 < cLine) (ha : PE X a (rd G W ma)) (hb : PE X b (rd G W mb)) : PE X (.Compare a [.Eq] [b] pos) (rd G W (mCmp (fEq false) ma mb)) :=
  me_cmpB hG (by rw [← hG]; exact op_eq.or (op_eqD (by omega))) sv_eq ha hb (nomark b)
theorem me_ne (hG : X.K = G.K) (hu : X.A.units + 65 < cLine) (ha : PE X a (rd G W ma)) (hb : PE X b (rd G W mb)) : PE X (.Compare a [.NotEq] [b] pos) (rd G W (mCmp (fEq true) ma mb)) :=
  me_cmpB hG (by rw [← hG]; exact op_ne.or (op_neD (by omega))) sv_ne ha hb (nomark b)
theorem me_lt (hG : X.K = G.K) (ha : PE X a (rd G W ma)) (hb : PE X b (rd G W mb)) : PE X (.Compare a [.Lt] [b] pos) (rd G W (mCmp fLt ma mb)) :=
  me_cmpB hG (op_lt.or op_lt_str) sv_lt ha hb (nomark b)
theorem me_le (hG : X.K = G.K) (ha : PE X a (rd G W ma)) (hb : PE X b (rd G W mb)) : PE X (.Compare a [.LtE] [b] pos) (rd G W (mCmp (fCmp fun i j => decide (i ≤ j)) ma mb)) := me_cmpB hG op_le (sv_cmp _) ha hb (nomark b)
theorem me_gt (hG : X.K = G.K) (ha : PE X a (rd G W ma)) (hb : PE X b (rd G W mb)) : PE X (.Compare a [.Gt] [b] pos) (rd G W (mCmp (fCmp fun i j => decide (j < i)) ma mb)) := me_cmpB hG op_gt (sv_cmp _) ha hb (nomark b)
theorem me_ge (hG : X.K = G.K) (ha : PE X a (rd G W ma)) (hb : PE X b (rd G W mb)) : PE X (.Compare a [.GtE] [b] pos) (rd G W (mCmp (fCmp fun i j => decide (j ≤ i)) ma mb)) := me_cmpB hG op_ge (sv_cmp _) ha hb (nomark b)
theorem me_in (hG : X.K = G.K) (hu : X.A.units + 65 < cLine) (ha : PE X a (rd G W ma)) (hb : PE X b (rd G W mb)) (hm : behindInMarks .In b = false) : PE X (.Compare a [.In] [b] pos) (rd G W (mCmp (fIn false) ma mb)) :=
  me_cmpB hG (by rw [← hG]; exact op_in_seq.or (op_in_str.or ((op_inD hu).or (op_inT hu)))) sv_in ha hb hm
theorem me_notin (hG : X.K = G.K) (hu : X.A.units + 65 < cLine) (ha : PE X a (rd G W ma)) (hb : PE X b (rd G W mb)) (hm : behindInMarks .NotIn b = false) : PE X (.Compare a [.NotIn] [b] pos) (rd G W (mCmp (fIn true) ma mb)) :=
  me_cmpB hG (by rw [← hG]; exact op_notIn_seq.or (op_notin_str.or ((op_notInD hu).or (op_offT hu)))) sv_notin ha hb hm
theorem mt_eq (hG : X.K = G.K) (hu : X.A.units + 65 < cLine) (ha : PE X a (rd G W ma)) (hb : PE X b (rd G W mb)) : PT X (.Compare a [.Eq] [b] pos) (rdT G W (mCmpT (fEq false) ma mb)) :=
  mt_cmpB hG (by rw [← hG]; exact op_eq.or (op_eqD (by omega))) sv_eq ha hb (nomark b)
theorem mt_ne (hG : X.K = G.K) (hu : X.A.units + 65 < cLine) (ha : PE X a (rd G W ma)) (hb : PE X b (rd G W mb)) : PT X (.Compare a [.NotEq] [b] pos) (rdT G W (mCmpT (fEq true) ma mb)) :=
  mt_cmpB hG (by rw [← hG]; exact op_ne.or (op_neD (by omega))) sv_ne ha hb (nomark b)
theorem mt_lt (hG : X.K = G.K) (ha : PE X a (rd G W ma)) (hb : PE X b (rd G W mb)) : PT X (.Compare a [.Lt] [b] pos) (rdT G W (mCmpT fLt ma mb)) :=
  mt_cmpB hG (op_lt.or op_lt_str) sv_lt ha hb (nomark b)
theorem mt_le (hG : X.K = G.K) (ha : PE X a (rd G W ma)) (hb : PE X b (rd G W mb)) : PT X (.Compare a [.LtE] [b] pos) (rdT G W (mCmpT (fCmp fun i j => decide (i ≤ j)) ma mb)) := mt_cmpB hG op_le (sv_cmp _) ha hb (nomark b)
theorem mt_gt (hG : X.K = G.K) (ha : PE X a (rd G W ma)) (hb : PE X b (rd G W mb)) : PT X (.Compare a [.Gt] [b] pos) (rdT G W (mCmpT (fCmp fun i j => decide (j < i)) ma mb)) := mt_cmpB hG op_gt (sv_cmp _) ha hb (nomark b)
theorem mt_ge (hG : X.K = G.K) (ha : PE X a (rd G W ma)) (hb : PE X b (rd G W mb)) : PT X (.Compare a [.GtE] [b] pos) (rdT G W (mCmpT (fCmp fun i j => decide (j ≤ i)) ma mb)) := mt_cmpB hG op_ge (sv_cmp _) ha hb (nomark b)
theorem mt_in (hG : X.K = G.K) (hu : X.A.units + 65 < cLine) (ha : PE X a (rd G W ma)) (hb : PE X b (rd G W mb)) (hm : behindInMarks .In b = false) : PT X (.Compare a [.In] [b] pos) (rdT G W (mCmpT (fIn false) ma mb)) :=
  mt_cmpB hG (by rw [← hG]; exact op_in_seq.or (op_in_str.or ((op_inD hu).or (op_inT hu)))) sv_in ha hb hm
theorem mt_notin (hG : X.K = G.K) (hu : X.A.units + 65 < cLine) (ha : PE X a (rd G W ma)) (hb : PE X b (rd G W mb)) (hm : behindInMarks .NotIn b = false) : PT X (.Compare a [.NotIn] [b] pos) (rdT G W (mCmpT (fIn true) ma mb)) :=
  mt_cmpB hG (by rw [← hG]; exact op_notIn_seq.or (op_notin_str.or ((op_notInD hu).or (op_offT hu)))) sv_notin ha hb hm

/-! is None -/
def fIsN (neg : Bool) : FB := fun x y => match y with
  | .non => some (match x with | .non => !neg | _ => neg)
  | _ => none
theorem is_non {G : GC} {r : Ads} {H : Hp} {x : PV} {v : V} (h : Is G r H x v) : decide (v = .non) = (match x with | .non => true | _ => false) := by
  cases x <;> unfold Is at h <;> first
    | (subst h; rfl)
    | (obtain ⟨a, vs, rfl, _⟩ := h; rfl)
    | (obtain ⟨a, dx, vs, rfl, _⟩ := h; rfl)
theorem sv_isN : ServesB G (fun x y H Q => y = .non ∧ Q (.bl (decide (x = .non))) H) (fIsN false) := by
  intro r H S x y z v w Q st hx hy hf k
  cases y <;> first | (cases hf; done) | skip
  have q := is_non hx
  unfold Is at hy
  cases hf
  exact ⟨hy, by rw [q]; cases x <;> exact k⟩
theorem sv_notN : ServesB G (fun x y H Q => y = .non ∧ Q (.bl (!decide (x = .non))) H) (fIsN true) := by
  intro r H S x y z v w Q st hx hy hf k
  cases y <;> first | (cases hf; done) | skip
  have q := is_non hx
  unfold Is at hy
  cases hf
  exact ⟨hy, by rw [q]; cases x <;> exact k⟩
theorem me_isN (hG : X.K = G.K) (ha : PE X a (rd G W ma)) (hb : PE X b (rd G W mb)) : PE X (.Compare a [.Is] [b] pos) (rd G W (mCmp (fIsN false) ma mb)) := me_cmpB hG op_isN sv_isN ha hb (nomark b)
theorem me_notN (hG : X.K = G.K) (ha : PE X a (rd G W ma)) (hb : PE X b (rd G W mb)) : PE X (.Compare a [.IsNot] [b] pos) (rd G W (mCmp (fIsN true) ma mb)) := me_cmpB hG op_notN sv_notN ha hb (nomark b)
theorem mt_isN (hG : X.K = G.K) (ha : PE X a (rd G W ma)) (hb : PE X b (rd G W mb)) : PT X (.Compare a [.Is] [b] pos) (rdT G W (mCmpT (fIsN false) ma mb)) := mt_cmpB hG op_isN sv_isN ha hb (nomark b)
theorem mt_notN (hG : X.K = G.K) (ha : PE X a (rd G W ma)) (hb : PE X b (rd G W mb)) : PT X (.Compare a [.IsNot] [b] pos) (rdT G W (mCmpT (fIsN true) ma mb)) := mt_cmpB hG op_notN sv_notN ha hb (nomark b)
end
end Mm
end

section
set_option Elab.async false
set_option linter.all false
set_option maxRecDepth 100000
namespace Mm
open PySem PySem.Spec PyProof.Rows L2

/-! ### tests -/
def asB (m : MExp) : MTst := bindM m fun x _ S => match x with
  | .p (.bl b) => .ok b S
  | _ => .bad
def mNotT (m : MTst) : MTst := bindM m fun b _ S => .ok (!b) S
def mAndT (m n : MTst) : MTst := bindM m fun b e S => if b then n e S else .ok false S
def mOrT (m n : MTst) : MTst := bindM m fun b e S => if b then .ok true S else n e S
def mNotV (m : MExp) : MExp := bindM m fun x _ S => match x with
  | .p (.bl b) => .ok (.p (.bl (!b))) S
  | _ => .bad
def mAndV (m n : MExp) : MExp := bindM m fun x e S => match x with
  | .p (.bl true) => n e S
  | .p (.bl false) => .ok (.p (.bl false)) S
  | _ => .bad
def mOrV (m n : MExp) : MExp := bindM m fun x e S => match x with
  | .p (.bl true) => .ok (.p (.bl true)) S
  | .p (.bl false) => n e S
  | _ => .bad
def mIf (c : MTst) (m n : MExp) : MExp := bindM c fun b e S => if b then m e S else n e S
section
variable {X : Cx} {G : GC} {W : WX} {a b c : Expr} {ma mb : MExp} {ta tb : MTst} {pos : Pos} {rest : List Expr}
theorem asB_sim {σ : L2.St} {H : Hp} {Q : Bool → Hp → Prop} (h : rdT G W (asB ma) σ H Q) : tB (rd G W ma) σ H Q := by
  obtain ⟨r, S, e, sr, h⟩ := h
  refine bind_rd sr h fun x S1 r1 H1 v1 st1 sr1 i1 h1 => ?_
  cases x with
  | l n => exact h1.elim
  | p x =>
    cases x with
    | bl b =>
      have i1 : Is G r1 H1 (.bl b) v1 := i1
      unfold Is at i1
      exact ⟨b, i1, h1 r1 H1 b (StepE.refl _ _) sr1 rfl⟩
    | _ => exact h1.elim
theorem mt_val (h : PE X a (rd G W ma)) (he : ∀ whole, isTrue a X.env whole = (do let v ← whole; standAt a.pos; holding [v] (truthy v)) := by intro _; rfl) : PT X a (rdT G W (asB ma)) :=
  ptI (pt_val h he) fun σ H Q _ q => asB_sim (by
    obtain ⟨r, S, e, sr, h⟩ := q
    exact ⟨r, S, e, sr, h.mono fun v H' q _ => q⟩)
theorem rdX_mono {α β : Type} {R : Ads → Hp → α → β → Prop} {m : MEnv → Sto → Res α} {σ : L2.St} {H : Hp} {Q Q' : β → Hp → Prop} (h : rdX R G W m σ H Q) (q : ∀ v H', Q v H' → Q' v H') : rdX R G W m σ H Q' := by
  obtain ⟨r, S, e, sr, h⟩ := h
  exact ⟨r, S, e, sr, h.mono q⟩
/-- the last step of a bind where the continuation is itself a mirror -/
theorem cont_rd {α β : Type} {R : Ads → Hp → α → β → Prop} {m : MEnv → Sto → Res α} {r : Ads} {H : Hp} {S : Sto} {e : MEnv} {σ : L2.St} {Q : β → Hp → Prop} (sr : SR G r H S e σ) (h : Sat R G W r H e σ Q (m e S)) : rdX R G W m σ H (fun v H' => KF G.K H' → Q v H') :=
  ⟨r, S, e, sr, h.mono fun _ _ q _ => q⟩
theorem cont_rd0 {α β : Type} {R : Ads → Hp → α → β → Prop} {m : MEnv → Sto → Res α} {r : Ads} {H : Hp} {S : Sto} {e : MEnv} {σ : L2.St} {Q : β → Hp → Prop} (sr : SR G r H S e σ) (h : Sat R G W r H e σ Q (m e S)) : rdX R G W m σ H Q := ⟨r, S, e, sr, h⟩
theorem mt_not (ha : PT X a (rdT G W ta)) : PT X (.UnaryOp .Not a pos) (rdT G W (mNotT ta)) :=
  ptI (pt_not ha) fun σ H Q _ ⟨r, S, e, sr, h⟩ => bind_rd sr h fun x S1 r1 H1 v1 st1 sr1 i1 h1 kf => h1 r1 H1 _ (StepE.refl _ _) sr1 (by rw [show x = v1 from i1])
theorem mw_one (ha : PT X a (rdT G W ta)) : PW X (.BoolOp .And [a] pos) (rdT G W ta) := pw_and1 ha
theorem mw_oneO (ha : PT X a (rdT G W ta)) : PW X (.BoolOp .Or [a] pos) (rdT G W ta) := pw_or1 ha
theorem mw_and (hG : X.K = G.K) (ha : PT X a (rdT G W ta)) (hb : PW X (.BoolOp .And (b :: rest) pos) (rdT G W tb)) : PW X (.BoolOp .And (a :: b :: rest) pos) (rdT G W (mAndT ta tb)) :=
  pwI (pw_and ha hb) fun σ H Q _ ⟨r, S, e, sr, h⟩ => by
    rw [hG]
    refine bind_rd sr h fun x S1 r1 H1 v1 st1 sr1 i1 h1 => ?_
    have e1 : x = v1 := i1
    subst e1
    cases x with
    | true => rw [if_pos rfl] at h1 ⊢; exact cont_rd sr1 h1
    | false => rw [if_neg Bool.false_ne_true] at h1 ⊢; exact fun kf => h1 r1 H1 _ (StepE.refl _ _) sr1 rfl
theorem mw_or (hG : X.K = G.K) (ha : PT X a (rdT G W ta)) (hb : PW X (.BoolOp .Or (b :: rest) pos) (rdT G W tb)) : PW X (.BoolOp .Or (a :: b :: rest) pos) (rdT G W (mOrT ta tb)) :=
  pwI (pw_or ha hb) fun σ H Q _ ⟨r, S, e, sr, h⟩ => by
    rw [hG]
    refine bind_rd sr h fun x S1 r1 H1 v1 st1 sr1 i1 h1 => ?_
    have e1 : x = v1 := i1
    subst e1
    cases x with
    | true => rw [if_pos rfl] at h1 ⊢; exact fun kf => h1 r1 H1 _ (StepE.refl _ _) sr1 rfl
    | false => rw [if_neg Bool.false_ne_true] at h1 ⊢; exact cont_rd sr1 h1
theorem me_one {op} (ha : PE X a (rd G W ma)) : PE X (.BoolOp op [a] pos) (rd G W ma) := pe_one ha
theorem me_andV (hG : X.K = G.K) (ha : PE X a (rd G W ma)) (hb : PE X (.BoolOp .And (b :: rest) pos) (rd G W mb)) : PE X (.BoolOp .And (a :: b :: rest) pos) (rd G W (mAndV ma mb)) :=
  peI (pe_and ha hb) fun σ H Q _ ⟨r, S, e, sr, h⟩ => by
    rw [hG]
    refine bind_rd sr h fun x S1 r1 H1 v1 st1 sr1 i1 h1 => ?_
    cases x with
    | l n => exact h1.elim
    | p x =>
      cases x with
      | bl b =>
        have i1 : Is G r1 H1 (.bl b) v1 := i1
        unfold Is at i1
        refine ⟨b, i1, ?_⟩
        cases b with
        | true => rw [if_pos rfl]; exact cont_rd sr1 h1
        | false => rw [if_neg Bool.false_ne_true]; exact fun kf => h1 r1 H1 _ (StepE.refl _ _) sr1 (by show Is _ _ _ _ _; unfold Is; rfl)
      | _ => exact h1.elim
theorem me_orV (hG : X.K = G.K) (ha : PE X a (rd G W ma)) (hb : PE X (.BoolOp .Or (b :: rest) pos) (rd G W mb)) : PE X (.BoolOp .Or (a :: b :: rest) pos) (rd G W (mOrV ma mb)) :=
  peI (pe_or ha hb) fun σ H Q _ ⟨r, S, e, sr, h⟩ => by
    rw [hG]
    refine bind_rd sr h fun x S1 r1 H1 v1 st1 sr1 i1 h1 => ?_
    cases x with
    | l n => exact h1.elim
    | p x =>
      cases x with
      | bl b =>
        have i1 : Is G r1 H1 (.bl b) v1 := i1
        unfold Is at i1
        refine ⟨b, i1, ?_⟩
        cases b with
        | true => rw [if_pos rfl]; exact fun kf => h1 r1 H1 _ (StepE.refl _ _) sr1 (by show Is _ _ _ _ _; unfold Is; rfl)
        | false => rw [if_neg Bool.false_ne_true]; exact cont_rd sr1 h1
      | _ => exact h1.elim
theorem me_notV (ha : PE X a (rd G W ma)) : PE X (.UnaryOp .Not a pos) (rd G W (mNotV ma)) :=
  peI (pe_not ha) fun σ H Q _ ⟨r, S, e, sr, h⟩ => by
    refine bind_rd sr h fun x S1 r1 H1 v1 st1 sr1 i1 h1 => ?_
    cases x with
    | l n => exact h1.elim
    | p x =>
      cases x with
      | bl b =>
        have i1 : Is G r1 H1 (.bl b) v1 := i1
        unfold Is at i1
        exact ⟨b, i1, fun kf => h1 r1 H1 _ (StepE.refl _ _) sr1 (by show Is _ _ _ _ _; unfold Is; rfl)⟩
      | _ => exact h1.elim
theorem me_if (hG : X.K = G.K) (hc : PT X c (rdT G W ta)) (ha : PE X a (rd G W ma)) (hb : PE X b (rd G W mb)) : PE X (.IfExp c a b pos) (rd G W (mIf ta ma mb)) :=
  peI (pe_ifExp hc ha hb) fun σ H Q _ ⟨r, S, e, sr, h⟩ => by
    rw [hG]
    refine bind_rd sr h fun x S1 r1 H1 v1 st1 sr1 i1 h1 => ?_
    have e1 : x = v1 := i1
    subst e1
    cases x with
    | true => rw [if_pos rfl] at h1 ⊢; exact cont_rd sr1 h1
    | false => rw [if_neg Bool.false_ne_true] at h1 ⊢; exact cont_rd sr1 h1
end
end Mm
end

section
set_option Elab.async false
set_option linter.all false
set_option maxRecDepth 100000
namespace Mm
open PySem PySem.Spec PyProof.Rows L2

/-! ### a <= b <= c -/
def mChain (f g : FB) (ma mb mc : MExp) : MExp := bindM ma fun x => bindM mb fun y e S =>
  match x, y with
  | .p x, .p y => (match f x y with
    | some true => bindM mc (fun z e S => match z with
      | .p z => (match g y z with
        | some b => .ok (.p (.bl b)) S
        | none => .bad)
      | _ => .bad) e S
    | some false => .ok (.p (.bl false)) S
    | none => .bad)
  | _, _ => .bad
section
variable {X : Cx} {G : GC} {W : WX} {a b c e0 : Expr} {ma mb mc : MExp} {pos : Pos}
theorem chain_sim {t t' : R2} {f g : FB} (sv : ServesB G t f) (sv' : ServesB G t' g) {σ : L2.St} {H : Hp} {Q : VK} (h : rd G W (mChain f g ma mb mc) σ H Q) : tChain t t' (rd G W ma) (rd G W mb) (rd G W mc) σ H Q := by
  obtain ⟨r, S, e, sr, h⟩ := h
  refine bind_rd sr h fun x S1 r1 H1 v1 st1 sr1 i1 h1 => ?_
  refine bind_rd sr1 h1 fun y S2 r2 H2 v2 st2 sr2 i2 h2 => ?_
  have i1' := i1.step st2 sr1.st.noFrz
  cases x with
  | l n => exact h2.elim
  | p x =>
    cases y with
    | l n => exact h2.elim
    | p y =>
      dsimp only at h2
      cases hf : f x y with
      | none => rw [hf] at h2; exact h2.elim
      | some k =>
        rw [hf] at h2
        refine sv r2 H2 S2 x y k v1 v2 _ sr2.st i1' i2 hf ⟨k, rfl, ?_⟩
        cases k with
        | false =>
          rw [if_neg Bool.false_ne_true]
          exact h2 r2 _ _ (StepE.refl _ _) sr2 is_bl
        | true =>
          rw [if_pos rfl]
          refine bind_rd sr2 h2 fun z S3 r3 H3 v3 st3 sr3 i3 h3 => ?_
          cases z with
          | l n => exact h3.elim
          | p z =>
            dsimp only at h3
            cases hg : g y z with
            | none => rw [hg] at h3; exact h3.elim
            | some k' =>
              rw [hg] at h3
              exact sv' r3 H3 S3 y z k' v2 v3 Q sr3.st (i2.step st3 sr2.st.noFrz) i3 hg (h3 r3 _ _ (StepE.refl _ _) sr3 is_bl)
theorem me_chain {op op' : CmpOp} {t t' : R2} {f g : FB} (ho : OpR X (compareOp op) t) (ho' : OpR X (compareOp op') t') (sv : ServesB G t f) (sv' : ServesB G t' g) (ha : PE X a (rd G W ma)) (hb : PE X b (rd G W mb)) (hc : PE X c (rd G W mc))
    (hm : lastMarks [op, op'] [b, c] = false := by with_unfolding_all rfl) : PE X (.Compare a [op, op'] [b, c] pos) (rd G W (mChain f g ma mb mc)) :=
  peI (pe_chain ho ho' ha hb hc hm) fun σ H Q _ h => chain_sim sv sv' (rdX_mono h fun _ _ q _ => q)
theorem mt_chain {op op' : CmpOp} {t t' : R2} {f g : FB} (ho : OpR X (compareOp op) t) (ho' : OpR X (compareOp op') t') (sv : ServesB G t f) (sv' : ServesB G t' g) (ha : PE X a (rd G W ma)) (hb : PE X b (rd G W mb)) (hc : PE X c (rd G W mc))
    (hm : lastMarks [op, op'] [b, c] = false := by with_unfolding_all rfl) : PT X (.Compare a [op, op'] [b, c] pos) (rdT G W (asB (mChain f g ma mb mc))) :=
  ptI (pt_chain ho ho' ha hb hc hm) fun σ H Q _ h => by
    have q := chain_sim sv sv' (asB_sim h : rd G W (mChain f g ma mb mc) σ H _)
    exact chain_sim sv sv' (rdX_mono (asB_sim h : rd G W (mChain f g ma mb mc) σ H _) fun v H' ⟨c, e, q⟩ => ⟨c, e, fun _ => q⟩)
abbrev fLe : FB := fCmp fun i j => decide (i ≤ j)
abbrev svLe : ServesB G (rI0 fun i j => .bl (decide (i ≤ j))) fLe := sv_cmp _

/-! ### -x, ~x -/
def mUn (g : Int → Int) (m : MExp) : MExp := bindM m fun x _ S => match x with
  | .p (.int i) => .ok (.p (.int (g i))) S
  | _ => .bad
theorem me_un {op : UnaryOp} {g : Int → Int} (ho : UnR X (unaryOp op) (rU fun i => .int (g i))) (ha : PE X a (rd G W ma)) : PE X (.UnaryOp op a pos) (rd G W (mUn g ma)) :=
  peI (pe_un ho ha) fun σ H Q _ ⟨r, S, e, sr, h⟩ => bind_rd sr h fun x S1 r1 H1 v1 st1 sr1 i1 h1 => by
    cases x with
    | l n => exact h1.elim
    | p x =>
      cases x with
      | int i =>
        have i1 : Is G r1 H1 (.int i) v1 := i1
        unfold Is at i1
        exact ⟨i, i1, fun _ => h1 r1 H1 _ (StepE.refl _ _) sr1 is_int⟩
      | _ => exact h1.elim
theorem me_neg (ha : PE X a (rd G W ma)) : PE X (.UnaryOp .USub a pos) (rd G W (mUn (fun i => -i) ma)) := me_un un_neg ha
theorem me_inv (ha : PE X a (rd G W ma)) : PE X (.UnaryOp .Invert a pos) (rd G W (mUn Builtin.bitNot ma)) := me_un un_inv ha

/-! ### argument lists, displays -/
def mNil : MArg := fun _ S => .ok [] S
def mCons (m : MExp) (n : MArg) : MArg := bindM m fun x => bindM n fun xs _ S => .ok (x :: xs) S
theorem ma_nil : PA X [] (rdA G W mNil) := paI pa_nil fun σ H Q _ ⟨r, S, e, sr, h⟩ _ => h r H [] (StepE.refl _ _) sr (by unfold RIsAll; rfl)
theorem ma_cons {es : List Expr} {na : MArg} (ha : PE X a (rd G W ma)) (hr : PA X es (rdA G W na)) (hs : starEach (a :: es) X.env = (false, eval a X.env) :: starEach es X.env := by rfl) : PA X (a :: es) (rdA G W (mCons ma na)) :=
  paI (pa_cons ha hr hs) fun σ H Q _ ⟨r, S, e, sr, h⟩ => bind_rd sr h fun x S1 r1 H1 v1 st1 sr1 i1 h1 => bind_rd sr1 h1 fun xs S2 r2 H2 vs st2 sr2 i2 h2 kf =>
    h2 r2 H2 _ (StepE.refl _ _) sr2 (RIsAll.cons.mpr ⟨i1.step st2 sr1.st.noFrz, i2⟩)
def pures : List RV → Option (List PV)
  | [] => some []
  | .p x :: xs => (match pures xs with
    | some ys => some (x :: ys)
    | none => none)
  | .l _ :: _ => none
theorem RIsAll.pures {r : Ads} {H : Hp} : ∀ {xs : List RV} {ys : List PV} {vs : List V}, RIsAll G r H xs vs → pures xs = some ys → IsAll G r H ys vs
  | [], ys, vs, h, e => by unfold RIsAll at h; unfold Mm.pures at e; cases e; subst h; exact IsAll.nil
  | .p x :: xs, ys, vs, h, e => by
    unfold RIsAll at h
    obtain ⟨v, ws, rfl, q, t⟩ := h
    unfold Mm.pures at e
    cases e1 : Mm.pures xs with
    | none => rw [e1] at e; cases e
    | some zs =>
      rw [e1] at e
      cases e
      exact IsAll.cons.mpr ⟨q, RIsAll.pures t e1⟩
  | .l n :: xs, ys, vs, h, e => by unfold Mm.pures at e; cases e
def mTup (m : MArg) : MExp := bindM m fun xs _ S => match pures xs with
  | some ys => if ys.length ≤ 1000 then .ok (.p (.tup ys)) S else .bad
  | none => .bad
def mLst (m : MArg) : MExp := bindM m fun xs _ S => match pures xs with
  | some ys => if ys.length ≤ 1000 then .ok (.p (.lst ys)) S else .bad
  | none => .bad
/-- a new list that is owned -/
def mLstO (m : MArg) : MExp := bindM m fun xs _ S => match pures xs with
  | some ys => if ys.length ≤ 1000 then .ok (.l S.length) (S ++ [.lst ys]) else .bad
  | none => .bad
theorem le1000 {n : Nat} (h : n ≤ 1000) : n ≤ sizeLine := Nat.le_of_lt (small1000 h)
theorem me_tup {es : List Expr} {na : MArg} {x1} (hG : X.K = G.K) (h : PA X es (rdA G W na)) : PE X (.Tuple es x1 pos) (rd G W (mTup na)) :=
  peI (pe_tupX h) fun σ H Q _ ⟨r, S, e, sr, h⟩ => by
    rw [hG]
    refine bind_rd sr h fun xs S1 r1 H1 vs st1 sr1 i1 h1 => ?_
    cases hp : pures xs with
    | none => rw [hp] at h1; exact h1.elim
    | some ys =>
      rw [hp] at h1
      dsimp only at h1
      by_cases hl : ys.length ≤ 1000
      · rw [if_pos hl] at h1
        have i2 := i1.pures hp
        exact ⟨le1000 (by rw [← i2.len]; exact hl), fun p o hn ho kf => h1 r1 _ _ (StepE.laid hn) (sr1.laid hn kf) (is_tupN sr1.st.toStR0 hn ho i2)⟩
      · rw [if_neg hl] at h1; exact h1.elim
theorem me_lst {es : List Expr} {na : MArg} (hG : X.K = G.K) (h : PA X es (rdA G W na)) : PE X (.List es pos) (rd G W (mLst na)) :=
  peI (pe_lst h) fun σ H Q _ ⟨r, S, e, sr, h⟩ => by
    rw [hG]
    refine bind_rd sr h fun xs S1 r1 H1 vs st1 sr1 i1 h1 => ?_
    cases hp : pures xs with
    | none => rw [hp] at h1; exact h1.elim
    | some ys =>
      rw [hp] at h1
      dsimp only at h1
      by_cases hl : ys.length ≤ 1000
      · rw [if_pos hl] at h1
        have i2 := i1.pures hp
        exact ⟨le1000 (by rw [← i2.len]; exact hl), fun p hn kf => h1 r1 _ _ (StepE.laid hn) (sr1.laid hn kf) (is_lstN sr1.st.toStR0 hn i2)⟩
      · rw [if_neg hl] at h1; exact h1.elim
/-- a new object that is owned -/
theorem StepE.own {K : PySem.W.Frag} {r : Ads} {H : Hp} {p : Addr} {o : HO} (h : H p = none) (hk : K.lookup p = none) : StepE K r H (r ++ [some p]) (upd H p o) :=
  ⟨⟨fun b u e _ _ => by rw [upd_ne (ne_of_none e h)]; exact e, fun b xs e => by rw [upd_ne (ne_of_none e h)]; exact e, fun b hb => by
      rcases List.mem_append.mp hb with z | z
      · exact .inl z
      · have e : b = p := by simpa using z
        rw [e]
        exact .inr ⟨nw h, hk⟩⟩,
    fun n hn => List.getElem?_append_left hn, by rw [List.length_append]; exact Nat.le_add_right _ _⟩
theorem kf_new {K : PySem.W.Frag} {H : Hp} {p : Addr} {o : HO} (kf : KF K (upd H p o)) : K.lookup p = none := by
  cases e : K.lookup p with
  | none => rfl
  | some u =>
    have := kf.top p u e
    rw [upd_same] at this
    cases this
theorem StR0.own {r : Ads} {H : Hp} {S : Sto} {p : Addr} {o : HO} {m : MO} (s : StR0 G r H S) (h : H p = none) (hk : G.K.lookup p = none) (hm : MOk G (r ++ [some p]) (upd H p o) p m) : StR0 G (r ++ [some p]) (upd H p o) (S ++ [m]) := by
  have st := StepE.own (r := r) (o := o) h hk
  have fr := s.fresh h
  refine ⟨by rw [List.length_append, List.length_append, s.len]; rfl, fun i j a hi hj => ?_, fun n a ha => ?_, Tabs.laid s.tabs h⟩
  · by_cases h1 : i < r.length
    · rw [List.getElem?_append_left h1] at hi
      by_cases h2 : j < r.length
      · rw [List.getElem?_append_left h2] at hj
        exact s.nd i j a hi hj
      · rw [List.getElem?_append_right (by omega)] at hj
        have e : some (some p) = some (some a) := by
          cases q : j - r.length with
          | zero => rw [q] at hj; exact hj
          | succ k => rw [q] at hj; simp at hj
        cases e
        exact absurd (List.mem_of_getElem? hi) fr
    · rw [List.getElem?_append_right (by omega)] at hi
      have e : i - r.length = 0 ∧ p = a := by
        cases q : i - r.length with
        | zero => rw [q] at hi; simp at hi; exact ⟨rfl, hi⟩
        | succ k => rw [q] at hi; simp at hi
      obtain ⟨e1, e2⟩ := e
      subst e2
      by_cases h2 : j < r.length
      · rw [List.getElem?_append_left h2] at hj
        exact absurd (List.mem_of_getElem? hj) fr
      · rw [List.getElem?_append_right (by omega)] at hj
        cases q : j - r.length with
        | zero => omega
        | succ k => rw [q] at hj; simp at hj
  · by_cases h1 : n < r.length
    · rw [List.getElem?_append_left h1] at ha
      obtain ⟨m', hm', q⟩ := s.obj n a ha
      obtain ⟨u, hu⟩ := q.ex
      refine ⟨m', ?_, q.step st s.noFrz (by rw [upd_ne (ne_of_none hu h)])⟩
      rw [List.getElem?_append_left (by rw [← s.len]; exact h1)]
      exact hm'
    · rw [List.getElem?_append_right (by omega)] at ha
      cases q : n - r.length with
      | zero =>
        rw [q] at ha
        have e : p = a := by simpa using ha
        subst e
        refine ⟨m, ?_, hm⟩
        rw [List.getElem?_append_right (by rw [← s.len]; omega), ← s.len, q]
        rfl
      | succ k => rw [q] at ha; simp at ha
theorem StR.own {r : Ads} {H : Hp} {S : Sto} {p : Addr} {o : HO} {m : MO} (s : StR G r H S) (h : H p = none) (kf : KF G.K (upd H p o)) (hm : MOk G (r ++ [some p]) (upd H p o) p m) : StR G (r ++ [some p]) (upd H p o) (S ++ [m]) := ⟨s.toStR0.own h (kf_new kf) hm, kf⟩
theorem SR.own {r : Ads} {H : Hp} {S : Sto} {e : MEnv} {σ : L2.St} {p : Addr} {o : HO} {m : MO} (s : SR G r H S e σ) (h : H p = none) (kf : KF G.K (upd H p o)) (hm : MOk G (r ++ [some p]) (upd H p o) p m) : SR G (r ++ [some p]) (upd H p o) (S ++ [m]) e σ :=
  ⟨s.st.own h kf hm, s.env.step (StepE.own h (kf_new kf)) s.st.noFrz⟩
theorem is_own {r : Ads} {H : Hp} {S : Sto} {p : Addr} {H' : Hp} (s : StR G r H S) : RIs G (r ++ [some p]) H' (.l S.length) (.ref p) :=
  ⟨p, by rw [← s.len, List.getElem?_append_right (Nat.le_refl _), Nat.sub_self]; rfl, rfl⟩
/-- a rule that lays a new list: the list is owned -/
theorem own_lst {r : Ads} {H : Hp} {S : Sto} {e : MEnv} {σ : L2.St} {ys : List PV} {vs : List V} {p : Addr} {Q : VK} (sr : SR G r H S e σ) (i : IsAll G r H ys vs) (hn : H p = none) (kf : KF G.K (upd H p (.lst vs)))
    (h : Sat (RIs G) G W r H e σ Q (.ok (.l S.length) (S ++ [.lst ys]))) : Q (.ref p) (upd H p (.lst vs)) :=
  h _ _ _ (StepE.own hn (kf_new kf)) (sr.own hn kf ⟨vs, upd_same, i.step (StepE.own hn (kf_new kf)).toStep sr.st.noFrz⟩) (is_own sr.st)
theorem me_lstO {es : List Expr} {na : MArg} (hG : X.K = G.K) (h : PA X es (rdA G W na)) : PE X (.List es pos) (rd G W (mLstO na)) :=
  peI (pe_lst h) fun σ H Q _ ⟨r, S, e, sr, h⟩ => by
    rw [hG]
    refine bind_rd sr h fun xs S1 r1 H1 vs st1 sr1 i1 h1 => ?_
    cases hp : pures xs with
    | none => rw [hp] at h1; exact h1.elim
    | some ys =>
      rw [hp] at h1
      dsimp only at h1
      by_cases hl : ys.length ≤ 1000
      · rw [if_pos hl] at h1
        have i2 := i1.pures hp
        exact ⟨le1000 (by rw [← i2.len]; exact hl), fun p hn kf => own_lst sr1 i2 hn kf h1⟩
      · rw [if_neg hl] at h1; exact h1.elim

/-! ### fields -/
structure GF (G : GC) : Prop where
  cl : ∀ c f, c < 100 → f ∈ G.flds c → Cls G.K (G.cls c)
  na : ∀ c f, c < 100 → f ∈ G.flds c → NoAttr G.K (G.cls c) f
def mFld (fl : Nat → List Str) (f : Str) (m : MExp) : MExp := bindM m fun x _ S => match x with
  | .p (.ins c fs) => if c < 100 then (match ((fl c).zip fs).lookup f with
    | some v => .ok (.p v) S
    | none => .bad) else .bad
  | .l n => (match S[n]? with
    | some (.ins c fs) => if c < 100 then (match ((fl c).zip fs).lookup f with
      | some v => .ok (.p v) S
      | none => .bad) else .bad
    | _ => .bad)
  | _ => .bad
theorem zip_look {r : Ads} {H : Hp} {f : Str} : ∀ {ns : List Str} {fs : List PV} {vs : List V} {x : PV}, IsAll G r H fs vs → (ns.zip fs).lookup f = some x → f ∈ ns ∧ ∃ v, (ns.zip vs).lookup f = some v ∧ Is G r H x v
  | [], fs, vs, x, i, h => by simp at h
  | n :: ns, [], vs, x, i, h => by simp at h
  | n :: ns, y :: fs, vs, x, i, h => by
    unfold IsAll at i
    obtain ⟨v, ws, rfl, q, t⟩ := i
    rw [List.zip_cons_cons] at h ⊢
    unfold List.lookup at h ⊢
    cases e : f == n with
    | true =>
      rw [e] at h
      cases h
      exact ⟨by rw [beq_iff_eq.mp e]; exact List.mem_cons_self, v, rfl, q⟩
    | false =>
      rw [e] at h
      obtain ⟨h1, h2⟩ := zip_look t h
      exact ⟨List.mem_cons_of_mem _ h1, h2⟩
theorem zip_lookR {r : Ads} {H : Hp} {f : Str} : ∀ {ns : List Str} {fs : List RV} {vs : List V} {x : RV}, RIsAll G r H fs vs → (ns.zip fs).lookup f = some x → f ∈ ns ∧ ∃ v, (ns.zip vs).lookup f = some v ∧ RIs G r H x v
  | [], fs, vs, x, i, h => by simp at h
  | n :: ns, [], vs, x, i, h => by simp at h
  | n :: ns, y :: fs, vs, x, i, h => by
    unfold RIsAll at i
    obtain ⟨v, ws, rfl, q, t⟩ := i
    rw [List.zip_cons_cons] at h ⊢
    unfold List.lookup at h ⊢
    cases e : f == n with
    | true =>
      rw [e] at h
      cases h
      exact ⟨by rw [beq_iff_eq.mp e]; exact List.mem_cons_self, v, rfl, q⟩
    | false =>
      rw [e] at h
      obtain ⟨h1, h2⟩ := zip_lookR t h
      exact ⟨List.mem_cons_of_mem _ h1, h2⟩
theorem me_fld {f : Str} (hG : X.K = G.K) (F : GF G) (he : PE X e0 (rd G W ma)) (hb : attributeBase e0 f X.env (eval e0 X.env) = eval e0 X.env := by rfl) : PE X (.Attribute e0 f pos) (rd G W (mFld G.flds f ma)) :=
  peI (pe_fld he hb) fun σ H Q _ ⟨r, S, e, sr, h⟩ => by
    rw [hG]
    refine bind_rd sr h fun x S1 r1 H1 v1 st1 sr1 i1 h1 => ?_
    cases x with
    | p x =>
      cases x with
      | ins c fs =>
        dsimp only at h1
        split at h1
        · rename_i hc
          cases hl : ((G.flds c).zip fs).lookup f with
          | none => rw [hl] at h1; exact h1.elim
          | some y =>
            rw [hl] at h1
            have i1 : Is G r1 H1 (.ins c fs) v1 := i1
            unfold Is at i1
            obtain ⟨a, dx, vs, rfl, ha, hH, hlen, hall⟩ := i1
            obtain ⟨hm, v, hv, hi⟩ := zip_look hall hl
            exact ⟨a, _, dx, _, v, rfl, hH, F.cl c f hc hm, F.na c f hc hm, hv, fun _ => h1 r1 H1 _ (StepE.refl _ _) sr1 hi⟩
        · exact h1.elim
      | _ => exact h1.elim
    | l n =>
      dsimp only at h1
      obtain ⟨a, ha, rfl⟩ := i1
      obtain ⟨m, hm, q⟩ := sr1.st.obj n a ha
      rw [hm] at h1
      cases m with
      | ins c fs =>
        dsimp only at h1
        split at h1
        · rename_i hc
          cases hl : ((G.flds c).zip fs).lookup f with
          | none => rw [hl] at h1; exact h1.elim
          | some y =>
            rw [hl] at h1
            obtain ⟨dx, vs, hH, hlen, hall⟩ := q
            obtain ⟨hmm, v, hv, hi⟩ := zip_look hall hl
            exact ⟨a, _, dx, _, v, rfl, hH, F.cl c f hc hmm, F.na c f hc hmm, hv, fun _ => h1 r1 H1 _ (StepE.refl _ _) sr1 hi⟩
        · exact h1.elim
      | _ => exact h1.elim
end

/-! ### subscripts -/
/-- a list or a tuple as it stands -/
def seqOf (x : RV) (S : Sto) : Option (List PV) := match x with
  | .p (.tup xs) => some xs
  | .p (.lst xs) => some xs
  | .p (.scr xs) => some xs
  | .l n => (match S[n]? with
    | some (.lst xs) => some xs
    | _ => none)
  | _ => none
theorem seqOf_isX {G : GC} {r : Ads} {H : Hp} {S : Sto} {x : RV} {v : V} {xs : List PV} (s : StR G r H S) (i : RIs G r H x v) (h : seqOf x S = some xs) : ∃ a vs, v = .ref a ∧ (SqL G.K H a vs ∨ SqX G.K H a vs) ∧ IsAll G r H xs vs := by
  unfold seqOf at h
  split at h
  · cases h
    have i : Is G r H (.tup _) v := i
    unfold Is at i
    obtain ⟨a, vs, e, q, t⟩ := i
    exact ⟨a, vs, e, .inr q, t⟩
  · cases h
    have i : Is G r H (.lst _) v := i
    unfold Is at i
    obtain ⟨a, vs, e, _, q, t⟩ := i
    exact ⟨a, vs, e, .inl (SqL.of q), t⟩
  · cases h
    have i : Is G r H (.scr _) v := i
    unfold Is at i
    obtain ⟨a, vs, e, _, q, t⟩ := i
    exact ⟨a, vs, e, .inl q, t⟩
  · rename_i n
    obtain ⟨a, ha, e⟩ := i
    obtain ⟨m, hm, q⟩ := s.obj n a ha
    rw [hm] at h
    cases m with
    | lst ys =>
      cases h
      obtain ⟨vs, hv, t⟩ := q
      exact ⟨a, vs, e, .inl (SqL.of hv), t⟩
    | _ => cases h
  · cases h
theorem seqOf_is {G : GC} {r : Ads} {H : Hp} {S : Sto} {x : RV} {v : V} {xs : List PV} (s : StR G r H S) (i : RIs G r H x v) (h : seqOf x S = some xs) : ∃ a vs, v = .ref a ∧ (SqL G.K H a vs ∨ SqT G.K H a vs) ∧ IsAll G r H xs vs := by
  obtain ⟨a, vs, e, q, t⟩ := seqOf_isX s i h
  exact ⟨a, vs, e, q.elim .inl fun q => .inr q.t, t⟩
theorem atI_is {G : GC} {r : Ads} {H : Hp} {xs : List PV} {vs : List V} {i : Int} {x : PV} (h : IsAll G r H xs vs) (e : atI xs i = some x) : ∃ v, atI vs i = some v ∧ Is G r H x v := by
  unfold atI at e ⊢
  rw [← h.len]
  cases q : ixN xs.length i with
  | none => rw [q] at e; cases e
  | some j =>
    rw [q] at e
    exact h.get' e
def mIx (m n : MExp) : MExp := bindM m fun x => bindM n fun y _ S => match y with
  | .p (.int i) => (match seqOf x S with
    | some xs => (match atI xs i with
      | some v => .ok (.p v) S
      | none => .bad)
    | none => (match x with
      | .p (.str z) => if z.length ≤ 1000 then (match atI z.cps.toList i with
        | some c => .ok (.p (.str ⟨#[c]⟩)) S
        | none => .bad) else .bad
      | _ => .bad))
  | _ => .bad
section
variable {X : Cx} {G : GC} {W : WX} {a b c e0 : Expr} {ma mb mc : MExp} {pos : Pos}
theorem me_ix (hG : X.K = G.K) (ha : PE X a (rd G W ma)) (hb : PE X b (rd G W mb)) (hs : PlainIx b := by intro _ _; rfl) : PE X (.Subscript a b pos) (rd G W (mIx ma mb)) :=
  peI (pe_ix ix_seq ha hb hs) fun σ H Q _ ⟨r, S, e, sr, h⟩ => by
    rw [hG]
    refine bind_rd sr h fun x S1 r1 H1 v1 st1 sr1 i1 h1 => ?_
    refine bind_rd sr1 h1 fun y S2 r2 H2 v2 st2 sr2 i2 h2 => ?_
    have i1' := i1.step st2 sr1.st.noFrz
    cases y with
    | l n => exact h2.elim
    | p y =>
      cases y with
      | int i =>
        have i2 : Is G r2 H2 (.int i) v2 := i2
        unfold Is at i2
        dsimp only at h2
        cases hq : seqOf x S2 with
        | some xs =>
          rw [hq] at h2
          dsimp only at h2
          cases ht : atI xs i with
          | none => rw [ht] at h2; exact h2.elim
          | some y =>
            rw [ht] at h2
            obtain ⟨p, vs, rfl, q, t⟩ := seqOf_is sr2.st i1' hq
            obtain ⟨v, hv, iv⟩ := atI_is t ht
            have fin : KF G.K H2 → Q v H2 := fun _ => h2 r2 H2 v (StepE.refl _ _) sr2 iv
            rcases q with q | q
            · exact .inl ⟨p, vs, i, v, rfl, i2, q, hv, fin⟩
            · exact .inr (.inl ⟨p, vs, i, v, rfl, i2, q, hv, fin⟩)
        | none =>
          rw [hq] at h2
          dsimp only at h2
          split at h2
          · rename_i z
            split at h2
            · rename_i hz
              have i1' : Is G r2 H2 (.str z) v1 := i1'
              unfold Is at i1'
              subst i1'
              cases ht : atI z.cps.toList i with
              | none => rw [ht] at h2; exact h2.elim
              | some k =>
                rw [ht] at h2
                exact .inr (.inr ⟨z, i, k, rfl, i2, le1000 hz, ht, fun _ => h2 r2 H2 _ (StepE.refl _ _) sr2 (by show Is _ _ _ _ _; unfold Is; rfl)⟩)
            · exact h2.elim
          · exact h2.elim
      | _ => exact h2.elim
end
end Mm
end

section
set_option Elab.async false
set_option linter.all false
set_option maxRecDepth 100000
namespace Mm
open PySem PySem.Spec PyProof.Rows L2

/-! ### slices -/
abbrev MPart := MEnv → Sto → Res (Option Int)
abbrev RPart : Ads → Hp → Option Int → Option Int → Prop := fun _ _ a b => a = b
abbrev rdP (G : GC) (W : WX) (m : MPart) : L2.TO := rdX RPart G W m
def mNoP : MPart := fun _ S => .ok none S
def mPart (m : MExp) : MPart := bindM m fun x _ S => match x with
  | .p (.int i) => .ok (some i) S
  | _ => .bad
def cutP {α : Type} (xs : List α) (lo hi : Option Int) : List α := (xs.drop (HT.sIx xs.length 0 lo)).take (HT.sIx xs.length xs.length hi - HT.sIx xs.length 0 lo)
def mSl (m : MExp) (l u : MPart) : MExp := bindM m fun x => bindM l fun lo => bindM u fun hi _ S => match x with
  | .p (.tup xs) => .ok (.p (.tup (cutP xs lo hi))) S
  | .p (.lst xs) => .ok (.p (.lst (cutP xs lo hi))) S
  | .p (.scr xs) => .ok (.p (.lst (cutP xs lo hi))) S
  | .p (.str z) => if z.length ≤ 1000 then .ok (.p (.str (cutS z lo hi))) S else .bad
  | _ => .bad
section
variable {X : Cx} {G : GC} {W : WX} {a b c e0 : Expr} {ma mb mc : MExp} {pos p2 : Pos} {lo hi : Option Expr} {ml mu : MPart}
theorem mo_none : PO X none (rdP G W mNoP) := ⟨fun pins s σ H Q I h => (po_none (X := X)).run pins s σ H Q I (by
  obtain ⟨r, S, e, sr, h⟩ := h
  exact h r H none (StepE.refl _ _) sr rfl)⟩
theorem mo_some (h : PE X a (rd G W ma)) : PO X (some a) (rdP G W (mPart ma)) := ⟨fun pins s σ H Q I q => (po_some h).run pins s σ H Q I (by
  obtain ⟨r, S, e, sr, q⟩ := q
  refine bind_rd sr q fun x S1 r1 H1 v1 st1 sr1 i1 h1 => ?_
  cases x with
  | l n => exact h1.elim
  | p x =>
    cases x with
    | int i =>
      have i1 : Is G r1 H1 (.int i) v1 := i1
      unfold Is at i1
      exact ⟨i, i1, h1 r1 H1 _ (StepE.refl _ _) sr1 rfl⟩
    | _ => exact h1.elim)⟩
theorem cut_is {r : Ads} {H : Hp} {xs : List PV} {vs : List V} (i : IsAll G r H xs vs) (lo hi : Option Int) : IsAll G r H (cutP xs lo hi) (cutV vs lo hi) := by
  unfold cutP cutV
  rw [← i.len]
  exact (i.drop _).take _
theorem cut_whole {xs : List V} {lo hi : Option Int} (h : HT.sIx xs.length 0 lo = 0 ∧ HT.sIx xs.length xs.length hi = xs.length) : cutV xs lo hi = xs := by
  unfold cutV
  rw [h.1, h.2]
  simp
theorem me_sl (hG : X.K = G.K) (ha : PE X a (rd G W ma)) (hl : PO X lo (rdP G W ml)) (hu : PO X hi (rdP G W mu)) : PE X (.Subscript a (.Slice lo hi none p2) pos) (rd G W (mSl ma ml mu)) :=
  peI (pe_slice ((sl_tupX (X := X)).or (sl_list.or sl_str)) ha hl hu) fun σ H Q _ ⟨r, S, e, sr, h⟩ => by
    rw [hG]
    refine bind_rd sr h fun x S1 r1 H1 v1 st1 sr1 i1 h1 => ?_
    refine bind_rd sr1 h1 fun lo' S2 r2 H2 lo2 st2 sr2 i2 h2 => ?_
    refine bind_rd sr2 h2 fun hi' S3 r3 H3 hi2 st3 sr3 i3 h3 => ?_
    have el : lo' = lo2 := i2
    have eh : hi' = hi2 := i3
    subst el eh
    have i1' := i1.step (st2.trans st3) sr1.st.noFrz
    cases x with
    | l n => exact h3.elim
    | p x =>
      have i1' : Is G r3 H3 x v1 := i1'
      cases x with
      | tup xs =>
        dsimp only at h3
        unfold Is at i1'
        obtain ⟨p, vs, rfl, q, t⟩ := i1'
        have tc := cut_is t lo' hi'
        refine .inl ⟨p, vs, rfl, q.t, fun hw kf => h3 r3 H3 _ (StepE.refl _ _) sr3 ?_, fun _ p' o hn ho kf => h3 r3 _ _ (StepE.laid hn) (sr3.laid hn kf) (is_tupN sr3.st.toStR0 hn ho tc)⟩
        rw [cut_whole hw] at tc
        show Is _ _ _ _ _
        unfold Is
        exact ⟨p, vs, rfl, q, tc⟩
      | lst xs =>
        dsimp only at h3
        unfold Is at i1'
        obtain ⟨p, vs, rfl, _, q, t⟩ := i1'
        exact .inr (.inl ⟨p, vs, rfl, SqL.of q, fun p' hn kf => h3 r3 _ _ (StepE.laid hn) (sr3.laid hn kf) (is_lstN sr3.st.toStR0 hn (cut_is t lo' hi'))⟩)
      | scr xs =>
        dsimp only at h3
        unfold Is at i1'
        obtain ⟨p, vs, rfl, _, q, t⟩ := i1'
        exact .inr (.inl ⟨p, vs, rfl, q, fun p' hn kf => h3 r3 _ _ (StepE.laid hn) (sr3.laid hn kf) (is_lstN sr3.st.toStR0 hn (cut_is t lo' hi'))⟩)
      | str z =>
        dsimp only at h3
        unfold Is at i1'
        subst i1'
        split at h3
        · rename_i hz
          exact .inr (.inr ⟨z, rfl, le1000 hz, fun _ => h3 r3 H3 _ (StepE.refl _ _) sr3 (by show Is _ _ _ _ _; unfold Is; rfl)⟩)
        · exact h3.elim
      | _ => exact h3.elim
end

/-! ### calls of built-ins: a plain function of the arguments -/
abbrev FC := List RV → Sto → Option PV
/-- f, without a change but for new things that nobody owns -/
def ServesC (G : GC) (t : List V → Hp → VK → Prop) (f : FC) : Prop := ∀ (r : Ads) (H : Hp) (S : Sto) (xs : List RV) (z : PV) (vs : List V) (Q : VK), StR G r H S → RIsAll G r H xs vs → f xs S = some z →
  (∀ u H', (H' = H ∨ ∃ p o, H p = none ∧ (∀ ps, o ≠ .tbl ps) ∧ H' = upd H p o) → Is G r H' z u → Q u H') → t vs H Q
def mB (f : FC) (m : MArg) : MExp := bindM m fun xs _ S => match f xs S with
  | some z => .ok (.p z) S
  | none => .bad
/-- a new list comes -/
def ServesN (G : GC) (t : List V → Hp → VK → Prop) (f : List RV → Sto → Option (List PV)) : Prop := ∀ (r : Ads) (H : Hp) (S : Sto) (xs : List RV) (ys : List PV) (vs : List V) (Q : VK), StR G r H S → RIsAll G r H xs vs → f xs S = some ys →
  (∀ p us, H p = none → IsAll G r H ys us → Q (.ref p) (upd H p (.lst us))) → t vs H Q
def mBO (f : List RV → Sto → Option (List PV)) (m : MArg) : MExp := bindM m fun xs _ S => match f xs S with
  | some ys => .ok (.l S.length) (S ++ [.lst ys])
  | none => .bad
theorem ServesN.c {G : GC} {t : List V → Hp → VK → Prop} {f : List RV → Sto → Option (List PV)} (h : ServesN G t f) : ServesC G t (fun xs S => (f xs S).map .lst) := by
  intro r H S xs z vs Q st i hf k
  have hf : Option.map PV.lst (f xs S) = some z := hf
  cases e : f xs S with
  | none => rw [e] at hf; cases hf
  | some ys =>
    rw [e] at hf
    cases hf
    exact h r H S xs ys vs Q st i e fun p us hn iu => k _ _ (.inr ⟨p, _, hn, fun _ => noL, rfl⟩) (is_lstN st.toStR0 hn iu)
section
variable {X : Cx} {G : GC} {W : WX} {e0 : Expr} {es : List Expr} {na : MArg} {x : Str} {p pos : Pos} {id T : String} {t : List V → Hp → VK → Prop} {f : FC}
theorem B_sim (sv : ServesC G t f) {σ : L2.St} {H : Hp} {Q : VK} (h : rd G W (mB f na) σ H Q) : tCB t (rdA G W na) σ H (fun v H' => KF G.K H' → Q v H') := by
  obtain ⟨r, S, e, sr, h⟩ := h
  refine bind_rd sr h fun xs S1 r1 H1 vs st1 sr1 i1 h1 => ?_
  cases hf : f xs S1 with
  | none => rw [hf] at h1; exact h1.elim
  | some z =>
    rw [hf] at h1
    refine sv r1 H1 S1 xs z vs _ sr1.st i1 hf fun u H' hh iz kf => ?_
    rcases hh with rfl | ⟨q, o, hq, ho, rfl⟩
    · exact h1 r1 _ u (StepE.refl _ _) sr1 iz
    · exact h1 r1 _ u (StepE.laid hq) (sr1.laid hq kf) iz
theorem BO_sim {f : List RV → Sto → Option (List PV)} (sv : ServesN G t f) {σ : L2.St} {H : Hp} {Q : VK} (h : rd G W (mBO f na) σ H Q) : tCB t (rdA G W na) σ H (fun v H' => KF G.K H' → Q v H') := by
  obtain ⟨r, S, e, sr, h⟩ := h
  refine bind_rd sr h fun xs S1 r1 H1 vs st1 sr1 i1 h1 => ?_
  cases hf : f xs S1 with
  | none => rw [hf] at h1; exact h1.elim
  | some ys =>
    rw [hf] at h1
    exact sv r1 H1 S1 xs ys vs _ sr1.st i1 hf fun q us hq iu kf => own_lst sr1 iu hq kf h1
theorem me_callB (hG : X.K = G.K) (hc : CallR X (.builtin id) t) (sv : ServesC G t f) (hg : Gl X x) (hm : X.mg x = none) (hv : bootBuiltins x = some (.builtin id)) (ha : PA X (e0 :: es) (rdA G W na)) (hn : x ≠ "__name__" := by decide) (hdb : (x == ("__debug__" : Str)) = false := by decide)
    (he : starEach (e0 :: es) X.env = (false, eval e0 X.env) :: starEach es X.env := by rfl) (hpl : (backTo pos (starEach es X.env)).any (·.1) = false := by rfl) : PE X (.Call (.Name x p) (e0 :: es) [] pos) (rd G W (mB f na)) :=
  peI (pe_callB hc hg hm hv ha hn hdb he hpl) fun σ H Q _ h => by rw [hG]; exact B_sim sv h
theorem me_callBO {f : List RV → Sto → Option (List PV)} (hG : X.K = G.K) (hc : CallR X (.builtin id) t) (sv : ServesN G t f) (hg : Gl X x) (hm : X.mg x = none) (hv : bootBuiltins x = some (.builtin id)) (ha : PA X (e0 :: es) (rdA G W na)) (hn : x ≠ "__name__" := by decide) (hdb : (x == ("__debug__" : Str)) = false := by decide)
    (he : starEach (e0 :: es) X.env = (false, eval e0 X.env) :: starEach es X.env := by rfl) (hpl : (backTo pos (starEach es X.env)).any (·.1) = false := by rfl) : PE X (.Call (.Name x p) (e0 :: es) [] pos) (rd G W (mBO f na)) :=
  peI (pe_callB hc hg hm hv ha hn hdb he hpl) fun σ H Q _ h => by rw [hG]; exact BO_sim sv h
theorem me_callT (hG : X.K = G.K) (hc : CallR X (.type T) t) (sv : ServesC G t f) (hg : Gl X x) (hm : X.mg x = none) (hv : bootBuiltins x = some (.type T)) (ha : PA X (e0 :: es) (rdA G W na)) (hn : x ≠ "__name__" := by decide) (hdb : (x == ("__debug__" : Str)) = false := by decide)
    (he : starEach (e0 :: es) X.env = (false, eval e0 X.env) :: starEach es X.env := by rfl) (hpl : (backTo pos (starEach es X.env)).any (·.1) = false := by rfl) : PE X (.Call (.Name x p) (e0 :: es) [] pos) (rd G W (mB f na)) :=
  peI (pe_callTy hc hg hm hv ha hn hdb he hpl) fun σ H Q _ h => by rw [hG]; exact B_sim sv h
theorem me_callTO {f : List RV → Sto → Option (List PV)} (hG : X.K = G.K) (hc : CallR X (.type T) t) (sv : ServesN G t f) (hg : Gl X x) (hm : X.mg x = none) (hv : bootBuiltins x = some (.type T)) (ha : PA X (e0 :: es) (rdA G W na)) (hn : x ≠ "__name__" := by decide) (hdb : (x == ("__debug__" : Str)) = false := by decide)
    (he : starEach (e0 :: es) X.env = (false, eval e0 X.env) :: starEach es X.env := by rfl) (hpl : (backTo pos (starEach es X.env)).any (·.1) = false := by rfl) : PE X (.Call (.Name x p) (e0 :: es) [] pos) (rd G W (mBO f na)) :=
  peI (pe_callTy hc hg hm hv ha hn hdb he hpl) fun σ H Q _ h => by rw [hG]; exact BO_sim sv h
end
theorem RIsAll.one {G : GC} {r : Ads} {H : Hp} {x : RV} {vs : List V} (h : RIsAll G r H [x] vs) : ∃ v, vs = [v] ∧ RIs G r H x v := by
  unfold RIsAll at h
  obtain ⟨v, ws, e, q, t⟩ := h
  unfold RIsAll at t
  subst t
  exact ⟨v, e, q⟩
theorem RIsAll.two {G : GC} {r : Ads} {H : Hp} {x y : RV} {vs : List V} (h : RIsAll G r H [x, y] vs) : ∃ v w, vs = [v, w] ∧ RIs G r H x v ∧ RIs G r H y w := by
  unfold RIsAll at h
  obtain ⟨v, ws, e, q, t⟩ := h
  obtain ⟨w, e2, q2⟩ := t.one
  subst e2
  exact ⟨v, w, e, q, q2⟩
theorem ServesC.or {G : GC} {t t' : List V → Hp → VK → Prop} {f f' g : FC} (h : ServesC G t f) (h' : ServesC G t' f') (hg : ∀ xs S z, g xs S = some z → f xs S = some z ∨ f' xs S = some z) : ServesC G (fun xs H Q => t xs H Q ∨ t' xs H Q) g := by
  intro r H S xs z vs Q st i hf k
  rcases hg xs S z hf with q | q
  · exact .inl (h r H S xs z vs Q st i q k)
  · exact .inr (h' r H S xs z vs Q st i q k)

/-! len, tuple, list, sum, all, any, abs, int -/
def fLen : FC := fun xs S => match xs with
  | [x] => (match seqOf x S with
    | some ys => some (.int ys.length)
    | none => (match x with
      | .p (.str z) => if z.length ≤ 1000 then some (.int z.length) else none
      | _ => none))
  | _ => none
abbrev tLen (K : PySem.W.Frag) : List V → Hp → VK → Prop := fun xs H Q => (∃ p ys, xs = [.ref p] ∧ (SqL K H p ys ∨ SqT K H p ys) ∧ Q (.int ys.length) H) ∨ ∃ z, xs = [.str z] ∧ z.length ≤ sizeLine ∧ Q (.int z.length) H
theorem sv_len {G : GC} : ServesC G (tLen G.K) fLen := by
  intro r H S xs z vs Q st i hf k
  unfold fLen at hf
  split at hf
  · rename_i x
    obtain ⟨v, rfl, q⟩ := i.one
    split at hf
    · rename_i ys e
      cases hf
      obtain ⟨a, us, rfl, q2, t⟩ := seqOf_is st q e
      exact .inl ⟨a, us, rfl, q2, k _ H (.inl rfl) (by rw [t.len]; unfold Is; rfl)⟩
    · split at hf
      · split at hf
        · rename_i hz
          cases hf
          have q : Is G r H (.str _) v := q
          unfold Is at q
          subst q
          exact .inr ⟨_, rfl, le1000 hz, k _ H (.inl rfl) (by unfold Is; rfl)⟩
        · cases hf
      · cases hf
  · cases hf
def fTuple : FC := fun xs S => match xs with
  | [x] => (match seqOf x S with
    | some ys => some (.tup ys)
    | none => none)
  | _ => none
abbrev tTuple (K : PySem.W.Frag) : List V → Hp → VK → Prop := fun xs H Q => ∃ p ys, xs = [.ref p] ∧ ((SqL K H p ys ∧ NewT ys H Q) ∨ (SqT K H p ys ∧ Q (.ref p) H))
theorem sv_tuple {G : GC} : ServesC G (tTuple G.K) fTuple := by
  intro r H S xs z vs Q st i hf k
  unfold fTuple at hf
  split at hf
  · rename_i x
    obtain ⟨v, rfl, q⟩ := i.one
    split at hf
    · rename_i ys e
      cases hf
      obtain ⟨a, us, rfl, q2, t⟩ := seqOf_isX st q e
      rcases q2 with q2 | q2
      · exact ⟨a, us, rfl, .inl ⟨q2, fun l o hl ho => k _ _ (.inr ⟨l, _, hl, fun _ => noF, rfl⟩) (is_tupN st.toStR0 hl ho t)⟩⟩
      · exact ⟨a, us, rfl, .inr ⟨q2.t, k _ H (.inl rfl) (by unfold Is; exact ⟨a, us, rfl, q2, t⟩)⟩⟩
    · cases hf
  · cases hf
def fList : List RV → Sto → Option (List PV) := fun xs S => match xs with
  | [x] => seqOf x S
  | _ => none
theorem sv_list {G : GC} : ServesN G (fun xs H Q => ∃ p ys, xs = [.ref p] ∧ (SqL G.K H p ys ∨ SqT G.K H p ys) ∧ ∀ l, H l = none → Q (.ref l) (upd H l (.lst ys))) fList := by
  intro r H S xs ys vs Q st i hf k
  unfold fList at hf
  split at hf
  · obtain ⟨v, rfl, q⟩ := i.one
    obtain ⟨a, us, rfl, q2, t⟩ := seqOf_is st q hf
    exact ⟨a, us, rfl, q2, fun l hl => k l us hl t⟩
  · cases hf
def intsOf : List PV → Option (List Int)
  | [] => some []
  | .int i :: xs => (match intsOf xs with
    | some is => some (i :: is)
    | none => none)
  | _ :: _ => none
theorem ints_is {G : GC} {r : Ads} {H : Hp} : ∀ {xs : List PV} {is : List Int} {vs : List V}, IsAll G r H xs vs → intsOf xs = some is → vs = is.map V.int
  | [], is, vs, h, e => by unfold IsAll at h; unfold intsOf at e; cases e; exact h
  | x :: xs, is, vs, h, e => by
    unfold IsAll at h
    obtain ⟨v, ws, rfl, q, t⟩ := h
    cases x with
    | int i =>
      unfold intsOf at e
      cases e1 : intsOf xs with
      | none => rw [e1] at e; cases e
      | some js =>
        rw [e1] at e
        cases e
        unfold Is at q
        rw [q, ints_is t e1]
        rfl
    | _ => unfold intsOf at e; cases e
def boolsOf : List PV → Option (List Bool)
  | [] => some []
  | .bl i :: xs => (match boolsOf xs with
    | some is => some (i :: is)
    | none => none)
  | _ :: _ => none
theorem bools_is {G : GC} {r : Ads} {H : Hp} : ∀ {xs : List PV} {is : List Bool} {vs : List V}, IsAll G r H xs vs → boolsOf xs = some is → vs = is.map V.bl
  | [], is, vs, h, e => by unfold IsAll at h; unfold boolsOf at e; cases e; exact h
  | x :: xs, is, vs, h, e => by
    unfold IsAll at h
    obtain ⟨v, ws, rfl, q, t⟩ := h
    cases x with
    | bl i =>
      unfold boolsOf at e
      cases e1 : boolsOf xs with
      | none => rw [e1] at e; cases e
      | some js =>
        rw [e1] at e
        cases e
        unfold Is at q
        rw [q, bools_is t e1]
        rfl
    | _ => unfold boolsOf at e; cases e
/-- a list (no tuple) -/
def lstOf (x : RV) (S : Sto) : Option (List PV) := match x with
  | .p (.lst xs) => some xs
  | .p (.scr xs) => some xs
  | .l n => (match S[n]? with
    | some (.lst xs) => some xs
    | _ => none)
  | _ => none
theorem lstOf_is {G : GC} {r : Ads} {H : Hp} {S : Sto} {x : RV} {v : V} {xs : List PV} (s : StR G r H S) (i : RIs G r H x v) (h : lstOf x S = some xs) : ∃ a vs, v = .ref a ∧ SqL G.K H a vs ∧ IsAll G r H xs vs := by
  unfold lstOf at h
  split at h
  · cases h
    have i : Is G r H (.lst _) v := i
    unfold Is at i
    obtain ⟨a, vs, e, _, q, t⟩ := i
    exact ⟨a, vs, e, SqL.of q, t⟩
  · cases h
    have i : Is G r H (.scr _) v := i
    unfold Is at i
    obtain ⟨a, vs, e, _, q, t⟩ := i
    exact ⟨a, vs, e, q, t⟩
  · rename_i n
    obtain ⟨a, ha, e⟩ := i
    obtain ⟨m, hm, q⟩ := s.obj n a ha
    rw [hm] at h
    cases m with
    | lst ys =>
      cases h
      obtain ⟨vs, hv, t⟩ := q
      exact ⟨a, vs, e, SqL.of hv, t⟩
    | _ => cases h
  · cases h
def fSum : FC := fun xs S => match xs with
  | [x] => (match lstOf x S with
    | some ys => (match intsOf ys with
      | some is => some (.int is.sum)
      | none => none)
    | none => none)
  | _ => none
theorem sv_sum {G : GC} : ServesC G (rSum G.K) fSum := by
  intro r H S xs z vs Q st i hf k
  unfold fSum at hf
  split at hf
  · obtain ⟨v, rfl, q⟩ := i.one
    split at hf
    · rename_i ys e
      split at hf
      · rename_i is e2
        cases hf
        obtain ⟨a, us, rfl, q2, t⟩ := lstOf_is st q e
        have eu := ints_is t e2
        subst eu
        exact ⟨a, is, rfl, q2, k _ H (.inl rfl) (by unfold Is; rfl)⟩
      · cases hf
    · cases hf
  · cases hf
def fAll (f : List Bool → Bool) : FC := fun xs S => match xs with
  | [x] => (match lstOf x S with
    | some ys => (match boolsOf ys with
      | some is => some (.bl (f is))
      | none => none)
    | none => none)
  | _ => none
theorem sv_all {G : GC} : ServesC G (rAll G.K) (fAll fun bs => bs.all id) := by
  intro r H S xs z vs Q st i hf k
  unfold fAll at hf
  split at hf
  · obtain ⟨v, rfl, q⟩ := i.one
    split at hf
    · rename_i ys e
      split at hf
      · rename_i is e2
        cases hf
        obtain ⟨a, us, rfl, q2, t⟩ := lstOf_is st q e
        have eu := bools_is t e2
        subst eu
        exact ⟨a, is, rfl, q2, k _ H (.inl rfl) (by unfold Is; rfl)⟩
      · cases hf
    · cases hf
  · cases hf
theorem sv_any {G : GC} : ServesC G (rAny G.K) (fAll fun bs => bs.any id) := by
  intro r H S xs z vs Q st i hf k
  unfold fAll at hf
  split at hf
  · obtain ⟨v, rfl, q⟩ := i.one
    split at hf
    · rename_i ys e
      split at hf
      · rename_i is e2
        cases hf
        obtain ⟨a, us, rfl, q2, t⟩ := lstOf_is st q e
        have eu := bools_is t e2
        subst eu
        exact ⟨a, is, rfl, q2, k _ H (.inl rfl) (by unfold Is; rfl)⟩
      · cases hf
    · cases hf
  · cases hf
def fI1 (g : Int → Int) : FC := fun xs S => match xs with
  | [.p (.int i)] => some (.int (g i))
  | _ => none
theorem sv_abs {G : GC} : ServesC G (fun xs H Q => ∃ i, xs = [.int i] ∧ Q (.int (if i < 0 then -i else i)) H) (fI1 fun i => if i < 0 then -i else i) := by
  intro r H S xs z vs Q st i hf k
  unfold fI1 at hf
  split at hf
  · cases hf
    obtain ⟨v, rfl, q⟩ := i.one
    have q : Is G r H (.int _) v := q
    unfold Is at q
    subst q
    exact ⟨_, rfl, k _ H (.inl rfl) (by unfold Is; rfl)⟩
  · cases hf
theorem sv_int1 {G : GC} : ServesC G (fun xs H Q => (∃ i, xs = [.int i] ∧ Q (.int i) H) ∨ ∃ k, xs = [.bl k] ∧ Q (.int (if k then 1 else 0)) H) (fI1 id) := by
  intro r H S xs z vs Q st i hf k
  unfold fI1 at hf
  split at hf
  · cases hf
    obtain ⟨v, rfl, q⟩ := i.one
    have q : Is G r H (.int _) v := q
    unfold Is at q
    subst q
    exact .inl ⟨_, rfl, k _ H (.inl rfl) (by unfold Is; rfl)⟩
  · cases hf
def fI2 (g : Int → Int → Int) : FC := fun xs S => match xs with
  | [.p (.int i), .p (.int j)] => some (.int (g i j))
  | _ => none
theorem sv_i2 {G : GC} (g : Int → Int → Int) : ServesC G (fun xs H Q => ∃ i j, xs = [.int i, .int j] ∧ Q (.int (g i j)) H) (fI2 g) := by
  intro r H S xs z vs Q st i hf k
  unfold fI2 at hf
  split at hf
  · cases hf
    obtain ⟨v, w, rfl, q1, q2⟩ := i.two
    have q1 : Is G r H (.int _) v := q1
    have q2 : Is G r H (.int _) w := q2
    unfold Is at q1 q2
    subst q1 q2
    exact ⟨_, _, rfl, k _ H (.inl rfl) (by unfold Is; rfl)⟩
  · cases hf
section
variable {X : Cx} {G : GC} {W : WX} {e0 : Expr} {es : List Expr} {na : MArg} {p pos : Pos}
theorem me_len (hG : X.K = G.K) (hg : Gl X "len") (hm : X.mg "len" = none) (ha : PA X [e0] (rdA G W na)) (he : starEach [e0] X.env = (false, eval e0 X.env) :: starEach [] X.env := by rfl) : PE X (.Call (.Name "len" p) [e0] [] pos) (rd G W (mB fLen na)) :=
  me_callB hG (by rw [← hG]; exact call_len_seq.or call_len_str) sv_len hg hm PySem.boot_len ha (he := he)
theorem me_tuple (hG : X.K = G.K) (hg : Gl X "tuple") (hm : X.mg "tuple" = none) (ha : PA X [e0] (rdA G W na)) (he : starEach [e0] X.env = (false, eval e0 X.env) :: starEach [] X.env := by rfl) : PE X (.Call (.Name "tuple" p) [e0] [] pos) (rd G W (mB fTuple na)) :=
  me_callT hG (by rw [← hG]; exact call_tupleX) sv_tuple hg hm (by decide +kernel) ha (he := he)
theorem me_list (hG : X.K = G.K) (hg : Gl X "list") (hm : X.mg "list" = none) (ha : PA X [e0] (rdA G W na)) (he : starEach [e0] X.env = (false, eval e0 X.env) :: starEach [] X.env := by rfl) : PE X (.Call (.Name "list" p) [e0] [] pos) (rd G W (mB (fun xs S => (fList xs S).map .lst) na)) :=
  me_callT hG (by rw [← hG]; exact call_list_of) sv_list.c hg hm (by decide +kernel) ha (he := he)
theorem me_listO (hG : X.K = G.K) (hg : Gl X "list") (hm : X.mg "list" = none) (ha : PA X [e0] (rdA G W na)) (he : starEach [e0] X.env = (false, eval e0 X.env) :: starEach [] X.env := by rfl) : PE X (.Call (.Name "list" p) [e0] [] pos) (rd G W (mBO fList na)) :=
  me_callTO hG (by rw [← hG]; exact call_list_of) sv_list hg hm (by decide +kernel) ha (he := he)
theorem me_sum (hG : X.K = G.K) (hc : X.calm = true) (hg : Gl X "sum") (hm : X.mg "sum" = none) (ha : PA X [e0] (rdA G W na)) (he : starEach [e0] X.env = (false, eval e0 X.env) :: starEach [] X.env := by rfl) : PE X (.Call (.Name "sum" p) [e0] [] pos) (rd G W (mB fSum na)) :=
  me_callB hG (by rw [← hG]; exact cr_sum hc) sv_sum hg hm (by decide +kernel) ha (he := he)
theorem me_all (hG : X.K = G.K) (hc : X.calm = true) (hg : Gl X "all") (hm : X.mg "all" = none) (ha : PA X [e0] (rdA G W na)) (he : starEach [e0] X.env = (false, eval e0 X.env) :: starEach [] X.env := by rfl) : PE X (.Call (.Name "all" p) [e0] [] pos) (rd G W (mB (fAll fun bs => bs.all id) na)) :=
  me_callB hG (by rw [← hG]; exact cr_all hc) sv_all hg hm (by decide +kernel) ha (he := he)
theorem me_any (hG : X.K = G.K) (hc : X.calm = true) (hg : Gl X "any") (hm : X.mg "any" = none) (ha : PA X [e0] (rdA G W na)) (he : starEach [e0] X.env = (false, eval e0 X.env) :: starEach [] X.env := by rfl) : PE X (.Call (.Name "any" p) [e0] [] pos) (rd G W (mB (fAll fun bs => bs.any id) na)) :=
  me_callB hG (by rw [← hG]; exact cr_any hc) sv_any hg hm (by decide +kernel) ha (he := he)
theorem me_abs (hG : X.K = G.K) (hg : Gl X "abs") (hm : X.mg "abs" = none) (ha : PA X [e0] (rdA G W na)) (he : starEach [e0] X.env = (false, eval e0 X.env) :: starEach [] X.env := by rfl) : PE X (.Call (.Name "abs" p) [e0] [] pos) (rd G W (mB (fI1 fun i => if i < 0 then -i else i) na)) :=
  me_callB hG call_abs sv_abs hg hm (by decide +kernel) ha (he := he)
theorem me_int1 (hG : X.K = G.K) (hg : Gl X "int") (hm : X.mg "int" = none) (ha : PA X [e0] (rdA G W na)) (he : starEach [e0] X.env = (false, eval e0 X.env) :: starEach [] X.env := by rfl) : PE X (.Call (.Name "int" p) [e0] [] pos) (rd G W (mB (fI1 id) na)) :=
  me_callT hG call_int1 sv_int1 hg hm (by decide +kernel) ha (he := he)
theorem me_max2 {e1 : Expr} (hG : X.K = G.K) (hc : X.calm = true) (hg : Gl X "max") (hm : X.mg "max" = none) (ha : PA X [e0, e1] (rdA G W na)) (he : starEach [e0, e1] X.env = (false, eval e0 X.env) :: starEach [e1] X.env := by rfl) (hpl : (backTo pos (starEach [e1] X.env)).any (·.1) = false := by rfl) : PE X (.Call (.Name "max" p) [e0, e1] [] pos) (rd G W (mB (fI2 fun i j => if j > i then j else i) na)) :=
  me_callB hG (call_max2 hc) (sv_i2 _) hg hm (by decide +kernel) ha (he := he) (hpl := hpl)
theorem me_min2 {e1 : Expr} (hG : X.K = G.K) (hc : X.calm = true) (hg : Gl X "min") (hm : X.mg "min" = none) (ha : PA X [e0, e1] (rdA G W na)) (he : starEach [e0, e1] X.env = (false, eval e0 X.env) :: starEach [e1] X.env := by rfl) (hpl : (backTo pos (starEach [e1] X.env)).any (·.1) = false := by rfl) : PE X (.Call (.Name "min" p) [e0, e1] [] pos) (rd G W (mB (fI2 fun i j => if j < i then j else i) na)) :=
  me_callB hG (call_min2 hc) (sv_i2 _) hg hm (by decide +kernel) ha (he := he) (hpl := hpl)
end
end Mm
end

section
set_option Elab.async false
set_option linter.all false
set_option maxRecDepth 100000
namespace Mm
open PySem PySem.Spec PyProof.Rows L2

/-! ## statements -/
abbrev MStm := MEnv → Sto → ResS
def SatS (G : GC) (W : WX) (r : Ads) (H : Hp) (D : Ends) : ResS → Prop
  | .next e S => ∀ r' H' σ', StepE G.K r H r' H' → SR G r' H' S e σ' → D.nx σ' H'
  | .brk e S => ∀ r' H' σ', StepE G.K r H r' H' → SR G r' H' S e σ' → D.bk σ' H'
  | .cnt e S => ∀ r' H' σ', StepE G.K r H r' H' → SR G r' H' S e σ' → D.ct σ' H'
  | .ret x S => ∀ r' H' v, StepE G.K r H r' H' → StR G r' H' S → RIs G r' H' x v → D.rt v H'
  | .exn c fs e S => ExG G W r H e c fs S
  | .bad => False
def rdS (G : GC) (W : WX) (m : MStm) : TS := fun D σ H => ∃ r S e, SR G r H S e σ ∧ SatS G W r H D (m e S)
section
variable {G : GC} {W : WX} {r r1 : Ads} {H H1 : Hp} {D : Ends} {x : ResS}
theorem SatS.step (st : StepE G.K r H r1 H1) (h : SatS G W r H D x) : SatS G W r1 H1 D x := by
  cases x with
  | next e S => exact fun r' H' σ' st' => h r' H' σ' (st.trans st')
  | brk e S => exact fun r' H' σ' st' => h r' H' σ' (st.trans st')
  | cnt e S => exact fun r' H' σ' st' => h r' H' σ' (st.trans st')
  | ret x S => exact fun r' H' v st' => h r' H' v (st.trans st')
  | exn c fs e S => exact ExG.step st h
  | bad => exact h
end
def seqS (a b : MStm) : MStm := fun e S => match a e S with
  | .next e1 S1 => b e1 S1
  | x => x
def nilS : MStm := fun e S => .next e S
/-- an expression first -/
def bindS {α : Type} (m : MEnv → Sto → Res α) (k : α → MEnv → Sto → ResS) : MStm := fun e S => match m e S with
  | .ok x S1 => k x e S1
  | .exn c fs S1 => .exn c fs e S1
  | .bad => .bad
theorem bindS_rd {α β : Type} {G : GC} {W : WX} {r : Ads} {H : Hp} {e : MEnv} {σ : L2.St} {S : Sto} {D : Ends} {R : Ads → Hp → α → β → Prop} {m : MEnv → Sto → Res α} {k : α → MEnv → Sto → ResS} {Q1 : β → Hp → Prop}
    (sr : SR G r H S e σ) (h : SatS G W r H D (bindS m k e S))
    (c : ∀ x S1 r1 H1 v1, StepE G.K r H r1 H1 → SR G r1 H1 S1 e σ → R r1 H1 x v1 → SatS G W r1 H1 D (k x e S1) → Q1 v1 H1) : rdX R G W m σ H Q1 := by
  refine ⟨r, S, e, sr, ?_⟩
  unfold bindS at h
  cases hm : m e S with
  | ok x S1 =>
    rw [hm] at h
    exact fun r1 H1 v1 st s1 i => c x S1 r1 H1 v1 st s1 i (h.step st)
  | exn c fs S1 =>
    rw [hm] at h
    exact h
  | bad =>
    rw [hm] at h
    exact h
def setE (e : MEnv) (i : Nat) (x : RV) : MEnv := e.set i (some x)
theorem SR.set {G : GC} {r : Ads} {H : Hp} {S : Sto} {e : MEnv} {σ : L2.St} {i : Nat} {x : RV} {v : V} (s : SR G r H S e σ) (q : RIs G r H x v) : SR G r H S (setE e i x) (σ.set i (some v)) := by
  refine ⟨s.st, by unfold setE; rw [List.length_set, List.length_set]; exact s.env.1, fun j y h => ?_⟩
  unfold setE at h
  by_cases hj : i = j
  · subst hj
    rw [List.getElem?_set] at h
    simp only [if_true] at h
    split at h
    · rename_i hl
      cases h
      exact ⟨v, by rw [List.getElem?_set, if_pos rfl, if_pos (by rw [← s.env.1]; exact hl)], q⟩
    · cases h
  · rw [List.getElem?_set_ne hj] at h
    obtain ⟨w, h1, h2⟩ := s.env.2 j y h
    exact ⟨w, by rw [List.getElem?_set_ne hj]; exact h1, h2⟩

/-! ### targets -/
abbrev MG := RV → MEnv → Option MEnv
abbrev MGs := List PV → MEnv → Option MEnv
def rdG (G : GC) (ws : List Nat) (m : MG) : TG := fun v σ H Q => ∃ r S e x, SR G r H S e σ ∧ RIs G r H x v ∧ ∃ e1, m x e = some e1 ∧ ∀ σ1, wipe σ1 ws = wipe σ ws → SR G r H S e1 σ1 → Q σ1 H
def rdGs (G : GC) (ws : List Nat) (m : MGs) : TGs := fun vs σ H Q => ∃ r S e xs, SR G r H S e σ ∧ IsAll G r H xs vs ∧ ∃ e1, m xs e = some e1 ∧ ∀ σ1, wipe σ1 ws = wipe σ ws → SR G r H S e1 σ1 → Q σ1 H
def gN (i : Nat) : MG := fun x e => some (setE e i x)
def gNilM : MGs := fun xs e => match xs with
  | [] => some e
  | _ => none
def gConsM (m : MG) (n : MGs) : MGs := fun xs e => match xs with
  | x :: xs => (match m (.p x) e with
    | some e1 => n xs e1
    | none => none)
  | _ => none
def gT (n : Nat) (m : MGs) : MG := fun x e => match x with
  | .p (.tup xs) => if xs.length = n then m xs e else none
  | _ => none
section
variable {X : Cx} {G : GC} {W : WX} {pos : Pos} {ws : List Nat}
theorem wipe_set {σ : L2.St} {i : Nat} {x : Option V} : ∀ {ws : List Nat}, i ∈ ws → wipe (σ.set i x) ws = wipe σ ws
  | [], h => absurd h (by simp)
  | w :: ws, h => by
    unfold wipe
    by_cases hi : i ∈ ws
    · rw [wipe_set hi]
    · have e : i = w := (List.mem_cons.mp h).resolve_right hi
      subst e
      have comm : ∀ (ws : List Nat), i ∉ ws → wipe (σ.set i x) ws = (wipe σ ws).set i x := by
        intro ws
        induction ws with
        | nil => intro _; rfl
        | cons w ws ih =>
          intro hn
          unfold wipe
          rw [ih fun z => hn (List.mem_cons_of_mem _ z), List.set_comm _ _ (fun z => hn (by rw [z]; exact List.mem_cons_self))]
      rw [comm ws hi, List.set_set]
theorem pgImp {tg : Expr} {t t' : TG} (h : PG X tg t) (w : ∀ v σ H Q, t' v σ H Q → t v σ H Q) : PG X tg t' := ⟨fun pins s σ H v u Q I r q => h.run pins s σ H v u Q I r (w v σ H Q q)⟩
theorem pgsImp {tg : List Expr} {t t' : TGs} (h : PGs X tg t) (w : ∀ v σ H Q, t' v σ H Q → t v σ H Q) : PGs X tg t' := ⟨fun pins s σ H v u Q I r q => h.run pins s σ H v u Q I r (w v σ H Q q)⟩
theorem mg_name {i : Nat} {x : Str} (hw : i ∈ ws) (hN : X.N.Nodup) (hi : X.N[i]? = some x) (hx : Loc X.env.scope x) (hf : X.fn x = true ∨ X.env.scope.names.lookup x = some .local := by first | exact .inl rfl | exact .inr rfl | assumption) : PG X (.Name x pos) (rdG G ws (gN i)) :=
  pgImp (pg_name hN hi hx hf) fun v σ H Q ⟨r, S, e, x, sr, i, e1, h, q⟩ => by
    cases h
    exact q _ (wipe_set hw) (sr.set i)
theorem mgs_nil : PGs X [] (rdGs G ws gNilM) := pgsImp pgs_nil fun v σ H Q ⟨r, S, e, xs, sr, i, e1, h, q⟩ => by
  cases xs with
  | nil =>
    cases h
    unfold IsAll at i
    exact ⟨i, q _ rfl sr⟩
  | cons _ _ => cases h
theorem mgs_cons {a : Expr} {es : List Expr} {m : MG} {n : MGs} (h1 : PG X a (rdG G ws m)) (h2 : PGs X es (rdGs G ws n))
    (hs : (assignEach (a :: es) X.env).map (·.2) = assign a X.env :: (assignEach es X.env).map (·.2) := by rfl) : PGs X (a :: es) (rdGs G ws (gConsM m n)) :=
  pgsImp (pgs_cons h1 h2 hs) fun vs σ H Q ⟨r, S, e, xs, sr, i, e1, h, q⟩ => by
    cases xs with
    | nil => cases h
    | cons x xs =>
      unfold IsAll at i
      obtain ⟨v, ws, rfl, ix, it⟩ := i
      unfold gConsM at h
      dsimp only at h
      cases hm : m (.p x) e with
      | none => rw [hm] at h; cases h
      | some e2 =>
        rw [hm] at h
        exact ⟨v, ws, rfl, r, S, e, .p x, sr, ix, e2, hm, fun σ1 hw1 sr1 => ⟨r, S, e2, xs, sr1, it, e1, h, fun σ2 hw2 => q σ2 (hw2.trans hw1)⟩⟩
theorem mg_tup {es : List Expr} {k n : Nat} {m : MGs} (hG : X.K = G.K) (hc : X.calm = true) (h : PGs X es (rdGs G ws m)) (hn : (assignEach es X.env).length = n := by rfl) (hst : (assignEach es X.env).findIdx? (·.1) = none := by rfl) : PG X (.Tuple es k pos) (rdG G ws (gT n m)) :=
  pgImp (pg_tup hc h hn hst) fun v σ H Q ⟨r, S, e, x, sr, i, e1, h, q⟩ => by
    rw [hG]
    unfold gT at h
    split at h
    · split at h
      · rename_i hl
        have i : Is G r H (.tup _) v := i
        unfold Is at i
        obtain ⟨a, vs, rfl, hq, it⟩ := i
        exact ⟨a, vs, rfl, hq.t, by rw [← it.len]; exact hl, r, S, e, _, sr, it, e1, h, q⟩
      · cases h
    · cases h
end

/-! ### rules -/
section
variable {X : Cx} {G : GC} {W : WX} {pos : Pos} {st : Stmt} {rest : List Stmt} {m n : MStm} {ma mb : MExp} {a b : Expr}
theorem psI {t t' : TS} (h : PS X st t) (w : ∀ D σ H, KF X.K H → t' D σ H → t { nx := fun σ' H' => KF X.K H' → D.nx σ' H', rt := fun v H' => KF X.K H' → D.rt v H', bk := fun σ' H' => KF X.K H' → D.bk σ' H', ct := fun σ' H' => KF X.K H' → D.ct σ' H' } σ H) : PS X st t' :=
  ⟨fun pins s σ H D I h' => thn (h.run pins s σ H _ I (w D σ H (Inv.kfree I) h')) fun f s1 q => by
    cases f with
    | next => obtain ⟨σ', H', I', q⟩ := q; exact ⟨σ', H', I', q (Inv.kfree I')⟩
    | brk => obtain ⟨σ', H', I', q⟩ := q; exact ⟨σ', H', I', q (Inv.kfree I')⟩
    | cont => obtain ⟨σ', H', I', q⟩ := q; exact ⟨σ', H', I', q (Inv.kfree I')⟩
    | ret u => obtain ⟨v, σ', H', I', rr, q⟩ := q; exact ⟨v, σ', H', I', rr, q (Inv.kfree I')⟩⟩
theorem psImp {t t' : TS} (h : PS X st t) (w : ∀ D σ H, t' D σ H → t D σ H) : PS X st t' := ⟨fun pins s σ H D I q => h.run pins s σ H D I (w D σ H q)⟩
theorem pssImp {sts : List Stmt} {t t' : TS} (h : PSs X sts t) (w : ∀ D σ H, t' D σ H → t D σ H) : PSs X sts t' := ⟨fun pins s σ H D I q => h.run pins s σ H D I (w D σ H q)⟩
theorem ms_nil : PSs X [] (rdS G W nilS) := pssImp pss_nil fun D σ H ⟨r, S, e, sr, h⟩ => h r H σ (StepE.refl _ _) sr
theorem ms_cons (h1 : PS X st (rdS G W m)) (h2 : PSs X rest (rdS G W n)) : PSs X (st :: rest) (rdS G W (seqS m n)) :=
  pssImp (pss_cons h1 h2) fun D σ H ⟨r, S, e, sr, h⟩ => by
    refine ⟨r, S, e, sr, ?_⟩
    unfold seqS at h
    cases hm : m e S with
    | next e1 S1 =>
      rw [hm] at h
      exact fun r1 H1 σ1 st1 sr1 => ⟨r1, S1, e1, sr1, SatS.step st1 h⟩
    | _ => rw [hm] at h; exact h
theorem ms_one (h1 : PS X st (rdS G W m)) : PSs X [st] (rdS G W m) := pss_one h1
theorem ms_pass : PS X (.Pass pos) (rdS G W nilS) := psImp ps_pass fun D σ H ⟨r, S, e, sr, h⟩ => h r H σ (StepE.refl _ _) sr
def brkS : MStm := fun e S => .brk e S
def cntS : MStm := fun e S => .cnt e S
theorem ms_break : PS X (.Break pos) (rdS G W brkS) := psImp ps_break fun D σ H ⟨r, S, e, sr, h⟩ => h r H σ (StepE.refl _ _) sr
theorem ms_continue : PS X (.Continue pos) (rdS G W cntS) := psImp ps_continue fun D σ H ⟨r, S, e, sr, h⟩ => h r H σ (StepE.refl _ _) sr
def retS (m : MExp) : MStm := bindS m fun x _ S => .ret x S
theorem ms_ret (he : PE X a (rd G W ma)) : PS X (.Return (some a) pos) (rdS G W (retS ma)) :=
  psImp (ps_ret he) fun D σ H ⟨r, S, e, sr, h⟩ => bindS_rd sr h fun x S1 r1 H1 v1 st1 sr1 i1 h1 => h1 r1 H1 v1 (StepE.refl _ _) sr1.st i1
def retN : MStm := fun _ S => .ret (.p .non) S
theorem ms_retN : PS X (.Return none pos) (rdS G W retN) := psImp ps_retN fun D σ H ⟨r, S, e, sr, h⟩ => h r H .non (StepE.refl _ _) sr.st (by show Is _ _ _ _ _; unfold Is; rfl)
def dropS (m : MExp) : MStm := bindS m fun _ e S => .next e S
theorem ms_expr (he : PE X a (rd G W ma)) (hs : swapsWith a none pos.line X.env = pure false := by rfl) : PS X (.Expr a pos) (rdS G W (dropS ma)) :=
  psImp (ps_expr he hs) fun D σ H ⟨r, S, e, sr, h⟩ => bindS_rd sr h fun x S1 r1 H1 v1 st1 sr1 i1 h1 => h1 r1 H1 σ (StepE.refl _ _) sr1
def ifS (c : MTst) (m n : MStm) : MStm := bindS c fun b e S => if b then m e S else n e S
theorem ms_if {c : Expr} {p q : List Stmt} {mc : MTst} (hc : PT X c (rdT G W mc)) (ha : PSs X p (rdS G W m)) (hb : PSs X q (rdS G W n)) : PS X (.If c p q pos) (rdS G W (ifS mc m n)) :=
  psImp (ps_if hc ha hb) fun D σ H ⟨r, S, e, sr, h⟩ => bindS_rd sr h fun x S1 r1 H1 v1 st1 sr1 i1 h1 => by
    have e1 : x = v1 := i1
    subst e1
    cases x with
    | true => rw [if_pos rfl] at h1 ⊢; exact ⟨r1, S1, e, sr1, h1⟩
    | false => rw [if_neg Bool.false_ne_true] at h1 ⊢; exact ⟨r1, S1, e, sr1, h1⟩
/-- code that the proof never comes to -/
def badS : MStm := fun _ _ => .bad
theorem ms_bad : PS X st (rdS G W badS) := psImp ps_never fun D σ H ⟨r, S, e, sr, h⟩ => h
def setS (i : Nat) (m : MExp) : MStm := bindS m fun x e S => .next (setE e i x) S
theorem ms_set {i : Nat} {x : Str} {pos' : Pos} (hN : X.N.Nodup) (hi : X.N[i]? = some x) (hx : Loc X.env.scope x) (he : PE X a (rd G W ma)) (hs : swapsWith a (some (.Name x pos')) pos.line X.env = pure false := by rfl) (hf : X.fn x = true ∨ X.env.scope.names.lookup x = some .local := by first | exact .inl rfl | exact .inr rfl | assumption) :
    PS X (.Assign [.Name x pos'] a pos) (rdS G W (setS i ma)) :=
  psImp (ps_set hN hi hx he hs hf) fun D σ H ⟨r, S, e, sr, h⟩ => bindS_rd sr h fun x S1 r1 H1 v1 st1 sr1 i1 h1 => h1 r1 H1 _ (StepE.refl _ _) (sr1.set i1)
def asgS (m : MExp) (g : MG) : MStm := bindS m fun x e S => match g x e with
  | some e1 => .next e1 S
  | none => .bad
theorem ms_asg {ws : List Nat} {tg : Expr} {g : MG} (he : PE X a (rd G W ma)) (hg : PG X tg (rdG G ws g)) (hs : swapsWithSole [tg] a pos.line X.env = pure false := by rfl) (hw : swappedStores [tg] a X.env = pure none := by rfl)
    (h1 : (assignEach [tg] X.env).map (·.2) = [assign tg X.env] := by rfl) : PS X (.Assign [tg] a pos) (rdS G W (asgS ma g)) :=
  psImp (ps_asg he hg hs hw h1) fun D σ H ⟨r, S, e, sr, h⟩ => bindS_rd sr h fun x S1 r1 H1 v1 st1 sr1 i1 h1 => by
    cases hg : g x e with
    | none => rw [hg] at h1; exact h1.elim
    | some e1 =>
      rw [hg] at h1
      exact ⟨r1, S1, e, x, sr1, i1, e1, hg, fun σ1 _ sr2 => h1 r1 H1 σ1 (StepE.refl _ _) sr2⟩
def parS (i j : Nat) (m : MArg) : MStm := bindS m fun xs e S => match xs with
  | [x, y] => .next (setE (setE e i x) j y) S
  | _ => .bad
theorem ms_par {i j : Nat} {x y : Str} {na : MArg} {px py pt : Pos} {kt k2 pt2} (hc : X.calm = true) (hN : X.N.Nodup) (hi : X.N[i]? = some x) (hj : X.N[j]? = some y) (hij : i ≠ j)
    (hx : X.env.scope.names.lookup x = some .local) (hy : X.env.scope.names.lookup y = some .local) (ha : PA X [a, b] (rdA G W na))
    (hw : swappedStores [.Tuple [.Name x px, .Name y py] kt pt] (.Tuple [a, b] k2 pt2) X.env = pure (some [x, y]))
    (hs : swapsWithSole [.Tuple [.Name x px, .Name y py] kt pt] (.Tuple [a, b] k2 pt2) pos.line X.env = pure false := by rfl) :
    PS X (.Assign [.Tuple [.Name x px, .Name y py] kt pt] (.Tuple [a, b] k2 pt2) pos) (rdS G W (parS i j na)) :=
  psImp (ps_par hc hN hi hj hij hx hy ha hw hs) fun D σ H ⟨r, S, e, sr, h⟩ => bindS_rd sr h fun xs S1 r1 H1 vs st1 sr1 i1 h1 => by
    split at h1
    · obtain ⟨v, w, e1, q1, q2⟩ := i1.two
      exact ⟨v, w, e1, h1 r1 H1 _ (StepE.refl _ _) ((sr1.set q1).set q2)⟩
    · exact h1.elim
def par3S (i j l : Nat) (m : MArg) : MStm := bindS m fun xs e S => match xs with
  | [x, y, z] => .next (setE (setE (setE e i x) j y) l z) S
  | _ => .bad
theorem RIsAll.three {r : Ads} {H : Hp} {x y z : RV} {vs : List V} (h : RIsAll G r H [x, y, z] vs) : ∃ u v w, vs = [u, v, w] ∧ RIs G r H x u ∧ RIs G r H y v ∧ RIs G r H z w := by
  unfold RIsAll at h
  obtain ⟨v, ws, e, q, t⟩ := h
  obtain ⟨w1, w2, e2, q2, q3⟩ := t.two
  subst e2
  exact ⟨v, w1, w2, e, q, q2, q3⟩
theorem ms_par3 {i j l : Nat} {x y z : Str} {c : Expr} {na : MArg} {px py pz pt : Pos} {kt k2 pt2} (hc : X.calm = true) (hN : X.N.Nodup) (hi : X.N[i]? = some x) (hj : X.N[j]? = some y) (hl : X.N[l]? = some z) (hij : i ≠ j) (hil : i ≠ l) (hjl : j ≠ l)
    (hx : X.env.scope.names.lookup x = some .local) (hy : X.env.scope.names.lookup y = some .local) (hz : X.env.scope.names.lookup z = some .local) (ha : PA X [a, b, c] (rdA G W na))
    (hw : swappedStores [.Tuple [.Name x px, .Name y py, .Name z pz] kt pt] (.Tuple [a, b, c] k2 pt2) X.env = pure (some [x, y, z]))
    (hs : swapsWithSole [.Tuple [.Name x px, .Name y py, .Name z pz] kt pt] (.Tuple [a, b, c] k2 pt2) pos.line X.env = pure false := by rfl) :
    PS X (.Assign [.Tuple [.Name x px, .Name y py, .Name z pz] kt pt] (.Tuple [a, b, c] k2 pt2) pos) (rdS G W (par3S i j l na)) :=
  psImp (ps_par3 hc hN hi hj hl hij hil hjl hx hy hz ha hw hs) fun D σ H ⟨r, S, e, sr, h⟩ => bindS_rd sr h fun xs S1 r1 H1 vs st1 sr1 i1 h1 => by
    split at h1
    · obtain ⟨u, v, w, e1, q1, q2, q3⟩ := i1.three
      exact ⟨u, v, w, e1, h1 r1 H1 _ (StepE.refl _ _) (((sr1.set q1).set q2).set q3)⟩
    · exact h1.elim
end

/-! ## what is walked -/
/-- the heap has grown alone -/
def Ext (H H' : Hp) : Prop := ∀ b o, H b = some o → H' b = some o
/-- J walks xs in any later state -/
def Walk (G : GC) (r : Ads) (H : Hp) (J : It) (xs : List PV) : Prop :=
  xs.length ≤ sizeLine ∧ ∀ r2 H2 S2, Step G.K r H r2 H2 → StR0 G r2 H2 S2 → (∀ (i : Nat) x, xs[i]? = some x → J.go i H2 ∧ ∀ v H3, J.yld i H2 v H3 → Ext H2 H3 ∧ (KF G.K H3 → Is G r2 H3 x v)) ∧ J.stop xs.length H2
abbrev MIt := MEnv → Sto → Res (List PV)
def rdI (G : GC) (W : WX) (m : MIt) : TI := fun σ H R => rdX (fun r H xs (J : It) => Walk G r H J xs) G W m σ H R
theorem Ext.stepE {K : PySem.W.Frag} {r : Ads} {H H' : Hp} (x : Ext H H') : StepE K r H r H' := ⟨⟨fun b o e _ _ => x b o e, fun b xs e => x b _ e, fun _ h => .inl h⟩, fun _ _ => rfl, Nat.le_refl _⟩
theorem StR0.ext {G : GC} {r : Ads} {H H' : Hp} {S : Sto} (s : StR0 G r H S) (x : Ext H H') : StR0 G r H' S :=
  ⟨s.len, s.nd, fun n a ha => by
    obtain ⟨m, hm, q⟩ := s.obj n a ha
    obtain ⟨u, hu⟩ := q.ex
    exact ⟨m, hm, q.step x.stepE s.noFrz (by rw [hu]; exact x a u hu)⟩, s.tabs.ext x⟩
theorem StR.ext {G : GC} {r : Ads} {H H' : Hp} {S : Sto} (s : StR G r H S) (x : Ext H H') (kf : KF G.K H') : StR G r H' S := ⟨s.toStR0.ext x, kf⟩
theorem SR.ext {G : GC} {r : Ads} {H H' : Hp} {S : Sto} {e : MEnv} {σ : L2.St} (s : SR G r H S e σ) (x : Ext H H') (kf : KF G.K H') : SR G r H' S e σ := ⟨s.st.ext x kf, s.env.step x.stepE s.st.noFrz⟩
/-- an iterator whose heaps are told to be free of the top's -/
def itKf (K : PySem.W.Frag) (J : It) : It := ⟨J.go, fun i H v H' => J.yld i H v H' ∧ KF K H', J.stop⟩
section
variable {X : Cx} {G : GC} {W : WX} {pos : Pos}
theorem turn_kf {P : Program} {w : World} {K : PySem.W.Frag} {tg : Expr} {J : It} {fp : List Addr} {it : Addr} {tn : Nat → Heap → Prop} (T : Turn P w K tg J fp it tn) : Turn P w K tg (itKf K J) fp it tn :=
  ⟨T.mem, T.obj, T.keep, fun X h1 h2 h3 hc i pins s σ H E I hf st hg => thn (T.item X h1 h2 h3 hc i pins s σ H E I hf st hg) fun r s1 ⟨u, hr, h4⟩ => ⟨u, hr, thn h4 fun _ s2 ⟨x, H', I', rx, y, st', n'⟩ => ⟨x, H', I', rx, ⟨y, by rw [← h3]; exact Inv.kfree I'⟩, st', n'⟩⟩,
    T.done, T.self⟩
theorem piI {tg it : Expr} {t t' : TI} (h : PI X tg it t) (w : ∀ σ H R, KF X.K H → t' σ H R → t σ H (fun J H' => KF X.K H' → R (itKf X.K J) H')) : PI X tg it t' :=
  ⟨fun pins s σ H R I h' => thn (h.run pins s σ H _ I (w σ H R (Inv.kfree I) h')) fun v s1 q => thn q fun itv s2 ⟨a, fp, tn, J, H', e, I', T, st, f, q⟩ => ⟨a, fp, tn, itKf X.K J, H', e, I', turn_kf T, st, f, q (Inv.kfree I')⟩⟩
/-- the loop -/
def forL (g : MG) (body : MStm) : List PV → MEnv → Sto → ResS
  | [], e, S => .next e S
  | x :: xs, e, S => match g (.p x) e with
    | none => .bad
    | some e1 => match body e1 S with
      | .next e2 S2 => forL g body xs e2 S2
      | .cnt e2 S2 => forL g body xs e2 S2
      | .brk e2 S2 => .next e2 S2
      | .ret y S2 => .ret y S2
      | .exn c fs e2 S2 => .exn c fs e2 S2
      | .bad => .bad
def forS (mi : MIt) (g : MG) (body : MStm) : MStm := bindS mi fun xs => forL g body xs
theorem ms_for {ws : List Nat} {tg iter : Expr} {body : List Stmt} {mi : MIt} {g : MG} {mb : MStm} (hG : X.K = G.K) (hp : PassesOwn (model X.prog X.w) X.A X.env X.xe) (hc : X.calm = true) (hi : PI X tg iter (rdI G W mi)) (hg : PG X tg (rdG G ws g)) (hb : PSs X body (rdS G W mb))
    (hs : ∀ x, foldedSetIterable iter X.env x = pure x := by intro _; rfl) : PS X (.For tg iter body [] pos) (rdS G W (forS mi g mb)) := by
  have hi' : PI X tg iter (fun σ H R => rdI G W mi σ H (fun J H' => KF X.K H' → R (itKf X.K J) H')) := piI hi fun _ _ _ _ h => h
  refine psImp (ps_for hp hc hi' hg hb hs) fun D σ H ⟨r, S, e, sr, h⟩ => bindS_rd sr h fun xs S0 r0 H0 J st0 sr0 wk h0 kf0 => ?_
  refine ⟨fun i m σ H => m = xs.length - i ∧ i ≤ xs.length ∧ ∃ r S e, StepE G.K r0 H0 r H ∧ SR G r H S e σ ∧ SatS G W r H D (forL g mb (xs.drop i) e S), ⟨xs.length, by simp, Nat.zero_le _, r0, S0, e, StepE.refl _ _, sr0, by simpa using h0⟩, ?_⟩
  rintro i m σ1 H1 ⟨rfl, hi1, r1, S1, e1, st1, sr1, h1⟩
  obtain ⟨wi, ws⟩ := wk.2 r1 H1 S1 st1.toStep sr1.st.toStR0
  by_cases hlt : i < xs.length
  · obtain ⟨hgo, hy⟩ := wi i xs[i] (List.getElem?_eq_getElem hlt)
    rw [List.drop_eq_getElem_cons hlt] at h1
    unfold forL at h1
    cases hgx : g (.p xs[i]) e1 with
    | none => rw [hgx] at h1; exact h1.elim
    | some e2 =>
      rw [hgx] at h1
      dsimp only at h1
      refine .inr ⟨hgo, fun σ' H' => xs.length - (i + 1) < xs.length - i ∧ i + 1 ≤ xs.length ∧ ∃ r S e, StepE G.K r0 H0 r H' ∧ SR G r H' S e σ' ∧ SatS G W r H' D (forL g mb (xs.drop (i + 1)) e S), fun σ' H' ⟨q1, q2, q3⟩ => ⟨_, q1, rfl, q2, q3⟩, fun v H3 hv => ?_⟩
      obtain ⟨hv, kf3⟩ := hv
      rw [hG] at kf3
      obtain ⟨hx, iv⟩ := hy v H3 hv
      have sr3 := sr1.ext hx kf3
      refine ⟨r1, S1, e1, .p xs[i], sr3, iv kf3, e2, hgx, fun σ4 _ sr4 => ⟨r1, S1, e2, sr4, ?_⟩⟩
      have st3 : StepE G.K r1 H1 r1 H3 := hx.stepE
      cases hb2 : mb e2 S1 with
      | next e5 S5 =>
        rw [hb2] at h1
        exact fun r5 H5 σ5 st5 sr5 => ⟨by omega, hlt, r5, S5, e5, (st1.trans st3).trans st5, sr5, SatS.step (st3.trans st5) h1⟩
      | cnt e5 S5 =>
        rw [hb2] at h1
        exact fun r5 H5 σ5 st5 sr5 => ⟨by omega, hlt, r5, S5, e5, (st1.trans st3).trans st5, sr5, SatS.step (st3.trans st5) h1⟩
      | brk e5 S5 =>
        rw [hb2] at h1
        exact SatS.step (x := .next e5 S5) st3 h1
      | ret y S5 =>
        rw [hb2] at h1
        exact SatS.step (x := .ret y S5) st3 h1
      | exn c fs e5 S5 =>
        rw [hb2] at h1
        exact SatS.step (x := .exn c fs e5 S5) st3 h1
      | bad => rw [hb2] at h1; exact h1.elim
  · have ei : i = xs.length := by omega
    subst ei
    refine .inl ⟨ws, ?_⟩
    rw [List.drop_length] at h1
    exact h1 r1 H1 σ1 (StepE.refl _ _) sr1
/-- a while, with fuel -/
def whileL (c : MTst) (body : MStm) : Nat → MEnv → Sto → ResS
  | 0, _, _ => .bad
  | n + 1, e, S => bindS c (fun b e S => if b then (match body e S with
      | .next e2 S2 => whileL c body n e2 S2
      | .cnt e2 S2 => whileL c body n e2 S2
      | .brk e2 S2 => .next e2 S2
      | .ret y S2 => .ret y S2
      | .exn c fs e2 S2 => .exn c fs e2 S2
      | .bad => .bad) else .next e S) e S
theorem ms_while {c : Expr} {body : List Stmt} {mc : MTst} {mb : MStm} (N : Nat) (hp : PassesOwn (model X.prog X.w) X.A X.env X.xe) (hc : PT X c (rdT G W mc)) (hb : PSs X body (rdS G W mb)) : PS X (.While c body [] pos) (rdS G W (whileL mc mb N)) := by
  refine psImp (ps_while hp hc hb) fun D σ H ⟨r, S, e, sr, h⟩ => ?_
  refine ⟨fun m σ' H' => ∃ r' S' e', SR G r' H' S' e' σ' ∧ SatS G W r' H' D (whileL mc mb m e' S'), ⟨N, r, S, e, sr, h⟩, ?_⟩
  rintro m σ1 H1 ⟨r1, S1, e1, sr1, h1⟩
  cases m with
  | zero => exact h1.elim
  | succ n =>
    unfold whileL at h1
    refine bindS_rd sr1 h1 fun b S2 r2 H2 v2 st2 sr2 i2 h2 => ?_
    have eb : b = v2 := i2
    subst eb
    cases b with
    | false =>
      rw [if_neg Bool.false_ne_true] at h2 ⊢
      exact h2 r2 H2 σ1 (StepE.refl _ _) sr2
    | true =>
      rw [if_pos rfl] at h2 ⊢
      refine ⟨fun σ' H' => ∃ r' S' e', SR G r' H' S' e' σ' ∧ SatS G W r' H' D (whileL mc mb n e' S'), fun σ' H' q => ⟨n, Nat.lt_succ_self n, q⟩, r2, S2, e1, sr2, ?_⟩
      cases hm : mb e1 S2 with
      | next e5 S5 =>
        rw [hm] at h2
        exact fun r5 H5 σ5 st5 sr5 => ⟨r5, S5, e5, sr5, SatS.step st5 h2⟩
      | cnt e5 S5 =>
        rw [hm] at h2
        exact fun r5 H5 σ5 st5 sr5 => ⟨r5, S5, e5, sr5, SatS.step st5 h2⟩
      | brk e5 S5 =>
        rw [hm] at h2
        exact h2
      | ret y S5 =>
        rw [hm] at h2
        exact h2
      | exn c fs e5 S5 =>
        rw [hm] at h2
        exact h2
      | bad => rw [hm] at h2; exact h2.elim
end
end Mm
end

section
set_option Elab.async false
set_option linter.all false
set_option maxRecDepth 100000
namespace Mm
open PySem PySem.Spec PyProof.Rows L2

/-! ## the store cut -/
theorem MOk.noExt {G : GC} {r : Ads} {H : Hp} {a : Addr} : ∀ {m : MO}, MOk G r H a m → ∀ φ, H a ≠ some (.ext φ)
  | .lst xs, ⟨vs, h, _⟩, u => by rw [h]; intro z; cases z
  | .dic kvs, ⟨ws, h, _⟩, u => by rw [h]; intro z; cases z
  | .ins c fs, ⟨dx, vs, h, _⟩, u => by rw [h]; intro z; cases z
theorem Tabs.but {T : List (Addr × Str)} {H H' : Hp} {a : Addr} (t : LamX.Tabs T H) (h : ∀ b o, H b = some o → b ≠ a → H' b = some o) (n1 : ∀ ps, H a ≠ some (.tbl ps)) (n2 : ∀ φ, H a ≠ some (.ext φ)) : LamX.Tabs T H' := fun p hp => by
  obtain ⟨ps, h1, h2, h3⟩ := t p hp
  refine ⟨ps, h _ _ h1 (fun z => n1 ps (by rw [← z]; exact h1)), h2, fun pos cv hc => ?_⟩
  obtain ⟨c, e1, e2⟩ := h3 pos cv hc
  exact ⟨c, e1, h _ _ e2 (fun z => n2 _ (by rw [← z]; exact e2))⟩
section
variable {G : GC} {r r1 r2 : Ads} {H H1 : Hp} {S : Sto}
theorem some_take {b : Addr} {n : Nat} (h : some b ∈ r.take n) : some b ∈ r := List.mem_of_mem_take h
theorem Step.take {K : PySem.W.Frag} (n : Nat) (st : Step K r H r1 H1) : Step K r H (r1.take n) H1 := ⟨st.keep, st.tups, fun b h => st.new b (some_take h)⟩
mutual
theorem Is.less (hs : ∀ b, some b ∈ r1 → some b ∈ r) : ∀ {x : PV} {v : V}, Is G r H x v → Is G r1 H x v
  | .non, v, h => by unfold Is at h ⊢; exact h
  | .bl b, v, h => by unfold Is at h ⊢; exact h
  | .int i, v, h => by unfold Is at h ⊢; exact h
  | .str x, v, h => by unfold Is at h ⊢; exact h
  | .tup xs, v, h => by
    unfold Is at h ⊢
    obtain ⟨c, vs, e, q, t⟩ := h
    exact ⟨c, vs, e, q, IsAll.less hs t⟩
  | .lst xs, v, h => by
    unfold Is at h ⊢
    obtain ⟨c, vs, e, n, q, t⟩ := h
    exact ⟨c, vs, e, fun z => n (hs _ z), q, IsAll.less hs t⟩
  | .scr xs, v, h => by
    unfold Is at h ⊢
    obtain ⟨c, vs, e, n, q, t⟩ := h
    exact ⟨c, vs, e, fun z => n (hs _ z), q, IsAll.less hs t⟩
  | .dic kvs, v, h => by
    unfold Is at h ⊢
    obtain ⟨c, ws, e, n, q, t⟩ := h
    exact ⟨c, ws, e, fun z => n (hs _ z), q, IsKv.less hs t⟩
  | .ins k fs, v, h => by
    unfold Is at h ⊢
    obtain ⟨c, dx, vs, e, n, q, l, t⟩ := h
    exact ⟨c, dx, vs, e, fun z => n (hs _ z), q, l, IsAll.less hs t⟩
theorem IsAll.less (hs : ∀ b, some b ∈ r1 → some b ∈ r) : ∀ {xs : List PV} {vs : List V}, IsAll G r H xs vs → IsAll G r1 H xs vs
  | [], vs, h => by unfold IsAll at h ⊢; exact h
  | x :: xs, vs, h => by
    unfold IsAll at h ⊢
    obtain ⟨v, ws, e, q, t⟩ := h
    exact ⟨v, ws, e, Is.less hs q, IsAll.less hs t⟩
theorem IsKv.less (hs : ∀ b, some b ∈ r1 → some b ∈ r) : ∀ {xs : List (Key × PV)} {vs : List (Key × V)}, IsKv G r H xs vs → IsKv G r1 H xs vs
  | [], vs, h => by unfold IsKv at h ⊢; exact h
  | (k, x) :: xs, vs, h => by
    unfold IsKv at h ⊢
    obtain ⟨v, ws, e, q, t⟩ := h
    exact ⟨v, ws, e, Is.less hs q, IsKv.less hs t⟩
end
theorem MOk.less (hs : ∀ b, some b ∈ r1 → some b ∈ r) {a : Addr} : ∀ {m : MO}, MOk G r H a m → MOk G r1 H a m
  | .lst xs, ⟨vs, h, q⟩ => ⟨vs, h, q.less hs⟩
  | .dic kvs, ⟨ws, h, q⟩ => ⟨ws, h, q.less hs⟩
  | .ins c fs, ⟨dx, vs, h, l, q⟩ => ⟨dx, vs, h, l, q.less hs⟩
theorem StR0.take (s : StR0 G r H S) (n : Nat) : StR0 G (r.take n) H (S.take n) := by
  refine ⟨by rw [List.length_take, List.length_take, s.len], fun i j a hi hj => ?_, fun i a hi => ?_, s.tabs⟩
  · rw [List.getElem?_take] at hi hj
    split at hi
    · split at hj
      · exact s.nd i j a hi hj
      · cases hj
    · cases hi
  · rw [List.getElem?_take] at hi
    split at hi
    · rename_i hl
      obtain ⟨m, hm, q⟩ := s.obj i a hi
      exact ⟨m, by rw [List.getElem?_take, if_pos hl]; exact hm, q.less fun b => some_take⟩
    · cases hi
theorem StR.take (s : StR G r H S) (n : Nat) : StR G (r.take n) H (S.take n) := ⟨s.toStR0.take n, s.kf⟩
theorem pre_take {K : PySem.W.Frag} (st : StepE K r H r1 H1) : r1.take r.length = r := by
  apply List.ext_getElem?
  intro i
  rw [List.getElem?_take]
  split
  · rename_i h
    exact st.pre i h
  · rename_i h
    rw [List.getElem?_eq_none (by omega)]
theorem EnvOk.cut {e : MEnv} {σ : L2.St} (v : EnvOk G r H e σ) (st : StepE G.K r H r1 H1) (nf : NoFrz r H) : EnvOk G r H1 e σ :=
  ⟨v.1, fun i x h => by
    obtain ⟨w, h1, h2⟩ := v.2 i x h
    refine ⟨w, h1, ?_⟩
    cases x with
    | p x =>
      have q : RIs G r1 H1 (.p x) w := h2.step st nf
      have hsub : ∀ b, some b ∈ r → some b ∈ r1 := fun b hb => by
        rw [← pre_take st] at hb
        exact some_take hb
      exact Is.less hsub q
    | l n => exact h2⟩
/-- an owned list is written -/
theorem StR0.put {n : Nat} {a : Addr} {o : HO} {m : MO} (s : StR0 G r H S) (hn : r[n]? = some (some a)) (hm : ∀ {K : PySem.W.Frag}, MOk G r (upd H a o) a m) (ho : ∀ ps, o ≠ .tbl ps) : StR0 G r (upd H a o) (S.set n m) ∧ ∀ K : PySem.W.Frag, StepE K r H r (upd H a o) := by
  have hmem : some a ∈ r := List.mem_of_getElem? hn
  obtain ⟨m0, hm0, q0⟩ := s.obj n a hn
  have nt : ∀ xs, H a ≠ some (.tup xs) := q0.noTup
  have nb : ∀ xs, H a ≠ some (.tbl xs) := q0.noTbl
  have st : ∀ K : PySem.W.Frag, StepE K r H r (upd H a o) := fun K => ⟨⟨fun b u e hb _ => by
      rw [upd_ne (fun z => hb (by rw [z]; exact hmem))]; exact e, fun b xs e => by rw [upd_ne (fun z => nt xs (by rw [← z]; exact e))]; exact e,
      fun _ h => .inl h⟩, fun _ _ => rfl, Nat.le_refl _⟩
  have hlt : n < r.length := (List.getElem?_eq_some_iff.mp hn).1
  refine ⟨⟨by rw [List.length_set]; exact s.len, s.nd, fun i b hi => ?_, fun p hp => ?_⟩, st⟩
  · by_cases hi2 : n = i
    · subst hi2
      rw [hn] at hi
      cases hi
      exact ⟨m, by rw [List.getElem?_set_self (by rw [← s.len]; exact hlt)], hm (K := G.K)⟩
    · have hne : b ≠ a := fun z => hi2 (s.nd n i a hn (by rw [hi, z]))
      obtain ⟨m', hm', q⟩ := s.obj i b hi
      exact ⟨m', by rw [List.getElem?_set_ne hi2]; exact hm', q.step (st G.K) s.noFrz (upd_ne hne)⟩
  · exact Tabs.but s.tabs (fun b o e hb => by rw [upd_ne hb]; exact e) q0.noTbl q0.noExt p hp
end

/-! ## comprehensions -/
def wipeE (e : MEnv) : List Nat → MEnv
  | [] => e
  | v :: vs => (wipeE e vs).set v none
theorem EnvOk.wipe {G : GC} {r : Ads} {H : Hp} {e : MEnv} {σ : L2.St} (v : EnvOk G r H e σ) : ∀ vs : List Nat, EnvOk G r H (wipeE e vs) (L2.wipe σ vs)
  | [] => v
  | w :: vs => by
    have ih := EnvOk.wipe v vs
    unfold wipeE L2.wipe
    refine ⟨by rw [List.length_set, List.length_set]; exact ih.1, fun i x h => ?_⟩
    by_cases hi : w = i
    · subst hi
      rw [List.getElem?_set] at h
      simp only [if_true] at h
      split at h <;> cases h
    · rw [List.getElem?_set_ne hi] at h ⊢
      exact ih.2 i x h
theorem wipe_wipe (σ : L2.St) : ∀ vs : List Nat, L2.wipe (L2.wipe σ vs) vs = L2.wipe σ vs := by
  intro vs
  have at_ : ∀ (σ : L2.St) (vs : List Nat) (i : Nat), (L2.wipe σ vs)[i]? = if i ∈ vs then (if i < σ.length then some none else none) else σ[i]? := by
    intro σ vs i
    induction vs with
    | nil => simp [L2.wipe]
    | cons w vs ih =>
      unfold L2.wipe
      by_cases hi : w = i
      · subst hi
        rw [List.getElem?_set, if_pos rfl, wipe_length, if_pos List.mem_cons_self]
      · rw [List.getElem?_set_ne hi, ih]
        have e : (i ∈ w :: vs) ↔ i ∈ vs := by
          rw [List.mem_cons]
          exact ⟨fun h => h.resolve_left fun z => hi z.symm, .inr⟩
        by_cases h : i ∈ vs
        · rw [if_pos h, if_pos (e.mpr h)]
        · rw [if_neg h, if_neg (fun z => h (e.mp z))]
  apply List.ext_getElem?
  intro i
  rw [at_, at_]
  by_cases h : i ∈ vs
  · rw [if_pos h, if_pos h, wipe_length]
  · rw [if_neg h, if_neg h]
/-- the comprehension's turns: ew the frame with its own names wiped, acc what is made so far -/
def lcL (g : MG) (mt : MTst) (me : MExp) (ew : MEnv) : List PV → Sto → List PV → Res (List PV)
  | [], S, acc => .ok acc S
  | x :: xs, S, acc => match g (.p x) ew with
    | none => .bad
    | some e1 => match mt e1 (S ++ [.lst acc]) with
      | .ok false S1 => (match S1[S.length]? with
        | some (.lst a1) => if a1.length = acc.length then lcL g mt me ew xs (S1.take S.length) a1 else .bad
        | _ => .bad)
      | .ok true S1 => (match me e1 S1 with
        | .ok (.p y) S2 => (match S2[S.length]? with
          | some (.lst a1) => if a1.length = acc.length then lcL g mt me ew xs (S2.take S.length) (a1 ++ [y]) else .bad
          | _ => .bad)
        | _ => .bad)
      | _ => .bad
def lcF (own : Bool) : Res (List PV) → Res RV
  | .ok ys S => if own then .ok (.l S.length) (S ++ [.lst ys]) else .ok (.p (.lst ys)) S
  | _ => .bad
/-- [elt for .. if ..]; vs: its own names' slots; own: the list is owned -/
def mLC (own : Bool) (vs : List Nat) (mi : MIt) (g : MG) (mt : MTst) (me : MExp) : MExp := bindM mi fun xs e S => lcF own (lcL g mt me (wipeE e vs) xs S [])
abbrev W0 : WX := fun _ _ _ _ => False
def tYesM : MTst := fun _ S => .ok true S
theorem KF.back {K : PySem.W.Frag} {H H' : Hp} (k : KF K H') (x : Ext H H') : KF K H where
  top := fun b o e => by
    cases q : H b with
    | none => rfl
    | some u =>
      have h1 := x b u q
      rw [k.top b o e] at h1
      cases h1
  szL := fun a vs h => by
    refine k.szL a vs ?_
    rcases h with (h | ⟨o, h⟩) | h
    · exact .inl (.inl (x _ _ h))
    · exact .inl (.inr ⟨o, x _ _ h⟩)
    · exact .inr h
  szT := fun a vs h => by
    refine k.szT a vs ?_
    rcases h with (h | ⟨o, h⟩) | h
    · exact .inl (.inl (x _ _ h))
    · exact .inl (.inr ⟨o, x _ _ h⟩)
    · exact .inr h
theorem take_at {α : Type} {l : List α} {n : Nat} {x : α} (h : l[n]? = some x) : l.take (n + 1) = l.take n ++ [x] := by
  obtain ⟨hl, e⟩ := List.getElem?_eq_some_iff.mp h
  rw [List.take_succ, h]
  rfl
theorem Ext.of_upd {H : Hp} {p : Addr} {o : HO} (h : H p = none) : Ext H (upd H p o) := fun b u e => by rw [upd_ne (ne_of_none e h)]; exact e
section
variable {X : Cx} {G : GC} {W : WX} {pos : Pos}
theorem lc_sim {vs : List Nat} {mi : MIt} {g : MG} {mt : MTst} {me : MExp} {own : Bool} {σ : L2.St} {H : Hp} {Q : VK} (h : rd G W (mLC own vs mi g mt me) σ H Q) :
    tLc (fun σ H R => rdI G W mi σ H (fun J H' => KF G.K H' → R (itKf G.K J) H')) (rdG G vs g) (rdT G W0 mt) (rd G W0 me) vs σ H (fun v H' => KF G.K H' → Q v H') := by
  obtain ⟨r, S, e, sr, h⟩ := h
  refine bind_rd sr h fun xs S1 r1 H1 J st1 sr1 wk h1 kf1 D hD => ?_
  have fr : some D ∉ r1 := sr1.st.toStR0.fresh hD
  have hn : r1.length = S1.length := sr1.st.len
  refine ⟨fun i m H => m = xs.length - i ∧ i ≤ xs.length ∧ ∃ S acc, acc.length ≤ i ∧ S.length = S1.length ∧ (∃ r' S', Step G.K r1 H1 r' H ∧ StR0 G r' H S') ∧
      (KF G.K H → StepE G.K r1 H1 (r1 ++ [some D]) H ∧ StR0 G (r1 ++ [some D]) H (S ++ [.lst acc])) ∧ Sat (RIs G) G W r1 H1 e σ Q (lcF own (lcL g mt me (wipeE e vs) (xs.drop i) S acc)),
    ⟨xs.length, by simp, Nat.zero_le _, S1, [], Nat.le_refl _, rfl, ⟨r1, S1, Step.laid hD, sr1.st.toStR0.ext (Ext.of_upd hD)⟩, fun kf => ⟨StepE.own hD (kf_new kf), sr1.st.toStR0.own (m := .lst []) hD (kf_new kf) ⟨[], upd_same, IsAll.nil⟩⟩, by simpa using h1⟩, ?_⟩
  rintro i m H2 ⟨rfl, hi, S2, acc, hacc, hS2, ⟨r', S', stw, srw⟩, full, h2⟩
  have hS2n : S2.length = r1.length := by rw [hS2, hn]
  by_cases hlt : i < xs.length
  · obtain ⟨wi, _⟩ := wk.2 r' H2 S' stw srw
    obtain ⟨hgo, _⟩ := wi i xs[i] (List.getElem?_eq_getElem hlt)
    rw [List.drop_eq_getElem_cons hlt] at h2
    refine .inr ⟨hgo, fun H' => xs.length - (i + 1) < xs.length - i ∧ i + 1 ≤ xs.length ∧ ∃ S acc, acc.length ≤ i + 1 ∧ S.length = S1.length ∧ (∃ r' S', Step G.K r1 H1 r' H' ∧ StR0 G r' H' S') ∧
      (KF G.K H' → StepE G.K r1 H1 (r1 ++ [some D]) H' ∧ StR0 G (r1 ++ [some D]) H' (S ++ [.lst acc])) ∧ Sat (RIs G) G W r1 H1 e σ Q (lcF own (lcL g mt me (wipeE e vs) (xs.drop (i + 1)) S acc)),
      fun H' ⟨q1, q2, q3⟩ => ⟨_, q1, rfl, q2, q3⟩, fun v H3 hy => ?_⟩
    obtain ⟨hy, kf3⟩ := hy
    obtain ⟨_, yy⟩ := wi i xs[i] (List.getElem?_eq_getElem hlt)
    have hx := (yy v H3 hy).1
    have kf2 := kf3.back hx
    obtain ⟨st2, sr2⟩ := full kf2
    obtain ⟨wi2, _⟩ := wk.2 _ H2 _ st2.toStep sr2
    have iv := ((wi2 i xs[i] (List.getElem?_eq_getElem hlt)).2 v H3 hy).2 kf3
    have st3 : StepE G.K r1 H1 (r1 ++ [some D]) H3 := st2.trans hx.stepE
    have sr3 : SR G (r1 ++ [some D]) H3 (S2 ++ [.lst acc]) (wipeE e vs) (L2.wipe σ vs) := ⟨⟨sr2.ext hx, kf3⟩, (sr1.env.step st3 sr1.st.noFrz).wipe vs⟩
    unfold lcL at h2
    cases hg : g (.p xs[i]) (wipeE e vs) with
    | none => rw [hg] at h2; exact h2.elim
    | some e1 =>
      rw [hg] at h2
      dsimp only at h2
      refine ⟨_, _, _, .p xs[i], sr3, iv, e1, hg, fun σ4 hw4 sr4 => ⟨by rw [hw4, wipe_wipe], ?_⟩⟩
      refine ⟨_, _, _, sr4, ?_⟩
      have hat : (r1 ++ [some D])[S2.length]? = some (some D) := by rw [hS2n, List.getElem?_append_right (Nat.le_refl _), Nat.sub_self]; rfl
      have hl1 : (r1 ++ [some D]).length = S2.length + 1 := by rw [List.length_append, hS2n]; rfl
      have fin : ∀ {r5 : Ads} {H5 : Hp} {S5 : Sto} {a1 : List PV}, StepE G.K (r1 ++ [some D]) H3 r5 H5 → StR0 G r5 H5 S5 → S5[S2.length]? = some (.lst a1) → a1.length ≤ i + 1 →
          Sat (RIs G) G W r1 H1 e σ Q (lcF own (lcL g mt me (wipeE e vs) (xs.drop (i + 1)) (S5.take S2.length) a1)) →
          xs.length - (i + 1) < xs.length - i ∧ i + 1 ≤ xs.length ∧ ∃ S acc, acc.length ≤ i + 1 ∧ S.length = S1.length ∧ (∃ r' S', Step G.K r1 H1 r' H5 ∧ StR0 G r' H5 S') ∧
          (KF G.K H5 → StepE G.K r1 H1 (r1 ++ [some D]) H5 ∧ StR0 G (r1 ++ [some D]) H5 (S ++ [.lst acc])) ∧ Sat (RIs G) G W r1 H1 e σ Q (lcF own (lcL g mt me (wipeE e vs) (xs.drop (i + 1)) S acc)) := by
        intro r5 H5 S5 a1 st5 sr5 hat5 hlen hsat
        have t1 := sr5.take (S2.length + 1)
        have er : r5.take (S2.length + 1) = r1 ++ [some D] := by rw [← hl1]; exact pre_take st5
        rw [er, take_at hat5] at t1
        have sA : StepE G.K r1 H1 r5 H5 := st3.trans st5
        have sB : StepE G.K r1 H1 (r1 ++ [some D]) H5 := ⟨by rw [← er]; exact sA.toStep.take _, fun n hn => List.getElem?_append_left hn, by rw [List.length_append]; exact Nat.le_add_right _ _⟩
        refine ⟨by omega, hlt, S5.take S2.length, a1, hlen, ?_, ⟨r5, S5, sA.toStep, sr5⟩, fun _ => ⟨sB, t1⟩, hsat⟩
        have hl5 := (List.getElem?_eq_some_iff.mp hat5).1
        rw [List.length_take, ← hS2]
        omega
      cases hm : mt e1 (S2 ++ [.lst acc]) with
      | bad => rw [hm] at h2; exact h2.elim
      | exn c fs S5 => rw [hm] at h2; exact h2.elim
      | ok b S5 =>
        rw [hm] at h2
        intro r5 H5 b' st5 sr5 eb
        have eb : b = b' := eb
        subst eb
        cases b with
        | false =>
          rw [if_neg Bool.false_ne_true]
          dsimp only at h2
          cases hq : S5[S2.length]? with
          | none => rw [hq] at h2; exact h2.elim
          | some mo =>
            rw [hq] at h2
            cases mo with
            | lst a1 =>
              dsimp only at h2
              split at h2
              · rename_i hla
                exact fin st5 sr5.st.toStR0 hq (by omega) h2
              · exact h2.elim
            | _ => exact h2.elim
        | true =>
          rw [if_pos rfl]
          dsimp only at h2
          refine ⟨_, _, _, sr5, ?_⟩
          cases hme : me e1 S5 with
          | bad => rw [hme] at h2; exact h2.elim
          | exn c fs S6 => rw [hme] at h2; exact h2.elim
          | ok y S6 =>
            rw [hme] at h2
            cases y with
            | l n => exact h2.elim
            | p y =>
              dsimp only at h2
              cases hq : S6[S2.length]? with
              | none => rw [hq] at h2; exact h2.elim
              | some mo =>
                rw [hq] at h2
                cases mo with
                | lst a1 =>
                  dsimp only at h2
                  split at h2
                  · rename_i hla
                    intro r6 H6 yv st6 sr6 iy
                    have iy : Is G r6 H6 y yv := iy
                    have st36 := st5.trans st6
                    have hat6 : r6[S2.length]? = some (some D) := by rw [st36.pre _ (by rw [hl1]; omega)]; exact hat
                    obtain ⟨mo, hmo, q⟩ := sr6.st.obj _ _ hat6
                    rw [hq] at hmo
                    cases hmo
                    obtain ⟨ws, hD6, iw⟩ := q
                    have hp := StR0.put (o := .lst (ws ++ [yv])) (m := .lst (a1 ++ [y])) sr6.st.toStR0 hat6 (fun {K} => ?_) (fun _ => noL)
                    · obtain ⟨sp, stp⟩ := hp
                      refine ⟨ws, hD6, ?_, fin (a1 := a1 ++ [y]) (st36.trans (stp G.K)) sp ?_ (by rw [List.length_append, hla]; show acc.length + 1 ≤ i + 1; omega) (by
                        rw [List.take_set_of_le (Nat.le_refl _)]
                        exact h2)⟩
                      · rw [← iw.len, hla]
                        have := wk.1
                        omega
                      · rw [List.getElem?_set_self]
                        exact (List.getElem?_eq_some_iff.mp hq).1
                    · have stq : Step K r6 H6 r6 (upd H6 D (.lst (ws ++ [yv]))) := ⟨fun b u e hb _ => by
                          rw [upd_ne (fun z => hb (by rw [z]; exact List.mem_of_getElem? hat6))]; exact e, fun b xs e => by rw [upd_ne (fun z => by rw [z, hD6] at e; cases e)]; exact e,
                          fun _ h => .inl h⟩
                      have stq' : Step G.K r6 H6 r6 (upd H6 D (.lst (ws ++ [yv]))) := ⟨stq.keep, stq.tups, fun _ h => .inl h⟩
                      exact ⟨ws ++ [yv], upd_same, (iw.step stq' sr6.st.noFrz).append (IsAll.cons.mpr ⟨iy.step stq' sr6.st.noFrz, IsAll.nil⟩)⟩
                  · exact h2.elim
                | _ => exact h2.elim
  · have ei : i = xs.length := by omega
    subst ei
    obtain ⟨_, ws⟩ := wk.2 r' H2 S' stw srw
    refine .inl ⟨ws, fun kf => ?_⟩
    rw [List.drop_length] at h2
    unfold lcL lcF at h2
    obtain ⟨st2, sr2⟩ := full kf
    cases own with
    | true =>
      have h2 : Sat (RIs G) G W r1 H1 e σ Q (.ok (.l S2.length) (S2 ++ [.lst acc])) := h2
      exact h2 _ _ _ st2 ⟨⟨sr2, kf⟩, sr1.env.step st2 sr1.st.noFrz⟩ ⟨D, by rw [hS2n, List.getElem?_append_right (Nat.le_refl _), Nat.sub_self]; rfl, rfl⟩
    | false =>
      have h2 : Sat (RIs G) G W r1 H1 e σ Q (.ok (.p (.lst acc)) S2) := h2
      have t1 := sr2.take r1.length
      have er : (r1 ++ [some D]).take r1.length = r1 := by rw [List.take_left]
      have eS : (S2 ++ [MO.lst acc]).take r1.length = S2 := by rw [← hS2n, List.take_left]
      rw [er, eS] at t1
      have sB : StepE G.K r1 H1 r1 H2 := ⟨by have := st2.toStep.take r1.length; rw [er] at this; exact this, fun _ _ => rfl, Nat.le_refl _⟩
      obtain ⟨mo, hmo, q⟩ := sr2.obj r1.length D (by rw [List.getElem?_append_right (Nat.le_refl _), Nat.sub_self]; rfl)
      rw [← hS2n, List.getElem?_append_right (Nat.le_refl _), Nat.sub_self] at hmo
      cases hmo
      obtain ⟨wv, hDw, iw⟩ := q
      refine h2 r1 H2 (.ref D) sB ⟨⟨t1, kf⟩, sr1.env.step sB sr1.st.noFrz⟩ ?_
      show Is _ _ _ _ _
      unfold Is
      exact ⟨D, wv, rfl, fr, hDw, iw.less fun b hb => List.mem_append_left _ hb⟩
theorem me_lc {elt tg iter : Expr} {ifs : List Expr} {scope : Scope} {ow : List (Str × Nat)} {mi : MIt} {g : MG} {mt : MTst} {me : MExp} (own : Bool) (hG : X.K = G.K) (hc : X.calm = true) (hN : X.N.Nodup) (hi : PI X tg iter (rdI G W mi)) (ok : BlkOk X.N X.env.scope scope ow)
    (hg : ∀ (s : Shared) (H : Hp) (C : Addr) (cl : List (Str × Addr)) (fp : List Addr), PG (X.blk s H scope (compEnvC scope cl C X.env) fp) tg (rdG G (ow.map (·.2)) g)) (ht : ∀ (s : Shared) (H : Hp) (C : Addr) (cl : List (Str × Addr)) (fp : List Addr), PTs (X.blk s H scope (compEnvC scope cl C X.env) fp) ifs (rdT G W0 mt))
    (he : ∀ (s : Shared) (H : Hp) (C : Addr) (cl : List (Str × Addr)) (fp : List Addr), PE (X.blk s H scope (compEnvC scope cl C X.env) fp) elt (rd G W0 me)) (hs : ∀ x, foldedSetIterable iter X.env x = pure x := by intro _; rfl) :
    PE X (.ListComp elt [⟨tg, iter, ifs, 0⟩] scope pos) (rd G W (mLC own (ow.map (·.2)) mi g mt me)) := by
  have hi' : PI X tg iter (fun σ H R => rdI G W mi σ H (fun J H' => KF G.K H' → R (itKf G.K J) H')) := by
    have := piI hi (t' := fun σ H R => rdI G W mi σ H (fun J H' => KF X.K H' → R (itKf X.K J) H')) fun _ _ _ _ h => h
    rw [hG] at this
    exact this
  exact peI (pe_lc hc hN hi' ok hg ht he hs) fun σ H Q _ h => by rw [hG]; exact lc_sim h
theorem mts_nil : PTs X [] (rdT G W tYesM) := ⟨fun pins s σ H Q I h => (pts_nil (X := X)).run pins s σ H Q I (by
  obtain ⟨r, S, e, sr, h⟩ := h
  exact h r H true (StepE.refl _ _) sr rfl)⟩
theorem mts_one {c : Expr} {mt : MTst} (h : PT X c (rdT G W mt)) : PTs X [c] (rdT G W mt) := pts_one h
/-- name = [..] on one line, the name a local -/
theorem ms_setLc {i : Nat} {y : Str} {py : Pos} {spos : Pos} {elt tg iter : Expr} {ifs : List Expr} {scope : Scope} {ow : List (Str × Nat)} {mi : MIt} {g : MG} {mt : MTst} {me : MExp} (own : Bool) (hG : X.K = G.K) (hc : X.calm = true) (hN : X.N.Nodup) (hy : X.N[i]? = some y) (hyl : X.env.scope.names.lookup y = some .local)
    (hsw : swapsWith (.ListComp elt [⟨tg, iter, ifs, 0⟩] scope pos) (some (.Name y py)) spos.line X.env = pure true) (hi : PI X tg iter (rdI G W mi)) (ok : BlkOk X.N X.env.scope scope ow)
    (hg : ∀ (s : Shared) (H : Hp) (C : Addr) (cl : List (Str × Addr)) (fp : List Addr), PG (X.blk s H scope (compEnvC scope cl C X.env) fp) tg (rdG G (ow.map (·.2)) g)) (ht : ∀ (s : Shared) (H : Hp) (C : Addr) (cl : List (Str × Addr)) (fp : List Addr), PTs (X.blk s H scope (compEnvC scope cl C X.env) fp) ifs (rdT G W0 mt))
    (he : ∀ (s : Shared) (H : Hp) (C : Addr) (cl : List (Str × Addr)) (fp : List Addr), PE (X.blk s H scope (compEnvC scope cl C X.env) fp) elt (rd G W0 me)) (hs : ∀ x, foldedSetIterable iter X.env x = pure x := by intro _; rfl) :
    PS X (.Assign [.Name y py] (.ListComp elt [⟨tg, iter, ifs, 0⟩] scope pos) spos) (rdS G W (setS i (mLC own (ow.map (·.2)) mi g mt me))) := by
  have hi' : PI X tg iter (fun σ H R => rdI G W mi σ H (fun J H' => KF G.K H' → R (itKf G.K J) H')) := by
    have := piI hi (t' := fun σ H R => rdI G W mi σ H (fun J H' => KF X.K H' → R (itKf X.K J) H')) fun _ _ _ _ h => h
    rw [hG] at this
    exact this
  exact psI (ps_setLc hc hN hy hyl hsw hi' ok hg ht he hs) fun D σ H _ ⟨r, S, e, sr, h⟩ => by
    rw [hG]
    have q : rd G W (mLC own (ow.map (·.2)) mi g mt me) σ H (fun v H' => D.nx (σ.set i (some v)) H') := bindS_rd sr h fun x S1 r1 H1 v1 st1 sr1 i1 h1 => h1 r1 H1 _ (StepE.refl _ _) (sr1.set i1)
    exact lc_sim q
end
end Mm
end

section
set_option Elab.async false
set_option linter.all false
set_option maxRecDepth 100000
namespace Mm
open PySem PySem.Spec PyProof.Rows L2

/-! ## sources: lists, tuples, texts, in any mix -/
inductive Src where
  | ofL (a : Addr) | ofT (a : Addr) | ofS (x : Str)
def Src.v : Src → V
  | .ofL a => .ref a
  | .ofT a => .ref a
  | .ofS x => .str x
def Src.adr : Src → Option Addr
  | .ofL a => some a
  | .ofT a => some a
  | .ofS _ => none
/-- what a source holds -/
def Src.Val (K : PySem.W.Frag) (H : Hp) : Src → List V → Prop
  | .ofL a, xs => SqL K H a xs
  | .ofT a, xs => SqT K H a xs
  | .ofS x, xs => xs = x.cps.toList.map fun c => V.str ⟨#[c]⟩
def Src.At (it : Addr) (i : Nat) (h : Heap) : Src → Prop
  | .ofL a => h.IsListIter it a i
  | .ofT a => h.IsTupleIter it a i
  | .ofS x => ∃ t, h.IsStrIter it (strIterType x) x t i
theorem Src.At.there {it : Addr} {i : Nat} {h : Heap} : ∀ {S : Src}, S.At it i h → ∃ o, h.get? it = some o ∧ ∀ v, o.data ≠ .cell v
  | .ofL a, ⟨o, e, _, d⟩ => ⟨o, e, fun v z => by rw [d] at z; cases z⟩
  | .ofT a, ⟨o, e, _, d⟩ => ⟨o, e, fun v z => by rw [d] at z; cases z⟩
  | .ofS x, ⟨t, o, e, _, d⟩ => ⟨o, e, fun v z => by rw [d] at z; cases z⟩
theorem Src.At.stay {it : Addr} {i : Nat} {h h' : Heap} (k : ∀ o, h.get? it = some o → h'.get? it = some o) : ∀ {S : Src}, S.At it i h → S.At it i h'
  | .ofL a, ⟨o, e, r⟩ => ⟨o, k o e, r⟩
  | .ofT a, ⟨o, e, r⟩ => ⟨o, k o e, r⟩
  | .ofS x, ⟨t, o, e, r⟩ => ⟨t, o, k o e, r⟩
theorem Src.inj {X : Cx} {pins : List (Addr × Obj)} {σ : L2.St} {H : Hp} {s : Shared} (I : L2.Inv X pins σ H s) : ∀ {S : Src} {xs ys : List V}, S.Val X.K H xs → S.Val X.K H ys → xs = ys
  | .ofL a, _, _, p, q => I.list_inj p q
  | .ofT a, _, _, p, q => I.tuple_inj p q
  | .ofS x, _, _, p, q => p.trans q.symm
/-- what draws from a source, in one state -/
structure SD (P : Program) (w : World) (A : Around) (S : Src) (it : Addr) (xs : List V) (s : Shared) (i : Nat) (fp : List Addr) (n : Nat) (Pd : Nat → Value → Prop) (St : Nat → Heap → Prop) : Prop where
  D : Draws P w A it fp n Pd St
  mem : it ∈ fp
  st : St i s.heap
  n : n = xs.length
  rel : ∀ j v, Pd j v → ∃ x, xs[j]? = some x ∧ RelV x v
  at_ : ∀ j h, St j h → S.At it j h
  sub : ∀ b ∈ fp, b = it ∨ S.adr = some b
theorem Src.sd {X : Cx} {pins : List (Addr × Obj)} {σ : L2.St} {H : Hp} {s : Shared} (I : L2.Inv X pins σ H s) {A : Around} (hh : A.handled = none) {it : Addr} {i : Nat} : ∀ {S : Src} {xs : List V}, S.Val X.K H xs → S.At it i s.heap →
    ∃ fp n Pd St, SD X.prog X.w A S it xs s i fp n Pd St
  | .ofL a, xs, hv, ha => by
    obtain ⟨its, rv, p, hz⟩ := I.list hv
    have p' := p.isList
    have hne : a ≠ it := fun z => by
      subst z
      obtain ⟨o, e, c, _⟩ := p'
      obtain ⟨o', e', c', _⟩ := ha
      rw [e] at e'
      cases e'
      rw [c] at c'
      simp at c'
    refine ⟨_, _, _, _, Draws.list hh it a hne its.toArray, by simp, ⟨ha, p'⟩, ?_, fun j v h => ?_, fun j h st => st.1, fun b hb => ?_⟩
    · rw [rv.length]; simp
    · have h : its.toArray[j]? = some v := h
      rw [List.getElem?_toArray] at h
      have hl : j < xs.length := by rw [rv.length]; exact (List.getElem?_eq_some_iff.mp h).1
      obtain ⟨u, hu, r⟩ := rv.get (List.getElem?_eq_getElem hl)
      rw [h] at hu
      cases hu
      exact ⟨_, List.getElem?_eq_getElem hl, r⟩
    · rcases List.mem_cons.mp hb with z | z
      · exact .inl z
      · rw [List.mem_singleton.mp z]
        exact .inr rfl
  | .ofT a, xs, hv, ha => by
    obtain ⟨its, rv, p, hz⟩ := I.tuple hv
    have p' : s.heap.IsTuple a its.toArray := p
    have hne : a ≠ it := fun z => by
      subst z
      obtain ⟨o, e, c, _⟩ := p'
      obtain ⟨o', e', c', _⟩ := ha
      rw [e] at e'
      cases e'
      rw [c] at c'
      simp at c'
    refine ⟨_, _, _, _, Draws.tuple hh it a hne its.toArray, by simp, ⟨ha, p'⟩, ?_, fun j v h => ?_, fun j h st => st.1, fun b hb => ?_⟩
    · rw [rv.length]; simp
    · have h : its.toArray[j]? = some v := h
      rw [List.getElem?_toArray] at h
      have hl : j < xs.length := by rw [rv.length]; exact (List.getElem?_eq_some_iff.mp h).1
      obtain ⟨u, hu, r⟩ := rv.get (List.getElem?_eq_getElem hl)
      rw [h] at hu
      cases hu
      exact ⟨_, List.getElem?_eq_getElem hl, r⟩
    · rcases List.mem_cons.mp hb with z | z
      · exact .inl z
      · rw [List.mem_singleton.mp z]
        exact .inr rfl
  | .ofS x, xs, hv, ⟨t, ha⟩ => by
    have hv : xs = x.cps.toList.map fun c => V.str ⟨#[c]⟩ := hv
    subst hv
    refine ⟨_, _, _, _, Draws.text hh it x t, by simp, ha, ?_, fun j v h => ?_, fun j h st => ⟨t, st⟩, fun b hb => ?_⟩
    · rw [List.length_map, Array.length_toList]
    · obtain ⟨c, u, e, rfl⟩ := h
      exact ⟨.str ⟨#[c]⟩, by rw [List.getElem?_map, Array.getElem?_toList, e]; rfl, u, rfl⟩
    · exact .inl (List.mem_singleton.mp hb)
theorem Src.lt {X : Cx} {pins : List (Addr × Obj)} {σ : L2.St} {H : Hp} {s : Shared} (I : L2.Inv X pins σ H s) : ∀ {S : Src} {xs : List V} {a : Addr}, S.Val X.K H xs → S.adr = some a → a < s.heap.objs.size
  | .ofL a, xs, _, hv, e => by
    cases e
    obtain ⟨its, rv, p, hz⟩ := I.list hv
    exact p.lt
  | .ofT a, xs, _, hv, e => by
    cases e
    obtain ⟨its, rv, ⟨o, ho, _⟩, hz⟩ := I.tuple hv
    exact Heap.lt_size ho
  | .ofS x, xs, _, hv, e => by cases e
/-- the iterator that a source begins -/
theorem Src.begins {X : Cx} {pins : List (Addr × Obj)} {σ : L2.St} {H : Hp} {s : Shared} (I : L2.Inv X pins σ H s) {u : Value} : ∀ {S : Src} {xs : List V}, S.Val X.K H xs → RelV S.v u → ∃ o Hh, Begins u o Hh ∧ Hh s.heap ∧ ∀ it h, h.get? it = some o → S.At it 0 h
  | .ofL a, xs, hv, r => by
    obtain ⟨its, rv, p, hz⟩ := I.list hv
    have r : u = .ref a := r
    subst r
    exact ⟨_, _, begins_list a its.toArray, p.isList, fun it h e => ⟨_, e, rfl, rfl⟩⟩
  | .ofT a, xs, hv, r => by
    obtain ⟨its, rv, p, hz⟩ := I.tuple hv
    have r : u = .ref a := r
    subst r
    exact ⟨_, _, begins_tuple a its.toArray, p, fun it h e => ⟨_, e, rfl, rfl⟩⟩
  | .ofS x, xs, hv, ⟨t, r⟩ => by
    subst r
    exact ⟨_, _, begins_text x t, trivial, fun it h e => ⟨t, _, e, rfl, rfl⟩⟩

/-! ### rows of new tuples -/
/-- row i is told by Row, the end by Fin -/
def Jr (Row : Hp → Nat → List V → Prop) (Fin : Hp → Nat → Prop) : It :=
  ⟨fun i H => ∃ r, Row H i r, fun i H v H' => ∃ T r o, v = .ref T ∧ H T = none ∧ Obj.dict o = none ∧ H' = upd H T (.frz o (.tup r)) ∧ ∀ r', Row H i r' → r' = r, fun i H => Fin H i⟩
/-- one turn that lays a new tuple of r -/
def RowStep (P : Program) (w : World) (A : Around) (tg : Expr) (it : Addr) (wr : List Addr) (tn : Heap → Prop) (r : List V) (s : Shared) (E : Value → Shared → Prop) : Prop :=
  wpAny (model P w) A (pyNext (.ref it)) (fun res s1 => ∃ T us h1 tk, res = some (.ref T) ∧ s1 = { s with heap := h1, toks := tk } ∧ Vals r us ∧ s.heap.objs.size ≤ T ∧ h1.get? T = some { cls := .type "tuple", data := .seq us.toArray } ∧
    (∀ b o, b ∉ wr → s.heap.get? b = some o → h1.get? b = some o) ∧ T ∉ wr ∧
    wpAny (model P w) A (letOwnedTupleGo tg (.ref it) (.ref T)) (fun _ s2 => ∃ h2, s2 = { s with heap := h2, toks := tk } ∧ tn h2 ∧ ∀ b o, b ∉ wr → h1.get? b = some o → h2.get? b = some o) E { s with heap := h1, toks := tk }) E s
theorem turn_rows {P : Program} {w : World} {K : PySem.W.Frag} {elts : List Expr} {kk : Nat} {tpos : Pos} {Row : Hp → Nat → List V → Prop} {Fin : Hp → Nat → Prop} {fp wr : List Addr} {it : Addr} {tn : Nat → Heap → Prop}
    (mem : it ∈ fp) (hwr : ∀ b ∈ wr, b ∈ fp) (obj : ∀ i h, tn i h → ∀ b ∈ fp, ∃ o, h.get? b = some o ∧ ∀ v, o.data ≠ .cell v) (keep : ∀ i h h', tn i h → (∀ b ∈ fp, ∀ o, h.get? b = some o → h'.get? b = some o) → tn i h')
    (rows : ∀ (X : Cx), X.prog = P → X.w = w → X.K = K → X.calm = true → ∀ (i : Nat) (pins : List (Addr × Obj)) (s : Shared) (σ : L2.St) (H : Hp) (E : Value → Shared → Prop), L2.Inv X pins σ H s → (∀ b ∈ fp, FpOk X pins H b) → tn i s.heap → ∀ r, Row H i r →
      r.length ≤ sizeLine ∧ (∀ r', Row H i r' → r' = r) ∧ RowStep P w X.A (.Tuple elts kk tpos) it wr (tn (i + 1)) r s E)
    (fin : ∀ (X : Cx), X.prog = P → X.w = w → X.K = K → X.calm = true → ∀ (i : Nat) (pins : List (Addr × Obj)) (s : Shared) (σ : L2.St) (H : Hp), L2.Inv X pins σ H s → (∀ b ∈ fp, FpOk X pins H b) → tn i s.heap → Fin H i →
      ∃ fp' Pt St Mid, WalksT P w X.A it fp' wr i Pt St Mid ∧ St i s.heap)
    (self : ∀ (A : Around) (i : Nat) (s : Shared) (Q : Value → Shared → Prop) (E : Value → Shared → Prop), tn i s.heap → Q (.ref it) s → wpAny (model P w) A (pyIter (.ref it)) Q E s) :
    Turn P w K (.Tuple elts kk tpos) (Jr Row Fin) fp it tn where
  mem := mem
  obj := obj
  keep := keep
  item := by
    intro X hP hw hK hc i pins s σ H E I hf st hg
    obtain ⟨r, hr⟩ := hg
    obtain ⟨hz, huq, step⟩ := rows X hP hw hK hc i pins s σ H E I hf st r hr
    subst hP hw hK
    refine thn step fun res s1 ⟨T, us, h1, tk, er, es, rv, hT, hTt, hk, hap, go⟩ => ⟨.ref T, er, ?_⟩
    subst es
    refine thn go fun _ s2 ⟨h2, es2, hn, hk2⟩ => ?_
    subst es2
    have hT2 := hk2 T _ hap hTt
    have new : ObjOk X.prog X.w (upd H T (.frz { cls := .type "tuple", data := .seq us.toArray } (.tup r))) h2 T (.frz { cls := .type "tuple", data := .seq us.toArray } (.tup r)) := ⟨hT2, hz, us, rv, ⟨_, hT2, rfl, _, rfl⟩⟩
    have I1 : L2.Inv X pins σ (upd H T (.frz { cls := .type "tuple", data := .seq us.toArray } (.tup r))) { s with heap := h2, toks := tk } :=
      I.turnedNew (ch := wr) (fun b ob hb q => hk2 b ob hb (hk b ob hb q)) (fun b hb => hf b (hwr b hb)) hT new
    refine ⟨.ref T, _, I1, rfl, ⟨T, r, _, rfl, I.hok.fresh hT, rfl, rfl, huq⟩, hn, fun b hb => ?_⟩
    obtain ⟨ob, hob, _⟩ := obj i _ st b hb
    rw [upd_ne (Nat.ne_of_lt (Nat.lt_of_lt_of_le (Heap.lt_size hob) hT))]
    exact (hf b hb).1
  done := by
    intro X hP hw hK hc i pins s σ H E I hf st hg
    obtain ⟨fp', Pt, St, Mid, WT, hst⟩ := fin X hP hw hK hc i pins s σ H I hf st hg
    subst hP hw hK
    refine WT.done s _ _ hst fun h' tk hk => ⟨rfl, I.turnedL hk fun b hb => hf b (hwr b hb)⟩
  self := self

/-! ### enumerate -/
def RowE (K : PySem.W.Frag) (S : Src) (H : Hp) (i : Nat) (r : List V) : Prop := ∃ xs x, S.Val K H xs ∧ xs[i]? = some x ∧ r = [.int (i : Nat), x]
def FinE (K : PySem.W.Frag) (S : Src) (H : Hp) (i : Nat) : Prop := ∃ xs, S.Val K H xs ∧ xs.length = i
theorem turn_enumS {P : Program} {w : World} {K : PySem.W.Frag} {elts : List Expr} {kk : Nat} {tpos : Pos} (S : Src) (e it : Addr) :
    Turn P w K (.Tuple elts kk tpos) (Jr (RowE K S) (FinE K S)) [e, it] e (fun i h => (∃ old, IsEnum h e it (0 + ((i : Nat) : Int)) old) ∧ S.At it i h ∧ e ≠ it ∧ S.adr ≠ some e) := by
  have sdz : ∀ {X : Cx} {pins : List (Addr × Obj)} {σ : L2.St} {H : Hp} {s : Shared} {i : Nat} {xs : List V}, L2.Inv X pins σ H s → X.calm = true → S.Val X.K H xs → (∃ old, IsEnum s.heap e it (0 + ((i : Nat) : Int)) old) → S.At it i s.heap → e ≠ it → S.adr ≠ some e →
      ∃ fp n Pd St, SD X.prog X.w X.A.in1 S it xs s i fp n Pd St ∧ e ∉ fp := by
    intro X pins σ H s i xs I hc hv ⟨old, he⟩ ha hne had
    obtain ⟨fp, n, Pd, St, sd⟩ := Src.sd I (A := X.A.in1) (I.ok.hd hc) hv ha
    refine ⟨fp, n, Pd, St, sd, fun z => ?_⟩
    rcases sd.sub e z with q | q
    · exact hne q
    · exact had q
  refine turn_rows (wr := [e, it]) (by simp) (fun b hb => hb) ?_ ?_ ?_ ?_ ?_
  · intro i h ⟨⟨old, he⟩, ha, hne⟩ b hb
    have e' : b = e ∨ b = it := by simpa using hb
    rcases e' with z | z
    · rw [z]; exact ⟨_, he, fun v q => nomatch q⟩
    · rw [z]; exact ha.there
  · intro i h h' ⟨⟨old, he⟩, ha, hne, had⟩ k
    exact ⟨⟨old, k e (by simp) _ he⟩, ha.stay fun o q => k it (by simp) o q, hne, had⟩
  · intro X hP hw hK hc i pins s σ H E I hf ⟨hE, ha, hne, had⟩ r ⟨xs, x, hv, hx, er⟩
    subst hP hw hK er
    obtain ⟨fp, n, Pd, St, sd, hef⟩ := sdz I hc hv hE ha hne had
    refine ⟨by show 2 ≤ sizeLine; decide, fun r' ⟨ys, y, hv', hy, er⟩ => ?_, ?_⟩
    · rw [Src.inj I hv' hv] at hy
      rw [hx] at hy
      cases hy
      exact er
    · obtain ⟨old, he⟩ := hE
      have hlt : i < n := by rw [sd.n]; exact (List.getElem?_eq_some_iff.mp hx).1
      refine wpAny_pyNext_enum_itemC sd.D he sd.st hlt hne hef fun y h1 tk hp ho hs' hT hsz hk => ?_
      obtain ⟨x', hx', rx⟩ := sd.rel i y hp
      rw [hx] at hx'
      cases hx'
      have hel : e < s.heap.objs.size := Heap.lt_size he
      have hil : it < s.heap.objs.size := by obtain ⟨_, z, _⟩ := ha.there; exact Heap.lt_size z
      have hap : s.heap.objs.size ∉ [e, it] := fun z => by
        rcases List.mem_cons.mp z with z | z
        · exact Nat.ne_of_gt hel z
        · exact Nat.ne_of_gt hil (List.mem_singleton.mp z)
      refine ⟨s.heap.objs.size, [_, y], h1, tk + 1, rfl, rfl, .cons ⟨tk, by rw [Int.zero_add]⟩ (.cons rx .nil), Nat.le_refl _, hT, fun b o hb q => hk b o (fun z => hb (by simp [z])) (fun z => hb (by simp [z])) q, hap, ?_⟩
      refine wpAny_letOwnedTupleGo_enum (s := { s with heap := h1, toks := tk + 1 }) ho fun h2 he' sb => ⟨h2, rfl, ⟨⟨y, ?_⟩, (sd.at_ _ _ hs').stay fun o q => (sb.2 it (Ne.symm hne)).trans q, hne, had⟩, fun b o hb q => (sb.2 b fun z => hb (by simp [z])).trans q⟩
      have e1 : (0 : Int) + ((i + 1 : Nat) : Int) = 0 + (i : Int) + 1 := by omega
      rw [e1]
      exact he'
  · intro X hP hw hK hc i pins s σ H I hf ⟨hE, ha, hne, had⟩ ⟨xs, hv, hl⟩
    subst hP hw hK
    obtain ⟨fp, n, Pd, St, sd, hef⟩ := sdz I hc hv hE ha hne had
    have en : n = i := by rw [sd.n, hl]
    have D := sd.D
    rw [en] at D
    exact ⟨_, _, _, _, WalksT.enumFrom 0 D e hne hef sd.mem, hE, sd.st⟩
  · intro A i s Q E ⟨⟨_, he⟩, _⟩ h
    exact wpAny_pyIter_enum he h
set_option maxHeartbeats 1000000 in
theorem meets_enum1 {v : Value} {o : Obj} {H : Heap → Prop} (B : Begins v o H) :
    Meets (Builtin.«enumerate.__new__» ⟨[.type "enumerate", v], []⟩) (fun _ R s => H s.heap ∧
      R (.ok (.ret (.ref (s.heap.push o).objs.size))) { s with heap := (s.heap.push o).push { cls := .type "enumerate", data := .fields #[.none, .bool false, .ref s.heap.objs.size, rawInt 0, .none, .none] } }) :=
  .of_wp fun prog w A R s h => by
    obtain ⟨hp, g, d, tk, os⟩ := s; obtain ⟨h1, h⟩ := h
    have hsub := sub_enumerate
    have q1 : ∀ {A' : Around} {E : Value → Shared → Prop} {Q : Value → Shared → Prop}, Q (.ref hp.objs.size) ⟨hp.push o, g, d, tk, os⟩ → wpAny (model prog w) A' (pyIter v) Q E ⟨hp, g, d, tk, os⟩ :=
      fun q => B.iter prog w _ _ ⟨hp, g, d, tk, os⟩ _ h1 q
    wp_walk using q1
    refine wpAny_stack_any fun st => wpAny_pure ?_
    split
    · rename_i c _ _ _ _ _
      cases (c == Value.type "enumerate")
      · wp_walk using q1
        exact ⟨_, rfl, h⟩
      · wp_walk using q1
        exact ⟨_, rfl, h⟩
    · wp_walk using q1
      exact ⟨_, rfl, h⟩
theorem enum1_begins {prog : Program} {w : World} {A : Around} {E : Value → Shared → Prop} {s : Shared} {v : Value} {o : Obj} {H : Heap → Prop} {Q : Value → Shared → Prop} (B : Begins v o H) (h1 : H s.heap)
    (h : ∀ h', IsEnum h' (s.heap.objs.size + 1) s.heap.objs.size 0 .none → h'.get? s.heap.objs.size = some o → (∀ b o, s.heap.get? b = some o → h'.get? b = some o) → Q (.ref (s.heap.objs.size + 1)) { s with heap := h' }) :
    wpAny (model prog w) A (call (.type "enumerate") [v]) Q E s := by
  refine callType_new F.called_enumerate (by decide) (F.typeCall_enumerate_1 _) (F.newCall_enumerate_1 _) (fun obj => F.args_object_init_2 obj _) F.entry_enumerate_new (meets_enum1 B) ⟨h1, ?_⟩
  have hz : (s.heap.push o).objs.size = s.heap.objs.size + 1 := Heap.size_push ..
  show _ ∧ _
  rw [hz]
  have he : IsEnum ((s.heap.push o).push { cls := .type "enumerate", data := .fields #[.none, .bool false, .ref s.heap.objs.size, rawInt 0, .none, .none] }) (s.heap.objs.size + 1) s.heap.objs.size 0 .none := by
    have := Heap.get?_push_size (s.heap.push o) (o := { cls := .type "enumerate", data := .fields #[.none, .bool false, .ref s.heap.objs.size, rawInt 0, .none, .none] }) rfl
    rw [hz] at this; exact this
  exact ⟨⟨_, he, rfl⟩, h _ he (Heap.get?_push_of_some _ (Heap.get?_push_size _ B.free)) fun b o x => Heap.get?_push_of_some _ (Heap.get?_push_of_some _ x)⟩
def iEnumS (K : PySem.W.Frag) (ta : TA) : TI := fun σ H R => ta σ H fun vs H1 => ∃ (S : Src) (xs : List V), vs = [S.v] ∧ S.Val K H1 xs ∧ R (Jr (RowE K S) (FinE K S)) H1
theorem pi_enumS {X : Cx} {e : Expr} {ta : TA} {p pos tpos : Pos} {elts : List Expr} {kk : Nat} (hg : Gl X "enumerate") (hm : X.mg "enumerate" = none) (ha : PA X [e] ta) (hs : starEach [e] X.env = [(false, eval e X.env)] := by rfl) :
    PI X (.Tuple elts kk tpos) (.Call (.Name "enumerate" p) [e] [] pos) (iEnumS X.K ta) := by
  refine ⟨fun pins s σ H R I h => ?_⟩
  refine Call_ (ld_blt I hg hm boot_enumerate (PyProof.Rows.callWith_type1 (thn (ha.run pos pins s σ H _ I h) fun us s1 ⟨vs, H1, I1, r1, q1⟩ => ?_) hs rfl))
  obtain ⟨S, xs, ex, hv, q⟩ := q1
  subst ex
  cases r1 with
  | cons r rr =>
    cases rr
    obtain ⟨o, Hh, B, hB, hat⟩ := Src.begins I1 hv r
    refine enum1_begins B hB fun h' he hit hk => wpAny_pyIter_enum he ?_
    have I2 : L2.Inv X pins σ H1 { s1 with heap := h' } := I1.kept (t' := s1.toks) hk
    refine ⟨s1.heap.objs.size + 1, [s1.heap.objs.size + 1, s1.heap.objs.size], _, _, H1, rfl, I2, turn_enumS S (s1.heap.objs.size + 1) s1.heap.objs.size, ⟨⟨.none, by simpa using he⟩, hat _ _ hit, Nat.succ_ne_self _, fun z => absurd (Src.lt I1 hv z) (by simp)⟩, fun b hb => ?_, q⟩
    have e' : b = s1.heap.objs.size + 1 ∨ b = s1.heap.objs.size := by simpa using hb
    have hle : s1.heap.objs.size ≤ b := by
      rcases e' with z | z
      · rw [z]; exact Nat.le_add_right _ _
      · rw [z]; exact Nat.le_refl _
    exact I1.fpOk hle (I1.hok.fresh hle)
/-! ### zip of two, of three -/
def RowZ (K : PySem.W.Frag) (Ss : List Src) (H : Hp) (i : Nat) (r : List V) : Prop := ∃ xss : List (List V), Paired (fun S xs => S.Val K H xs) Ss xss ∧ Paired (fun xs x => xs[i]? = some x) xss r
def FinZ (K : PySem.W.Frag) (Ss : List Src) (H : Hp) (i : Nat) : Prop := ∃ xss : List (List V), Paired (fun S xs => S.Val K H xs) Ss xss ∧ (∀ xs ∈ xss, i ≤ xs.length) ∧ ∃ xs ∈ xss, xs.length = i
theorem RowZ.uniq {X : Cx} {pins : List (Addr × Obj)} {σ : L2.St} {H : Hp} {s : Shared} (I : L2.Inv X pins σ H s) {i : Nat} : ∀ {Ss : List Src} {r r' : List V}, RowZ X.K Ss H i r → RowZ X.K Ss H i r' → r' = r
  | [], _, _, ⟨_, .nil, .nil⟩, ⟨_, .nil, .nil⟩ => rfl
  | S :: Ss, _, _, ⟨_, .cons p1 p2, .cons q1 q2⟩, ⟨_, .cons p1' p2', .cons q1' q2'⟩ => by
    rw [Src.inj I p1' p1, q1] at q1'
    cases q1'
    rw [RowZ.uniq I ⟨_, p2, q2⟩ ⟨_, p2', q2'⟩]
/-- the cells of a zip lie apart from what it draws from -/
structure ZA (z TI TO : Addr) (ns : List Addr) (Ss : List Src) : Prop where
  TIz : TI ≠ z
  TOz : TO ≠ z
  TITO : TI ≠ TO
  nTI : ∀ n ∈ ns, TI ≠ n
  nz : ∀ n ∈ ns, z ≠ n
  nTO : ∀ n ∈ ns, TO ≠ n
  nd : ns.Nodup
  aS : ∀ S ∈ Ss, ∀ n ∈ z :: TI :: TO :: ns, S.adr ≠ some n
theorem SD.off {P : Program} {w : World} {A : Around} {S : Src} {it : Addr} {xs : List V} {s : Shared} {i : Nat} {fp : List Addr} {n : Nat} {Pd : Nat → Value → Prop} {St : Nat → Heap → Prop} (sd : SD P w A S it xs s i fp n Pd St) {b : Addr} (h : b ≠ it) (h' : S.adr ≠ some b) : b ∉ fp := fun z => (sd.sub b z).elim h h'
theorem turn_zip2S {P : Program} {w : World} {K : PySem.W.Frag} {elts : List Expr} {kk : Nat} {tpos : Pos} (S1 S2 : Src) (z TI TO i1 i2 : Addr) (za : ZA z TI TO [i1, i2] [S1, S2]) :
    Turn P w K (.Tuple elts kk tpos) (Jr (RowZ K [S1, S2]) (FinZ K [S1, S2])) [z, TI, TO, i1, i2] z (fun i h => IsZip h z TI TO .none ∧ IsTupOf2 h TI (.ref i1) (.ref i2) ∧ (∃ x y, IsTupOf2 h TO x y) ∧ S1.At i1 i h ∧ S2.At i2 i h) := by
  have h12 : i1 ≠ i2 := by have := za.nd; simp at this; exact this
  have sep : ∀ {X : Cx} {s : Shared} {i : Nat} {xs ys : List V} {A : Around} {f1 f2 n1 n2 P1 P2 T1 T2}, SD X.prog X.w A S1 i1 xs s i f1 n1 P1 T1 → SD X.prog X.w A S2 i2 ys s i f2 n2 P2 T2 → ZipSep2 z TI TO i1 i2 f1 f2 := fun d1 d2 =>
    { TIz := za.TIz, TOz := za.TOz, TITO := za.TITO, TIi1 := za.nTI _ (by simp), mem1 := d1.mem, zf1 := d1.off (za.nz _ (by simp)) (za.aS _ (by simp) _ (by simp)), Tf1 := d1.off (za.nTO _ (by simp)) (za.aS _ (by simp) _ (by simp)),
      TIi2 := za.nTI _ (by simp), mem2 := d2.mem, zf2 := d2.off (za.nz _ (by simp)) (za.aS _ (by simp) _ (by simp)), Tf2 := d2.off (za.nTO _ (by simp)) (za.aS _ (by simp) _ (by simp)),
      sep1_2 := d2.off h12 (za.aS _ (by simp) _ (by simp)), sep2_1 := d1.off (Ne.symm h12) (za.aS _ (by simp) _ (by simp)) }
  refine turn_rows (wr := [z, TO, i1, i2]) (by simp) (fun b hb => by simp at hb ⊢; rcases hb with h | h | h | h <;> simp [h]) ?_ ?_ ?_ ?_ ?_
  · intro i h ⟨hz, hTI, ⟨x, y, hTO⟩, h1, h2⟩ c hc
    have e' : c = z ∨ c = TI ∨ c = TO ∨ c = i1 ∨ c = i2 := by simpa using hc
    rcases e' with q | q | q | q | q
    · rw [q]; exact ⟨_, hz, fun v q => nomatch q⟩
    · rw [q]; exact ⟨_, hTI, fun v q => nomatch q⟩
    · rw [q]; exact ⟨_, hTO, fun v q => nomatch q⟩
    · rw [q]; exact h1.there
    · rw [q]; exact h2.there
  · intro i h h' ⟨hz, hTI, ⟨x, y, hTO⟩, h1, h2⟩ k
    exact ⟨k z (by simp) _ hz, k TI (by simp) _ hTI, ⟨x, y, k TO (by simp) _ hTO⟩, h1.stay fun o q => k i1 (by simp) o q, h2.stay fun o q => k i2 (by simp) o q⟩
  · intro X hP hw hK hc i pins s σ H E I hf ⟨hz, hTI, ⟨a1, a2, hTO⟩, h1, h2⟩ r hr
    subst hP hw hK
    match r, hr with
    | _, ⟨_, .cons v1 (.cons v2 .nil), .cons x1 (.cons x2 .nil)⟩ =>
      refine ⟨by show 2 ≤ sizeLine; decide, fun r' hr' => RowZ.uniq I ⟨_, .cons v1 (.cons v2 .nil), .cons x1 (.cons x2 .nil)⟩ hr', ?_⟩
      obtain ⟨f1, n1, P1, T1, d1⟩ := Src.sd I (A := X.A.in1) (I.ok.hd hc) v1 h1
      obtain ⟨f2, n2, P2, T2, d2⟩ := Src.sd I (A := X.A.in1) (I.ok.hd hc) v2 h2
      have S := sep d1 d2
      refine wpAny_pyNext_zipD2_item S d1.D d2.D hz hTI hTO d1.st d2.st (by rw [d1.n]; exact (List.getElem?_eq_some_iff.mp x1).1) (by rw [d2.n]; exact (List.getElem?_eq_some_iff.mp x2).1) fun y1 y2 g1 tk p1 p2 b1 b2 c1 c2 b5 b6 hk => ?_
      obtain ⟨u1, e1, r1⟩ := d1.rel i y1 p1
      obtain ⟨u2, e2, r2⟩ := d2.rel i y2 p2
      rw [x1] at e1
      rw [x2] at e2
      cases e1
      cases e2
      have lt : ∀ {c o}, s.heap.get? c = some o → s.heap.objs.size ≠ c := fun e => Nat.ne_of_gt (Heap.lt_size e)
      have l1 : s.heap.objs.size ≠ i1 := by obtain ⟨_, z, _⟩ := h1.there; exact lt z
      have l2 : s.heap.objs.size ≠ i2 := by obtain ⟨_, z, _⟩ := h2.there; exact lt z
      have hap : s.heap.objs.size ∉ [z, TO, i1, i2] := by simp; exact ⟨lt hz, lt hTO, l1, l2⟩
      refine ⟨s.heap.objs.size, [y1, y2], g1, tk, rfl, rfl, .cons r1 (.cons r2 .nil), Nat.le_refl _, b5, fun b o hb q => hk b o (fun z => hb (by simp [z])) (fun z => hb (by simp [z])) (fun z => hb (by simp [z])) (fun z => hb (by simp [z])) q, hap, ?_⟩
      refine wpAny_letOwnedTupleGo_zip (s := { s with heap := g1, toks := tk }) b1 fun g2 hz2 sb => ⟨g2, rfl, ⟨hz2, (sb.2 _ S.TIz).trans (hk _ _ S.TIz S.TITO S.TIi1 S.TIi2 hTI), ⟨y1, y2, (sb.2 _ S.TOz).trans b2⟩, (d1.at_ _ _ c1).stay fun o q => (sb.2 _ fun z => za.nz i1 (by simp) z.symm).trans q, (d2.at_ _ _ c2).stay fun o q => (sb.2 _ fun z => za.nz i2 (by simp) z.symm).trans q⟩, fun b o hb q => (sb.2 b fun z => hb (by simp [z])).trans q⟩
  · intro X hP hw hK hc i pins s σ H I hf ⟨hz, hTI, hTO, h1, h2⟩ ⟨_, .cons v1 (.cons v2 .nil), hle, hm⟩
    subst hP hw hK
    obtain ⟨f1, n1, P1, T1, d1⟩ := Src.sd I (A := X.A.in1) (I.ok.hd hc) v1 h1
    obtain ⟨f2, n2, P2, T2, d2⟩ := Src.sd I (A := X.A.in1) (I.ok.hd hc) v2 h2
    have W := WalksT.zipD2 (sep d1 d2) d1.D d2.D
    have en : min n1 n2 = i := by
      rw [d1.n, d2.n]
      have l1 := hle _ (List.mem_cons_self)
      have l2 := hle _ (List.mem_cons_of_mem _ (List.mem_cons_self))
      obtain ⟨xs, hx, e⟩ := hm
      simp at hx
      rcases hx with rfl | rfl <;> omega
    rw [en] at W
    exact ⟨_, _, _, _, W, hz, hTI, hTO, d1.st, d2.st⟩
  · intro A i s Q E ⟨hz, _⟩ h
    exact wpAny_pyIter_zip hz h
theorem turn_zip3S {P : Program} {w : World} {K : PySem.W.Frag} {elts : List Expr} {kk : Nat} {tpos : Pos} (S1 S2 S3 : Src) (z TI TO i1 i2 i3 : Addr) (za : ZA z TI TO [i1, i2, i3] [S1, S2, S3]) :
    Turn P w K (.Tuple elts kk tpos) (Jr (RowZ K [S1, S2, S3]) (FinZ K [S1, S2, S3])) [z, TI, TO, i1, i2, i3] z (fun i h => IsZip h z TI TO .none ∧ IsTupOf3 h TI (.ref i1) (.ref i2) (.ref i3) ∧ (∃ x y u, IsTupOf3 h TO x y u) ∧ S1.At i1 i h ∧ S2.At i2 i h ∧ S3.At i3 i h) := by
  have hnd : (i1 ≠ i2 ∧ i1 ≠ i3) ∧ i2 ≠ i3 := by have := za.nd; simp at this; exact this
  have sep : ∀ {X : Cx} {s : Shared} {i : Nat} {xs ys zs : List V} {A : Around} {f1 f2 f3 n1 n2 n3 P1 P2 P3 T1 T2 T3}, SD X.prog X.w A S1 i1 xs s i f1 n1 P1 T1 → SD X.prog X.w A S2 i2 ys s i f2 n2 P2 T2 → SD X.prog X.w A S3 i3 zs s i f3 n3 P3 T3 → ZipSep3 z TI TO i1 i2 i3 f1 f2 f3 := fun d1 d2 d3 =>
    { TIz := za.TIz, TOz := za.TOz, TITO := za.TITO, TIi1 := za.nTI _ (by simp), mem1 := d1.mem, zf1 := d1.off (za.nz _ (by simp)) (za.aS _ (by simp) _ (by simp)), Tf1 := d1.off (za.nTO _ (by simp)) (za.aS _ (by simp) _ (by simp)),
      TIi2 := za.nTI _ (by simp), mem2 := d2.mem, zf2 := d2.off (za.nz _ (by simp)) (za.aS _ (by simp) _ (by simp)), Tf2 := d2.off (za.nTO _ (by simp)) (za.aS _ (by simp) _ (by simp)),
      TIi3 := za.nTI _ (by simp), mem3 := d3.mem, zf3 := d3.off (za.nz _ (by simp)) (za.aS _ (by simp) _ (by simp)), Tf3 := d3.off (za.nTO _ (by simp)) (za.aS _ (by simp) _ (by simp)),
      sep1_2 := d2.off hnd.1.1 (za.aS _ (by simp) _ (by simp)), sep1_3 := d3.off hnd.1.2 (za.aS _ (by simp) _ (by simp)), sep2_1 := d1.off (Ne.symm hnd.1.1) (za.aS _ (by simp) _ (by simp)), sep2_3 := d3.off hnd.2 (za.aS _ (by simp) _ (by simp)),
      sep3_1 := d1.off (Ne.symm hnd.1.2) (za.aS _ (by simp) _ (by simp)), sep3_2 := d2.off (Ne.symm hnd.2) (za.aS _ (by simp) _ (by simp)) }
  refine turn_rows (wr := [z, TO, i1, i2, i3]) (by simp) (fun b hb => by simp at hb ⊢; rcases hb with h | h | h | h | h <;> simp [h]) ?_ ?_ ?_ ?_ ?_
  · intro i h ⟨hz, hTI, ⟨x, y, u, hTO⟩, h1, h2, h3⟩ c hc
    have e' : c = z ∨ c = TI ∨ c = TO ∨ c = i1 ∨ c = i2 ∨ c = i3 := by simpa using hc
    rcases e' with q | q | q | q | q | q
    · rw [q]; exact ⟨_, hz, fun v q => nomatch q⟩
    · rw [q]; exact ⟨_, hTI, fun v q => nomatch q⟩
    · rw [q]; exact ⟨_, hTO, fun v q => nomatch q⟩
    · rw [q]; exact h1.there
    · rw [q]; exact h2.there
    · rw [q]; exact h3.there
  · intro i h h' ⟨hz, hTI, ⟨x, y, u, hTO⟩, h1, h2, h3⟩ k
    exact ⟨k z (by simp) _ hz, k TI (by simp) _ hTI, ⟨x, y, u, k TO (by simp) _ hTO⟩, h1.stay fun o q => k i1 (by simp) o q, h2.stay fun o q => k i2 (by simp) o q, h3.stay fun o q => k i3 (by simp) o q⟩
  · intro X hP hw hK hc i pins s σ H E I hf ⟨hz, hTI, ⟨a1, a2, a3, hTO⟩, h1, h2, h3⟩ r hr
    subst hP hw hK
    match r, hr with
    | _, ⟨_, .cons v1 (.cons v2 (.cons v3 .nil)), .cons x1 (.cons x2 (.cons x3 .nil))⟩ =>
      refine ⟨by show 3 ≤ sizeLine; decide, fun r' hr' => RowZ.uniq I ⟨_, .cons v1 (.cons v2 (.cons v3 .nil)), .cons x1 (.cons x2 (.cons x3 .nil))⟩ hr', ?_⟩
      obtain ⟨f1, n1, P1, T1, d1⟩ := Src.sd I (A := X.A.in1) (I.ok.hd hc) v1 h1
      obtain ⟨f2, n2, P2, T2, d2⟩ := Src.sd I (A := X.A.in1) (I.ok.hd hc) v2 h2
      obtain ⟨f3, n3, P3, T3, d3⟩ := Src.sd I (A := X.A.in1) (I.ok.hd hc) v3 h3
      have S := sep d1 d2 d3
      refine wpAny_pyNext_zipD3_item S d1.D d2.D d3.D hz hTI hTO d1.st d2.st d3.st (by rw [d1.n]; exact (List.getElem?_eq_some_iff.mp x1).1) (by rw [d2.n]; exact (List.getElem?_eq_some_iff.mp x2).1) (by rw [d3.n]; exact (List.getElem?_eq_some_iff.mp x3).1) fun y1 y2 y3 g1 tk p1 p2 p3 b1 b2 c1 c2 c3 b5 b6 hk => ?_
      obtain ⟨u1, e1, r1⟩ := d1.rel i y1 p1
      obtain ⟨u2, e2, r2⟩ := d2.rel i y2 p2
      obtain ⟨u3, e3, r3⟩ := d3.rel i y3 p3
      rw [x1] at e1
      rw [x2] at e2
      rw [x3] at e3
      cases e1
      cases e2
      cases e3
      have lt : ∀ {c o}, s.heap.get? c = some o → s.heap.objs.size ≠ c := fun e => Nat.ne_of_gt (Heap.lt_size e)
      have l1 : s.heap.objs.size ≠ i1 := by obtain ⟨_, z, _⟩ := h1.there; exact lt z
      have l2 : s.heap.objs.size ≠ i2 := by obtain ⟨_, z, _⟩ := h2.there; exact lt z
      have l3 : s.heap.objs.size ≠ i3 := by obtain ⟨_, z, _⟩ := h3.there; exact lt z
      have hap : s.heap.objs.size ∉ [z, TO, i1, i2, i3] := by simp; exact ⟨lt hz, lt hTO, l1, l2, l3⟩
      refine ⟨s.heap.objs.size, [y1, y2, y3], g1, tk, rfl, rfl, .cons r1 (.cons r2 (.cons r3 .nil)), Nat.le_refl _, b5, fun b o hb q => hk b o (fun z => hb (by simp [z])) (fun z => hb (by simp [z])) (fun z => hb (by simp [z])) (fun z => hb (by simp [z])) (fun z => hb (by simp [z])) q, hap, ?_⟩
      refine wpAny_letOwnedTupleGo_zip (s := { s with heap := g1, toks := tk }) b1 fun g2 hz2 sb => ⟨g2, rfl, ⟨hz2, (sb.2 _ S.TIz).trans (hk _ _ S.TIz S.TITO S.TIi1 S.TIi2 S.TIi3 hTI), ⟨y1, y2, y3, (sb.2 _ S.TOz).trans b2⟩, (d1.at_ _ _ c1).stay fun o q => (sb.2 _ fun z => za.nz i1 (by simp) z.symm).trans q, (d2.at_ _ _ c2).stay fun o q => (sb.2 _ fun z => za.nz i2 (by simp) z.symm).trans q, (d3.at_ _ _ c3).stay fun o q => (sb.2 _ fun z => za.nz i3 (by simp) z.symm).trans q⟩, fun b o hb q => (sb.2 b fun z => hb (by simp [z])).trans q⟩
  · intro X hP hw hK hc i pins s σ H I hf ⟨hz, hTI, hTO, h1, h2, h3⟩ ⟨_, .cons v1 (.cons v2 (.cons v3 .nil)), hle, hm⟩
    subst hP hw hK
    obtain ⟨f1, n1, P1, T1, d1⟩ := Src.sd I (A := X.A.in1) (I.ok.hd hc) v1 h1
    obtain ⟨f2, n2, P2, T2, d2⟩ := Src.sd I (A := X.A.in1) (I.ok.hd hc) v2 h2
    obtain ⟨f3, n3, P3, T3, d3⟩ := Src.sd I (A := X.A.in1) (I.ok.hd hc) v3 h3
    have W := WalksT.zipD3 (sep d1 d2 d3) d1.D d2.D d3.D
    have en : min (min n1 n2) n3 = i := by
      rw [d1.n, d2.n, d3.n]
      have l1 := hle _ (List.mem_cons_self)
      have l2 := hle _ (List.mem_cons_of_mem _ (List.mem_cons_self))
      have l3 := hle _ (List.mem_cons_of_mem _ (List.mem_cons_of_mem _ (List.mem_cons_self)))
      obtain ⟨xs, hx, e⟩ := hm
      simp at hx
      rcases hx with rfl | rfl | rfl <;> omega
    rw [en] at W
    exact ⟨_, _, _, _, W, hz, hTI, hTO, d1.st, d2.st, d3.st⟩
  · intro A i s Q E ⟨hz, _⟩ h
    exact wpAny_pyIter_zip hz h
theorem ZA.two {S1 S2 : Src} {N : Addr} (h1 : ∀ {a}, S1.adr = some a → a < N) (h2 : ∀ {a}, S2.adr = some a → a < N) : ZA (N + 4) (N + 2) (N + 3) [N, N + 1] [S1, S2] := by
  have ad : ∀ {a b : Nat}, a ≠ b → (N + a : Nat) ≠ N + b := fun h z => h (Nat.add_left_cancel z)
  have ad0 : ∀ {a : Nat}, a ≠ 0 → (N + a : Nat) ≠ N := fun h z => h (Nat.add_left_cancel (z.trans (Nat.add_zero N).symm))
  refine ⟨ad (by decide), ad (by decide), ad (by decide), ?_, ?_, ?_, ?_, fun S hS n hn z => ?_⟩
  · intro n hn
    rcases List.mem_cons.mp hn with rfl | hn
    · exact ad0 (by decide)
    · rw [List.mem_singleton.mp hn]; exact ad (by decide)
  · intro n hn
    rcases List.mem_cons.mp hn with rfl | hn
    · exact ad0 (by decide)
    · rw [List.mem_singleton.mp hn]; exact ad (by decide)
  · intro n hn
    rcases List.mem_cons.mp hn with rfl | hn
    · exact ad0 (by decide)
    · rw [List.mem_singleton.mp hn]; exact ad (by decide)
  · exact List.nodup_cons.mpr ⟨fun z => ad0 (a := 1) (by decide) (List.mem_singleton.mp z).symm, List.nodup_cons.mpr ⟨by simp, List.nodup_nil⟩⟩
  · have hlt : n < N := by
      rcases List.mem_cons.mp hS with rfl | hS
      · exact h1 z
      · rw [List.mem_singleton.mp hS] at z; exact h2 z
    have hge : N ≤ n := by
      rcases List.mem_cons.mp hn with rfl | hn
      · exact Nat.le_add_right _ _
      rcases List.mem_cons.mp hn with rfl | hn
      · exact Nat.le_add_right _ _
      rcases List.mem_cons.mp hn with rfl | hn
      · exact Nat.le_add_right _ _
      rcases List.mem_cons.mp hn with rfl | hn
      · exact Nat.le_refl _
      · rw [List.mem_singleton.mp hn]; exact Nat.le_add_right _ _
    exact Nat.lt_irrefl _ (Nat.lt_of_lt_of_le hlt hge)
theorem ZA.three {S1 S2 S3 : Src} {N : Addr} (h1 : ∀ {a}, S1.adr = some a → a < N) (h2 : ∀ {a}, S2.adr = some a → a < N) (h3 : ∀ {a}, S3.adr = some a → a < N) : ZA (N + 5) (N + 3) (N + 4) [N, N + 1, N + 2] [S1, S2, S3] := by
  have ad : ∀ {a b : Nat}, a ≠ b → (N + a : Nat) ≠ N + b := fun h z => h (Nat.add_left_cancel z)
  have ad0 : ∀ {a : Nat}, a ≠ 0 → (N + a : Nat) ≠ N := fun h z => h (Nat.add_left_cancel (z.trans (Nat.add_zero N).symm))
  refine ⟨ad (by decide), ad (by decide), ad (by decide), ?_, ?_, ?_, ?_, fun S hS n hn z => ?_⟩
  · intro n hn
    rcases List.mem_cons.mp hn with rfl | hn
    · exact ad0 (by decide)
    rcases List.mem_cons.mp hn with rfl | hn
    · exact ad (by decide)
    · rw [List.mem_singleton.mp hn]; exact ad (by decide)
  · intro n hn
    rcases List.mem_cons.mp hn with rfl | hn
    · exact ad0 (by decide)
    rcases List.mem_cons.mp hn with rfl | hn
    · exact ad (by decide)
    · rw [List.mem_singleton.mp hn]; exact ad (by decide)
  · intro n hn
    rcases List.mem_cons.mp hn with rfl | hn
    · exact ad0 (by decide)
    rcases List.mem_cons.mp hn with rfl | hn
    · exact ad (by decide)
    · rw [List.mem_singleton.mp hn]; exact ad (by decide)
  · refine List.nodup_cons.mpr ⟨fun z => ?_, List.nodup_cons.mpr ⟨fun z => ad (a := 1) (b := 2) (by decide) (List.mem_singleton.mp z), List.nodup_cons.mpr ⟨by simp, List.nodup_nil⟩⟩⟩
    rcases List.mem_cons.mp z with z | z
    · exact ad0 (a := 1) (by decide) z.symm
    · exact ad0 (a := 2) (by decide) (List.mem_singleton.mp z).symm
  · have hlt : n < N := by
      rcases List.mem_cons.mp hS with rfl | hS
      · exact h1 z
      rcases List.mem_cons.mp hS with rfl | hS
      · exact h2 z
      · rw [List.mem_singleton.mp hS] at z; exact h3 z
    have hge : N ≤ n := by
      rcases List.mem_cons.mp hn with rfl | hn
      · exact Nat.le_add_right _ _
      rcases List.mem_cons.mp hn with rfl | hn
      · exact Nat.le_add_right _ _
      rcases List.mem_cons.mp hn with rfl | hn
      · exact Nat.le_add_right _ _
      rcases List.mem_cons.mp hn with rfl | hn
      · exact Nat.le_refl _
      rcases List.mem_cons.mp hn with rfl | hn
      · exact Nat.le_add_right _ _
      · rw [List.mem_singleton.mp hn]; exact Nat.le_add_right _ _
    exact Nat.lt_irrefl _ (Nat.lt_of_lt_of_le hlt hge)
def iZip2S (K : PySem.W.Frag) (ta : TA) : TI := fun σ H R => ta σ H fun vs H1 => ∃ (S1 S2 : Src) (x1 x2 : List V), vs = [S1.v, S2.v] ∧ S1.Val K H1 x1 ∧ S2.Val K H1 x2 ∧ R (Jr (RowZ K [S1, S2]) (FinZ K [S1, S2])) H1
def iZip3S (K : PySem.W.Frag) (ta : TA) : TI := fun σ H R => ta σ H fun vs H1 => ∃ (S1 S2 S3 : Src) (x1 x2 x3 : List V), vs = [S1.v, S2.v, S3.v] ∧ S1.Val K H1 x1 ∧ S2.Val K H1 x2 ∧ S3.Val K H1 x3 ∧ R (Jr (RowZ K [S1, S2, S3]) (FinZ K [S1, S2, S3])) H1
theorem pi_zip2S {X : Cx} {e e2 : Expr} {ta : TA} {p pos tpos : Pos} {elts : List Expr} {kk : Nat} (hg : Gl X "zip") (hm : X.mg "zip" = none) (ha : PA X [e, e2] ta)
    (hs : starEach [e, e2] X.env = (false, eval e X.env) :: starEach [e2] X.env := by rfl) (hpl : (backTo pos (starEach [e2] X.env)).any (·.1) = false := by rfl) :
    PI X (.Tuple elts kk tpos) (.Call (.Name "zip" p) [e, e2] [] pos) (iZip2S X.K ta) := by
  refine ⟨fun pins s σ H R I h => ?_⟩
  refine Call_ (ld_blt I hg hm PyProof.Rows.boot_zip (PyProof.Rows.callWith_type1 (thn (ha.run pos pins s σ H _ I h) fun us s1 ⟨vs, H1, I1, r1, q1⟩ => ?_) hs hpl))
  obtain ⟨S1, S2, x1, x2, ex, v1, v2, q⟩ := q1
  subst ex
  obtain ⟨r1, r2⟩ : ∃ u1 u2, us = [u1, u2] ∧ RelV S1.v u1 ∧ RelV S2.v u2 := by
    cases r1 with
    | cons r1 rr =>
      cases rr with
      | cons r2 rr =>
        cases rr
        exact ⟨_, _, rfl, r1, r2⟩
  obtain ⟨u2, rfl, r1, r2⟩ := r2
  obtain ⟨o1, Hh1, B1, hB1, at1⟩ := Src.begins I1 v1 r1
  obtain ⟨o2, Hh2, B2, hB2, at2⟩ := Src.begins I1 v2 r2
  refine zip_begins2 B1 B2 hB1 hB2 fun h' hz hTI hTO g1 g2 hsz hk => wpAny_pyIter_zip hz ?_
  have I2 : L2.Inv X pins σ H1 { s1 with heap := h' } := I1.kept (t' := s1.toks) hk
  refine ⟨s1.heap.objs.size + 4, [s1.heap.objs.size + 4, s1.heap.objs.size + 2, s1.heap.objs.size + 3, s1.heap.objs.size, s1.heap.objs.size + 1], _, _, H1, rfl, I2, turn_zip2S S1 S2 _ _ _ _ _ (ZA.two (Src.lt I1 v1) (Src.lt I1 v2)), ⟨hz, hTI, ⟨_, _, hTO⟩, at1 _ _ g1, at2 _ _ g2⟩, fun c hcm => ?_, q⟩
  · have hle : s1.heap.objs.size ≤ c := by
      simp at hcm
      rcases hcm with z | z | z | z | z <;> (rw [z]; first | exact Nat.le_add_right _ _ | exact Nat.le_refl _)
    exact I1.fpOk hle (I1.hok.fresh hle)
theorem pi_zip3S {X : Cx} {e e2 e3 : Expr} {ta : TA} {p pos tpos : Pos} {elts : List Expr} {kk : Nat} (hg : Gl X "zip") (hm : X.mg "zip" = none) (ha : PA X [e, e2, e3] ta)
    (hs : starEach [e, e2, e3] X.env = (false, eval e X.env) :: starEach [e2, e3] X.env := by rfl) (hpl : (backTo pos (starEach [e2, e3] X.env)).any (·.1) = false := by rfl) :
    PI X (.Tuple elts kk tpos) (.Call (.Name "zip" p) [e, e2, e3] [] pos) (iZip3S X.K ta) := by
  refine ⟨fun pins s σ H R I h => ?_⟩
  refine Call_ (ld_blt I hg hm PyProof.Rows.boot_zip (PyProof.Rows.callWith_type1 (thn (ha.run pos pins s σ H _ I h) fun us s1 ⟨vs, H1, I1, r1, q1⟩ => ?_) hs hpl))
  obtain ⟨S1, S2, S3, x1, x2, x3, ex, v1, v2, v3, q⟩ := q1
  subst ex
  obtain ⟨r1, r2⟩ : ∃ u1 u2 u3, us = [u1, u2, u3] ∧ RelV S1.v u1 ∧ RelV S2.v u2 ∧ RelV S3.v u3 := by
    cases r1 with
    | cons r1 rr =>
      cases rr with
      | cons r2 rr =>
        cases rr with
        | cons r3 rr =>
          cases rr
          exact ⟨_, _, _, rfl, r1, r2, r3⟩
  obtain ⟨u2, u3, rfl, r1, r2, r3⟩ := r2
  obtain ⟨o1, Hh1, B1, hB1, at1⟩ := Src.begins I1 v1 r1
  obtain ⟨o2, Hh2, B2, hB2, at2⟩ := Src.begins I1 v2 r2
  obtain ⟨o3, Hh3, B3, hB3, at3⟩ := Src.begins I1 v3 r3
  refine zip_begins3 B1 B2 B3 hB1 hB2 hB3 fun h' hz hTI hTO g1 g2 g3 hsz hk => wpAny_pyIter_zip hz ?_
  have I2 : L2.Inv X pins σ H1 { s1 with heap := h' } := I1.kept (t' := s1.toks) hk
  refine ⟨s1.heap.objs.size + 5, [s1.heap.objs.size + 5, s1.heap.objs.size + 3, s1.heap.objs.size + 4, s1.heap.objs.size, s1.heap.objs.size + 1, s1.heap.objs.size + 2], _, _, H1, rfl, I2, turn_zip3S S1 S2 S3 _ _ _ _ _ _ (ZA.three (Src.lt I1 v1) (Src.lt I1 v2) (Src.lt I1 v3)), ⟨hz, hTI, ⟨_, _, _, hTO⟩, at1 _ _ g1, at2 _ _ g2, at3 _ _ g3⟩, fun c hcm => ?_, q⟩
  · have hle : s1.heap.objs.size ≤ c := by
      simp at hcm
      rcases hcm with z | z | z | z | z | z <;> (rw [z]; first | exact Nat.le_add_right _ _ | exact Nat.le_refl _)
    exact I1.fpOk hle (I1.hok.fresh hle)
end Mm
end

section
set_option Elab.async false
set_option linter.all false
set_option maxRecDepth 100000
namespace Mm
open PySem PySem.Spec PyProof.Rows L2

/-! ## an owned thing given away -/
def MO.pv : MO → PV
  | .lst xs => .lst xs
  | .dic kvs => .dic kvs
  | .ins c fs => .ins c fs
theorem MOk.pv {G : GC} {r r1 : Ads} {H : Hp} {a : Addr} (hs : ∀ b, some b ∈ r1 → some b ∈ r) (ha : some a ∉ r1) : ∀ {m : MO}, MOk G r H a m → Is G r1 H m.pv (.ref a)
  | .lst xs, ⟨vs, h, q⟩ => by unfold MO.pv Is; exact ⟨a, vs, rfl, ha, h, q.less hs⟩
  | .dic kvs, ⟨ws, h, q⟩ => by unfold MO.pv Is; exact ⟨a, ws, rfl, ha, h, q.less hs⟩
  | .ins c fs, ⟨dx, vs, h, l, q⟩ => by unfold MO.pv Is; exact ⟨a, dx, vs, rfl, ha, h, l, q.less hs⟩
def frozM (m : MExp) : MExp := fun e S => match m e S with
  | .ok (.p x) S1 => .ok (.p x) S1
  | .ok (.l n) S1 => if n = S.length ∧ S1.length = n + 1 then (match S1[n]? with
      | some o => .ok (.p o.pv) (S1.take n)
      | none => .bad) else .bad
  | .exn c fs S1 => .exn c fs S1
  | .bad => .bad
section
variable {X : Cx} {G : GC} {W : WX} {pos : Pos}
theorem peImp {e : Expr} {t t' : TE} (h : PE X e t) (w : ∀ σ H Q, t' σ H Q → t σ H Q) : PE X e t' := ⟨fun pins s σ H Q I h' => h.run pins s σ H Q I (w σ H Q h')⟩
theorem froz_at {r r1 : Ads} {H H1 : Hp} {S S1 : Sto} {e : MEnv} {σ : L2.St} {n : Nat} {a : Addr} {o : MO} (sr : SR G r H S e σ) (st : StepE G.K r H r1 H1) (sr1 : StR G r1 H1 S1) (hn : n = S.length) (hl : S1.length = n + 1) (ha : r1[n]? = some (some a)) (ho : S1[n]? = some o) :
    StepE G.K r H (r1.take n) H1 ∧ SR G (r1.take n) H1 (S1.take n) e σ ∧ Is G (r1.take n) H1 o.pv (.ref a) := by
  have hrl : r.length = n := by rw [hn]; exact sr.st.len
  have s2 : StepE G.K r H (r1.take n) H1 := ⟨st.toStep.take n, fun k hk => by rw [List.getElem?_take, if_pos (by omega)]; exact st.pre k hk, by
    rw [List.length_take]
    have := sr1.len
    omega⟩
  refine ⟨s2, ⟨⟨StR0.take sr1.toStR0 n, sr1.kf⟩, sr.env.step s2 sr.st.noFrz⟩, ?_⟩
  obtain ⟨m, hm, q⟩ := sr1.obj n a ha
  rw [ho] at hm
  cases hm
  refine MOk.pv (fun b hb => some_take hb) (fun z => ?_) q
  obtain ⟨i, hi⟩ := ads_at z
  rw [List.getElem?_take] at hi
  split at hi
  · rename_i hlt
    have := sr1.nd i n a hi ha
    omega
  · cases hi
theorem me_froz {e : Expr} {m : MExp} (h : PE X e (rd G W m)) : PE X e (rd G W (frozM m)) := peImp h fun σ H Q ⟨r, S, e, sr, h⟩ => by
  refine ⟨r, S, e, sr, ?_⟩
  unfold frozM at h
  cases hm : m e S with
  | bad => rw [hm] at h; exact h
  | exn c fs S1 => rw [hm] at h; exact h
  | ok x S1 =>
    rw [hm] at h
    cases x with
    | p x => exact h
    | l n =>
      dsimp only at h
      split at h
      · rename_i hn
        intro r1 H1 v1 st sr1 i1
        obtain ⟨a, ha, rfl⟩ := i1
        cases ho : S1[n]? with
        | none => rw [ho] at h; exact h.elim
        | some o =>
          rw [ho] at h
          obtain ⟨q1, q2, q3⟩ := froz_at sr st sr1.st hn.1 hn.2 ha ho
          exact h _ _ _ q1 q2 q3
      · exact h.elim

/-! ## what is walked, by its mirror -/
def signs (x : Str) : List PV := x.cps.toList.map fun c => PV.str ⟨#[c]⟩
def srcP : PV → Option (List PV)
  | .lst xs => some xs
  | .tup xs => some xs
  | .scr xs => some xs
  | .str x => if x.cps.size ≤ sizeLine then some (signs x) else none
  | _ => none
def srcR : RV → Option (List PV)
  | .p x => srcP x
  | .l _ => none
/-- a source holds xs, and goes on to hold it -/
def SrcOk (G : GC) (r : Ads) (H : Hp) (Z : Src) (xs : List PV) : Prop :=
  (∀ a, Z = .ofL a → some a ∉ r) ∧ ∃ vs, Z.Val G.K H vs ∧ IsAll G r H xs vs
theorem SrcOk.step {r r1 : Ads} {H H1 : Hp} {Z : Src} {xs : List PV} (h : SrcOk G r H Z xs) (st : Step G.K r H r1 H1) (nf : NoFrz r H) : SrcOk G r1 H1 Z xs := by
  obtain ⟨h1, vs, h2, h3⟩ := h
  have h3' := h3.step st nf
  cases Z with
  | ofL a =>
    obtain ⟨q1, q2⟩ := st.lst (h1 a rfl) h2
    exact ⟨fun b z => by cases z; exact q1, vs, q2, h3'⟩
  | ofT a => exact ⟨fun b z => by (cases z), vs, st.tup nf h2, h3'⟩
  | ofS x => exact ⟨fun b z => by (cases z), vs, h2, h3'⟩
theorem IsAll.signs {r : Ads} {H : Hp} (cs : List Nat) : IsAll G r H (cs.map fun c => PV.str ⟨#[c]⟩) (cs.map fun c => V.str ⟨#[c]⟩) := by
  induction cs with
  | nil => exact IsAll.nil
  | cons c cs ih => exact IsAll.cons.mpr ⟨by unfold Is; rfl, ih⟩
theorem srcR_ok {r : Ads} {H : Hp} {x : RV} {v : V} {xs : List PV} (kf : KF G.K H) (i : RIs G r H x v) (h : srcR x = some xs) : ∃ Z : Src, v = Z.v ∧ SrcOk G r H Z xs ∧ xs.length ≤ sizeLine := by
  cases x with
  | l n => cases h
  | p x =>
    have i : Is G r H x v := i
    have h : srcP x = some xs := h
    cases x with
    | lst ys =>
      unfold srcP at h
      cases h
      unfold Is at i
      obtain ⟨a, vs, rfl, n, q, t⟩ := i
      exact ⟨.ofL a, rfl, ⟨fun b z => by cases z; exact n, vs, .inl (.inl q), t⟩, by rw [t.len]; exact kf.szL a vs (.inl (.inl q))⟩
    | scr ys =>
      unfold srcP at h
      cases h
      unfold Is at i
      obtain ⟨a, vs, rfl, n, q, t⟩ := i
      exact ⟨.ofL a, rfl, ⟨fun b z => by cases z; exact n, vs, q, t⟩, by rw [t.len]; exact kf.szL a vs q⟩
    | tup ys =>
      unfold srcP at h
      cases h
      unfold Is at i
      obtain ⟨a, vs, rfl, q, t⟩ := i
      exact ⟨.ofT a, rfl, ⟨fun b z => by (cases z), vs, q.t, t⟩, by rw [t.len]; exact kf.szT a vs q.t⟩
    | str y =>
      have h : (if y.cps.size ≤ sizeLine then some (signs y) else none) = some xs := h
      split at h
      · cases h
        unfold Is at i
        subst i
        exact ⟨.ofS y, rfl, ⟨fun b z => by (cases z), _, rfl, IsAll.signs _⟩, by unfold signs; rw [List.length_map, Array.length_toList]; assumption⟩
      · cases h
    | _ => unfold srcP at h; cases h
def Jsrc (K : PySem.W.Frag) : Src → It
  | .ofL a => Itl K a
  | .ofT a => Itt K a
  | .ofS x => Its x
def iSrc (K : PySem.W.Frag) (te : TE) : TI := fun σ H R => te σ H fun v H1 => ∃ (Z : Src) (xs : List V), v = Z.v ∧ Z.Val K H1 xs ∧ R (Jsrc K Z) H1
theorem pi_src {tg l : Expr} {tl : TE} (hl : PE X l tl) : PI X tg l (iSrc X.K tl) := by
  refine ⟨fun pins s σ H R I h => ?_⟩
  refine thn (hl.run pins s σ H _ I h) fun v s1 ⟨x, H1, I1, r1, Z, xs, e, hv, q⟩ => ?_
  subst e
  cases Z with
  | ofL a =>
    cases r1
    obtain ⟨its, rv, p, hz⟩ := I1.list hv
    exact wpAny_pyIter_list p.isList (pi_one (tk := s1.toks) I1 _ (turn_list a _) ⟨_, Heap.get?_push_size _ rfl, rfl, rfl⟩ q)
  | ofT a =>
    cases r1
    obtain ⟨its, rv, p, hz⟩ := I1.tuple hv
    exact wpAny_pyIter_tuple (show s1.heap.IsTuple a its.toArray from p) (pi_one (tk := s1.toks) I1 _ (turn_tuple a _) ⟨_, Heap.get?_push_size _ rfl, rfl, rfl⟩ q)
  | ofS x =>
    obtain ⟨t, rfl⟩ := r1
    cases ha : x.cps.all (· < 128)
    · exact wpAny_pyIter_wide ha (pi_one (tk := s1.toks) I1 _ (turn_str _ x t "str_iterator" (.inr rfl)) ⟨_, Heap.get?_push_size _ rfl, rfl, rfl⟩ q)
    · exact wpAny_pyIter_ascii ha (pi_one (tk := s1.toks) I1 _ (turn_str _ x t "str_ascii_iterator" (.inl rfl)) ⟨_, Heap.get?_push_size _ rfl, rfl, rfl⟩ q)
theorem Ext.refl (H : Hp) : Ext H H := fun _ _ h => h
theorem Ext.upd {H : Hp} {T : Addr} {o : HO} (h : H T = none) : Ext H (upd H T o) := fun b u e => by rw [upd_ne (ne_of_none e h)]; exact e
theorem walk_src {r : Ads} {H : Hp} {Z : Src} {xs : List PV} (nf : NoFrz r H) (h : SrcOk G r H Z xs) (hz : xs.length ≤ sizeLine) : Walk G r H (Jsrc G.K Z) xs := by
  refine ⟨hz, fun r2 H2 S2 st s2 => ?_⟩
  obtain ⟨h1, vs, h2, h3⟩ := h.step st nf
  have hl := h3.len
  cases Z with
  | ofL a =>
    refine ⟨fun i x hx => ?_, ⟨vs, h2, by omega⟩⟩
    obtain ⟨v, hv, iv⟩ := h3.get' hx
    refine ⟨⟨vs, v, h2, hv⟩, fun u H3 ⟨e, y⟩ => ?_⟩
    subst e
    have := y vs h2
    rw [hv] at this
    cases this
    exact ⟨Ext.refl _, fun _ => iv⟩
  | ofT a =>
    refine ⟨fun i x hx => ?_, ⟨vs, h2, by omega⟩⟩
    obtain ⟨v, hv, iv⟩ := h3.get' hx
    refine ⟨⟨vs, v, h2, hv⟩, fun u H3 ⟨e, y⟩ => ?_⟩
    subst e
    have := y vs h2
    rw [hv] at this
    cases this
    exact ⟨Ext.refl _, fun _ => iv⟩
  | ofS z =>
    have h2 : vs = z.cps.toList.map fun c => V.str ⟨#[c]⟩ := h2
    have hl' : xs.length = z.cps.size := by rw [hl, h2, List.length_map, Array.length_toList]
    refine ⟨fun i x hx => ?_, ?_⟩
    · obtain ⟨v, hv, iv⟩ := h3.get' hx
      refine ⟨?_, fun u H3 ⟨e, c, hc, eu⟩ => ?_⟩
      · show i < z.cps.size
        rw [← hl']
        exact (List.getElem?_eq_some_iff.mp hx).1
      · subst e eu
        rw [h2, List.getElem?_map, Array.getElem?_toList, hc] at hv
        cases hv
        exact ⟨Ext.refl _, fun _ => iv⟩
    · show z.cps.size ≤ xs.length
      omega
theorem piImp {tg it : Expr} {t t' : TI} (h : PI X tg it t) (w : ∀ σ H R, t' σ H R → t σ H R) : PI X tg it t' := ⟨fun pins s σ H R I q => h.run pins s σ H R I (w σ H R q)⟩
def mSeqI (m : MExp) : MIt := bindM m fun x _ S => match srcR x with
  | some xs => .ok xs S
  | none => .bad
theorem mi_seq {tg l : Expr} {m : MExp} (hG : X.K = G.K) (hl : PE X l (rd G W m)) : PI X tg l (rdI G W (mSeqI m)) :=
  piImp (pi_src hl) fun σ H R ⟨r, S, e, sr, h⟩ => by
    rw [hG]
    refine bind_rd sr h fun x S1 r1 H1 v1 st1 sr1 i1 h1 => ?_
    cases hs : srcR x with
    | none => rw [hs] at h1; exact h1.elim
    | some xs =>
      rw [hs] at h1
      obtain ⟨Z, ev, ok, hz⟩ := srcR_ok sr1.st.kf i1 hs
      obtain ⟨vs, hv, _⟩ := ok.2
      exact ⟨Z, vs, ev, hv, h1 r1 H1 _ (StepE.refl _ _) sr1 (walk_src sr1.st.noFrz ok hz)⟩

/-! ### range -/
def upTo (lo : Int) (n : Nat) : List PV := (List.range n).map fun i => .int (lo + (i : Nat))
theorem walk_rng {r : Ads} {H : Hp} {lo : Int} {n : Nat} (hn : n ≤ sizeLine) : Walk G r H (Itr lo n) (upTo lo n) := by
  have hl : (upTo lo n).length = n := by unfold upTo; rw [List.length_map, List.length_range]
  refine ⟨by rw [hl]; exact hn, fun r2 H2 S2 st s2 => ⟨fun i x hx => ?_, show n ≤ _ by omega⟩⟩
  have hi : i < n := by rw [← hl]; exact (List.getElem?_eq_some_iff.mp hx).1
  refine ⟨hi, fun v H3 ⟨e, y⟩ => ?_⟩
  subst e y
  unfold upTo at hx
  rw [List.getElem?_map, List.getElem?_range hi] at hx
  cases hx
  exact ⟨Ext.refl _, fun _ => by unfold Is; rfl⟩
def mRng1 (m : MArg) : MIt := bindM m fun xs _ S => match xs with
  | [.p (.int n)] => if n ≤ (2 ^ 24 : Int) ∧ -(2 ^ 62) ≤ n then .ok (upTo 0 n.toNat) S else .bad
  | _ => .bad
def mRng2 (m : MArg) : MIt := bindM m fun xs _ S => match xs with
  | [.p (.int i), .p (.int n)] => if (n - i) ≤ (2 ^ 24 : Int) ∧ -(2 ^ 62) ≤ n ∧ -(2 ^ 62) ≤ i ∧ n < 2 ^ 62 ∧ i < 2 ^ 62 then .ok (upTo i (n - i).toNat) S else .bad
  | _ => .bad
theorem int_of {r : Ads} {H : Hp} {i : Int} {v : V} (h : RIs G r H (.p (.int i)) v) : v = .int i := by
  have h : Is G r H (.int i) v := h
  unfold Is at h
  exact h
theorem mi_rng1 {tg a : Expr} {m : MArg} {p : Pos} (hg : Gl X "range") (hm : X.mg "range" = none) (ha : PA X [a] (rdA G W m)) (hs : starEach [a] X.env = [(false, eval a X.env)] := by rfl) : PI X tg (.Call (.Name "range" p) [a] [] pos) (rdI G W (mRng1 m)) :=
  piImp (pi_range1 hg hm ha hs) fun σ H R ⟨r, S, e, sr, h⟩ => by
    refine bind_rd sr h fun xs S1 r1 H1 v1 st1 sr1 i1 h1 => ?_
    split at h1
    · split at h1
      · rename_i hb
        obtain ⟨v, ev, iv⟩ := i1.one
        subst ev
        rw [int_of iv]
        refine ⟨_, rfl, hb.2, by omega, h1 r1 H1 _ (StepE.refl _ _) sr1 (walk_rng ?_)⟩
        show _ ≤ 2 ^ 24
        omega
      · exact h1.elim
    · exact h1.elim
theorem mi_rng2 {tg a b : Expr} {m : MArg} {p : Pos} (hg : Gl X "range") (hm : X.mg "range" = none) (ha : PA X [a, b] (rdA G W m)) (hs : starEach [a, b] X.env = [(false, eval a X.env), (false, eval b X.env)] := by rfl) (hs2 : starEach [b] X.env = [(false, eval b X.env)] := by rfl) : PI X tg (.Call (.Name "range" p) [a, b] [] pos) (rdI G W (mRng2 m)) :=
  piImp (pi_range2 hg hm ha hs hs2) fun σ H R ⟨r, S, e, sr, h⟩ => by
    refine bind_rd sr h fun xs S1 r1 H1 v1 st1 sr1 i1 h1 => ?_
    split at h1
    · split at h1
      · rename_i hb
        obtain ⟨v, w, ev, iv, iw⟩ := i1.two
        subst ev
        rw [int_of iv, int_of iw]
        refine ⟨_, _, rfl, ⟨hb.2.2.1, hb.2.2.2.2, hb.2.1, hb.2.2.2.1⟩, h1 r1 H1 _ (StepE.refl _ _) sr1 (walk_rng ?_)⟩
        show _ ≤ 2 ^ 24
        omega
      · exact h1.elim
    · exact h1.elim

/-! ### enumerate, zip -/
/-- rows of new tuples are walked -/
theorem walk_rows {r : Ads} {H : Hp} {Row : Hp → Nat → List V → Prop} {Fin : Hp → Nat → Prop} {xss : List (List PV)} (nf : NoFrz r H) (hl : xss.length ≤ sizeLine)
    (hr : ∀ r2 H2, Step G.K r H r2 H2 → (∀ (i : Nat) xs, xss[i]? = some xs → ∃ row, Row H2 i row ∧ IsAll G r2 H2 xs row) ∧ Fin H2 xss.length) : Walk G r H (Jr Row Fin) (xss.map PV.tup) := by
  refine ⟨by rw [List.length_map]; exact hl, fun r2 H2 S2 st s2 => ?_⟩
  obtain ⟨h1, h2⟩ := hr r2 H2 st
  refine ⟨fun i x hx => ?_, by rw [List.length_map]; exact h2⟩
  rw [List.getElem?_map] at hx
  cases hxs : xss[i]? with
  | none => rw [hxs] at hx; cases hx
  | some xs =>
    rw [hxs] at hx
    cases hx
    obtain ⟨row, hrow, ir⟩ := h1 i xs hxs
    refine ⟨⟨row, hrow⟩, fun v H3 ⟨T, r', o, ev, hT, ho, eH, u⟩ => ?_⟩
    have := u row hrow
    subst this
    subst ev eH
    refine ⟨Ext.upd hT, fun kf => ?_⟩
    unfold Is
    exact ⟨T, row, rfl, .inl ⟨o, upd_same, ho⟩, ir.step (Step.laid hT) s2.noFrz⟩
def enumP : Nat → List PV → List (List PV)
  | _, [] => []
  | i, x :: xs => [.int (i : Nat), x] :: enumP (i + 1) xs
theorem enumP_len : ∀ {i : Nat} {xs : List PV}, (enumP i xs).length = xs.length
  | i, [] => rfl
  | i, x :: xs => by unfold enumP; rw [List.length_cons, List.length_cons, enumP_len]
theorem enumP_get : ∀ {k i : Nat} {xs : List PV} {ys : List PV}, (enumP k xs)[i]? = some ys → ∃ x, xs[i]? = some x ∧ ys = [.int ((k + i : Nat)), x]
  | k, i, [], ys, h => by unfold enumP at h; simp at h
  | k, 0, x :: xs, ys, h => by
    unfold enumP at h
    simp at h
    exact ⟨x, rfl, h.symm⟩
  | k, i + 1, x :: xs, ys, h => by
    unfold enumP at h
    rw [List.getElem?_cons_succ] at h
    obtain ⟨y, h1, h2⟩ := enumP_get h
    refine ⟨y, by simpa using h1, ?_⟩
    rw [h2]
    have : k + 1 + i = k + (i + 1) := by omega
    rw [this]
def mEnum (m : MArg) : MIt := bindM m fun xs _ S => match xs with
  | [x] => (match srcR x with
    | some xs => .ok ((enumP 0 xs).map PV.tup) S
    | none => .bad)
  | _ => .bad
theorem mi_enum {e : Expr} {elts : List Expr} {kk : Nat} {tpos p : Pos} {m : MArg} (hG : X.K = G.K) (hg : Gl X "enumerate") (hm : X.mg "enumerate" = none) (ha : PA X [e] (rdA G W m)) (hs : starEach [e] X.env = [(false, eval e X.env)] := by rfl) :
    PI X (.Tuple elts kk tpos) (.Call (.Name "enumerate" p) [e] [] pos) (rdI G W (mEnum m)) :=
  piImp (pi_enumS hg hm ha hs) fun σ H R ⟨r, S, e, sr, h⟩ => by
    rw [hG]
    refine bind_rd sr h fun xs S1 r1 H1 v1 st1 sr1 i1 h1 => ?_
    split at h1
    · rename_i x
      cases hs : srcR x with
      | none => rw [hs] at h1; exact h1.elim
      | some ys =>
        rw [hs] at h1
        obtain ⟨v, ev, iv⟩ := i1.one
        subst ev
        obtain ⟨Z, ev, ok, hz⟩ := srcR_ok sr1.st.kf iv hs
        subst ev
        obtain ⟨vs, hv, _⟩ := ok.2
        refine ⟨Z, vs, rfl, hv, h1 r1 H1 _ (StepE.refl _ _) sr1 (walk_rows sr1.st.noFrz (by rw [enumP_len]; exact hz) fun r2 H2 st => ?_)⟩
        obtain ⟨_, ws, hw, iw⟩ := ok.step st sr1.st.noFrz
        refine ⟨fun i zs hzs => ?_, ⟨ws, hw, by rw [enumP_len, iw.len]⟩⟩
        obtain ⟨x, hx, rfl⟩ := enumP_get hzs
        obtain ⟨v, hv2, ivv⟩ := iw.get' hx
        exact ⟨_, ⟨ws, v, hw, hv2, rfl⟩, IsAll.cons.mpr ⟨by unfold Is; rw [Nat.zero_add], IsAll.cons.mpr ⟨ivv, IsAll.nil⟩⟩⟩
    · exact h1.elim
def zip2P : List PV → List PV → List (List PV)
  | x :: xs, y :: ys => [x, y] :: zip2P xs ys
  | _, _ => []
theorem zip2P_len : ∀ {xs ys : List PV}, (zip2P xs ys).length = min xs.length ys.length
  | [], ys => by unfold zip2P; simp
  | x :: xs, [] => by unfold zip2P; simp
  | x :: xs, y :: ys => by
    unfold zip2P
    rw [List.length_cons, List.length_cons, List.length_cons, zip2P_len]
    omega
theorem zip2P_get : ∀ {i : Nat} {xs ys zs : List PV}, (zip2P xs ys)[i]? = some zs → ∃ x y, xs[i]? = some x ∧ ys[i]? = some y ∧ zs = [x, y]
  | i, [], ys, zs, h => by unfold zip2P at h; simp at h
  | i, x :: xs, [], zs, h => by unfold zip2P at h; simp at h
  | 0, x :: xs, y :: ys, zs, h => by
    unfold zip2P at h
    simp at h
    exact ⟨x, y, rfl, rfl, h.symm⟩
  | i + 1, x :: xs, y :: ys, zs, h => by
    unfold zip2P at h
    rw [List.getElem?_cons_succ] at h
    obtain ⟨a, b, h1, h2, h3⟩ := zip2P_get h
    exact ⟨a, b, by simpa using h1, by simpa using h2, h3⟩
def mZip2 (m : MArg) : MIt := bindM m fun xs _ S => match xs with
  | [x, y] => (match srcR x, srcR y with
    | some xs, some ys => .ok ((zip2P xs ys).map PV.tup) S
    | _, _ => .bad)
  | _ => .bad
theorem mi_zip2 {e e2 : Expr} {elts : List Expr} {kk : Nat} {tpos p : Pos} {m : MArg} (hG : X.K = G.K) (hg : Gl X "zip") (hm : X.mg "zip" = none) (ha : PA X [e, e2] (rdA G W m))
    (hs : starEach [e, e2] X.env = (false, eval e X.env) :: starEach [e2] X.env := by rfl) (hpl : (backTo pos (starEach [e2] X.env)).any (·.1) = false := by rfl) :
    PI X (.Tuple elts kk tpos) (.Call (.Name "zip" p) [e, e2] [] pos) (rdI G W (mZip2 m)) :=
  piImp (pi_zip2S hg hm ha hs hpl) fun σ H R ⟨r, S, e, sr, h⟩ => by
    rw [hG]
    refine bind_rd sr h fun xs S1 r1 H1 v1 st1 sr1 i1 h1 => ?_
    split at h1
    · rename_i x y
      split at h1
      · rename_i xs ys hx hy
        obtain ⟨v, w, ev, iv, iw⟩ := i1.two
        subst ev
        obtain ⟨Z1, e1, ok1, hz1⟩ := srcR_ok sr1.st.kf iv hx
        obtain ⟨Z2, e2, ok2, hz2⟩ := srcR_ok sr1.st.kf iw hy
        subst e1 e2
        obtain ⟨vs, hv, _⟩ := ok1.2
        obtain ⟨ws, hw, _⟩ := ok2.2
        refine ⟨Z1, Z2, vs, ws, rfl, hv, hw, h1 r1 H1 _ (StepE.refl _ _) sr1 (walk_rows sr1.st.noFrz (by rw [zip2P_len]; omega) fun r2 H2 st => ?_)⟩
        obtain ⟨_, vs, hv, iv⟩ := ok1.step st sr1.st.noFrz
        obtain ⟨_, ws, hw, iw⟩ := ok2.step st sr1.st.noFrz
        refine ⟨fun i zs hzs => ?_, ⟨[vs, ws], .cons hv (.cons hw .nil), ?_, ?_⟩⟩
        · obtain ⟨x, y, hx, hy, rfl⟩ := zip2P_get hzs
          obtain ⟨v, hv2, iv2⟩ := iv.get' hx
          obtain ⟨w, hw2, iw2⟩ := iw.get' hy
          exact ⟨[v, w], ⟨[vs, ws], .cons hv (.cons hw .nil), .cons hv2 (.cons hw2 .nil)⟩, IsAll.cons.mpr ⟨iv2, IsAll.cons.mpr ⟨iw2, IsAll.nil⟩⟩⟩
        · intro zs hzs
          rw [zip2P_len, iv.len, iw.len]
          simp at hzs
          rcases hzs with rfl | rfl <;> omega
        · rw [zip2P_len, iv.len, iw.len]
          by_cases hle : vs.length ≤ ws.length
          · exact ⟨vs, by simp, by omega⟩
          · exact ⟨ws, by simp, by omega⟩
      · exact h1.elim
    · exact h1.elim
def zip3P : List PV → List PV → List PV → List (List PV)
  | x :: xs, y :: ys, z :: zs => [x, y, z] :: zip3P xs ys zs
  | _, _, _ => []
theorem zip3P_len : ∀ {xs ys zs : List PV}, (zip3P xs ys zs).length = min (min xs.length ys.length) zs.length
  | [], ys, zs => by unfold zip3P; simp
  | x :: xs, [], zs => by unfold zip3P; simp
  | x :: xs, y :: ys, [] => by unfold zip3P; simp
  | x :: xs, y :: ys, z :: zs => by
    unfold zip3P
    rw [List.length_cons, List.length_cons, List.length_cons, List.length_cons, zip3P_len]
    omega
theorem zip3P_get : ∀ {i : Nat} {xs ys us zs : List PV}, (zip3P xs ys us)[i]? = some zs → ∃ x y u, xs[i]? = some x ∧ ys[i]? = some y ∧ us[i]? = some u ∧ zs = [x, y, u]
  | i, [], ys, us, zs, h => by unfold zip3P at h; simp at h
  | i, x :: xs, [], us, zs, h => by unfold zip3P at h; simp at h
  | i, x :: xs, y :: ys, [], zs, h => by unfold zip3P at h; simp at h
  | 0, x :: xs, y :: ys, u :: us, zs, h => by
    unfold zip3P at h
    simp at h
    exact ⟨x, y, u, rfl, rfl, rfl, h.symm⟩
  | i + 1, x :: xs, y :: ys, u :: us, zs, h => by
    unfold zip3P at h
    rw [List.getElem?_cons_succ] at h
    obtain ⟨a, b, c, h1, h2, h3, h4⟩ := zip3P_get h
    exact ⟨a, b, c, by simpa using h1, by simpa using h2, by simpa using h3, h4⟩
def mZip3 (m : MArg) : MIt := bindM m fun xs _ S => match xs with
  | [x, y, z] => (match srcR x, srcR y, srcR z with
    | some xs, some ys, some zs => .ok ((zip3P xs ys zs).map PV.tup) S
    | _, _, _ => .bad)
  | _ => .bad
theorem mi_zip3 {e e2 e3 : Expr} {elts : List Expr} {kk : Nat} {tpos p : Pos} {m : MArg} (hG : X.K = G.K) (hg : Gl X "zip") (hm : X.mg "zip" = none) (ha : PA X [e, e2, e3] (rdA G W m))
    (hs : starEach [e, e2, e3] X.env = (false, eval e X.env) :: starEach [e2, e3] X.env := by rfl) (hpl : (backTo pos (starEach [e2, e3] X.env)).any (·.1) = false := by rfl) :
    PI X (.Tuple elts kk tpos) (.Call (.Name "zip" p) [e, e2, e3] [] pos) (rdI G W (mZip3 m)) :=
  piImp (pi_zip3S hg hm ha hs hpl) fun σ H R ⟨r, S, e, sr, h⟩ => by
    rw [hG]
    refine bind_rd sr h fun xs S1 r1 H1 v1 st1 sr1 i1 h1 => ?_
    split at h1
    · rename_i x y z
      split at h1
      · rename_i xs ys us hx hy hu
        obtain ⟨v, w, u, ev, iv, iw, iu⟩ := i1.three
        subst ev
        obtain ⟨Z1, e1, ok1, hz1⟩ := srcR_ok sr1.st.kf iv hx
        obtain ⟨Z2, e2, ok2, hz2⟩ := srcR_ok sr1.st.kf iw hy
        obtain ⟨Z3, e3, ok3, hz3⟩ := srcR_ok sr1.st.kf iu hu
        subst e1 e2 e3
        obtain ⟨vs, hv, _⟩ := ok1.2
        obtain ⟨ws, hw, _⟩ := ok2.2
        obtain ⟨qs, hq, _⟩ := ok3.2
        refine ⟨Z1, Z2, Z3, vs, ws, qs, rfl, hv, hw, hq, h1 r1 H1 _ (StepE.refl _ _) sr1 (walk_rows sr1.st.noFrz (by rw [zip3P_len]; omega) fun r2 H2 st => ?_)⟩
        obtain ⟨_, vs, hv, iv⟩ := ok1.step st sr1.st.noFrz
        obtain ⟨_, ws, hw, iw⟩ := ok2.step st sr1.st.noFrz
        obtain ⟨_, qs, hq, iq⟩ := ok3.step st sr1.st.noFrz
        refine ⟨fun i zs hzs => ?_, ⟨[vs, ws, qs], .cons hv (.cons hw (.cons hq .nil)), ?_, ?_⟩⟩
        · obtain ⟨x, y, u, hx, hy, hu, rfl⟩ := zip3P_get hzs
          obtain ⟨v, hv2, iv2⟩ := iv.get' hx
          obtain ⟨w, hw2, iw2⟩ := iw.get' hy
          obtain ⟨q, hq2, iq2⟩ := iq.get' hu
          exact ⟨[v, w, q], ⟨[vs, ws, qs], .cons hv (.cons hw (.cons hq .nil)), .cons hv2 (.cons hw2 (.cons hq2 .nil))⟩, IsAll.cons.mpr ⟨iv2, IsAll.cons.mpr ⟨iw2, IsAll.cons.mpr ⟨iq2, IsAll.nil⟩⟩⟩⟩
        · intro zs hzs
          rw [zip3P_len, iv.len, iw.len, iq.len]
          simp at hzs
          rcases hzs with rfl | rfl | rfl <;> omega
        · rw [zip3P_len, iv.len, iw.len, iq.len]
          by_cases hle : vs.length ≤ ws.length
          · by_cases hle2 : vs.length ≤ qs.length
            · exact ⟨vs, by simp, by omega⟩
            · exact ⟨qs, by simp, by omega⟩
          · by_cases hle2 : ws.length ≤ qs.length
            · exact ⟨ws, by simp, by omega⟩
            · exact ⟨qs, by simp, by omega⟩
      · exact h1.elim
    · exact h1.elim
end
end Mm
end

section
set_option Elab.async false
set_option linter.all false
set_option maxRecDepth 100000
namespace Mm
open PySem PySem.Spec PyProof.Rows L2

/-! ## defs: their mirrors, their promises -/
abbrev MFn := List RV → Sto → Res RV
/-- what a call leaves: the caller's store, and the thing handed back -/
def trimR (L : Nat) (fz : Bool) (x : RV) (S : Sto) : Res RV := match x with
  | .p x => .ok (.p x) (S.take L)
  | .l i => if i < L then .ok (.l i) (S.take L) else match S[i]? with
    | some o => if fz then .ok (.p o.pv) (S.take L) else .ok (.l L) (S.take L ++ [o])
    | none => .bad
def mDef (n : Nat) (fz : Bool) (body : MStm) : MFn := fun xs S =>
  match body (xs.map some ++ List.replicate (n - xs.length) none) S with
  | .ret x S1 => trimR S.length fz x S1
  | .next _ S1 => .ok (.p .non) (S1.take S.length)
  | .exn c fs _ S1 => .exn c fs (S1.take S.length)
  | _ => .bad
def SatC (G : GC) (r : Ads) (H : Hp) (Q : VK) (E : XK) : Res RV → Prop
  | .ok x S => ∀ r' H' v, StepE G.K r H r' H' → StR G r' H' S → RIs G r' H' x v → Q v H'
  | .exn c fs S => ∀ r' H' cls d, StepE G.K r H r' H' → StR G r' H' S → ExnIs G r' H' c fs cls d → E cls d H'
  | .bad => False
/-- the promise of a def whose mirror is F -/
def spM (G : GC) (n : Nat) (F : MFn) : Sp := fun vs H Q E => ∃ r S xs, StR G r H S ∧ RIsAll G r H xs vs ∧ xs.length = n ∧ SatC G r H Q E (F xs S)
section
variable {G : GC}
theorem ExnIs.less {r r1 : Ads} {H : Hp} (hs : ∀ b, some b ∈ r1 → some b ∈ r) {c : Nat} {fs : List PV} {cls : Value} {d : Option Addr} (h : ExnIs G r H c fs cls d) : ExnIs G r1 H c fs cls d := by
  obtain ⟨h1, h2⟩ := h
  refine ⟨h1, ?_⟩
  rcases h2 with h2 | ⟨dx, vs, e1, e2, e3, e4⟩
  · exact .inl h2
  · exact .inr ⟨dx, vs, e1, e2, e3, e4.less hs⟩
theorem EnvOk.start {r : Ads} {H : Hp} {N : List Str} {xs : List RV} {vs : List V} (i : RIsAll G r H xs vs) (hn : xs.length ≤ N.length) : EnvOk G r H (xs.map some ++ List.replicate (N.length - xs.length) none) (start N vs) := by
  have hl := i.len
  unfold L2.start
  refine ⟨by simp [hl], fun k x h => ?_⟩
  by_cases hk : k < xs.length
  · rw [List.getElem?_append_left (by simpa using hk), List.getElem?_map] at h
    cases hx : xs[k]? with
    | none => rw [hx] at h; cases h
    | some y =>
      rw [hx] at h
      cases h
      obtain ⟨v, h1, h2⟩ := RIsAll.get' i hx
      exact ⟨v, by rw [List.getElem?_append_left (by simp; omega), List.getElem?_map, h1]; rfl, h2⟩
  · rw [List.getElem?_append_right (by simp; omega), List.getElem?_replicate] at h
    split at h <;> cases h
theorem StepE.takeL {K : PySem.W.Frag} {r r1 : Ads} {H H1 : Hp} {L : Nat} (st : StepE K r H r1 H1) (hL : r.length = L) : StepE K r H (r1.take L) H1 :=
  ⟨st.toStep.take L, fun k hk => by rw [List.getElem?_take, if_pos (by omega)]; exact st.pre k hk, by
    rw [List.length_take]
    have := st.len
    omega⟩
/-- the thing handed back is kept, all else that the call owned is forgotten -/
theorem StR.keepOne {r1 : Ads} {H : Hp} {S : Sto} {L i : Nat} {a : Addr} {o : MO} (s : StR G r1 H S) (hL : L ≤ i) (ha : r1[i]? = some (some a)) (ho : S[i]? = some o) : StR G (r1.take L ++ [some a]) H (S.take L ++ [o]) := by
  have hs : ∀ b, some b ∈ r1.take L ++ [some a] → some b ∈ r1 := fun b hb => by
    rcases List.mem_append.mp hb with h | h
    · exact some_take h
    · rw [List.mem_singleton.mp h]; exact List.mem_of_getElem? ha
  have hi : i < r1.length := (List.getElem?_eq_some_iff.mp ha).1
  have l1 : (r1.take L).length = L := by rw [List.length_take]; omega
  have l2 : (S.take L).length = L := by rw [List.length_take, ← s.len]; omega
  have look : ∀ (k : Nat) b, (r1.take L ++ [some a])[k]? = some (some b) → (k < L ∧ r1[k]? = some (some b)) ∨ (k = L ∧ b = a) := fun k b h => by
    by_cases hk : k < L
    · rw [List.getElem?_append_left (by omega), List.getElem?_take, if_pos hk] at h
      exact .inl ⟨hk, h⟩
    · rw [List.getElem?_append_right (by omega), l1] at h
      have : k - L = 0 := by
        cases e : k - L with
        | zero => rfl
        | succ m => rw [e] at h; simp at h
      rw [this] at h
      simp at h
      exact .inr ⟨by omega, h.symm⟩
  refine ⟨⟨by rw [List.length_append, List.length_append, l1, l2]; rfl, fun p q b h1 h2 => ?_, fun n b h => ?_, s.tabs⟩, s.kf⟩
  · rcases look p b h1 with ⟨p1, p2⟩ | ⟨p1, p2⟩ <;> rcases look q b h2 with ⟨q1, q2⟩ | ⟨q1, q2⟩
    · exact s.nd p q b p2 q2
    · subst q2
      have := s.nd p i _ p2 ha
      omega
    · subst p2
      have := s.nd q i _ q2 ha
      omega
    · omega
  · rcases look n b h with ⟨n1, n2⟩ | ⟨n1, n2⟩
    · obtain ⟨m, hm, q⟩ := s.obj n b n2
      exact ⟨m, by rw [List.getElem?_append_left (by omega), List.getElem?_take, if_pos n1]; exact hm, q.less hs⟩
    · subst n1 n2
      obtain ⟨m, hm, q⟩ := s.obj i _ ha
      rw [ho] at hm
      cases hm
      exact ⟨o, by rw [List.getElem?_append_right (by omega), l2, Nat.sub_self]; rfl, q.less hs⟩
theorem trim_ok {r r1 : Ads} {H H1 : Hp} {S : Sto} {L : Nat} {fz : Bool} {x : RV} {v : V} {Q : VK} {E : XK} (st : StepE G.K r H r1 H1) (hL : r.length = L) (s : StR G r1 H1 S) (i : RIs G r1 H1 x v) (h : SatC G r H Q E (trimR L fz x S)) : Q v H1 := by
  have sub : ∀ b, some b ∈ r1.take L → some b ∈ r1 := fun b hb => some_take hb
  cases x with
  | p x => exact h _ _ _ (st.takeL hL) ⟨StR0.take s.toStR0 L, s.kf⟩ (show Is _ _ _ _ _ from Is.less sub i)
  | l k =>
    obtain ⟨a, ha, rfl⟩ := i
    unfold trimR at h
    dsimp only at h
    split at h
    · rename_i hk
      exact h _ _ _ (st.takeL hL) ⟨StR0.take s.toStR0 L, s.kf⟩ ⟨a, by rw [List.getElem?_take, if_pos hk]; exact ha, rfl⟩
    · rename_i hk
      cases ho : S[k]? with
      | none => rw [ho] at h; exact h.elim
      | some o =>
        rw [ho] at h
        dsimp only at h
        have hi : k < r1.length := (List.getElem?_eq_some_iff.mp ha).1
        cases fz with
        | true =>
          rw [if_pos rfl] at h
          refine h _ _ _ (st.takeL hL) ⟨StR0.take s.toStR0 L, s.kf⟩ ?_
          obtain ⟨m, hm, q⟩ := s.obj k _ ha
          rw [ho] at hm
          cases hm
          refine MOk.pv sub (fun z => ?_) q
          obtain ⟨j, hj⟩ := ads_at z
          rw [List.getElem?_take] at hj
          split at hj
          · rename_i hlt
            have := s.nd j k _ hj ha
            omega
          · cases hj
        | false =>
          rw [if_neg Bool.false_ne_true] at h
          have l1 : (r1.take L).length = L := by rw [List.length_take]; omega
          refine h (r1.take L ++ [some a]) _ _ ⟨⟨st.keep, st.tups, fun b hb => ?_⟩, fun n hn => ?_, ?_⟩ (s.keepOne (by omega) ha ho) ⟨a, by rw [List.getElem?_append_right (by omega), l1, Nat.sub_self]; rfl, rfl⟩
          · rcases List.mem_append.mp hb with z | z
            · exact st.new b (some_take z)
            · cases List.mem_singleton.mp z; exact st.new a (List.mem_of_getElem? ha)
          · rw [List.getElem?_append_left (by omega), List.getElem?_take, if_pos (by omega)]; exact st.pre n hn
          · rw [List.length_append, l1]; omega
/-- a def's body runs as its mirror does: the reading at entry -/
theorem def_sim {N : List Str} {n : Nat} {fz : Bool} {body : MStm} {vs : List V} {H : Hp} {Q : VK} {E : XK} (hn : n ≤ N.length) (h : spM G n (mDef N.length fz body) vs H Q E) :
    rdS G (fun cls d _ H => E cls d H) body { nx := fun _ H' => Q .non H', rt := Q } (start N vs) H := by
  obtain ⟨r, S, xs, st, ix, hl, h⟩ := h
  refine ⟨r, S, _, ⟨st, EnvOk.start ix (by omega)⟩, ?_⟩
  unfold mDef at h
  have hL : r.length = S.length := st.len
  cases hb : body (xs.map some ++ List.replicate (N.length - xs.length) none) S with
  | next e S1 =>
    rw [hb] at h
    intro r' H' σ' st' sr'
    exact h _ _ _ (st'.takeL hL) ⟨StR0.take sr'.st.toStR0 _, sr'.st.kf⟩ (by show Is _ _ _ _ _; unfold Is; rfl)
  | ret x S1 =>
    rw [hb] at h
    exact fun r' H' v st' s' i => trim_ok st' hL s' i h
  | exn c fs e S1 =>
    rw [hb] at h
    intro r' H' σ' cls d st' s' _ ei
    exact h _ _ _ _ (st'.takeL hL) ⟨StR0.take s'.toStR0 _, s'.kf⟩ (ei.less fun b hb => some_take hb)
  | brk e S1 => rw [hb] at h; exact h.elim
  | cnt e S1 => rw [hb] at h; exact h.elim
  | bad => rw [hb] at h; exact h.elim
theorem spM.length {n : Nat} {F : MFn} {vs : List V} {H : Hp} {Q : VK} {E : XK} (h : spM G n F vs H Q E) : vs.length = n := by
  obtain ⟨r, S, xs, st, ix, hl, h⟩ := h
  rw [← ix.len, hl]
/-- room for calls, no text of a container under way -/
structure RoomG (k : Nat) (A : Around) : Prop where
  rm : Room k A
  gd : A.guards = some []
theorem RoomG.mono {j k : Nat} {A : Around} (r : RoomG k A) (h : j ≤ k) : RoomG j A := ⟨r.rm.mono h, r.gd⟩
theorem RoomG.deeper {k : Nat} {A : Around} (r : RoomG (k + 1) A) (env : Env) : RoomG k (A.deeper env) := ⟨r.rm.deeper env, r.gd⟩
theorem RoomG.make {k : Nat} {A : Around} (r : RoomG (k + 1) A) (C : Addr) (us : List Value) (kw : List (Str × Value)) : RoomG k (A.under (.builtin "type.__call__" ⟨.ref C :: us, kw⟩)) := by
  refine ⟨r.rm.make C us kw, ?_⟩
  have e : (Code.builtin "type.__call__" ⟨.ref C :: us, kw⟩).guards = [] := by
    unfold Code.guards Code.isGuard
    rw [if_neg (by show ¬ guardIds.contains "type.__call__" = true; decide +kernel)]
  show pushGuards (Code.builtin "type.__call__" ⟨.ref C :: us, kw⟩).guards A.guards = some []
  rw [e]
  exact r.gd
theorem RoomG.u65 {k : Nat} {A : Around} (r : RoomG k A) : A.units + 65 < cLine := by have := r.rm.un; omega
theorem RoomG.u1 {k : Nat} {A : Around} (r : RoomG k A) : A.units + 1 < cLine := by have := r.rm.un; omega
/-- a def keeps its promise, with no text of a container under way -/
structure FnG (P : Program) (w : World) (K : PySem.W.Frag) (mg : Str → Option Value) (base : Heap) (k : Nat) (f : Addr) (fd : FuncData) (ps : List Str) (sp : Sp) : Prop where
  run : ∀ (A : Around) (outer : List Env) (s : Shared) (H : Hp) (args : Args) (us : List Value) (vs : List V) (Q : VK) (E : XK), RoomG k A → Env0 P w K mg base A outer s H → BindsTo s fd args (ps.zip us) → Vals vs us → sp vs H Q E →
    codeAny (model P w) A (.call (.ref f) args) (CR (L2.CX P w) outer P w H s Q E) s
theorem FnG.mono {P : Program} {w : World} {K : PySem.W.Frag} {mg : Str → Option Value} {base : Heap} {j k : Nat} {f : Addr} {fd : FuncData} {ps : List Str} {sp : Sp} (F : FnG P w K mg base j f fd ps sp) (h : j ≤ k) : FnG P w K mg base k f fd ps sp :=
  ⟨fun A outer s H args us vs Q E hr => F.run A outer s H args us vs Q E (hr.mono h)⟩
/-- THE RULE of a def -/
theorem def_ok {P : Program} {w : World} {mg : Str → Option Value} {base : Heap} {k : Nat} {x qual : Str} {params : Arguments} {body : List Stmt} {scope : Scope} {dvs : List V} {kws : List (Str × V)} {f : Addr} {fd : FuncData} {N ps : List Str} {fz : Bool} {m : MStm}
    (F : FunD G.K x qual params body scope dvs kws f fd) (sc : FnScope N ps scope) (hn : ps.length ≤ N.length)
    (hb : ∀ (cdv : Value) (A : Around) (outer : List Env) (s : Shared) (H : Hp) (E : XK), RoomG k (A.deeper (envOfC qual scope s.heap.objs.size f cdv)) → (∃ c, cdv = .ref c ∧ fd.code = .ref c) → PSs (cxOf (L2.CX P w) P w G.K mg base N qual scope f cdv A outer s H E) body (rdS G (fun cls d _ H => E cls d H) m)) :
    FnG P w G.K mg base (k + 1) f fd ps (spM G ps.length (mDef N.length fz m)) := by
  obtain ⟨oc, od, dV, kV, doc, pm, an, cdv, ct, osl, rfl, lk, hcd, _, _⟩ := F.ex
  refine ⟨fun A outer s H args us vs Q E hr e0 hbt rv hsp => ?_⟩
  refine LamX.run_ofS lk hcd sc hr.rm e0 hbt rv (spM.length hsp) fun _ => ⟨_, hb cdv A outer s H E (hr.deeper _) ?_, def_sim hn hsp⟩
  cases cdv with
  | ref c => exact ⟨c, rfl, rfl⟩
  | _ => cases hcd
theorem takes_cx {P : Program} {w : World} {K : PySem.W.Frag} {mg : Str → Option Value} {base : Heap} {N : List Str} {qual : Str} {scope : Scope} {f : Addr} {cdv : Value} {A : Around} {outer : List Env} {s : Shared} {H : Hp} {E : XK} :
    Takes (cxOf (L2.CX P w) P w K mg base N qual scope f cdv A outer s H E) (fun cls d _ H => E cls d H) := takes_of rfl rfl rfl rfl
end

/-! ## calls -/
def mCall (F : MFn) (ds : List RV) (m : MArg) : MExp := bindM m fun xs _ S => F (xs ++ ds) S
section
variable {X : Cx} {G : GC} {W : WX} {pos p : Pos} {k n : Nat} {f : Addr} {fd : FuncData} {ps : List Str} {F : MFn}
theorem StR.with {r : Ads} {H r' H'} {S S' : Sto} {e : MEnv} {σ : L2.St} (sr : SR G r H S e σ) (st : StepE G.K r H r' H') (s : StR G r' H' S') : SR G r' H' S' e σ := ⟨s, sr.env.step st sr.st.noFrz⟩
/-- the callee runs -/
theorem runM {pins : List (Addr × Obj)} {σ : L2.St} {H : Hp} {s : Shared} {Q : VK} {pa : List Value} {ka : List (Str × Value)} {us : List Value} {vs : List V} {r : Ads} {S : Sto} {e : MEnv} {xs : List RV} (hG : X.K = G.K) (Fo : FnG X.prog X.w X.K X.mg X.base k f fd ps (spM G n F)) (hr : RoomG k X.A) (tk : Takes X W)
    (I : L2.Inv X pins σ H s) (hb : BindsTo s fd ⟨pa, ka⟩ (ps.zip us)) (rv : Vals vs us) (sr : SR G r H S e σ) (ix : RIsAll G r H xs vs) (hl : xs.length = n) (h : Sat (RIs G) G W r H e σ Q (F xs S)) :
    wpAny (model X.prog X.w) X.A (call (.ref f) pa ka) (EP X pins σ Q) X.xe s := by
  have hsp : spM G n F vs H Q (fun cls d H' => W cls d σ H') := by
    refine ⟨r, S, xs, sr.st, ix, hl, ?_⟩
    cases hF : F xs S with
    | ok x S' => rw [hF] at h; exact fun r' H' v st s' i => h r' H' v st (StR.with sr st s') i
    | exn c fs S' => rw [hF] at h; exact fun r' H' cls d st s' ei => h r' H' σ cls d st s' (sr.env.step st sr.st.noFrz) ei
    | bad => rw [hF] at h; exact h
  have q := Fo.run X.A X.stack s H ⟨pa, ka⟩ us vs Q _ hr I.env0 hb rv hsp
  apply wpAny_call
  apply codeAny_mono q
  intro res s' hres
  match res, hres with
  | .error er, hres => exact tk er s' (XE.of_call I (fun cls d H' z => z) hres)
  | .ok (.ret u), hres => exact I.after hres
  | .ok .next, hres => exact hres.elim
  | .ok .brk, hres => exact hres.elim
  | .ok .cont, hres => exact hres.elim
/-- the arguments, then the callee -/
theorem argsM {m : MArg} {ds : List RV} {σ : L2.St} {H : Hp} {Q : VK} (h : rd G W (mCall F ds m) σ H Q) :
    rdA G W m σ H fun vs H1 => ∃ r S e xs, SR G r H1 S e σ ∧ RIsAll G r H1 xs vs ∧ Sat (RIs G) G W r H1 e σ Q (F (xs ++ ds) S) := by
  obtain ⟨r, S, e, sr, h⟩ := h
  exact bind_rd sr h fun xs S1 r1 H1 vs st1 sr1 i1 h1 => ⟨r1, S1, e, xs, sr1, i1, h1⟩
theorem RIsAll.append {r : Ads} {H : Hp} : ∀ {xs ys : List RV} {vs ws : List V}, RIsAll G r H xs vs → RIsAll G r H ys ws → RIsAll G r H (xs ++ ys) (vs ++ ws)
  | [], ys, vs, ws, h, h' => by unfold RIsAll at h; subst h; exact h'
  | x :: xs, ys, vs, ws, h, h' => by
    unfold RIsAll at h
    obtain ⟨v', us, rfl, q, t⟩ := h
    exact RIsAll.cons.mpr ⟨q, RIsAll.append t h'⟩
/-- the defaults, as they stand behind the top -/
def DflM (G : GC) (ds : List RV) (dvs : List V) : Prop := ∀ r H, RIsAll G r H ds dvs
theorem DflM.nil : DflM G [] [] := fun _ _ => RIsAll.nil
/-- how many arguments a mirror tells -/
class ArgN (m : MArg) (j : outParam Nat) : Prop where
  len : ∀ e S xs S1, m e S = .ok xs S1 → xs.length = j
instance ArgN.nil : ArgN mNil 0 := ⟨fun e S xs S1 h => by unfold mNil at h; cases h; rfl⟩
instance ArgN.cons {a : MExp} {m : MArg} {j : Nat} [h : ArgN m j] : ArgN (mCons a m) (j + 1) := ⟨fun e S xs S1 q => by
  unfold mCons bindM at q
  cases ha : a e S with
  | ok x S2 =>
    rw [ha] at q
    dsimp only at q
    cases hm : m e S2 with
    | ok ys S3 =>
      rw [hm] at q
      cases q
      rw [List.length_cons, h.len _ _ _ _ hm]
    | exn c fs S3 => rw [hm] at q; cases q
    | bad => rw [hm] at q; cases q
  | exn c fs S3 => rw [ha] at q; cases q
  | bad => rw [ha] at q; cases q⟩
theorem me_call {x : Str} {e : Expr} {es : List Expr} {m : MArg} {ds : List RV} {dvs : List V} {dus : List Value} (hG : X.K = G.K) (Fo : FnG X.prog X.w X.K X.mg X.base k f fd ps (spM G n F)) (hr : RoomG k X.A) (tk : Takes X W) (hg : Gl X x) (hm : X.mg x = some (.ref f)) (hk : PySem.W.keepIn X.K (.ref f) = true)
    (hb : Binds X.K fd ps dus) (hd : Vals dvs dus) (hdm : DflM G ds dvs) (hps : ps.length = n) {j : Nat} [an : ArgN m j] (hlen : j + ds.length = n := by rfl) (ha : PA X (e :: es) (rdA G W m)) (hdb : (x == ("__debug__" : Str)) = false := by decide)
    (he : starEach (e :: es) X.env = (false, eval e X.env) :: starEach es X.env := by rfl) (hpl : (backTo pos (starEach es X.env)).any (·.1) = false := by rfl) : PE X (.Call (.Name x p) (e :: es) [] pos) (rd G W (mCall F ds m)) := by
  refine ⟨fun pins s σ H Q I h => wpAny_Call_Name_kw (ld_glob I hg hm ?_ hdb)⟩
  have h' : rdA G W m σ H fun vs H1 => ∃ r S e xs, SR G r H1 S e σ ∧ RIsAll G r H1 xs vs ∧ xs.length + ds.length = n ∧ Sat (RIs G) G W r H1 e σ Q (F (xs ++ ds) S) := by
    obtain ⟨r, S, e, sr, h⟩ := h
    refine ⟨r, S, e, sr, ?_⟩
    unfold mCall bindM at h
    cases hm : m e S with
    | ok xs S1 =>
      rw [hm] at h
      exact fun r1 H1 vs st1 sr1 i1 => ⟨r1, S1, e, xs, sr1, i1, (by rw [an.len _ _ _ _ hm]; exact hlen), Sat.step st1 h⟩
    | exn c fs S1 => rw [hm] at h; exact h
    | bad => rw [hm] at h; exact h
  refine PySem.W.callWith_K (h₀ := X.base) I.ok.mod.kin hk (thn (ha.run pos pins s σ H _ I h') fun us s1 ⟨vs, H1, I1, r1, r, S, e', xs, sr, ix, hl, q⟩ => ⟨I1.kIn, ?_⟩) he hpl
  have ix2 : RIsAll G r H1 (xs ++ ds) (vs ++ dvs) := RIsAll.append ix (hdm r H1)
  have r2 : Vals (vs ++ dvs) (us ++ dus) := r1.append hd
  have hl2 : (us ++ dus).length = ps.length := by rw [← r2.length, ← ix2.len, List.length_append, hl, hps]
  exact runM hG Fo hr tk I1 (hb s1 us I1.kIn hl2) r2 sr ix2 (by rw [List.length_append]; exact hl) q
theorem me_call0 {x : Str} {ds : List RV} {dvs : List V} {dus : List Value} (hG : X.K = G.K) (Fo : FnG X.prog X.w X.K X.mg X.base k f fd ps (spM G n F)) (hr : RoomG k X.A) (tk : Takes X W) (hg : Gl X x) (hm : X.mg x = some (.ref f)) (hk : PySem.W.keepIn X.K (.ref f) = true)
    (hb : Binds X.K fd ps dus) (hd : Vals dvs dus) (hdm : DflM G ds dvs) (hps : ps.length = n) (hlen : ds.length = n) (hdb : (x == ("__debug__" : Str)) = false := by decide) : PE X (.Call (.Name x p) [] [] pos) (rd G W (mCall F ds mNil)) := by
  refine ⟨fun pins s σ H Q I h => wpAny_Call_Name_kw (ld_glob I hg hm ?_ hdb)⟩
  obtain ⟨r, S, e, sr, h⟩ := h
  have hl2 : ([] ++ dus).length = ps.length := by rw [List.nil_append, ← hd.length, ← (hdm r H).len, hlen, hps]
  exact PySem.W.callWith_K0 I.kIn hk (runM hG Fo hr tk I (hb s [] I.kIn hl2) hd sr (hdm r H) hlen h)

/-! ### an object is made -/
def mMake (c : Nat) (F : MFn) (ds : List RV) (m : MArg) : MExp := bindM m fun xs _ S => match F (.l S.length :: (xs ++ ds)) (S ++ [.ins c []]) with
  | .ok (.p .non) S1 => .ok (.l S.length) S1
  | .exn c fs S1 => .exn c fs S1
  | _ => .bad
theorem made_ok {c : Nat} {r : Ads} {H : Hp} {S : Sto} {x dx : Addr} (s : StR G r H S) (h1 : H x = none) (h2 : H dx = none) (hne : dx ≠ x) (kf : KF G.K (upd (upd H dx (.own x)) x (.ins (G.cls c) dx []))) :
    StepE G.K r H (r ++ [some x]) (upd (upd H dx (.own x)) x (.ins (G.cls c) dx [])) ∧ StR G (r ++ [some x]) (upd (upd H dx (.own x)) x (.ins (G.cls c) dx [])) (S ++ [.ins c []]) := by
  have kd : KF G.K (upd H dx (.own x)) := by
    refine ⟨fun b o e => ?_, fun a vs q => ?_, fun a vs q => ?_⟩
    · have z := kf.top b o e
      by_cases hb : b = x
      · subst hb; rw [upd_same] at z; cases z
      · rw [upd_ne hb] at z; exact z
    · refine kf.szL a vs ?_
      rcases q with (q | ⟨o, q⟩) | q
      · exact .inl (.inl (by rw [upd_ne (fun z => by rw [z, upd_ne (Ne.symm hne), h1] at q; cases q)]; exact q))
      · exact .inl (.inr ⟨o, by rw [upd_ne (fun z => by rw [z, upd_ne (Ne.symm hne), h1] at q; cases q)]; exact q⟩)
      · exact .inr q
    · refine kf.szT a vs ?_
      rcases q with (q | ⟨o, q⟩) | q
      · exact .inl (.inl (by rw [upd_ne (fun z => by rw [z, upd_ne (Ne.symm hne), h1] at q; cases q)]; exact q))
      · exact .inl (.inr ⟨o, by rw [upd_ne (fun z => by rw [z, upd_ne (Ne.symm hne), h1] at q; cases q)]; exact q⟩)
      · exact .inr q
  have s1 : StepE G.K r H r (upd H dx (.own x)) := StepE.laid h2
  have t1 : StR G r (upd H dx (.own x)) S := s.laid h2 kd
  have hx : upd H dx (.own x) x = none := by rw [upd_ne (Ne.symm hne)]; exact h1
  have s2 := StepE.own (o := HO.ins (G.cls c) dx []) (r := r) hx (kf_new kf)
  have t2 := StR.own (o := HO.ins (G.cls c) dx []) (m := .ins c []) t1 hx kf ⟨dx, [], by rw [upd_same]; simp, by simp, IsAll.nil⟩
  exact ⟨s1.trans s2, t2⟩
end
end Mm
end

section
set_option Elab.async false
set_option linter.all false
set_option maxRecDepth 100000
namespace Mm
open PySem PySem.Spec PyProof.Rows L2

/-! ## an object is made; keywords -/
section
variable {X : Cx} {G : GC} {W : WX} {pos p : Pos} {k n : Nat} {f : Addr} {fd : FuncData} {ps : List Str} {F : MFn}
theorem is_at {r : Ads} {H H' : Hp} {S : Sto} {a : Addr} (s : StR G r H S) : RIs G (r ++ [some a]) H' (.l S.length) (.ref a) := is_own s
/-- a class is called -/
theorem runMakeM {c : Nat} {pins : List (Addr × Obj)} {σ : L2.St} {H : Hp} {s : Shared} {Q : VK} {pa : List Value} {ka : List (Str × Value)} {us : List Value} {vs : List V} {r : Ads} {S : Sto} {e : MEnv} {xs : List RV} (hG : X.K = G.K) (M : Mk X.K (G.cls c) f)
    (Fo : FnG X.prog X.w X.K X.mg X.base k f fd ps (spM G n F)) (hr : RoomG (k + 1) X.A) (tk : Takes X W) (I : L2.Inv X pins σ H s) (hb : ∀ (s : Shared) (sl : Value), X.K.In s.heap → BindsTo s fd ⟨sl :: pa, ka⟩ (ps.zip (sl :: us))) (rv : Vals vs us) (sr : SR G r H S e σ) (ix : RIsAll G r H xs vs) (hl : xs.length + 1 = n)
    (h : Sat (RIs G) G W r H e σ Q (match F (.l S.length :: xs) (S ++ [.ins c []]) with
      | .ok (.p .non) S1 => .ok (.l S.length) S1
      | .exn c fs S1 => .exn c fs S1
      | _ => .bad)) : wpAny (model X.prog X.w) X.A (call (.ref (G.cls c)) pa ka) (EP X pins σ Q) X.xe s := by
  have I2 := Inv.made (C := G.cls c) I
  have kf : KF G.K _ := hG ▸ Inv.kfree I2
  have h1 : H (s.heap.objs.size + 1) = none := I.hok.fresh (Nat.le_succ _)
  have h2 : H s.heap.objs.size = none := I.hok.fresh (Nat.le_refl _)
  obtain ⟨st, s2⟩ := made_ok (c := c) sr.st h1 h2 (Nat.ne_of_lt (Nat.lt_succ_self _)) kf
  have iself : RIs G (r ++ [some (s.heap.objs.size + 1)]) (upd (upd H s.heap.objs.size (.own (s.heap.objs.size + 1))) (s.heap.objs.size + 1) (.ins (G.cls c) s.heap.objs.size [])) (.l S.length) (.ref (s.heap.objs.size + 1)) := is_own sr.st
  have env2 := sr.env.step st sr.st.noFrz
  have hsp : spM G n F (.ref (s.heap.objs.size + 1) :: vs) (upd (upd H s.heap.objs.size (.own (s.heap.objs.size + 1))) (s.heap.objs.size + 1) (.ins (G.cls c) s.heap.objs.size []))
      (fun v H2 => v = .non ∧ Q (.ref (s.heap.objs.size + 1)) H2) (fun cls d H' => W cls d σ H') := by
    refine ⟨_, _, .l S.length :: xs, s2, RIsAll.cons.mpr ⟨iself, ix.step st sr.st.noFrz⟩, by rw [List.length_cons]; exact hl, ?_⟩
    cases hF : F (.l S.length :: xs) (S ++ [.ins c []]) with
    | ok x S' =>
      rw [hF] at h
      match x, h with
      | .p .non, h =>
        intro r' H' v st' s' i
        have i : Is G r' H' .non v := i
        unfold Is at i
        exact ⟨i, h r' H' _ (st.trans st') (StR.with sr (st.trans st') s') (iself.step st' s2.noFrz)⟩
      | .p (.bl _), h => exact h.elim
      | .p (.int _), h => exact h.elim
      | .p (.str _), h => exact h.elim
      | .p (.tup _), h => exact h.elim
      | .p (.lst _), h => exact h.elim
      | .p (.scr _), h => exact h.elim
      | .p (.dic _), h => exact h.elim
      | .p (.ins _ _), h => exact h.elim
      | .l _, h => exact h.elim
    | exn c2 fs S' =>
      rw [hF] at h
      exact fun r' H' cls d st' s' ei => h r' H' σ cls d (st.trans st') s' (sr.env.step (st.trans st') sr.st.noFrz) ei
    | bad => rw [hF] at h; exact h.elim
  have r2 : Vals (V.ref (s.heap.objs.size + 1) :: vs) (Value.ref (s.heap.objs.size + 1) :: us) := .cons rfl rv
  have q := Fo.run _ X.stack _ _ ⟨Value.ref (s.heap.objs.size + 1) :: pa, ka⟩ (Value.ref (s.heap.objs.size + 1) :: us) _ _ _ (hr.make (G.cls c) pa ka) (I2.env0.make (G.cls c) pa ka) (hb _ _ I2.kIn) r2 hsp
  apply wpAny_call
  apply make_map (f := f) I.kIn M.makes M.init (beq_iff_eq.mp M.fn)
  apply codeAny_mono q
  intro res s' hres
  match res, hres with
  | .error er, hres => exact tk er s' (XE.of_call I2 (fun cls d H' z => z) hres)
  | .ok (.ret u), hres =>
    obtain ⟨v, H', I3, rv', ev, q3⟩ := I2.after hres
    subst ev
    exact ⟨rv', ⟨V.ref (s.heap.objs.size + 1), H', I3, rfl, q3⟩⟩
  | .ok .next, hres => exact hres.elim
  | .ok .brk, hres => exact hres.elim
  | .ok .cont, hres => exact hres.elim
theorem me_make {c : Nat} {x : Str} {e : Expr} {es : List Expr} {m : MArg} {ds : List RV} {dvs : List V} {dus : List Value} (hG : X.K = G.K) (M : Mk X.K (G.cls c) f) (Fo : FnG X.prog X.w X.K X.mg X.base k f fd ps (spM G n F)) (hr : RoomG (k + 1) X.A) (tk : Takes X W) (hg : Gl X x) (hm : X.mg x = some (.ref (G.cls c)))
    (hb : Binds X.K fd ps dus) (hd : Vals dvs dus) (hdm : DflM G ds dvs) (hps : ps.length = n) {j : Nat} [an : ArgN m j] (hlen : j + ds.length + 1 = n := by rfl) (ha : PA X (e :: es) (rdA G W m)) (hdb : (x == ("__debug__" : Str)) = false := by decide)
    (he : starEach (e :: es) X.env = (false, eval e X.env) :: starEach es X.env := by rfl) (hpl : (backTo pos (starEach es X.env)).any (·.1) = false := by rfl) : PE X (.Call (.Name x p) (e :: es) [] pos) (rd G W (mMake c F ds m)) := by
  refine ⟨fun pins s σ H Q I h => wpAny_Call_Name_kw (ld_glob I hg hm ?_ hdb)⟩
  have h' : rdA G W m σ H fun vs H1 => ∃ r S e xs, SR G r H1 S e σ ∧ RIsAll G r H1 xs vs ∧ xs.length + ds.length + 1 = n ∧ Sat (RIs G) G W r H1 e σ Q (match F (.l S.length :: (xs ++ ds)) (S ++ [.ins c []]) with
      | .ok (.p .non) S1 => .ok (.l S.length) S1
      | .exn c fs S1 => .exn c fs S1
      | _ => .bad) := by
    obtain ⟨r, S, e, sr, h⟩ := h
    refine ⟨r, S, e, sr, ?_⟩
    unfold mMake bindM at h
    cases hm : m e S with
    | ok xs S1 =>
      rw [hm] at h
      exact fun r1 H1 vs st1 sr1 i1 => ⟨r1, S1, e, xs, sr1, i1, by rw [an.len _ _ _ _ hm]; exact hlen, Sat.step st1 h⟩
    | exn c fs S1 => rw [hm] at h; exact h
    | bad => rw [hm] at h; exact h
  refine PySem.W.callWith_K (h₀ := X.base) I.ok.mod.kin M.kp (thn (ha.run pos pins s σ H _ I h') fun us s1 ⟨vs, H1, I1, r1, r, S, e', xs, sr, ix, hl, q⟩ => ⟨I1.kIn, ?_⟩) he hpl
  have ix2 : RIsAll G r H1 (xs ++ ds) (vs ++ dvs) := RIsAll.append ix (hdm r H1)
  have r2 : Vals (vs ++ dvs) (us ++ dus) := r1.append hd
  refine runMakeM hG M Fo hr tk I1 (fun s sl KI => hb s (sl :: us) KI ?_) r2 sr ix2 (by rw [List.length_append]; exact hl) q
  rw [List.cons_append, List.length_cons, ← r2.length, ← ix2.len, List.length_append, hl, hps]

/-! ### keywords alone -/
abbrev rdK (G : GC) (W : WX) (m : MArg) : TA := rdA G W m
theorem pkI {kws : List Keyword} {t t' : TA} (h : PK X kws t) (w : ∀ σ H Q, KF X.K H → t' σ H Q → t σ H (fun v H' => KF X.K H' → Q v H')) : PK X kws t' :=
  ⟨fun pos pins s σ H Q I h' => thn (h.run pos pins s σ H _ I (w σ H Q (Inv.kfree I) h')) fun u s1 ⟨v, H1, I1, r1, q1⟩ => ⟨v, H1, I1, r1, q1 (Inv.kfree I1)⟩⟩
theorem mk_nil : PK X [] (rdA G W mNil) := pkI pk_nil fun σ H Q _ ⟨r, S, e, sr, h⟩ _ => h r H [] (StepE.refl _ _) sr RIsAll.nil
theorem mk_cons {a : Expr} {ma : MExp} {nm : Option Str} {kpos : Pos} {kws : List Keyword} {na : MArg} (ha : PE X a (rd G W ma)) (hr : PK X kws (rdA G W na)) : PK X (⟨nm, a, kpos⟩ :: kws) (rdA G W (mCons ma na)) :=
  pkI (pk_cons ha hr) fun σ H Q _ ⟨r, S, e, sr, h⟩ => bind_rd sr h fun x S1 r1 H1 v1 st1 sr1 i1 h1 => bind_rd sr1 h1 fun xs S2 r2 H2 vs st2 sr2 i2 h2 kf =>
    h2 r2 H2 _ (StepE.refl _ _) sr2 (RIsAll.cons.mpr ⟨i1.step st2 sr1.st.noFrz, i2⟩)
/-- the keywords' values in the parameters' order -/
def permL {α : Type} (pk : List Nat) (xs : List α) : List α := pk.filterMap fun i => xs[i]?
theorem permL.vals : ∀ {pk : List Nat} {vs : List V} {us : List Value}, Vals vs us → Vals (permL pk vs) (permL pk us)
  | [], vs, us, h => .nil
  | i :: pk, vs, us, h => by
    unfold permL
    by_cases hi : i < vs.length
    · obtain ⟨u, h1, h2⟩ := h.get (List.getElem?_eq_getElem hi)
      rw [List.filterMap_cons_some (List.getElem?_eq_getElem hi), List.filterMap_cons_some h1]
      exact .cons h2 (permL.vals h)
    · rw [List.filterMap_cons_none (List.getElem?_eq_none (by omega)), List.filterMap_cons_none (List.getElem?_eq_none (by rw [← h.length]; omega))]
      exact permL.vals h
theorem permL.is {r : Ads} {H : Hp} : ∀ {pk : List Nat} {xs : List RV} {vs : List V}, RIsAll G r H xs vs → RIsAll G r H (permL pk xs) (permL pk vs)
  | [], xs, vs, h => RIsAll.nil
  | i :: pk, xs, vs, h => by
    unfold permL
    by_cases hi : i < xs.length
    · obtain ⟨u, h1, h2⟩ := RIsAll.get' h (List.getElem?_eq_getElem hi)
      rw [List.filterMap_cons_some (List.getElem?_eq_getElem hi), List.filterMap_cons_some h1]
      exact RIsAll.cons.mpr ⟨h2, permL.is h⟩
    · rw [List.filterMap_cons_none (List.getElem?_eq_none (by omega)), List.filterMap_cons_none (List.getElem?_eq_none (by rw [← h.len]; omega))]
      exact permL.is h
def mCallK (F : MFn) (pk : List Nat) (m : MArg) : MExp := bindM m fun xs _ S => F (permL pk xs) S
/-- how keywords alone bind -/
def KwB (K : PySem.W.Frag) (fd : FuncData) (ps ks : List Str) (pk : List Nat) : Prop := ∀ (s : Shared) (us : List Value), K.In s.heap → us.length = ks.length → BindsTo s fd ⟨[], ks.zip us⟩ (ps.zip (permL pk us))
theorem me_callK {x : Str} {kws : List Keyword} {ks : List Str} {pk : List Nat} {m : MArg} (hG : X.K = G.K) (Fo : FnG X.prog X.w X.K X.mg X.base k f fd ps (spM G n F)) (hr : RoomG k X.A) (tk : Takes X W) (hg : Gl X x) (hm : X.mg x = some (.ref f)) (hk : PySem.W.keepIn X.K (.ref f) = true)
    (hb : KwB X.K fd ps ks pk) {j : Nat} [an : ArgN m j] (hlen : j = ks.length := by rfl) (hn : ∀ us : List RV, us.length = j → (permL pk us).length = n) (hkw : PK X kws (rdA G W m))
    (hall : (backToKw pos (keywordEach kws X.env)).all (·.1.isSome) = true := by rfl) (hks : (backToKw pos (keywordEach kws X.env)).filterMap (·.1) = ks := by rfl)
    (hpl : ((backTo pos (starEach [] X.env)).any (·.1) || (backToKw pos (keywordEach kws X.env)).any (·.1.isNone)) = false := by rfl) (hdb : (x == ("__debug__" : Str)) = false := by decide) : PE X (.Call (.Name x p) [] kws pos) (rd G W (mCallK F pk m)) := by
  refine ⟨fun pins s σ H Q I h => wpAny_Call_Name_kw (ld_glob I hg hm ?_ hdb)⟩
  have h' : rdA G W m σ H fun vs H1 => ∃ r S e xs, SR G r H1 S e σ ∧ RIsAll G r H1 xs vs ∧ xs.length = j ∧ Sat (RIs G) G W r H1 e σ Q (F (permL pk xs) S) := by
    obtain ⟨r, S, e, sr, h⟩ := h
    refine ⟨r, S, e, sr, ?_⟩
    unfold mCallK bindM at h
    cases hm : m e S with
    | ok xs S1 =>
      rw [hm] at h
      exact fun r1 H1 vs st1 sr1 i1 => ⟨r1, S1, e, xs, sr1, i1, an.len _ _ _ _ hm, Sat.step st1 h⟩
    | exn c fs S1 => rw [hm] at h; exact h
    | bad => rw [hm] at h; exact h
  refine PySem.W.callWith_KW0 (h₀ := X.base) I.ok.mod.kin hk hall (thn (hkw.run pos pins s σ H _ I h') fun us s1 ⟨vs, H1, I1, r1, r, S, e', xs, sr, ix, hl, q⟩ => ⟨I1.kIn, ?_⟩) hpl
  rw [hks]
  exact runM hG Fo hr tk I1 (hb s1 us I1.kIn (by rw [← r1.length, ← ix.len, hl, hlen])) (permL.vals r1) sr (permL.is ix) (hn xs hl) q
def mMakeK (c : Nat) (F : MFn) (pk : List Nat) (m : MArg) : MExp := bindM m fun xs _ S => match F (.l S.length :: permL pk xs) (S ++ [.ins c []]) with
  | .ok (.p .non) S1 => .ok (.l S.length) S1
  | .exn c fs S1 => .exn c fs S1
  | _ => .bad
def KwBM (K : PySem.W.Frag) (fd : FuncData) (ps ks : List Str) (pk : List Nat) : Prop := ∀ (s : Shared) (sl : Value) (us : List Value), K.In s.heap → us.length = ks.length → BindsTo s fd ⟨[sl], ks.zip us⟩ (ps.zip (sl :: permL pk us))
theorem me_makeK {c : Nat} {x : Str} {kws : List Keyword} {ks : List Str} {pk : List Nat} {m : MArg} (hG : X.K = G.K) (M : Mk X.K (G.cls c) f) (Fo : FnG X.prog X.w X.K X.mg X.base k f fd ps (spM G n F)) (hr : RoomG (k + 1) X.A) (tk : Takes X W) (hg : Gl X x) (hm : X.mg x = some (.ref (G.cls c)))
    (hb : KwBM X.K fd ps ks pk) {j : Nat} [an : ArgN m j] (hlen : j = ks.length := by rfl) (hn : ∀ us : List RV, us.length = j → (permL pk us).length + 1 = n) (hkw : PK X kws (rdA G W m))
    (hall : (backToKw pos (keywordEach kws X.env)).all (·.1.isSome) = true := by rfl) (hks : (backToKw pos (keywordEach kws X.env)).filterMap (·.1) = ks := by rfl)
    (hpl : ((backTo pos (starEach [] X.env)).any (·.1) || (backToKw pos (keywordEach kws X.env)).any (·.1.isNone)) = false := by rfl) (hdb : (x == ("__debug__" : Str)) = false := by decide) : PE X (.Call (.Name x p) [] kws pos) (rd G W (mMakeK c F pk m)) := by
  refine ⟨fun pins s σ H Q I h => wpAny_Call_Name_kw (ld_glob I hg hm ?_ hdb)⟩
  have h' : rdA G W m σ H fun vs H1 => ∃ r S e xs, SR G r H1 S e σ ∧ RIsAll G r H1 xs vs ∧ xs.length = j ∧ Sat (RIs G) G W r H1 e σ Q (match F (.l S.length :: permL pk xs) (S ++ [.ins c []]) with
      | .ok (.p .non) S1 => .ok (.l S.length) S1
      | .exn c fs S1 => .exn c fs S1
      | _ => .bad) := by
    obtain ⟨r, S, e, sr, h⟩ := h
    refine ⟨r, S, e, sr, ?_⟩
    unfold mMakeK bindM at h
    cases hm : m e S with
    | ok xs S1 =>
      rw [hm] at h
      exact fun r1 H1 vs st1 sr1 i1 => ⟨r1, S1, e, xs, sr1, i1, an.len _ _ _ _ hm, Sat.step st1 h⟩
    | exn c fs S1 => rw [hm] at h; exact h
    | bad => rw [hm] at h; exact h
  refine PySem.W.callWith_KW0 (h₀ := X.base) I.ok.mod.kin M.kp hall (thn (hkw.run pos pins s σ H _ I h') fun us s1 ⟨vs, H1, I1, r1, r, S, e', xs, sr, ix, hl, q⟩ => ⟨I1.kIn, ?_⟩) hpl
  rw [hks]
  exact runMakeM hG M Fo hr tk I1 (fun s sl KI => hb s sl us KI (by rw [← r1.length, ← ix.len, hl, hlen])) (permL.vals r1) sr (permL.is ix) (hn xs hl) q

/-! ### a field is set -/
structure GS (G : GC) : Prop where
  gf : GF G
  sm : ∀ c, (G.flds c).length < 1000
def fldIx (f : Str) : List Str → Option Nat
  | [] => none
  | g :: r => if g = f then some 0 else (fldIx f r).map (· + 1)
def putP (i : Nat) (v : PV) (fs : List PV) : Option (List PV) := if i = fs.length then some (fs ++ [v]) else if i < fs.length then some (fs.set i v) else none
theorem put_zip {f : Str} : ∀ {ns : List Str} {i : Nat} {vs : List V} {v : V}, fldIx f ns = some i → (i = vs.length → putF f v (ns.zip vs) = ns.zip (vs ++ [v])) ∧ (i < vs.length → putF f v (ns.zip vs) = ns.zip (vs.set i v))
  | [], i, vs, v, h => by unfold fldIx at h; cases h
  | g :: r, i, vs, v, h => by
    unfold fldIx at h
    by_cases hg : g = f
    · rw [if_pos hg] at h
      cases h
      subst hg
      refine ⟨fun e => ?_, fun e => ?_⟩
      · cases vs with
        | nil =>
          show putF g v [] = _
          unfold putF
          simp
        | cons _ _ => simp at e
      · cases vs with
        | nil => simp at e
        | cons w ws =>
          rw [List.zip_cons_cons]
          unfold putF
          rw [if_pos rfl]
          rfl
    · rw [if_neg hg] at h
      cases hr : fldIx f r with
      | none => rw [hr] at h; cases h
      | some j =>
        rw [hr] at h
        cases h
        cases vs with
        | nil => exact ⟨fun e => by simp at e, fun e => by simp at e⟩
        | cons w ws =>
          obtain ⟨h1, h2⟩ := put_zip (vs := ws) (v := v) hr
          refine ⟨fun e => ?_, fun e => ?_⟩
          · rw [List.zip_cons_cons]
            unfold putF
            rw [if_neg hg, h1 (by simpa using e)]
            rfl
          · rw [List.zip_cons_cons]
            unfold putF
            rw [if_neg hg, h2 (by simpa using e)]
            rfl
theorem fldIx_mem {f : Str} : ∀ {ns : List Str} {i : Nat}, fldIx f ns = some i → f ∈ ns ∧ i < ns.length
  | [], i, h => by unfold fldIx at h; cases h
  | g :: r, i, h => by
    unfold fldIx at h
    by_cases hg : g = f
    · rw [if_pos hg] at h; cases h; exact ⟨by rw [hg]; exact List.mem_cons_self, by simp⟩
    · rw [if_neg hg] at h
      cases hr : fldIx f r with
      | none => rw [hr] at h; cases h
      | some j =>
        rw [hr] at h
        cases h
        obtain ⟨h1, h2⟩ := fldIx_mem hr
        exact ⟨List.mem_cons_of_mem _ h1, by simp; exact h2⟩
def setFldS (fl : Nat → List Str) (f : Str) (mo mv : MExp) : MStm := bindS mv fun y => bindS mo fun x e S => match x, y with
  | .l n, .p v => (match S[n]? with
    | some (.ins c fs) => if c < 100 then (match fldIx f (fl c) with
      | some i => (match putP i v fs with
        | some gs => .next e (S.set n (.ins c gs))
        | none => .bad)
      | none => .bad) else .bad
    | _ => .bad)
  | _, _ => .bad
theorem putP_is {r : Ads} {H : Hp} {i : Nat} {v : PV} {w : V} {fs gs : List PV} {vs : List V} (h : putP i v fs = some gs) (i1 : IsAll G r H fs vs) (i2 : Is G r H v w) : (i = vs.length ∧ IsAll G r H gs (vs ++ [w])) ∨ (i < vs.length ∧ IsAll G r H gs (vs.set i w)) := by
  unfold putP at h
  have hl := i1.len
  by_cases h1 : i = fs.length
  · rw [if_pos h1] at h
    cases h
    exact .inl ⟨by omega, i1.append (IsAll.cons.mpr ⟨i2, IsAll.nil⟩)⟩
  · rw [if_neg h1] at h
    by_cases h2 : i < fs.length
    · rw [if_pos h2] at h
      cases h
      exact .inr ⟨by omega, i1.set i i2⟩
    · rw [if_neg h2] at h; cases h
/-- an owned object is written -/
theorem SR.put {r : Ads} {H : Hp} {S : Sto} {e : MEnv} {σ : L2.St} {n : Nat} {a : Addr} {o : HO} {m : MO} (sr : SR G r H S e σ) (ha : r[n]? = some (some a)) (hm : StepE G.K r H r (upd H a o) → MOk G r (upd H a o) a m) (nt : ∀ xs, H a ≠ some (.tup xs)) (hk : KF G.K (upd H a o)) (hn : S[n]?.isSome) :
    StepE G.K r H r (upd H a o) ∧ SR G r (upd H a o) (S.set n m) e σ := by
  have st : StepE G.K r H r (upd H a o) := ⟨⟨fun b u eb hb _ => by rw [upd_ne (fun z => hb (by rw [z]; exact List.mem_of_getElem? ha))]; exact eb, fun b xs eb => by rw [upd_ne (fun z => nt xs (by rw [← z]; exact eb))]; exact eb,
    fun _ h => .inl h⟩, fun _ _ => rfl, Nat.le_refl _⟩
  refine ⟨st, ⟨⟨⟨?_, sr.st.nd, fun k b hb => ?_, ?_⟩, hk⟩, sr.env.step st sr.st.noFrz⟩⟩
  · rw [List.length_set]; exact sr.st.len
  · by_cases hkn : n = k
    · subst hkn
      rw [ha] at hb
      cases hb
      refine ⟨m, ?_, hm st⟩
      rw [List.getElem?_set_self]
      cases hs : S[n]? with
      | none => rw [hs] at hn; cases hn
      | some _ => exact (List.getElem?_eq_some_iff.mp hs).1
    · obtain ⟨m', hm', q⟩ := sr.st.obj k b hb
      refine ⟨m', by rw [List.getElem?_set_ne hkn]; exact hm', q.step st sr.st.noFrz ?_⟩
      exact upd_ne fun z => hkn (sr.st.nd n k a ha (by rw [← z]; exact hb))
  · obtain ⟨m', hm', q⟩ := sr.st.obj n a ha
    exact Tabs.but sr.st.tabs (a := a) (fun b u eb hb => by rw [upd_ne hb]; exact eb) (fun ps => q.noTbl ps) fun φ => q.noExt φ
theorem ms_setFld {o value : Expr} {mo mv : MExp} {fl : Str} {pos' : Pos} (hG : X.K = G.K) (gs : GS G) (ho : PE X o (rd G W mo)) (hv : PE X value (rd G W mv)) (hs : swapsWith value (some (.Attribute o fl pos')) pos.line X.env = pure false := by rfl) :
    PS X (.Assign [.Attribute o fl pos'] value pos) (rdS G W (setFldS G.flds fl mo mv)) :=
  psI (ps_fld ho hv hs) fun D σ H _ ⟨r, S, e, sr, h⟩ => by
    rw [hG]
    refine bindS_rd sr h fun y S1 r1 H1 v1 st1 sr1 i1 h1 => ?_
    refine bindS_rd sr1 h1 fun x S2 r2 H2 v2 st2 sr2 i2 h2 => ?_
    have i1' := i1.step st2 sr1.st.noFrz
    match x, y, i2, i1', h2 with
    | .l n, .p v, i2, i1', h2 =>
      obtain ⟨a, ha, rfl⟩ := i2
      dsimp only at h2
      obtain ⟨m, hm, q⟩ := sr2.st.obj n a ha
      rw [hm] at h2
      match m, q, h2 with
      | .ins c fs, ⟨dx, vs, hH, hl, iv⟩, h2 =>
        dsimp only at h2
        split at h2
        · rename_i hc
          cases hf : fldIx fl (G.flds c) with
          | none => rw [hf] at h2; exact h2.elim
          | some i =>
            rw [hf] at h2
            dsimp only at h2
            cases hp : putP i v fs with
            | none => rw [hp] at h2; exact h2.elim
            | some gv =>
              rw [hp] at h2
              obtain ⟨hmem, hil⟩ := fldIx_mem hf
              refine ⟨a, _, dx, _, rfl, hH, gs.gf.cl c fl hc hmem, gs.gf.na c fl hc hmem, ?_, fun kf => ?_⟩
              · rw [List.length_zip]
                have := gs.sm c
                omega
              · have hvl := iv.len
                have key : ∀ ws : List V, putF fl v1 ((G.flds c).zip vs) = (G.flds c).zip ws → ws.length ≤ (G.flds c).length → (StepE G.K r2 H2 r2 (upd H2 a (.ins (G.cls c) dx ((G.flds c).zip ws))) → IsAll G r2 (upd H2 a (.ins (G.cls c) dx ((G.flds c).zip ws))) gv ws) → D.nx σ (upd H2 a (.ins (G.cls c) dx (putF fl v1 ((G.flds c).zip vs)))) := by
                  intro ws e1 l1 iw
                  rw [e1] at kf ⊢
                  obtain ⟨s1, s2⟩ := SR.put (m := .ins c gv) sr2 ha (fun st => ⟨dx, ws, upd_same, l1, iw st⟩) (fun xs => by rw [hH]; intro z; cases z) kf (by rw [hm]; rfl)
                  exact h2 r2 _ σ s1 s2
                obtain ⟨z1, z2⟩ := put_zip (vs := vs) (v := v1) hf
                rcases putP_is hp iv (show Is G r2 H2 v v1 from i1') with ⟨e1, _⟩ | ⟨e1, _⟩
                · refine key _ (z1 e1) (by rw [List.length_append]; show vs.length + 1 ≤ _; omega) fun st => ?_
                  rcases putP_is hp (iv.step st.toStep sr2.st.noFrz) (show Is G r2 _ v v1 from Is.step st.toStep sr2.st.noFrz i1') with ⟨_, q⟩ | ⟨e2, _⟩
                  · exact q
                  · omega
                · refine key _ (z2 e1) (by rw [List.length_set]; exact hl) fun st => ?_
                  rcases putP_is hp (iv.step st.toStep sr2.st.noFrz) (show Is G r2 _ v v1 from Is.step st.toStep sr2.st.noFrz i1') with ⟨e2, _⟩ | ⟨_, q⟩
                  · omega
                  · exact q
        · exact h2.elim
      | .lst _, _, h2 => exact h2.elim
      | .dic _, _, h2 => exact h2.elim
    | .l n, .l _, _, _, h2 => exact h2.elim
    | .p _, _, _, _, h2 => exact h2.elim
end
end Mm
end

section
set_option Elab.async false
set_option linter.all false
set_option maxRecDepth 100000
namespace Mm
open PySem PySem.Spec PyProof.Rows L2 NdefX LamX

/-! ## a lambda with parameters, handed to a def that calls it -/
section
variable {X : Cx} {G : GC} {W : WX} {k : Nat}
/-- what the lambda's body stands in -/
abbrev lamF (qual : Str) (params : Arguments) (scope : Scope) (cl : List (Str × Addr)) (c' : Addr) : NF := ⟨"<lambda>", qual, params, [], scope, cl, c'⟩
theorem takes_ncx {P : Program} {w : World} {K : PySem.W.Frag} {mg : Str → Option Value} {base : Heap} {N : List Str} {F : NF} {f : Addr} {A : Around} {outer : List Env} {s : Shared} {H : Hp} {E : XK} :
    Takes (ncx (L2.CX P w) P w K mg base N F f A outer s H E) (fun cls d _ H => E cls d H) := takes_of rfl rfl rfl rfl
/-- the function object at f is called, no exception comes out -/
theorem lam_run {pins : List (Addr × Obj)} {σ : L2.St} {H : Hp} {s : Shared} {Q : VK} {f c' : Addr} {qual : Str} {params : Arguments} {body : Expr} {scope : Scope} {cl : List (Str × Addr)} {pm ctv : Value} {N ps fr : List Str} {us : List Value} {vs : List V} {ws : List (Option V)} {tb : TE}
    (I : L2.Inv X pins σ H s) (hf : s.heap.get? f = some (PySem.W.kla_obj "<lambda>" qual params body scope cl pm c' ctv)) (hc : H c' = some (CodeO c' qual)) (S : NScope N ps fr scope) (C : CellsAt cl fr ws s.heap H) (hr : RoomG (k + 1) X.A) (r : Vals vs us) (hl : vs.length = ps.length)
    (hbind : bindArgs (PySem.W.kla_fn "<lambda>" qual params body scope cl pm (.ref c') ctv) ⟨us, []⟩ = pure (ps.zip us))
    (hbody : ∀ (A : Around) (outer : List Env) (s : Shared) (H : Hp), RoomG k (A.deeper (envF (lamF qual params scope cl c') f s.heap.objs.size)) → PE (ncx (L2.CX X.prog X.w) X.prog X.w X.K X.mg X.base N (lamF qual params scope cl c') f A outer s H (fun _ _ _ => False)) body tb)
    (h : tb (startF N vs ws) H Q) : wpAny (model X.prog X.w) X.A (call (.ref f) us) (EP X pins σ Q) X.xe s := by
  have rc : codeAny (model X.prog X.w) X.A (.call (.ref f) ⟨us, []⟩) (CR (L2.CX X.prog X.w) X.stack X.prog X.w H s Q (fun _ _ _ => False)) s := by
    apply PySem.W.kla_callFunE hr.rm.depth hf rfl S.co S.gen rfl (codeO_at I.hok hc)
    rw [hbind]
    apply wpAny_pure
    apply wpAny_newFunctionEnv S.nocell (fun y hy => S.par y.1 (List.of_mem_zip (a := y.1) (b := y.2) hy).1) (hk := S.kind)
    intro h1 hns hsb
    refine ⟨I.nolimit.fresh _ hsb, ?_⟩
    show codeAny _ _ (.expr body (envF (lamF qual params scope cl c') f s.heap.objs.size)) _ _
    have kp : ∀ b o, s.heap.get? b = some o → h1.get? b = some o := fun b o e => hsb.extBut b o (Nat.ne_of_lt (Heap.lt_size e)) (Heap.get?_push_of_some _ e)
    have J : L2.Inv (ncx (L2.CX X.prog X.w) X.prog X.w X.K X.mg X.base N (lamF qual params scope cl c') f X.A X.stack s H (fun _ _ _ => False)) [] (startF N vs ws) H { s with heap := h1, toks := s.toks + (ps.zip us).length } :=
      inv_startN S hr.rm.hd I.env0 hl r C hns kp
    apply PySem.W.kla_codeExpr
    refine wpAny_mono ((hbody X.A X.stack s H (hr.deeper _)).run [] _ _ H Q J h) (fun v s' hq => ?_) fun e s' hq => hq
    obtain ⟨v', H', J', rv, q⟩ := hq
    exact ⟨v', H', J'.os, J'.bare, J'.base, J'.hok, rv, q⟩
  apply wpAny_call
  apply codeAny_mono rc
  intro res s' hres
  match res, hres with
  | .error er, hres =>
    obtain ⟨_, _, _, _, _, _, _, _, _, _, _, _, z⟩ := hres
    exact z.elim
  | .ok (.ret u), hres => exact I.after hres
  | .ok .next, hres => exact hres.elim
  | .ok .brk, hres => exact hres.elim
  | .ok .cont, hres => exact hres.elim

theorem cells_later {cl : List (Str × Addr)} {fr : List Str} {ws : List (Option V)} {h h' : Heap} {H H' : Hp} {fs : List Addr} (C : CellsAt cl fr ws h H) (un : Un fs [] H H' h h') : CellsAt cl fr ws h' H' := by
  have st : ∀ {c : Addr} {v : Option Value}, H c = none → h.IsCell c v → h'.IsCell c v := fun {c v} n ⟨o, ho, hd⟩ => by
    obtain ⟨sl, q⟩ := un.any ho n (by simp)
    exact ⟨_, q, hd⟩
  refine ⟨C.len, fun y c e => ?_, C.inj, fun i y e => ?_⟩
  · obtain ⟨n, v, o, ho, hd⟩ := C.all y c e
    exact ⟨un.free c o ho n (by simp), v, st n ⟨o, ho, hd⟩⟩
  · obtain ⟨c, hc, hv⟩ := C.has i y e
    exact ⟨c, hc, fun v ev => let ⟨u, r, q⟩ := hv v ev; ⟨u, r, st (C.all y c hc).1 q⟩⟩
/-- the captured names' values -/
def capE (js : List Nat) (e : MEnv) : List (Option RV) := js.map fun j => match e[j]? with
  | some o => o
  | none => none
def lamMF (caps : List (Option RV)) (n : Nat) (mb : MExp) : MFn := fun xs S => match mb (xs.map some ++ (caps ++ List.replicate (n - xs.length - caps.length) none)) S with
  | .ok (.p (.bl b)) S1 => .ok (.p (.bl b)) (S1.take S.length)
  | _ => .bad
theorem EnvOk.lam {r : Ads} {H : Hp} {e : MEnv} {σ : L2.St} {N : List Str} {js : List Nat} {xs : List RV} {vs : List V} (ev : EnvOk G r H e σ) (ix : RIsAll G r H xs vs) :
    EnvOk G r H (xs.map some ++ (capE js e ++ List.replicate (N.length - xs.length - (capE js e).length) none)) (startF N vs (js.map (slotAt σ))) := by
  have hl := ix.len
  have hc : (capE js e).length = js.length := by unfold capE; rw [List.length_map]
  unfold startF
  refine ⟨by simp [hl, hc], fun k x h => ?_⟩
  by_cases hk : k < xs.length
  · rw [List.getElem?_append_left (by simpa using hk), List.getElem?_map] at h
    cases hx : xs[k]? with
    | none => rw [hx] at h; cases h
    | some y =>
      rw [hx] at h
      cases h
      obtain ⟨v, h1, h2⟩ := RIsAll.get' ix hx
      exact ⟨v, by rw [List.getElem?_append_left (by simp; omega), List.getElem?_map, h1]; rfl, h2⟩
  · rw [List.getElem?_append_right (by simp; omega)] at h
    rw [List.getElem?_append_right (by simp; omega)]
    simp only [List.length_map] at h ⊢
    rw [← hl]
    by_cases hk2 : k - xs.length < js.length
    · rw [List.getElem?_append_left (by omega)] at h
      rw [List.getElem?_append_left (by simpa using hk2)]
      unfold capE at h
      rw [List.getElem?_map] at h ⊢
      cases hj : js[k - xs.length]? with
      | none => rw [hj] at h; cases h
      | some j =>
        rw [hj] at h
        have h : (match e[j]? with | some o => o | none => none) = some x := Option.some.inj h
        cases he : e[j]? with
        | none => rw [he] at h; cases h
        | some o =>
          rw [he] at h
          have h : o = some x := h
          subst h
          obtain ⟨v, h1, h2⟩ := ev.2 j x he
          exact ⟨v, congrArg some (slotAt_of h1), h2⟩
    · rw [List.getElem?_append_right (by omega), List.getElem?_replicate] at h
      split at h <;> cases h
/-- the lambda's body, told by its mirror -/
theorem lam_sim {r : Ads} {H : Hp} {S : Sto} {e : MEnv} {σ : L2.St} {N : List Str} {js : List Nat} {xs : List RV} {vs : List V} {mb : MExp} {Q : VK} {W : WX} (sr : SR G r H S e σ) (ix : RIsAll G r H xs vs)
    (h : ∃ b S1, lamMF (capE js e) N.length mb xs S = .ok (.p (.bl b)) S1 ∧ ∀ r' H', StepE G.K r H r' H' → StR G r' H' S1 → Q (.bl b) H') : rd G W mb (startF N vs (js.map (slotAt σ))) H Q := by
  obtain ⟨b, S1, hb, q⟩ := h
  refine ⟨r, S, _, ⟨sr.st, EnvOk.lam sr.env ix⟩, ?_⟩
  unfold lamMF at hb
  cases hm : mb (xs.map some ++ (capE js e ++ List.replicate (N.length - xs.length - (capE js e).length) none)) S with
  | ok x S2 =>
    rw [hm] at hb
    match x, hb with
    | .p (.bl b2), hb =>
      cases hb
      intro r' H' v st sr' i
      have i : Is G r' H' (.bl b) v := i
      unfold Is at i
      subst i
      exact q _ _ (st.takeL sr.st.len) ⟨StR0.take sr'.st.toStR0 _, sr'.st.kf⟩
    | .p .non, hb => cases hb
    | .p (.int _), hb => cases hb
    | .p (.str _), hb => cases hb
    | .p (.tup _), hb => cases hb
    | .p (.lst _), hb => cases hb
    | .p (.scr _), hb => cases hb
    | .p (.dic _), hb => cases hb
    | .p (.ins _ _), hb => cases hb
    | .l _, hb => cases hb
  | exn c fs S2 => rw [hm] at hb; cases hb
  | bad => rw [hm] at hb; cases hb

/-! ### the first item that a test refuses -/
def firstL (fn : MFn) (xs : List PV) : Nat → List PV → Sto → Res RV
  | _, [], S => .ok (.p .non) S
  | i, x :: rest, S => match fn [.p x, .p (.tup (xs.take i))] S with
    | .ok (.p (.bl true)) S1 => firstL fn xs (i + 1) rest S1
    | .ok (.p (.bl false)) S1 => .ok (.p (.int (i : Nat))) S1
    | _ => .bad
def mFirst (js : List Nat) (n : Nat) (mb : MExp) (m : MExp) : MExp := bindM m fun x e S => match x with
  | .p (.tup xs) => firstL (lamMF (capE js e) n mb) xs 0 xs S
  | _ => .bad

theorem slots4 {σ : L2.St} {f : Addr} {v1 v2 : V} (h : σ[1]? = some (some (.ref f))) : ((σ.set 2 (some v1)).set 3 (some v2))[1]? = some (some (.ref f)) := by
  rw [List.getElem?_set_ne (by decide), List.getElem?_set_ne (by decide)]; exact h

/-- the def's names -/
abbrev firstN : List Str := ["value", "is_right", "index", "each"]
/-- the test is called in the def that got it -/
theorem pe_test {Z : Cx} {s0 : Shared} {H0 : Hp} {f c' : Addr} {qual : Str} {params : Arguments} {lbody : Expr} {lsc : Scope} {cl : List (Str × Addr)} {pm ctv : Value} {NL ps fr : List Str} {ws : List (Option V)} {mb : MExp} {es : List Expr} {e1 : Expr} {m : MArg} {p1 p2 : Pos}
    (h0 : Z.s_0 = s0) (hH0 : Z.H_0 = H0) (hex : Z.ex = []) (hN : Z.N = firstN) (hv : Z.env.scope.names.lookup ("is_right" : Str) = some NameKind.local)
    (hf : s0.heap.get? f = some (PySem.W.kla_obj "<lambda>" qual params lbody lsc cl pm c' ctv)) (hfn : H0 f = none) (hfr : f ∉ Z.fs) (S : NScope NL ps fr lsc) (C : CellsAt cl fr ws s0.heap H0) (hr : RoomG (k + 1) Z.A)
    (hbind : ∀ us : List Value, us.length = ps.length → bindArgs (PySem.W.kla_fn "<lambda>" qual params lbody lsc cl pm (.ref c') ctv) ⟨us, []⟩ = pure (ps.zip us))
    (hbody : ∀ (A : Around) (outer : List Env) (s : Shared) (H : Hp), RoomG k (A.deeper (envF (lamF qual params lsc cl c') f s.heap.objs.size)) → PE (ncx (L2.CX Z.prog Z.w) Z.prog Z.w Z.K Z.mg Z.base NL (lamF qual params lsc cl c') f A outer s H (fun _ _ _ => False)) lbody (rd G (fun _ _ _ _ => False) mb))
    (ha : PA Z (e1 :: es) (rdA G W m)) (he : starEach (e1 :: es) Z.env = (false, eval e1 Z.env) :: starEach es Z.env) (hpl : (backTo p2 (starEach es Z.env)).any (·.1) = false) :
    PE Z (.Call (.Name "is_right" p1) (e1 :: es) [] p2) (fun σZ HZ Q => σZ[1]? = some (some (.ref f)) ∧ rdA G W m σZ HZ fun vs H1 => vs.length = ps.length ∧ H1 c' = some (CodeO c' qual) ∧ rd G (fun _ _ _ _ => False) mb (startF NL vs ws) H1 Q) := by
  refine ⟨fun pinsZ sZ σZ HZ Q IZ h => ?_⟩
  obtain ⟨hs, ht⟩ := h
  refine wpAny_Call_Name_kw (thn ((pe_var (X := Z) (pos := p1) (i := 1) (x := "is_right") (by rw [hN]; rfl) (.inl hv) (by decide) (by decide)).run pinsZ sZ σZ HZ (fun v H1 => v = .ref f ∧ H1 = HZ) IZ ⟨.ref f, hs, rfl, rfl⟩) fun u s1 ⟨v, H1, I1, r1, q1⟩ => ?_)
  obtain ⟨ev, eH⟩ := q1
  subst ev
  rw [eH] at I1
  obtain rfl : u = Value.ref f := r1
  have fAt : ∀ {σ' : L2.St} {H' : Hp} {s' : Shared}, L2.Inv Z pinsZ σ' H' s' → s'.heap.get? f = some (PySem.W.kla_obj "<lambda>" qual params lbody lsc cl pm c' ctv) := fun I' => I'.base.keep f _ (by rw [h0]; exact hf) (by rw [hH0]; exact hfn) hfr (by rw [hex]; simp)
  refine PySem.W.callWith_F (first := []) ⟨_, _, _, _, fAt I1⟩ (thn (ha.run p2 pinsZ s1 σZ HZ _ I1 ht) fun us s2 ⟨vs, H2, I2, r, hl, hc, q⟩ => ⟨⟨_, _, _, _, fAt I2⟩, ?_⟩) he hpl
  show wpAny _ _ (call (.ref f) us) _ _ _
  have C2 : CellsAt cl fr ws s2.heap H2 := cells_later (fs := Z.fs) C (by have := I2.base; rw [hex, h0, hH0] at this; exact this)
  exact lam_run I2 (fAt I2) hc S C2 hr r hl (hbind us (by rw [← r.length]; exact hl)) hbody q

theorem bl_of {r : Ads} {H : Hp} {b : Bool} {v : V} (h : Is G r H (.bl b) v) : v = .bl b := by unfold Is at h; exact h
theorem RIsAll.two' {r : Ads} {H : Hp} {x y : PV} {v w : V} (h1 : Is G r H x v) (h2 : Is G r H y w) : RIsAll G r H [.p x, .p y] [v, w] := RIsAll.cons.mpr ⟨h1, RIsAll.cons.mpr ⟨h2, RIsAll.nil⟩⟩
/-- the loop's body reads the two names, the tuple's head -/
theorem first_args {r : Ads} {H : Hp} {S : Sto} {e : MEnv} {σ : L2.St} {xs : List PV} {i : Nat} {x : PV} {W : WX} {Q1 : List V → Hp → Prop} (sr : SR G r H S e σ) (h0 : e[0]? = some (some (.p (.tup xs)))) (h2 : e[2]? = some (some (.p (.int (i : Nat))))) (h3 : e[3]? = some (some (.p x))) (hi : i < xs.length)
    (q : ∀ r' H' vs, StepE G.K r H r' H' → SR G r' H' S e σ → RIsAll G r' H' [.p x, .p (.tup (xs.take i))] vs → Q1 vs H') : rdA G W (mCons (mVar 3) (mCons (mSl (mVar 0) mNoP (mPart (mVar 2))) mNil)) σ H Q1 := by
  refine ⟨r, S, e, sr, ?_⟩
  have hm : mCons (mVar 3) (mCons (mSl (mVar 0) mNoP (mPart (mVar 2))) mNil) e S = .ok [.p x, .p (.tup (xs.take i))] S := by
    have c1 : HT.sIx xs.length 0 none = 0 := rfl
    have c2 : HT.sIx xs.length xs.length (some ((i : Nat) : Int)) = i := by
      rw [HT.sIx_nat]
      omega
    unfold mCons mSl mPart mNoP mNil mVar bindM
    simp only [h0, h2, h3]
    unfold cutP
    rw [c1, c2]
    simp
  rw [hm]
  exact fun r' H' vs st sr' iv => q r' H' vs st sr' iv

section
variable {g : Addr} {fd : FuncData} {qx : Str} {pg : Arguments} {sg : Scope} {p1 p2 p3 p4 p5 p6 p7 p8 p9 p10 p11 p12 p13 p14 p15 p16 p17 p18 p19 p20 pos p lpos : Pos} {k1 k2 : Nat}
/-- the body of the def that tells the first refused item -/
abbrev firstB (p1 p2 p3 p4 p5 p6 p7 p8 p9 p10 p11 p12 p13 p14 p15 p16 p17 p18 p19 p20 : Pos) (k1 k2 : Nat) : List Stmt :=
  [.For (.Tuple [.Name "index" p1, .Name "each" p2] k1 p3) (.Call (.Name "enumerate" p4) [.Name "value" p5] [] p6)
    [.If (.UnaryOp .Not (.Call (.Name "is_right" p7) [.Name "each" p8, .Subscript (.Name "value" p9) (.Slice none (some (.Name "index" p10)) none p11) p12] [] p13) p14) [.Return (some (.Name "index" p15)) p16] [] p17] [] p18, .Return (some (.Constant .none k2 p19)) p20]

/-- the test's call -/
def tAct (G : GC) (f c' : Addr) (qual : Str) (NL : List Str) (ws : List (Option V)) (mb : MExp) : TE := fun σZ HZ Q => σZ[1]? = some (some (.ref f)) ∧ rdA G (fun _ _ _ _ => False) (mCons (mVar 3) (mCons (mSl (mVar 0) mNoP (mPart (mVar 2))) mNil)) σZ HZ fun vs H1 => vs.length = 2 ∧ H1 c' = some (CodeO c' qual) ∧ rd G (fun _ _ _ _ => False) mb (startF NL vs ws) H1 Q
def tFirst (G : GC) (f c' : Addr) (qual : Str) (NL : List Str) (ws : List (Option V)) (mb : MExp) : TS :=
  tSeq (tFor (fun σ H R => rdI G (fun _ _ _ _ => False) (mEnum (mCons (mVar 0) mNil)) σ H (fun J H' => KF G.K H' → R (itKf G.K J) H')) (gTup G.K 2 (gCons (gName 2) (gCons (gName 3) gNil)))
    (tIfS (tNot fun σ H Q => tAct G f c' qual NL ws mb σ H fun x H' => ∃ k, TruV G.K x H' k ∧ Q k H') (tRet (tVar 2)) tNext)) (tRet (tC .non))
theorem first_body {P : Program} {w : World} {mg : Str → Option Value} {base : Heap} {cdv : Value} {A : Around} {outer : List Env} {s0 : Shared} {H0 : Hp} {E : XK} {f c' : Addr} {qual : Str} {params : Arguments} {lbody : Expr} {lsc : Scope} {cl : List (Str × Addr)} {pm ctv : Value} {NL ps fr : List Str} {ws : List (Option V)} {mb : MExp}
    (S : FnScope firstN ["value", "is_right"] sg) (hmE : mg "enumerate" = none) (hgE : sg.names.lookup ("enumerate" : Str) = some NameKind.globalImplicit) (hv1 : sg.names.lookup ("is_right" : Str) = some NameKind.local) (hv0 : sg.names.lookup ("value" : Str) = some NameKind.local) (hv2 : sg.names.lookup ("index" : Str) = some NameKind.local) (hv3 : sg.names.lookup ("each" : Str) = some NameKind.local)
    (hf : s0.heap.get? f = some (PySem.W.kla_obj "<lambda>" qual params lbody lsc cl pm c' ctv)) (hfn : H0 f = none) (hfr : f ∉ frs outer) (SL : NScope NL ps fr lsc) (hps : ps.length = 2) (C : CellsAt cl fr ws s0.heap H0) (hr : RoomG (k + 1) (A.deeper (envOfC qx sg s0.heap.objs.size g cdv)))
    (hbind : ∀ us : List Value, us.length = ps.length → bindArgs (PySem.W.kla_fn "<lambda>" qual params lbody lsc cl pm (.ref c') ctv) ⟨us, []⟩ = pure (ps.zip us))
    (hbody : ∀ (A : Around) (outer : List Env) (s : Shared) (H : Hp), RoomG k (A.deeper (envF (lamF qual params lsc cl c') f s.heap.objs.size)) → PE (ncx (L2.CX P w) P w G.K mg base NL (lamF qual params lsc cl c') f A outer s H (fun _ _ _ => False)) lbody (rd G (fun _ _ _ _ => False) mb)) :
    PSs (cxOf (L2.CX P w) P w G.K mg base firstN qx sg g cdv A outer s0 H0 E) (firstB p1 p2 p3 p4 p5 p6 p7 p8 p9 p10 p11 p12 p13 p14 p15 p16 p17 p18 p19 p20 k1 k2) (tFirst G f c' qual NL ws mb) := by
  have nd : firstN.Nodup := S.nd
  refine pss_cons ?_ (pss_one (ps_ret pe_non))
  have hi := mi_enum (X := cxOf (L2.CX P w) P w G.K mg base firstN qx sg g cdv A outer s0 H0 E) (G := G) (W := fun _ _ _ _ => False) (e := .Name "value" p5) (elts := [.Name "index" p1, .Name "each" p2]) (kk := k1) (tpos := p3) (p := p4) (pos := p6) (m := mCons (mVar 0) mNil) rfl hgE hmE (ma_cons (me_var 0 rfl (.inl hv0)) ma_nil)
  have hi' := piI hi (t' := fun σ H R => rdI G (fun _ _ _ _ => False) (mEnum (mCons (mVar 0) mNil)) σ H (fun J H' => KF G.K H' → R (itKf G.K J) H')) fun _ _ _ _ h => h
  refine ps_for (passes_of rfl) rfl hi' (pg_tup rfl (pgs_cons (pg_name nd rfl (.inl hv2)) (pgs_cons (pg_name nd rfl (.inl hv3)) pgs_nil))) (pss_one (ps_if (pt_not (pt_truth ?_ fun _ => rfl)) (pss_one (ps_ret (pe_var (i := 2) rfl (.inl hv2)))) pss_nil))
  have hact := pe_test (W := fun _ _ _ _ => False) (Z := cxOf (L2.CX P w) P w G.K mg base firstN qx sg g cdv A outer s0 H0 E) (G := G) (k := k) (s0 := s0) (H0 := H0) (p1 := p7) (p2 := p13) (e1 := .Name "each" p8) (es := [.Subscript (.Name "value" p9) (.Slice none (some (.Name "index" p10)) none p11) p12])
    rfl rfl rfl rfl hv1 hf hfn hfr SL C hr hbind hbody (m := mCons (mVar 3) (mCons (mSl (mVar 0) mNoP (mPart (mVar 2))) mNil))
    (ma_cons (me_var 3 rfl (.inl hv3)) (ma_cons (me_sl rfl (me_var 0 rfl (.inl hv0)) mo_none (mo_some (me_var 2 rfl (.inl hv2)))) ma_nil)) rfl rfl
  rw [hps] at hact
  exact hact
theorem StR0.noExt {r : Ads} {H : Hp} {S : Sto} (s : StR0 G r H S) {a : Addr} {φ : Heap → Prop} (h : H a = some (.ext φ)) : some a ∉ r := fun z => by
  obtain ⟨n, hn⟩ := ads_at z
  obtain ⟨m, _, q⟩ := s.obj n a hn
  exact q.noExt φ h
def SatF (G : GC) (e : MEnv) (σ : L2.St) (Q : VK) (r : Ads) (H : Hp) : Res RV → Prop
  | .ok x S' => ∀ r' H' v', StepE G.K r H r' H' → SR G r' H' S' e σ → RIs G r' H' x v' → Q v' H'
  | _ => False
theorem SatF.step {e : MEnv} {σ : L2.St} {Q : VK} {r r1 : Ads} {H H1 : Hp} {x : Res RV} (st : StepE G.K r H r1 H1) (h : SatF G e σ Q r H x) : SatF G e σ Q r1 H1 x := by
  cases x with
  | ok x S => exact fun r' H' v st' => h r' H' v (st.trans st')
  | exn c fs S => exact h
  | bad => exact h
theorem first_sim {r : Ads} {H : Hp} {S : Sto} {e : MEnv} {σ : L2.St} {f c' : Addr} {qual : Str} {NL : List Str} {js : List Nat} {mb : MExp} {xs : List PV} {v : V} {Q : VK} (sr : SR G r H S e σ) (iv : Is G r H (.tup xs) v) (hc : H c' = some (CodeO c' qual))
    (h : SatF G e σ Q r H (firstL (lamMF (capE js e) NL.length mb) xs 0 xs S)) :
    tFirst G f c' qual NL (js.map (slotAt σ)) mb { nx := fun _ H' => Q .non H', rt := Q } [some v, some (.ref f), none, none] H := by
  have hc0 : some c' ∉ r := sr.st.noExt hc
  have env0 : EnvOk G r H [some (.p (.tup xs)), none, none, none] [some v, some (.ref f), none, none] := by
    refine ⟨rfl, fun i x hx => ?_⟩
    match i, hx with
    | 0, hx => cases hx; exact ⟨v, rfl, iv⟩
    | 1, hx => cases hx
    | 2, hx => cases hx
    | 3, hx => cases hx
    | n + 4, hx => simp at hx
  refine ⟨r, S, _, ⟨sr.st, env0⟩, ?_⟩
  have hm : mEnum (mCons (mVar 0) mNil) [some (.p (.tup xs)), none, none, none] S = .ok ((enumP 0 xs).map PV.tup) S := rfl
  rw [hm]
  intro r1 H1 J st1 sr1 wk kf1
  have hlen : ((enumP 0 xs).map PV.tup).length = xs.length := by rw [List.length_map, enumP_len]
  refine ⟨fun i m σZ HZ => m = xs.length - i ∧ i ≤ xs.length ∧ σZ.length = 4 ∧ σZ[0]? = some (some v) ∧ σZ[1]? = some (some (.ref f)) ∧ ∃ r2 S2, StepE G.K r1 H1 r2 HZ ∧ StR G r2 HZ S2 ∧ SatF G e σ Q r2 HZ (firstL (lamMF (capE js e) NL.length mb) xs i (xs.drop i) S2),
    ⟨xs.length, rfl, Nat.zero_le _, rfl, rfl, rfl, r1, S, StepE.refl _ _, sr1.st, SatF.step st1 h⟩, ?_⟩
  rintro i m σZ HZ ⟨rfl, hi, hl4, h0, h1, r2, S2, st2, s2, hF⟩
  have st02 := st1.trans st2
  obtain ⟨wi, ws⟩ := wk.2 r2 HZ S2 st2.toStep s2.toStR0
  by_cases hlt : i < xs.length
  · rw [List.drop_eq_getElem_cons hlt] at hF
    unfold firstL at hF
    have hget : ((enumP 0 xs).map PV.tup)[i]? = some (.tup [.int ((i : Nat) : Int), xs[i]]) := by
      have hi2 : i < (enumP 0 xs).length := by rw [enumP_len]; exact hlt
      obtain ⟨x, hx, ex⟩ := enumP_get (List.getElem?_eq_getElem hi2)
      rw [List.getElem?_map, List.getElem?_eq_getElem hi2, ex]
      rw [List.getElem?_eq_getElem hlt] at hx
      cases hx
      rw [Nat.zero_add]
      rfl
    obtain ⟨hgo, hy⟩ := wi i _ hget
    refine .inr ⟨hgo, fun σ' H' => xs.length - (i + 1) < xs.length - i ∧ i + 1 ≤ xs.length ∧ σ'.length = 4 ∧ σ'[0]? = some (some v) ∧ σ'[1]? = some (some (.ref f)) ∧ ∃ r2 S2, StepE G.K r1 H1 r2 H' ∧ StR G r2 H' S2 ∧ SatF G e σ Q r2 H' (firstL (lamMF (capE js e) NL.length mb) xs (i + 1) (xs.drop (i + 1)) S2),
      fun σ' H' ⟨q1, q2⟩ => ⟨_, q1, rfl, q2⟩, fun u H3 hu => ?_⟩
    obtain ⟨hu, kf3⟩ := hu
    obtain ⟨hx, iu⟩ := hy u H3 hu
    have st3 : StepE G.K r2 HZ r2 H3 := hx.stepE
    have s3 : StR G r2 H3 S2 := s2.ext hx kf3
    have iu := iu kf3
    unfold Is at iu
    obtain ⟨T, vs, rfl, hq, iT⟩ := iu
    match vs, iT with
    | v1 :: v2 :: [], iT =>
      have i1 := (IsAll.cons.mp iT).1
      have i2 := (IsAll.cons.mp (IsAll.cons.mp iT).2).1
      unfold Is at i1
      subst i1
      refine ⟨T, _, rfl, hq.t, rfl, V.int ((i : Nat) : Int), [v2], rfl, v2, [], rfl, rfl, ?_⟩
      have st03 := st02.trans st3
      have ivx : Is G r2 H3 (.tup xs) v := Is.step st03.toStep sr.st.noFrz iv
      have env3 : EnvOk G r2 H3 [some (.p (.tup xs)), none, some (.p (.int ((i : Nat) : Int))), some (.p xs[i])] ((σZ.set 2 (some (V.int ((i : Nat) : Int)))).set 3 (some v2)) := by
        refine ⟨by rw [List.length_set, List.length_set]; exact hl4.symm, fun j x hxj => ?_⟩
        match j, hxj with
        | 0, hxj => cases hxj; exact ⟨v, by rw [List.getElem?_set_ne (by decide), List.getElem?_set_ne (by decide)]; exact h0, ivx⟩
        | 1, hxj => cases hxj
        | 2, hxj => cases hxj; exact ⟨.int ((i : Nat) : Int), by rw [List.getElem?_set_ne (by decide), List.getElem?_set_self (by omega)], by show Is _ _ _ _ _; unfold Is; rfl⟩
        | 3, hxj => cases hxj; exact ⟨v2, by rw [List.getElem?_set_self (by rw [List.length_set]; omega)], i2⟩
        | n + 4, hxj => simp at hxj
      refine ⟨slots4 h1, first_args (x := xs[i]) (i := i) ⟨s3, env3⟩ rfl rfl rfl hlt fun r4 H4 ws4 st4 sr4 i4 => ?_⟩
      have st24 := st3.trans st4
      have st04 := st02.trans st24
      refine ⟨by rw [← i4.len]; rfl, st04.keep c' _ hc hc0 (fun ps => codeO_ne ps), ?_⟩
      have srC : SR G r4 H4 S2 e σ := ⟨sr4.st, sr.env.step st04 sr.st.noFrz⟩
      cases hfn : lamMF (capE js e) NL.length mb [.p xs[i], .p (.tup (xs.take i))] S2 with
      | bad => rw [hfn] at hF; exact hF.elim
      | exn c fs S5 => rw [hfn] at hF; exact hF.elim
      | ok y S5 =>
        rw [hfn] at hF
        match y, hfn, hF with
        | .p (.bl true), hfn, hF =>
          refine lam_sim srC i4 ⟨true, S5, hfn, fun r5 H5 st5 s5 => ⟨true, rfl, ?_⟩⟩
          show if (!true) = true then _ else _
          rw [if_neg (by decide)]
          refine ⟨by omega, hlt, by rw [List.length_set, List.length_set]; exact hl4, by rw [List.getElem?_set_ne (by decide), List.getElem?_set_ne (by decide)]; exact h0, slots4 h1, r5, S5, (st2.trans st24).trans st5, s5, SatF.step (st24.trans st5) hF⟩
        | .p (.bl false), hfn, hF =>
          refine lam_sim srC i4 ⟨false, S5, hfn, fun r5 H5 st5 s5 => ⟨false, rfl, ?_⟩⟩
          show if (!false) = true then _ else _
          rw [if_pos (by decide)]
          refine ⟨.int ((i : Nat) : Int), by rw [List.getElem?_set_ne (by decide), List.getElem?_set_self (by omega)], ?_⟩
          exact hF r5 H5 _ (st24.trans st5) ⟨s5, sr.env.step (st04.trans st5) sr.st.noFrz⟩ (by show Is _ _ _ _ _; unfold Is; rfl)
        | .p .non, _, hF => exact hF.elim
        | .p (.int _), _, hF => exact hF.elim
        | .p (.str _), _, hF => exact hF.elim
        | .p (.tup _), _, hF => exact hF.elim
        | .p (.lst _), _, hF => exact hF.elim
        | .p (.scr _), _, hF => exact hF.elim
        | .p (.dic _), _, hF => exact hF.elim
        | .p (.ins _ _), _, hF => exact hF.elim
        | .l _, _, hF => exact hF.elim
    | [], iT => unfold IsAll at iT; obtain ⟨_, _, e, _⟩ := iT; cases e
    | [_], iT => have := (IsAll.cons.mp iT).2; unfold IsAll at this; obtain ⟨_, _, e, _⟩ := this; cases e
    | _ :: _ :: _ :: _, iT => have := iT.len; simp at this
  · have ei : i = xs.length := by omega
    subst ei
    refine .inl ⟨by rw [← hlen]; exact ws, ?_⟩
    rw [List.drop_length] at hF
    unfold firstL at hF
    exact hF r2 HZ _ (StepE.refl _ _) ⟨s2, sr.env.step st02 sr.st.noFrz⟩ (by show Is _ _ _ _ _; unfold Is; rfl)
end
end
end Mm
end

section
set_option Elab.async false
set_option linter.all false
set_option maxRecDepth 100000
namespace Mm
open PySem PySem.Spec PyProof.Rows L2 NdefX LamX

section
variable {X : Cx} {G : GC} {W : WX} {k : Nat}
theorem ExtN.stepE {K : PySem.W.Frag} {r : Ads} {H H' : Hp} (x : ExtN H H') : StepE K r H r H' := ⟨⟨fun b o e _ ht => x b o e ht, fun b xs e => x b _ e (fun _ z => by cases z), fun _ h => .inl h⟩, fun _ _ => rfl, Nat.le_refl _⟩
theorem SR.extN {r : Ads} {H H' : Hp} {S : Sto} {e : MEnv} {σ : L2.St} (s : SR G r H S e σ) (x : ExtN H H') (t : Tabs G.T H') (kf : KF G.K H') : SR G r H' S e σ :=
  ⟨⟨⟨s.st.len, s.st.nd, fun n a ha => by
    obtain ⟨m, hm, q⟩ := s.st.obj n a ha
    obtain ⟨u, hu⟩ := q.ex
    exact ⟨m, hm, q.step (ExtN.stepE x) s.st.noFrz (by rw [hu]; exact x a u hu fun ps z => q.noTbl ps (by rw [hu, z]))⟩, t⟩, kf⟩, s.env.step (ExtN.stepE x) s.st.noFrz⟩
theorem firstL_noexn {fn : MFn} {xs : List PV} : ∀ (i : Nat) (ys : List PV) (S : Sto) {c : Nat} {fs : List PV} {S' : Sto}, firstL fn xs i ys S ≠ .exn c fs S'
  | i, [], S, c, fs, S', h => by unfold firstL at h; cases h
  | i, y :: ys, S, c, fs, S', h => by
    unfold firstL at h
    split at h
    · exact firstL_noexn (i + 1) ys _ h
    · cases h
    · cases h
/-- what the making of a lambda asks of the def that makes it -/
structure LamAt (X : Cx) (T : List (Addr × Str)) : Prop where
  ex : ∃ c P, TabB X.base X.mg c P ∧ X.env.code = .ref c ∧ (P, X.env.qual ++ "<lambda>") ∈ T ∧ ∀ p ∈ T, p.1 = P → p.2 = X.env.qual ++ "<lambda>"
section
variable {g : Addr} {fd : FuncData} {pg : Arguments} {sg : Scope} {p1 p2 p3 p4 p5 p6 p7 p8 p9 p10 p11 p12 p13 p14 p15 p16 p17 p18 p19 p20 pos p lpos : Pos} {k1 k2 : Nat} {ve lbody : Expr} {mv mb : MExp} {params : Arguments} {lsc : Scope} {NL ps fr : List Str} {js : List Nat}
theorem me_first (hG : X.K = G.K) (hg : Gl X "first_wrong") (hm : X.mg "first_wrong" = some (.ref g)) (FD : FunD X.K "first_wrong" "first_wrong" pg (firstB p1 p2 p3 p4 p5 p6 p7 p8 p9 p10 p11 p12 p13 p14 p15 p16 p17 p18 p19 p20 k1 k2) sg [] [] g fd) (hb : Binds X.K fd ["value", "is_right"] [])
    (Sg : FnScope firstN ["value", "is_right"] sg) (hmE : X.mg "enumerate" = none) (hgE : sg.names.lookup ("enumerate" : Str) = some NameKind.globalImplicit) (hv1 : sg.names.lookup ("is_right" : Str) = some NameKind.local) (hv0 : sg.names.lookup ("value" : Str) = some NameKind.local) (hv2 : sg.names.lookup ("index" : Str) = some NameKind.local) (hv3 : sg.names.lookup ("each" : Str) = some NameKind.local)
    (LA : LamAt X G.T) (hfree : ∀ y ∈ lsc.names, y.2 = .free → X.env.scope.names.lookup y.1 = some .cell ∨ X.env.scope.names.lookup y.1 = some .free) (hfr : ∀ y ∈ fr, (y, NameKind.free) ∈ lsc.names) (hjs : js.map (fun j => X.N[j]?) = fr.map some)
    (SL : NScope NL ps fr lsc) (hps : ps.length = 2) (hdef : defaultsOf params X.env = ([], []))
    (hbind : ∀ (q : Str) (cl : List (Str × Addr)) (pm cv ctv : Value) (us : List Value), us.length = ps.length → bindArgs (PySem.W.kla_fn "<lambda>" q params lbody lsc cl pm cv ctv) ⟨us, []⟩ = pure (ps.zip us)) (hr : RoomG (k + 2) X.A)
    (hbody : ∀ (q : Str) (cl : List (Str × Addr)) (f c' : Addr) (A : Around) (outer : List Env) (s : Shared) (H : Hp), RoomG k (A.deeper (envF (lamF q params lsc cl c') f s.heap.objs.size)) → PE (ncx (L2.CX X.prog X.w) X.prog X.w X.K X.mg X.base NL (lamF q params lsc cl c') f A outer s H (fun _ _ _ => False)) lbody (rd G (fun _ _ _ _ => False) mb))
    (hve : PE X ve (rd G W mv)) (he : starEach [ve, .Lambda params lbody lsc lpos] X.env = (false, eval ve X.env) :: starEach [.Lambda params lbody lsc lpos] X.env := by rfl) :
    PE X (.Call (.Name "first_wrong" p) [ve, .Lambda params lbody lsc lpos] [] pos) (rd G W (mFirst js NL.length mb mv)) := by
  refine ⟨fun pins s σ H Q I h => wpAny_Call_Name_kw (ld_glob I hg hm ?_ (by decide))⟩
  obtain ⟨oc, od, dV, kV, doc, pm0, an, cdv, ct, osl, hfd, lk, hcd, hD, _⟩ := FD.ex
  obtain ⟨c, P, TB, hcode, hmT, hu⟩ := LA.ex
  refine PySem.W.callWith_K (h₀ := X.base) I.ok.mod.kin FD.kp ?_ he (by rfl)
  rw [he]
  refine Calls.spliced_cons ?_
  have h' : rd G W mv σ H fun v H1 => ∃ r S e xs, SR G r H1 S e σ ∧ Is G r H1 (.tup xs) v ∧ Sat (RIs G) G W r H1 e σ Q (firstL (lamMF (capE js e) NL.length mb) xs 0 xs S) := by
    obtain ⟨r, S, e, sr, h⟩ := h
    refine bind_rd sr h fun x S1 r1 H1 v1 st1 sr1 i1 h1 => ?_
    match x, i1, h1 with
    | .p (.tup xs), i1, h1 => exact ⟨r1, S1, e, xs, sr1, i1, h1⟩
    | .p .non, _, h1 => exact h1.elim
    | .p (.bl _), _, h1 => exact h1.elim
    | .p (.int _), _, h1 => exact h1.elim
    | .p (.str _), _, h1 => exact h1.elim
    | .p (.lst _), _, h1 => exact h1.elim
    | .p (.scr _), _, h1 => exact h1.elim
    | .p (.dic _), _, h1 => exact h1.elim
    | .p (.ins _ _), _, h1 => exact h1.elim
    | .l _, _, h1 => exact h1.elim
  refine thn (hve.run pins s σ H _ I h') fun u s1 ⟨v, H1, I1, rv, r, S, e, xs, sr, ix, hS⟩ => ?_
  have hfree' : ∀ y ∈ lsc.names, y.2 = .free → ∃ c, X.env.cells.lookup y.1 = some c := fun y hy z => (hfree y hy z).elim (fun q => I1.ok.has _ (.inl q)) fun q => I1.ok.has _ (.inr q)
  show wpAny _ _ (spliced ((false, eval (.Lambda params lbody lsc lpos) X.env) :: backTo pos (starEach [] X.env))) _ _ s1
  refine Calls.spliced_cons (lam_make2 I1 TB hcode hmT hu sr.st.tabs hdef hfree' fun f c' pm ctv H2 s2 I2 eN T2 hf hfn hfr2 hco => ?_)
  refine Calls.spliced_nil ⟨I2.kIn, ?_⟩
  have sr2 := SR.extN sr eN T2 (hG ▸ Inv.kfree I2)
  have ix2 : Is G r H2 (.tup xs) v := Is.step (ExtN.stepE (K := G.K) eN).toStep sr.st.noFrz ix
  have C2 := cells_of (fr := fr) (js := js) I2 (Caps.made (scope := lsc) I2.ok hfree hfr hjs)
  have hS2 : SatF G e σ Q r H2 (firstL (lamMF (capE js e) NL.length mb) xs 0 xs S) := by
    cases hF : firstL (lamMF (capE js e) NL.length mb) xs 0 xs S with
    | ok x S' => rw [hF] at hS; exact fun r' H' v' st => hS r' H' v' ((ExtN.stepE eN).trans st)
    | exn c fs S' =>
      exact absurd hF (firstL_noexn _ _ _)
    | bad => rw [hF] at hS; exact hS
  have rc : codeAny (model X.prog X.w) X.A (.call (.ref g) ⟨[u, .ref f], []⟩) (CR (L2.CX X.prog X.w) X.stack X.prog X.w H2 s2 Q (fun _ _ _ => False)) s2 := by
    rcases hD with ⟨_, rfl⟩ | ⟨z, _⟩
    · subst hfd
      refine run_ofS (N := firstN) (ps := ["value", "is_right"]) (us := [u, .ref f]) (vs := [v, .ref f]) lk hcd Sg hr.rm I2.env0 (hb s2 [u, .ref f] I2.kIn rfl) (.cons rv (.cons rfl .nil)) rfl fun _ => ?_
      have hpss := first_body (G := G) (P := X.prog) (w := X.w) (base := X.base) (mg := X.mg) (qx := "first_wrong") (g := g) (cdv := cdv) (A := X.A) (outer := X.stack) (s0 := s2) (H0 := H2) (E := fun _ _ _ => False) (p1 := p1) (p2 := p2) (p3 := p3) (p4 := p4) (p5 := p5) (p6 := p6) (p7 := p7) (p8 := p8) (p9 := p9) (p10 := p10) (p11 := p11) (p12 := p12) (p13 := p13) (p14 := p14) (p15 := p15) (p16 := p16) (p17 := p17) (p18 := p18) (p19 := p19) (p20 := p20) (k1 := k1) (k2 := k2)
        Sg hmE hgE hv1 hv0 hv2 hv3 hf hfn hfr2 SL hps C2 (hr.deeper _) (hbind _ _ _ _ _) (fun A outer s H hr3 => by
          have := hbody (X.env.qual ++ "<lambda>") (cloFrom X.env.cells lsc.names []) f c' A outer s H hr3
          rw [hG] at this
          exact this)
      rw [← hG] at hpss
      exact ⟨_, hpss, first_sim sr2 ix2 hco hS2⟩
    · exact absurd rfl z
  apply wpAny_call
  apply codeAny_mono rc
  intro res s' hres
  match res, hres with
  | .error er, hres =>
    obtain ⟨_, _, _, _, _, _, _, _, _, _, _, _, z⟩ := hres
    exact z.elim
  | .ok (.ret u), hres => exact I2.after hres
  | .ok .next, hres => exact hres.elim
  | .ok .brk, hres => exact hres.elim
  | .ok .cont, hres => exact hres.elim
end
end
end Mm
end

section
set_option Elab.async false
set_option linter.all false
set_option maxRecDepth 100000
namespace Mm
open PySem PySem.Spec PyProof.Rows L2

/-! ## methods of built-in types -/
/-- the value is of that builtin type -/
def tyX (K : PySem.W.Frag) (T : String) (x : V) (H : Hp) : Prop := tyV K T x H ∨ (T = "tuple" ∧ ∃ p ys, x = .ref p ∧ SqX K H p ys)
theorem tyX_is {X : Cx} {pins : List (Addr × Obj)} {σ : L2.St} {H : Hp} {s : Shared} {T : String} {x : V} {v : Value} (I : L2.Inv X pins σ H s) (r : RelV x v) (ty : tyX X.K T x H) :
    s.TypeIs v T ∧ ∀ a, v = .ref a → ∃ ob, s.heap.get? a = some ob ∧ ob.dict = none := by
  rcases ty with ty | ⟨rfl, p, ys, rfl, h⟩
  · exact tyV_is I r ty
  · cases r
    rcases h with ⟨o, h, hd⟩ | ⟨o, its, n, h1, h2, h3, h4, h5, hd⟩
    · obtain ⟨e, z, us, rv, o', e', hc, _⟩ := (show ObjOk X.prog X.w H s.heap p (.frz o (.tup ys)) from I.hok p _ h)
      rw [e] at e'
      cases e'
      exact ⟨⟨o, e, hc⟩, fun a q => by cases q; exact ⟨o, e, hd⟩⟩
    · have e := I.kIn p o h1
      exact ⟨⟨o, e, h2⟩, fun a q => by cases q; exact ⟨o, e, hd⟩⟩
def kindN : RV → Sto → Nat
  | .p (.str _), _ => 1
  | .p (.int _), _ => 2
  | .p (.lst _), _ => 3
  | .p (.scr _), _ => 3
  | .p (.tup _), _ => 4
  | .p (.dic _), _ => 5
  | .l n, S => (match S[n]? with
    | some (.lst _) => 3
    | some (.dic _) => 5
    | _ => 0)
  | _, _ => 0
def kindT : Nat → String
  | 1 => "str"
  | 2 => "int"
  | 3 => "list"
  | 4 => "tuple"
  | _ => "dict"
def kindM : MO → Nat
  | .lst _ => 3
  | .dic _ => 5
  | .ins _ _ => 0
theorem kindN_l {n : Nat} {S : Sto} {m : MO} (h : S[n]? = some m) : kindN (.l n) S = kindM m := by
  show (match S[n]? with | some (MO.lst _) => 3 | some (MO.dic _) => 5 | _ => 0) = _
  rw [h]
  cases m <;> rfl
theorem kind_mo {G : GC} {r : Ads} {H : Hp} {a : Addr} : ∀ {m : MO}, MOk G r H a m → kindM m ≠ 0 → tyX G.K (kindT (kindM m)) (.ref a) H
  | .lst xs, ⟨vs, h, _⟩, _ => .inl (.inl ⟨rfl, vs, .inl (.inl h)⟩)
  | .dic kvs, ⟨ws, h, _⟩, _ => .inl (.inr (.inr (.inl ⟨rfl, .inl ⟨ws, h⟩⟩)))
  | .ins _ _, _, hn => absurd rfl hn
theorem kind_ty {G : GC} {r : Ads} {H : Hp} {S : Sto} {x : RV} {v : V} {n : Nat} (s : StR G r H S) (i : RIs G r H x v) (h : kindN x S = n) (hn : n ≠ 0) : tyX G.K (kindT n) v H := by
  subst h
  match x, i, hn with
  | .p (.str _), i, _ => have i : Is G r H _ v := i; unfold Is at i; subst i; exact .inl rfl
  | .p (.int _), i, _ => have i : Is G r H _ v := i; unfold Is at i; subst i; exact .inl rfl
  | .p (.lst _), i, _ =>
    have i : Is G r H _ v := i
    unfold Is at i
    obtain ⟨a, vs, rfl, _, q, _⟩ := i
    exact .inl (.inl ⟨rfl, vs, .inl (.inl q)⟩)
  | .p (.scr _), i, _ =>
    have i : Is G r H _ v := i
    unfold Is at i
    obtain ⟨a, vs, rfl, _, q, _⟩ := i
    exact .inl (.inl ⟨rfl, vs, q⟩)
  | .p (.tup _), i, _ =>
    have i : Is G r H _ v := i
    unfold Is at i
    obtain ⟨a, vs, rfl, q, _⟩ := i
    exact .inr ⟨rfl, a, vs, rfl, q⟩
  | .p (.dic _), i, _ =>
    have i : Is G r H _ v := i
    unfold Is at i
    obtain ⟨a, ws, rfl, _, q, _⟩ := i
    exact .inl (.inr (.inr (.inl ⟨rfl, .inl ⟨ws, q⟩⟩)))
  | .p .non, _, hn => exact absurd rfl hn
  | .p (.bl _), _, hn => exact absurd rfl hn
  | .p (.ins _ _), _, hn => exact absurd rfl hn
  | .l n, i, hn =>
    obtain ⟨a, ha, rfl⟩ := i
    obtain ⟨m, hm, q⟩ := s.obj n a ha
    rw [kindN_l hm] at hn ⊢
    exact kind_mo q hn
def tBX (K : PySem.W.Frag) (T : String) (r : V → List V → Hp → VK → Prop) (to : TE) (t : TA) : TE := fun σ H Q => to σ H fun x H1 => tyX K T x H1 ∧ t σ H1 fun xs H2 => r x xs H2 Q
section
variable {X : Cx} {G : GC} {W : WX} {o e : Expr} {es : List Expr} {to : TE} {t : TA} {name : Str} {apos cpos pos : Pos} {T id : String} {r : V → List V → Hp → VK → Prop} {mo : MExp} {na : MArg}
theorem pe_bx (pa : PlainAttrs T) (slot : Slot T name id) (hty : typeOf (.builtin id) = pure (.type "method_descriptor")) (hm : MtR X id r) (ho : PE X o to) (ha : PA X (e :: es) t)
    (hbase : attributeBase o name X.env (eval o X.env) = eval o X.env := by rfl)
    (hfew : ((backTo cpos (starEach (e :: es) X.env)).all (fun x => !x.1) && (backToKw cpos (keywordEach [] X.env)).all (fun x => x.1.isSome)
      && decide ((e :: es).length + ([] : List Keyword).length + (if ([] : List Keyword).isEmpty then 0 else 1) < 30)) = true := by rfl)
    (hline : (apos.endLine == cpos.line) = true := by rfl) (hs : starEach (e :: es) X.env = (false, eval e X.env) :: starEach es X.env := by rfl) (hplain : (backTo cpos (starEach es X.env)).any (·.1) = false := by rfl) :
    PE X (.Call (.Attribute o name apos) (e :: es) [] cpos) (tBX X.K T r to t) := by
  refine ⟨fun pins s σ H Q I h => wpAny_Call_method_late hbase hfew hline rfl (thn (ho.run pins s σ H _ I h) fun v s1 ⟨x, H1, I1, r1, ty, q1⟩ => ?_)⟩
  obtain ⟨h1, h2⟩ := tyX_is I1 r1 ty
  have hA := ha.run cpos pins s1 σ H1 _ I1 q1
  refine ⟨T, id, pa, slot, hty, h1, h2, ?_⟩
  rw [hs] at hA ⊢
  apply Calls.callWith_builtin (by show (false || (backTo cpos (starEach es X.env)).any (·.1)) = false; rw [hplain] <;> rfl)
  apply Calls.evalArgs_plain
  exact thn hA fun us s2 ⟨vs, H2, I2, r2, q2⟩ => hm pins s2 σ H2 x vs v us Q I2 r1 r2 q2
/-- a method on plain values, told by f: what it hands back, the store behind it -/
abbrev FM := RV → List RV → Sto → Option (RV × Sto)
def ServesM (G : GC) (t : V → List V → Hp → VK → Prop) (f : FM) : Prop := ∀ (r : Ads) (H : Hp) (S : Sto) (x : RV) (xs : List RV) (y : RV) (S' : Sto) (v : V) (vs : List V) (Q : VK), StR G r H S → RIs G r H x v → RIsAll G r H xs vs → f x xs S = some (y, S') →
  (∀ u H', (KF G.K H' → ∃ r', StepE G.K r H r' H' ∧ StR G r' H' S' ∧ RIs G r' H' y u) → Q u H') → t v vs H Q
def mMeth (n : Nat) (f : FM) (mo : MExp) (na : MArg) : MExp := bindM mo fun x e S => if kindN x S = n then bindM na (fun xs _ S1 => match f x xs S1 with
    | some (y, S2) => .ok y S2
    | none => .bad) e S else .bad
theorem me_meth {n : Nat} {f : FM} (hG : X.K = G.K) (hn : n ≠ 0) (hT : T = kindT n) (pa : PlainAttrs T) (slot : Slot T name id) (hty : typeOf (.builtin id) = pure (.type "method_descriptor")) (hm : MtR X id r) (sv : ServesM G r f) (ho : PE X o (rd G W mo)) (ha : PA X (e :: es) (rdA G W na))
    (hbase : attributeBase o name X.env (eval o X.env) = eval o X.env := by rfl)
    (hfew : ((backTo cpos (starEach (e :: es) X.env)).all (fun x => !x.1) && (backToKw cpos (keywordEach [] X.env)).all (fun x => x.1.isSome)
      && decide ((e :: es).length + ([] : List Keyword).length + (if ([] : List Keyword).isEmpty then 0 else 1) < 30)) = true := by rfl)
    (hline : (apos.endLine == cpos.line) = true := by rfl) (hs : starEach (e :: es) X.env = (false, eval e X.env) :: starEach es X.env := by rfl) (hplain : (backTo cpos (starEach es X.env)).any (·.1) = false := by rfl) :
    PE X (.Call (.Attribute o name apos) (e :: es) [] cpos) (rd G W (mMeth n f mo na)) :=
  peI (pe_bx pa slot hty hm ho ha hbase hfew hline hs hplain) fun σ H Q _ ⟨r0, S, e, sr, h⟩ => by
    rw [hG]
    refine bind_rd sr h fun x S1 r1 H1 v st1 sr1 i1 h1 => ?_
    split at h1
    · rename_i hk
      subst hT
      refine ⟨kind_ty sr1.st i1 hk hn, bind_rd sr1 h1 fun xs S2 r2 H2 vs st2 sr2 i2 h2 => ?_⟩
      have i1' := i1.step st2 sr1.st.noFrz
      cases hf : f x xs S2 with
      | none => rw [hf] at h2; exact h2.elim
      | some yS =>
        obtain ⟨y, S3⟩ := yS
        rw [hf] at h2
        refine sv r2 H2 S2 x xs y S3 v vs _ sr2.st i1' i2 hf fun u H' hu kf => ?_
        obtain ⟨r3, st3, s3, i3⟩ := hu kf
        exact h2 r3 H' u st3 (StR.with sr2 st3 s3) i3
    · exact h1.elim
def mMeth0 (n : Nat) (f : FM) (mo : MExp) : MExp := bindM mo fun x e S => if kindN x S = n then (match f x [] S with
    | some (y, S2) => .ok y S2
    | none => .bad) else .bad
def tBX0 (K : PySem.W.Frag) (T : String) (r : V → List V → Hp → VK → Prop) (to : TE) : TE := fun σ H Q => to σ H fun x H1 => tyX K T x H1 ∧ r x [] H1 Q
theorem pe_bx0 (pa : PlainAttrs T) (slot : Slot T name id) (hty : typeOf (.builtin id) = pure (.type "method_descriptor")) (hm : MtR X id r) (ho : PE X o to)
    (hbase : attributeBase o name X.env (eval o X.env) = eval o X.env := by rfl) (hline : (apos.endLine == cpos.line) = true := by rfl) : PE X (.Call (.Attribute o name apos) [] [] cpos) (tBX0 X.K T r to) := by
  refine ⟨fun pins s σ H Q I h => wpAny_Call_method0_late hbase hline (thn (ho.run pins s σ H _ I h) fun v s1 ⟨x, H1, I1, r1, ty, q1⟩ => ?_)⟩
  obtain ⟨h1, h2⟩ := tyX_is I1 r1 ty
  exact ⟨T, id, pa, slot, hty, h1, h2, Calls.callWith_builtin rfl (PySem.evalArgs_none (hm pins s1 σ H1 x [] v [] Q I1 r1 .nil q1))⟩
theorem me_meth0 {n : Nat} {f : FM} (hG : X.K = G.K) (hn : n ≠ 0) (hT : T = kindT n) (pa : PlainAttrs T) (slot : Slot T name id) (hty : typeOf (.builtin id) = pure (.type "method_descriptor")) (hm : MtR X id r) (sv : ServesM G r f) (ho : PE X o (rd G W mo))
    (hbase : attributeBase o name X.env (eval o X.env) = eval o X.env := by rfl) (hline : (apos.endLine == cpos.line) = true := by rfl) :
    PE X (.Call (.Attribute o name apos) [] [] cpos) (rd G W (mMeth0 n f mo)) :=
  peI (pe_bx0 pa slot hty hm ho hbase hline) fun σ H Q _ ⟨r0, S, e, sr, h⟩ => by
    rw [hG]
    refine bind_rd sr h fun x S1 r1 H1 v st1 sr1 i1 h1 => ?_
    split at h1
    · rename_i hk
      subst hT
      refine ⟨kind_ty sr1.st i1 hk hn, ?_⟩
      cases hf : f x [] S1 with
      | none => rw [hf] at h1; exact h1.elim
      | some yS =>
        obtain ⟨y, S3⟩ := yS
        rw [hf] at h1
        refine sv r1 H1 S1 x [] y S3 v [] _ sr1.st i1 RIsAll.nil hf fun u H' hu kf => ?_
        obtain ⟨r3, st3, s3, i3⟩ := hu kf
        exact h1 r3 H' u st3 (StR.with sr1 st3 s3) i3
    · exact h1.elim

/-! ### lists that are owned -/
/-- an owned list is written -/
theorem StR.putL {r0 : Ads} {H : Hp} {S : Sto} {n : Nat} {a : Addr} {ys : List PV} {ws : List V} (s : StR G r0 H S) (ha : r0[n]? = some (some a)) (iy : IsAll G r0 H ys ws) (kf : KF G.K (upd H a (.lst ws))) :
    StepE G.K r0 H r0 (upd H a (.lst ws)) ∧ StR G r0 (upd H a (.lst ws)) (S.set n (.lst ys)) := by
  obtain ⟨m, hm, q⟩ := s.obj n a ha
  have env0 : SR G r0 H S [] [] := ⟨s, rfl, fun i x hx => by simp at hx⟩
  obtain ⟨st, s2⟩ := SR.put (m := .lst ys) env0 ha (fun st => ⟨ws, upd_same, iy.step st.toStep s.noFrz⟩) q.noTup kf (by rw [hm]; rfl)
  exact ⟨st, s2.st⟩
theorem non_is {r0 : Ads} {H : Hp} : RIs G r0 H (.p .non) .non := by
  show Is _ _ _ _ _
  unfold Is
  rfl
def fAppend : FM := fun x xs S => match x, xs with
  | .l n, [.p y] => (match S[n]? with
    | some (.lst zs) => if zs.length < sizeLine then some (.p .non, S.set n (.lst (zs ++ [y]))) else none
    | _ => none)
  | _, _ => none
theorem sv_append : ServesM G rAppend fAppend := by
  intro r0 H S x xs y S' v vs Q s ix ixs hf k
  unfold fAppend at hf
  split at hf
  · rename_i n y0
    obtain ⟨a, ha, rfl⟩ := ix
    obtain ⟨w, rfl, iw⟩ := ixs.one
    obtain ⟨m, hm, q⟩ := s.obj n a ha
    rw [hm] at hf
    match m, q, hf with
    | .lst zs, ⟨us, hH, iu⟩, hf =>
      dsimp only at hf
      split at hf
      · rename_i hz
        cases hf
        refine ⟨a, us, w, rfl, rfl, hH, by rw [← iu.len]; exact hz, k _ _ fun kf => ?_⟩
        obtain ⟨st, s2⟩ := s.putL (ys := zs ++ [y0]) ha (iu.append (IsAll.cons.mpr ⟨iw, IsAll.nil⟩)) kf
        exact ⟨r0, st, s2, non_is⟩
      · cases hf
    | .dic _, _, hf => cases hf
    | .ins _ _, _, hf => cases hf
  · cases hf
theorem me_append (hG : X.K = G.K) (ho : PE X o (rd G W mo)) (ha : PA X [e] (rdA G W na)) (hbase : attributeBase o "append" X.env (eval o X.env) = eval o X.env := by rfl)
    (hfew : ((backTo cpos (starEach [e] X.env)).all (fun x => !x.1) && (backToKw cpos (keywordEach [] X.env)).all (fun x => x.1.isSome) && decide ([e].length + ([] : List Keyword).length + (if ([] : List Keyword).isEmpty then 0 else 1) < 30)) = true := by rfl)
    (hline : (apos.endLine == cpos.line) = true := by rfl) (hs : starEach [e] X.env = (false, eval e X.env) :: starEach [] X.env := by rfl) :
    PE X (.Call (.Attribute o "append" apos) [e] [] cpos) (rd G W (mMeth 3 fAppend mo na)) :=
  me_meth hG (by decide) rfl PySem.F.plainAttrs_list PySem.F.slot_list_append PySem.F.type_list_append mt_append sv_append ho ha hbase hfew hline hs
def fPopAt : FM := fun x xs S => match x, xs with
  | .l n, [.p (.int i)] => (match S[n]? with
    | some (.lst zs) => if 0 ≤ i ∧ i < 2 ^ 63 then (match zs[i.toNat]? with
      | some y => some (.p y, S.set n (.lst (zs.eraseIdx i.toNat)))
      | none => none) else none
    | _ => none)
  | _, _ => none
theorem IsAll.erase {r0 : Ads} {H : Hp} : ∀ {xs : List PV} {vs : List V} (k : Nat), IsAll G r0 H xs vs → IsAll G r0 H (xs.eraseIdx k) (vs.eraseIdx k)
  | [], vs, k, h => by unfold IsAll at h; subst h; exact IsAll.nil
  | x :: xs, vs, 0, h => by
    unfold IsAll at h
    obtain ⟨v, ws, rfl, _, t⟩ := h
    exact t
  | x :: xs, vs, k + 1, h => by
    unfold IsAll at h
    obtain ⟨v, ws, rfl, q, t⟩ := h
    exact IsAll.cons.mpr ⟨q, IsAll.erase k t⟩
theorem sv_popAt : ServesM G rPopAt fPopAt := by
  intro r0 H S x xs y S' v vs Q s ix ixs hf k
  unfold fPopAt at hf
  split at hf
  · rename_i n i
    obtain ⟨a, ha, rfl⟩ := ix
    obtain ⟨w, rfl, iw⟩ := ixs.one
    obtain ⟨m, hm, q⟩ := s.obj n a ha
    rw [hm] at hf
    match m, q, hf with
    | .lst zs, ⟨us, hH, iu⟩, hf =>
      dsimp only at hf
      split at hf
      · rename_i hi
        cases hz : zs[i.toNat]? with
        | none => rw [hz] at hf; cases hf
        | some y0 =>
          rw [hz] at hf
          cases hf
          obtain ⟨u, hu, iy⟩ := IsAll.get' iu hz
          have hlt : i.toNat < us.length := (List.getElem?_eq_some_iff.mp hu).1
          refine ⟨a, us, i, i.toNat, u, rfl, by rw [int_of iw], hH, by omega, hi.2, seqIndex_of hi.1 (by omega), hu, k _ _ fun kf => ?_⟩
          obtain ⟨st, s2⟩ := s.putL (ys := zs.eraseIdx i.toNat) ha (IsAll.erase _ iu) kf
          exact ⟨r0, st, s2, Is.step st.toStep s.noFrz iy⟩
      · cases hf
    | .dic _, _, hf => cases hf
    | .ins _ _, _, hf => cases hf
  · cases hf
theorem me_popAt (hG : X.K = G.K) (ho : PE X o (rd G W mo)) (ha : PA X [e] (rdA G W na)) (hbase : attributeBase o "pop" X.env (eval o X.env) = eval o X.env := by rfl)
    (hfew : ((backTo cpos (starEach [e] X.env)).all (fun x => !x.1) && (backToKw cpos (keywordEach [] X.env)).all (fun x => x.1.isSome) && decide ([e].length + ([] : List Keyword).length + (if ([] : List Keyword).isEmpty then 0 else 1) < 30)) = true := by rfl)
    (hline : (apos.endLine == cpos.line) = true := by rfl) (hs : starEach [e] X.env = (false, eval e X.env) :: starEach [] X.env := by rfl) :
    PE X (.Call (.Attribute o "pop" apos) [e] [] cpos) (rd G W (mMeth 3 fPopAt mo na)) :=
  me_meth hG (by decide) rfl PySem.F.plainAttrs_list PySem.F.slot_list_pop PySem.F.type_list_pop mt_popAt sv_popAt ho ha hbase hfew hline hs
end
end Mm
end

section
set_option Elab.async false
set_option linter.all false
set_option maxRecDepth 100000
namespace Mm
open PySem PySem.Spec PyProof.Rows L2

/-! ## more methods, stores, dicts -/
section
variable {X : Cx} {G : GC} {W : WX} {o e : Expr} {es : List Expr} {name : Str} {apos cpos pos p : Pos} {mo mi mv : MExp} {na : MArg}
def strsOf : List PV → Option (List Str)
  | [] => some []
  | .str x :: xs => (strsOf xs).map (x :: ·)
  | _ => none
theorem strs_is {r : Ads} {H : Hp} : ∀ {xs : List PV} {ss : List Str} {vs : List V}, IsAll G r H xs vs → strsOf xs = some ss → vs = ss.map V.str
  | [], ss, vs, i, h => by
    unfold strsOf at h
    cases h
    unfold IsAll at i
    exact i
  | x :: xs, ss, vs, i, h => by
    unfold IsAll at i
    obtain ⟨v, ws, rfl, q, t⟩ := i
    match x, q, h with
    | .str y, q, h =>
      have h : (strsOf xs).map (y :: ·) = some ss := h
      cases hs : strsOf xs with
      | none => rw [hs] at h; cases h
      | some zs =>
        rw [hs] at h
        cases h
        unfold Is at q
        rw [q, strs_is t hs]
        rfl
    | .non, _, h => cases h
    | .bl _, _, h => cases h
    | .int _, _, h => cases h
    | .tup _, _, h => cases h
    | .lst _, _, h => cases h
    | .scr _, _, h => cases h
    | .dic _, _, h => cases h
    | .ins _ _, _, h => cases h
theorem is_strs {r : Ads} {H : Hp} (ss : List Str) : IsAll G r H (ss.map PV.str) (ss.map V.str) := by
  induction ss with
  | nil => exact IsAll.nil
  | cons x xs ih => exact IsAll.cons.mpr ⟨by unfold Is; rfl, ih⟩
def idxS (z : Str) : List Str → Option Nat
  | [] => none
  | y :: ys => if y = z then some 0 else (idxS z ys).map (· + 1)
theorem idxS_ok {z : Str} : ∀ {ys : List Str} {j : Nat}, idxS z ys = some j → ys[j]? = some z ∧ ∀ m, m < j → ys[m]? ≠ some z
  | [], j, h => by unfold idxS at h; cases h
  | y :: ys, j, h => by
    unfold idxS at h
    by_cases hy : y = z
    · rw [if_pos hy] at h
      cases h
      exact ⟨by rw [hy]; rfl, fun m hm => absurd hm (Nat.not_lt_zero m)⟩
    · rw [if_neg hy] at h
      cases hk : idxS z ys with
      | none => rw [hk] at h; cases h
      | some k =>
        rw [hk] at h
        cases h
        obtain ⟨h1, h2⟩ := idxS_ok hk
        refine ⟨by simpa using h1, fun m hm => ?_⟩
        cases m with
        | zero => simp; exact hy
        | succ m => simp; exact h2 m (Nat.lt_of_succ_lt_succ hm)
def fTIdx : FM := fun x xs S => match x, xs with
  | .p (.tup zs), [.p (.str z)] => (match strsOf zs with
    | some ys => (match idxS z ys with
      | some j => some (.p (.int (j : Nat)), S)
      | none => none)
    | none => none)
  | _, _ => none
theorem sv_tidx : ServesM G (fun x xs H Q => ∃ p, ∃ ys : List Str, ∃ z j, x = .ref p ∧ xs = [.str z] ∧ SqT G.K H p (ys.map V.str) ∧ ys[j]? = some z ∧ (∀ m, m < j → ys[m]? ≠ some z) ∧ Q (.int (j : Nat)) H) fTIdx := by
  intro r H S x xs y S' v vs Q s ix ixs hf k
  unfold fTIdx at hf
  split at hf
  · rename_i zs z
    have ix : Is G r H (.tup zs) v := ix
    unfold Is at ix
    obtain ⟨a, us, rfl, q, t⟩ := ix
    obtain ⟨w, rfl, iw⟩ := ixs.one
    have iw : Is G r H (.str z) w := iw
    unfold Is at iw
    subst iw
    cases hs : strsOf zs with
    | none => rw [hs] at hf; cases hf
    | some ys =>
      rw [hs] at hf
      dsimp only at hf
      cases hj : idxS z ys with
      | none => rw [hj] at hf; cases hf
      | some j =>
        rw [hj] at hf
        cases hf
        obtain ⟨h1, h2⟩ := idxS_ok hj
        have := strs_is t hs
        subst this
        exact ⟨a, ys, z, j, rfl, rfl, q.t, h1, h2, k _ H fun _ => ⟨r, StepE.refl _ _, s, by show Is _ _ _ _ _; unfold Is; rfl⟩⟩
  · cases hf
theorem me_tidx (hG : X.K = G.K) (ho : PE X o (rd G W mo)) (ha : PA X [e] (rdA G W na)) (hbase : attributeBase o "index" X.env (eval o X.env) = eval o X.env := by rfl)
    (hfew : ((backTo cpos (starEach [e] X.env)).all (fun x => !x.1) && (backToKw cpos (keywordEach [] X.env)).all (fun x => x.1.isSome) && decide ([e].length + ([] : List Keyword).length + (if ([] : List Keyword).isEmpty then 0 else 1) < 30)) = true := by rfl)
    (hline : (apos.endLine == cpos.line) = true := by rfl) (hs : starEach [e] X.env = (false, eval e X.env) :: starEach [] X.env := by rfl) :
    PE X (.Call (.Attribute o "index" apos) [e] [] cpos) (rd G W (mMeth 4 fTIdx mo na)) :=
  me_meth hG (by decide) rfl PySem.F.plainAttrs_tuple PySem.F.slot_tuple_index PySem.F.type_tuple_index mt_tup_index (by rw [hG]; exact sv_tidx) ho ha hbase hfew hline hs
/-- x.split(sep): a list that is owned -/
def fSplit : FM := fun x xs S => match x, xs with
  | .p (.str a), [.p (.str b)] => if b.length ≠ 0 ∧ a.length + 2 ≤ sizeLine then some (.l S.length, S ++ [.lst ((Txt.split a b).map PV.str)]) else none
  | _, _ => none
theorem sv_split : ServesM G (fun x xs H Q => ∃ a b, x = .str a ∧ xs = [.str b] ∧ (b.length == 0) = false ∧ a.length + 2 ≤ sizeLine ∧ rNewStrs (Txt.split a b) H Q) fSplit := by
  intro r H S x xs y S' v vs Q s ix ixs hf k
  unfold fSplit at hf
  split at hf
  · rename_i a b
    have ix : Is G r H (.str a) v := ix
    unfold Is at ix
    subst ix
    obtain ⟨w, rfl, iw⟩ := ixs.one
    have iw : Is G r H (.str b) w := iw
    unfold Is at iw
    subst iw
    split at hf
    · rename_i hb
      cases hf
      refine ⟨a, b, rfl, rfl, beq_eq_false_iff_ne.mpr hb.1, hb.2, fun p hp => k _ _ fun kf => ?_⟩
      exact ⟨r ++ [some p], StepE.own hp (kf_new kf), s.own hp kf ⟨_, upd_same, is_strs _⟩, is_own s⟩
    · cases hf
  · cases hf
theorem me_split (hG : X.K = G.K) (ho : PE X o (rd G W mo)) (ha : PA X [e] (rdA G W na)) (hbase : attributeBase o "split" X.env (eval o X.env) = eval o X.env := by rfl)
    (hfew : ((backTo cpos (starEach [e] X.env)).all (fun x => !x.1) && (backToKw cpos (keywordEach [] X.env)).all (fun x => x.1.isSome) && decide ([e].length + ([] : List Keyword).length + (if ([] : List Keyword).isEmpty then 0 else 1) < 30)) = true := by rfl)
    (hline : (apos.endLine == cpos.line) = true := by rfl) (hs : starEach [e] X.env = (false, eval e X.env) :: starEach [] X.env := by rfl) :
    PE X (.Call (.Attribute o "split" apos) [e] [] cpos) (rd G W (mMeth 1 fSplit mo na)) :=
  me_meth hG (by decide) rfl PySem.F.plainAttrs_str PySem.F.slot_str_split PySem.F.type_str_split mt_split sv_split ho ha hbase hfew hline hs

/-! ### sorted texts -/
def leS (a b : Str) : Bool := !decide (b.cps.toList < a.cps.toList)
def sortS (xs : List Str) : List Str := xs.mergeSort leS
theorem leS_anti {a b : Str} (h1 : leS a b = true) (h2 : leS b a = true) : a = b := by
  unfold leS at h1 h2
  have h1' : ¬ b.cps.toList < a.cps.toList := by simpa using h1
  have h2' : ¬ a.cps.toList < b.cps.toList := by simpa using h2
  have : a.cps.toList = b.cps.toList := List.le_antisymm h1' h2'
  cases a
  cases b
  simp at this
  rw [this]
theorem leS_tot (a b : Str) : (leS a b || leS b a) = true := by
  unfold leS
  have := List.le_total a.cps.toList b.cps.toList
  rcases this with h | h
  · have h : ¬ b.cps.toList < a.cps.toList := h
    simp [h]
  · have h : ¬ a.cps.toList < b.cps.toList := h
    simp [h]
theorem leS_trans (a b c : Str) (h1 : leS a b = true) (h2 : leS b c = true) : leS a c = true := by
  unfold leS at h1 h2 ⊢
  have h1' : ¬ b.cps.toList < a.cps.toList := by simpa using h1
  have h2' : ¬ c.cps.toList < b.cps.toList := by simpa using h2
  have : ¬ c.cps.toList < a.cps.toList := List.le_trans (show a.cps.toList ≤ b.cps.toList from h1') (show b.cps.toList ≤ c.cps.toList from h2')
  simpa using this
theorem rising_pw : ∀ {p : Str} {l : List Str}, risingS p l = true → List.Pairwise (fun a b => leS a b = true) (p :: l)
  | p, [], _ => List.pairwise_singleton _ _
  | p, x :: r, h => by
    unfold risingS at h
    rw [Bool.and_eq_true] at h
    have ih := rising_pw h.2
    have hpx : leS p x = true := by
      unfold leS
      have := h.1
      rw [ltCps_eq] at this
      exact this
    refine List.pairwise_cons.mpr ⟨fun y hy => ?_, ih⟩
    rcases List.mem_cons.mp hy with rfl | hy
    · exact hpx
    · exact leS_trans _ _ _ hpx ((List.pairwise_cons.mp ih).1 y hy)
theorem sorted_uniq {xs ys : List Str} (hp : ys.Perm xs) (hs : sortedS ys = true) : ys = sortS xs := by
  have h1 : List.Pairwise (fun a b => leS a b = true) ys := by
    cases ys with
    | nil => exact List.Pairwise.nil
    | cons y r => exact rising_pw hs
  have h2 := List.pairwise_mergeSort (le := leS) leS_trans leS_tot xs
  exact List.Perm.eq_of_pairwise (fun a b _ _ => leS_anti) h1 h2 (hp.trans (List.mergeSort_perm xs leS).symm)
def fSorted : FC := fun xs S => match xs with
  | [x] => (match lstOf x S with
    | some ys => (match strsOf ys with
      | some ss => if ss.length < 64 then some (.lst ((sortS ss).map PV.str)) else none
      | none => none)
    | none => none)
  | _ => none
theorem sv_sorted : ServesC G (rSortedS G.K) fSorted := by
  intro r H S xs z vs Q st i hf k
  unfold fSorted at hf
  split at hf
  · rename_i x
    obtain ⟨v, rfl, q⟩ := i.one
    cases hl : lstOf x S with
    | none => rw [hl] at hf; cases hf
    | some ys =>
      rw [hl] at hf
      dsimp only at hf
      cases hs : strsOf ys with
      | none => rw [hs] at hf; cases hf
      | some ss =>
        rw [hs] at hf
        dsimp only at hf
        split at hf
        · rename_i hz
          cases hf
          obtain ⟨a, us, rfl, hq, t⟩ := lstOf_is st q hl
          have := strs_is t hs
          subst this
          refine ⟨a, ss, rfl, hq, hz, fun zs p hp hsd hn => k _ _ (.inr ⟨p, _, hn, fun _ => noL, rfl⟩) ?_⟩
          rw [sorted_uniq hp hsd]
          exact is_lstN st.toStR0 hn (is_strs _)
        · cases hf
  · cases hf
theorem me_sorted (hG : X.K = G.K) (hg : Gl X "sorted") (hm : X.mg "sorted" = none) (ha : PA X [e] (rdA G W na)) (he : starEach [e] X.env = (false, eval e X.env) :: starEach [] X.env := by rfl) : PE X (.Call (.Name "sorted" p) [e] [] pos) (rd G W (mB fSorted na)) :=
  me_callB hG (by rw [← hG]; exact cr_sortedS) sv_sorted hg hm (by decide +kernel) ha (he := he)

/-! ### an owned list, a dict: stored into -/
def setIxS (mo mi mv : MExp) : MStm := bindS mv fun y => bindS mo fun x => bindS mi fun k e S => match x, k, y with
  | .l n, .p (.int i), .p v => (match S[n]? with
    | some (.lst xs) => (match ixN xs.length i with
      | some j => .next e (S.set n (.lst (xs.set j v)))
      | none => .bad)
    | _ => .bad)
  | _, _, _ => .bad
theorem ms_setIx {i value : Expr} {pos' : Pos} (hG : X.K = G.K) (ho : PE X o (rd G W mo)) (hi : PE X i (rd G W mi)) (hv : PE X value (rd G W mv)) (hs : swapsWithSole [.Subscript o i pos'] value pos.line X.env = pure false := by rfl) (hw : swappedStores [.Subscript o i pos'] value X.env = pure none := by rfl)
    (ha : ∀ v, assign (.Subscript o i pos') X.env v = (do
      let ov ← holding [v] (eval o X.env)
      let iv ← holding [v, ov] (eval i X.env)
      standAt pos'
      holding [v, ov, iv] (setItem ov iv v)
      release [v, ov, iv] []) := by intro _; rfl) (h1 : (assignEach [.Subscript o i pos'] X.env).map (·.2) = [assign (.Subscript o i pos') X.env] := by rfl) :
    PS X (.Assign [.Subscript o i pos'] value pos) (rdS G W (setIxS mo mi mv)) :=
  psI (ps_asg hv (pg_sub ho hi set_list ha) hs hw h1) fun D σ H _ ⟨r, S, e, sr, h⟩ => by
    rw [hG]
    refine bindS_rd sr h fun y S1 r1 H1 v1 st1 sr1 i1 h1 => ?_
    refine bindS_rd sr1 h1 fun x S2 r2 H2 v2 st2 sr2 i2 h2 => ?_
    refine bindS_rd sr2 h2 fun k S3 r3 H3 v3 st3 sr3 i3 h3 => ?_
    have i1' := (i1.step st2 sr1.st.noFrz).step st3 sr2.st.noFrz
    have i2' := i2.step st3 sr2.st.noFrz
    split at h3
    · rename_i n j v
      obtain ⟨a, hat, rfl⟩ := i2'
      obtain ⟨m, hm, q⟩ := sr3.st.obj n a hat
      rw [hm] at h3
      match m, q, h3 with
      | .lst xs, ⟨us, hH, iu⟩, h3 =>
        dsimp only at h3
        cases hj : ixN xs.length j with
        | none => rw [hj] at h3; exact h3.elim
        | some jn =>
          rw [hj] at h3
          refine ⟨a, us, j, jn, rfl, int_of i3, hH, by rw [← iu.len]; exact hj, fun kf => ?_⟩
          obtain ⟨st, s2⟩ := StR.putL (ys := xs.set jn v) sr3.st hat (iu.set jn i1') kf
          exact h3 r3 _ σ st (StR.with sr3 st s2)
      | .dic _, _, h3 => exact h3.elim
      | .ins _ _, _, h3 => exact h3.elim
    · exact h3.elim
/-- names = an owned list -/
def unlS (m : MExp) (n : Nat) (g : MGs) : MStm := bindS m fun x e S => match lstOf x S with
  | some xs => if xs.length = n then (match g xs e with
    | some e1 => .next e1 S
    | none => .bad) else .bad
  | none => .bad
theorem ms_unl {ws : List Nat} {k n : Nat} {g : MGs} {value : Expr} {tpos : Pos} (hG : X.K = G.K) (hc : X.calm = true) (hv : PE X value (rd G W mv)) (hg : PGs X es (rdGs G ws g)) (hn : (assignEach es X.env).length = n := by rfl) (hst : (assignEach es X.env).findIdx? (·.1) = none := by rfl)
    (hs : swapsWithSole [.Tuple es k tpos] value pos.line X.env = pure false := by rfl) (hw : swappedStores [.Tuple es k tpos] value X.env = pure none := by rfl) (h1 : (assignEach [.Tuple es k tpos] X.env).map (·.2) = [assign (.Tuple es k tpos) X.env] := by rfl) :
    PS X (.Assign [.Tuple es k tpos] value pos) (rdS G W (unlS mv n g)) :=
  psImp (ps_asg hv (pg_unl hc hg hn hst) hs hw h1) fun D σ H ⟨r, S, e, sr, h⟩ => by
    rw [hG]
    refine bindS_rd sr h fun x S1 r1 H1 v1 st1 sr1 i1 h1 => ?_
    cases hl : lstOf x S1 with
    | none => rw [hl] at h1; exact h1.elim
    | some xs =>
      rw [hl] at h1
      dsimp only at h1
      split at h1
      · rename_i hlen
        cases hgx : g xs e with
        | none => rw [hgx] at h1; exact h1.elim
        | some e1 =>
          rw [hgx] at h1
          obtain ⟨a, us, rfl, hq, t⟩ := lstOf_is sr1.st i1 hl
          exact ⟨a, us, rfl, hq, by rw [← t.len]; exact hlen, r1, S1, e, xs, sr1, t, e1, hgx, fun σ1 _ sr2 => h1 r1 H1 σ1 (StepE.refl _ _) sr2⟩
      · exact h1.elim
end
end Mm
end

section
set_option Elab.async false
set_option linter.all false
set_option maxRecDepth 100000
namespace Mm
open PySem PySem.Spec PyProof.Rows L2

/-! ## isinstance -/
def pvOf (x : RV) (S : Sto) : Option PV := match x with
  | .p x => some x
  | .l n => (S[n]?).map MO.pv
structure GI (G : GC) (c : Nat) : Prop where
  cl : Cls G.K (G.cls c)
  ha : PySem.W.findIn G.K (.ref (G.cls c)) "__class__" = some (some (.builtin "object.__class__"))
  hn : PySem.W.specialIn G.K (.builtin "object.__class__") "__get__" = some (some (.builtin "getset_descriptor.__get__"))
  htk : PySem.W.takesIn G.K (.builtin "object.__class__") = some true
  hm : PySem.W.mroIn G.K (G.cls c) (.type "object") = some true
/-- the type of plain data, by number -/
def tyN : PV → Nat
  | .non => 0
  | .bl _ => 1
  | .int _ => 2
  | .str _ => 3
  | .lst _ => 4
  | .scr _ => 4
  | .tup _ => 5
  | .dic _ => 6
  | .ins c _ => 100 + c
theorem sqL_ty {K : PySem.W.Frag} {H : Hp} {a : Addr} {vs : List V} (h : SqL K H a vs) : TyX K H (.ref a) (.type "list") := by
  rcases h with (h | ⟨o, h⟩) | ⟨o, its, n, h1, h2, _⟩
  · exact .base (.lst h)
  · exact .base (.frz h)
  · exact .kList h1 h2
theorem sqX_ty {K : PySem.W.Frag} {H : Hp} {a : Addr} {vs : List V} (h : SqX K H a vs) : TyX K H (.ref a) (.type "tuple") := by
  rcases h with ⟨o, h, _⟩ | ⟨o, its, n, h1, h2, _⟩
  · exact .fTuple h
  · exact .kTuple h1 h2
theorem ty_is {G : GC} {r : Ads} {H : Hp} : ∀ {x : PV} {v : V}, Is G r H x v → tyN x < 7 → TyX G.K H v (.type (tyS (tyN x)))
  | .non, v, i, _ => by unfold Is at i; subst i; exact .base .non
  | .bl b, v, i, _ => by unfold Is at i; subst i; exact .base (.bl b)
  | .int b, v, i, _ => by unfold Is at i; subst i; exact .base (.int b)
  | .str b, v, i, _ => by unfold Is at i; subst i; exact .base (.str b)
  | .lst b, v, i, _ => by unfold Is at i; obtain ⟨a, vs, rfl, _, q, _⟩ := i; exact .base (.lst q)
  | .scr b, v, i, _ => by unfold Is at i; obtain ⟨a, vs, rfl, _, q, _⟩ := i; exact sqL_ty q
  | .tup b, v, i, _ => by unfold Is at i; obtain ⟨a, vs, rfl, q, _⟩ := i; exact sqX_ty q
  | .dic b, v, i, _ => by unfold Is at i; obtain ⟨a, vs, rfl, _, q, _⟩ := i; exact .base (.dK q)
  | .ins c fs, v, i, h => by have h : 100 + c < 7 := h; omega
theorem ty_mo {G : GC} {r : Ads} {H : Hp} {a : Addr} : ∀ {m : MO}, MOk G r H a m → tyN m.pv < 7 → TyX G.K H (.ref a) (.type (tyS (tyN m.pv)))
  | .lst b, ⟨vs, q, _⟩, _ => .base (.lst q)
  | .dic b, ⟨vs, q, _⟩, _ => .base (.dK q)
  | .ins c fs, _, h => by have h : 100 + c < 7 := h; omega
theorem ty_r {G : GC} {r : Ads} {H : Hp} {S : Sto} {x : RV} {v : V} {y : PV} (s : StR G r H S) (i : RIs G r H x v) (h : pvOf x S = some y) (hn : tyN y < 7) : TyX G.K H v (.type (tyS (tyN y))) := by
  cases x with
  | p x => cases h; exact ty_is i hn
  | l n =>
    obtain ⟨a, ha, rfl⟩ := i
    obtain ⟨m, hm, q⟩ := s.obj n a ha
    have h : (S[n]?).map MO.pv = some _ := h
    rw [hm] at h
    cases h
    exact ty_mo q hn
theorem ins_r {G : GC} {r : Ads} {H : Hp} {S : Sto} {x : RV} {v : V} {c : Nat} {fs : List PV} (gi : GI G c) (s : StR G r H S) (i : RIs G r H x v) (h : pvOf x S = some (.ins c fs)) : TyX G.K H v (.ref (G.cls c)) := by
  cases x with
  | p x =>
    cases h
    have i : Is G r H (.ins c fs) v := i
    unfold Is at i
    obtain ⟨a, dx, vs, rfl, _, q, _⟩ := i
    exact .base (.ins q gi.cl gi.ha gi.hn gi.htk gi.hm)
  | l n =>
    obtain ⟨a, ha, rfl⟩ := i
    obtain ⟨m, hm, q⟩ := s.obj n a ha
    have h : (S[n]?).map MO.pv = some _ := h
    rw [hm] at h
    match m, q, h with
    | .ins d gs, ⟨dx, vs, q, _⟩, h =>
      cases h
      exact .base (.ins q gi.cl gi.ha gi.hn gi.htk gi.hm)
    | .lst _, _, h => cases h
    | .dic _, _, h => cases h
def mIs (f : PV → Option Bool) (m : MExp) : MExp := bindM m fun x _ S => match pvOf x S with
  | some y => (match f y with
    | some b => .ok (.p (.bl b)) S
    | none => .bad)
  | none => .bad
/-- f tells what isinstance(.., u) tells -/
def IsiOk (G : GC) (u : Value) (f : PV → Option Bool) : Prop := ∀ (r : Ads) (H : Hp) (S : Sto) (x : RV) (v : V) (y : PV) (b : Bool), StR G r H S → RIs G r H x v → pvOf x S = some y → f y = some b → ∃ t, TyX G.K H v t ∧ PySem.W.kitOne G.K t u = some b
section
variable {X : Cx} {G : GC} {W : WX} {e c : Expr} {m : MExp} {pos p : Pos} {cv : V} {u : Value} {f : PV → Option Bool}
theorem me_isi (hG : X.K = G.K) (ok : IsiOk G u f) (hg : Gl X "isinstance") (hm : X.mg "isinstance" = none) (he : PE X e (rd G W m)) (hc : PE X c (tC cv)) (hu : ClsV cv u) (hs : starEach [e, c] X.env = (false, eval e X.env) :: starEach [c] X.env := by rfl) (hs2 : starEach [c] X.env = (false, eval c X.env) :: starEach [] X.env := by rfl) (hpl : (backTo pos (starEach [c] X.env)).any (·.1) = false := by rfl) :
    PE X (.Call (.Name "isinstance" p) [e, c] [] pos) (rd G W (mIs f m)) :=
  peI (pe_callB call_isi hg hm (by decide +kernel) (pa_cons he (pa_cons hc pa_nil hs2) hs) (by decide) (by decide) hs hpl) fun σ H Q _ ⟨r, S, e, sr, h⟩ => by
    refine bind_rd sr h fun x S1 r1 H1 v1 st1 sr1 i1 h1 => ?_
    cases hp : pvOf x S1 with
    | none => rw [hp] at h1; exact h1.elim
    | some y =>
      rw [hp] at h1
      dsimp only at h1
      cases hf : f y with
      | none => rw [hf] at h1; exact h1.elim
      | some b =>
        rw [hf] at h1
        obtain ⟨t, ty, hk⟩ := ok r1 H1 S1 x v1 y b sr1.st i1 hp hf
        exact ⟨v1, cv, t, u, b, rfl, hu, by rw [hG]; exact ty, by rw [hG]; exact hk, fun _ => h1 r1 H1 _ (StepE.refl _ _) sr1 (by show Is _ _ _ _ _; unfold Is; rfl)⟩
/-- a built-in type -/
def isTy (T : Nat) (x : PV) : Option Bool := if tyN x < 7 then some (decide (tyN x = T) || (decide (T = 2) && decide (tyN x = 1))) else none
theorem kitB_fin : ∀ n : Fin 7, ∀ T : Fin 7, 0 < T.val → kitB (tyS n.val) (tyS T.val) = some (decide (n.val = T.val) || (decide (T.val = 2) && decide (n.val = 1))) := by decide +kernel
theorem kitB_all (n : Nat) (hn : n < 7) (T : Nat) (h0 : 0 < T) (hT : T < 7) : kitB (tyS n) (tyS T) = some (decide (n = T) || (decide (T = 2) && decide (n = 1))) := kitB_fin ⟨n, hn⟩ ⟨T, hT⟩ h0
theorem isTy_ok {T : Nat} (h0 : 0 < T) (h7 : T < 7) : IsiOk G (.type (tyS T)) (isTy T) := by
  intro r H S x v y b s i hp hf
  unfold isTy at hf
  split at hf
  · rename_i hn
    cases hf
    exact ⟨_, ty_r s i hp hn, kit_ty (kitB_all _ hn T h0 h7)⟩
  · cases hf
theorem me_isT {T : Nat} {x : Str} {pc : Pos} (hG : X.K = G.K) (h0 : 0 < T) (h7 : T < 7) (hg : Gl X "isinstance") (hm : X.mg "isinstance" = none) (hgx : Gl X x) (hmx : X.mg x = none) (hv : bootBuiltins x = some (.type (tyS T))) (he : PE X e (rd G W m)) (hn : x ≠ "__name__" := by decide) (hd : (x == ("__debug__" : Str)) = false := by decide)
    (hs : starEach [e, .Name x pc] X.env = (false, eval e X.env) :: starEach [.Name x pc] X.env := by rfl) :
    PE X (.Call (.Name "isinstance" p) [e, .Name x pc] [] pos) (rd G W (mIs (isTy T) m)) :=
  me_isi hG (isTy_ok h0 h7) hg hm he (pe_bltn (v := .ty (tyS T)) (u := .type (tyS T)) hgx hmx hv rfl hn hd) (.ty _) hs
/-- an own class: its own objects; all plain data -/
def isOw (c : Nat) (x : PV) : Option Bool := match x with
  | .ins d _ => if d = c then some true else none
  | x => if tyN x < 7 then some false else none
structure GN (G : GC) (c : Nat) : Prop where
  gi : GI G c
  no : ∀ n, n < 7 → PySem.W.kitOne G.K (.type (tyS n)) (.ref (G.cls c)) = some false
theorem isOw_ok {c : Nat} (gn : GN G c) : IsiOk G (.ref (G.cls c)) (isOw c) := by
  intro r H S x v y b s i hp hf
  have other : ∀ y' : PV, y = y' → tyN y' < 7 → b = false → ∃ t, TyX G.K H v t ∧ PySem.W.kitOne G.K t (.ref (G.cls c)) = some b := fun y' ey hn eb => by
    subst ey eb
    exact ⟨_, ty_r s i hp hn, gn.no _ hn⟩
  match y, hp, hf, other with
  | .ins d fs, hp, hf, _ =>
    unfold isOw at hf
    dsimp only at hf
    split at hf
    · rename_i hd
      cases hf
      subst hd
      refine ⟨_, ins_r gn.gi s i hp, ?_⟩
      unfold PySem.W.kitOne
      rw [if_pos (beq_self_eq_true _)]
    · cases hf
  | .non, hp, hf, o => cases hf; exact o _ rfl (by decide) rfl
  | .bl _, hp, hf, o => cases hf; exact o _ rfl (by show 1 < 7; decide) rfl
  | .int _, hp, hf, o => cases hf; exact o _ rfl (by show 2 < 7; decide) rfl
  | .str _, hp, hf, o => cases hf; exact o _ rfl (by show 3 < 7; decide) rfl
  | .lst _, hp, hf, o => cases hf; exact o _ rfl (by show 4 < 7; decide) rfl
  | .scr _, hp, hf, o => cases hf; exact o _ rfl (by show 4 < 7; decide) rfl
  | .tup _, hp, hf, o => cases hf; exact o _ rfl (by show 5 < 7; decide) rfl
  | .dic _, hp, hf, o => cases hf; exact o _ rfl (by show 6 < 7; decide) rfl
theorem me_isO {cn : Nat} {x : Str} {pc : Pos} (hG : X.K = G.K) (gn : GN G cn) (hg : Gl X "isinstance") (hm : X.mg "isinstance" = none) (hgx : Gl X x) (hmx : X.mg x = some (.ref (G.cls cn))) (he : PE X e (rd G W m)) (hd : (x == ("__debug__" : Str)) = false := by decide)
    (hs : starEach [e, .Name x pc] X.env = (false, eval e X.env) :: starEach [.Name x pc] X.env := by rfl) :
    PE X (.Call (.Name "isinstance" p) [e, .Name x pc] [] pos) (rd G W (mIs (isOw cn) m)) :=
  me_isi hG (isOw_ok gn) hg hm he (pe_glob (v := .ref (G.cls cn)) hgx hmx rfl hd) (.own _) hs
end

/-! ## dicts -/
def lookP (kvs : List (Key × PV)) (k : Key) : Option PV := match kvs with
  | [] => none
  | (j, x) :: r => if j = k then some x else lookP r k
def hasP (kvs : List (Key × PV)) (k : Key) : Bool := match kvs with
  | [] => false
  | (j, _) :: r => if j = k then true else hasP r k
def setP (kvs : List (Key × PV)) (k : Key) (v : PV) : List (Key × PV) := match kvs with
  | [] => []
  | (j, x) :: r => (j, if j = k then v else x) :: setP r k v
def putD (kvs : List (Key × PV)) (k : Key) (v : PV) : List (Key × PV) := if hasP kvs k then setP kvs k v else kvs ++ [(k, v)]
section
variable {G : GC} {r : Ads} {H : Hp}
theorem IsKv.cons {k : Key} {x : PV} {xs : List (Key × PV)} {v : V} {ws : List (Key × V)} : IsKv G r H ((k, x) :: xs) ((k, v) :: ws) ↔ Is G r H x v ∧ IsKv G r H xs ws := by
  constructor
  · intro h
    unfold IsKv at h
    obtain ⟨v', ws', e, q, t⟩ := h
    cases e
    exact ⟨q, t⟩
  · intro ⟨q, t⟩
    unfold IsKv
    exact ⟨v, ws, rfl, q, t⟩
theorem IsKv.nil : IsKv G r H [] [] := by unfold IsKv; rfl
theorem look_is : ∀ {kvs : List (Key × PV)} {ws : List (Key × V)} {k : Key} {x : PV}, IsKv G r H kvs ws → lookP kvs k = some x → ∃ v, valV ws k = some v ∧ Is G r H x v
  | [], ws, k, x, i, h => by unfold lookP at h; cases h
  | (j, y) :: kvs, ws, k, x, i, h => by
    unfold IsKv at i
    obtain ⟨v, us, rfl, q, t⟩ := i
    unfold lookP at h
    by_cases hj : j = k
    · rw [if_pos hj] at h
      cases h
      exact ⟨v, valV_pos (p := (j, v)) hj, q⟩
    · rw [if_neg hj] at h
      obtain ⟨u, h1, h2⟩ := look_is t h
      refine ⟨u, ?_, h2⟩
      unfold valV at h1 ⊢
      rw [List.find?_cons_of_neg (by simpa using hj)]
      exact h1
theorem has_is : ∀ {kvs : List (Key × PV)} {ws : List (Key × V)} {k : Key}, IsKv G r H kvs ws → (ws.any fun kv => decide (kv.1 = k)) = hasP kvs k
  | [], ws, k, i => by unfold IsKv at i; subst i; rfl
  | (j, y) :: kvs, ws, k, i => by
    unfold IsKv at i
    obtain ⟨v, us, rfl, q, t⟩ := i
    unfold hasP
    rw [List.any_cons, has_is t]
    by_cases hj : j = k
    · simp [hj]
    · simp [hj]
theorem set_is {v : PV} {w : V} {k : Key} (iv : Is G r H v w) : ∀ {kvs : List (Key × PV)} {ws : List (Key × V)}, IsKv G r H kvs ws → IsKv G r H (setP kvs k v) (ws.map fun kv => if kv.1 = k then (kv.1, w) else kv)
  | [], ws, i => by unfold IsKv at i; subst i; unfold setP; exact IsKv.nil
  | (j, y) :: kvs, ws, i => by
    unfold IsKv at i
    obtain ⟨u, us, rfl, q, t⟩ := i
    unfold setP
    rw [List.map_cons]
    by_cases hj : j = k
    · rw [if_pos hj, if_pos hj]; exact IsKv.cons.mpr ⟨iv, set_is iv t⟩
    · rw [if_neg hj, if_neg hj]; exact IsKv.cons.mpr ⟨q, set_is iv t⟩
theorem IsKv.append : ∀ {xs ys : List (Key × PV)} {vs ws : List (Key × V)}, IsKv G r H xs vs → IsKv G r H ys ws → IsKv G r H (xs ++ ys) (vs ++ ws)
  | [], ys, vs, ws, i, j => by unfold IsKv at i; subst i; exact j
  | (k, x) :: xs, ys, vs, ws, i, j => by
    unfold IsKv at i
    obtain ⟨v, us, rfl, q, t⟩ := i
    exact IsKv.cons.mpr ⟨q, IsKv.append t j⟩
theorem put_is {v : PV} {w : V} {k : Key} {kvs : List (Key × PV)} {ws : List (Key × V)} (iv : Is G r H v w) (i : IsKv G r H kvs ws) : IsKv G r H (putD kvs k v) (putK ws k w) := by
  unfold putD putK
  rw [has_is i]
  cases hasP kvs k with
  | true => rw [if_pos rfl, if_pos rfl]; exact set_is iv i
  | false => rw [if_neg Bool.false_ne_true, if_neg Bool.false_ne_true]; exact IsKv.append i (IsKv.cons.mpr ⟨iv, IsKv.nil⟩)
end
def keyOf : PV → Option Key
  | .int i => some (.inl i)
  | .str x => some (.inr x)
  | _ => none
def dicOf (x : RV) (S : Sto) : Option (List (Key × PV)) := match x with
  | .p (.dic kvs) => some kvs
  | .l n => (match S[n]? with
    | some (.dic kvs) => some kvs
    | _ => none)
  | _ => none
theorem key_is {G : GC} {r : Ads} {H : Hp} {y : PV} {k : Key} {v : V} (i : Is G r H y v) (h : keyOf y = some k) : v = kV k := by
  cases y with
  | int j => cases h; unfold Is at i; exact i
  | str j => cases h; unfold Is at i; exact i
  | _ => cases h
theorem dic_is {G : GC} {r : Ads} {H : Hp} {S : Sto} {x : RV} {v : V} {kvs : List (Key × PV)} (s : StR G r H S) (i : RIs G r H x v) (h : dicOf x S = some kvs) : ∃ a ws, v = .ref a ∧ H a = some (.dK ws) ∧ IsKv G r H kvs ws := by
  unfold dicOf at h
  split at h
  · cases h
    have i : Is G r H (.dic _) v := i
    unfold Is at i
    obtain ⟨a, ws, rfl, _, q, t⟩ := i
    exact ⟨a, ws, rfl, q, t⟩
  · rename_i n
    obtain ⟨a, ha, rfl⟩ := i
    obtain ⟨m, hm, q⟩ := s.obj n a ha
    rw [hm] at h
    match m, q, h with
    | .dic _, ⟨ws, q, t⟩, h => cases h; exact ⟨a, ws, rfl, q, t⟩
    | .lst _, _, h => cases h
    | .ins _ _, _, h => cases h
  · cases h
def mDGet (m n : MExp) : MExp := bindM m fun x => bindM n fun y _ S => match y with
  | .p y => (match keyOf y, dicOf x S with
    | some k, some kvs => (match lookP kvs k with
      | some v => .ok (.p v) S
      | none => .bad)
    | _, _ => .bad)
  | .l _ => .bad
def putDS (mo mi mv : MExp) : MStm := bindS mv fun v => bindS mo fun x => bindS mi fun y e S => match x, y, v with
  | .l n, .p y, .p v => (match S[n]?, keyOf y with
    | some (.dic kvs), some k => if kvs.length < sizeLine then .next e (S.set n (.dic (putD kvs k v))) else .bad
    | _, _ => .bad)
  | _, _, _ => .bad
section
variable {X : Cx} {G : GC} {W : WX} {o i value : Expr} {mo mi mv : MExp} {pos pos' : Pos}
theorem me_dget (hG : X.K = G.K) (hu : X.A.units + 1 < cLine) (ho : PE X o (rd G W mo)) (hi : PE X i (rd G W mi)) (hs : NoSl i := by intro _ _; rfl) : PE X (.Subscript o i pos) (rd G W (mDGet mo mi)) :=
  peI (pe_dget hu ho hi hs) fun σ H Q _ ⟨r, S, e, sr, h⟩ => by
    refine bind_rd sr h fun x S1 r1 H1 v1 st1 sr1 i1 h1 => ?_
    refine bind_rd sr1 h1 fun y S2 r2 H2 v2 st2 sr2 i2 h2 => ?_
    have i1' := i1.step st2 sr1.st.noFrz
    split at h2
    · rename_i y0
      split at h2
      · rename_i k kvs hk hd
        cases hl : lookP kvs k with
        | none => rw [hl] at h2; exact h2.elim
        | some v =>
          rw [hl] at h2
          obtain ⟨a, ws, rfl, q, t⟩ := dic_is sr2.st i1' hd
          obtain ⟨u, hu2, iu⟩ := look_is t hl
          refine ⟨a, u, rfl, .inl ⟨ws, k, .inl q, key_is i2 hk, hu2.symm⟩, fun _ => h2 r2 H2 _ (StepE.refl _ _) sr2 iu⟩
      · exact h2.elim
    · exact h2.elim
theorem ms_dput (hG : X.K = G.K) (hu : X.A.units + 1 < cLine) (ho : PE X o (rd G W mo)) (hi : PE X i (rd G W mi)) (hv : PE X value (rd G W mv)) (hs : swapsWith value (some (.Subscript o i pos')) pos.line X.env = pure false := by rfl) :
    PS X (.Assign [.Subscript o i pos'] value pos) (rdS G W (putDS mo mi mv)) :=
  psI (ps_dput hu ho hi hv hs) fun D σ H _ ⟨r, S, e, sr, h⟩ => by
    rw [hG]
    refine bindS_rd sr h fun v S1 r1 H1 v1 st1 sr1 i1 h1 => ?_
    refine bindS_rd sr1 h1 fun x S2 r2 H2 v2 st2 sr2 i2 h2 => ?_
    refine bindS_rd sr2 h2 fun y S3 r3 H3 v3 st3 sr3 i3 h3 => ?_
    have i1' := (i1.step st2 sr1.st.noFrz).step st3 sr2.st.noFrz
    have i2' := i2.step st3 sr2.st.noFrz
    split at h3
    · rename_i n y0 v0
      obtain ⟨a, hat, rfl⟩ := i2'
      obtain ⟨m, hm, q⟩ := sr3.st.obj n a hat
      rw [hm] at h3
      match m, q, h3 with
      | .dic kvs, ⟨ws, hH, t⟩, h3 =>
        cases hk : keyOf y0 with
        | none => rw [hk] at h3; exact h3.elim
        | some k =>
          rw [hk] at h3
          replace h3 : SatS G W r3 H3 D (if kvs.length < sizeLine then .next e (S3.set n (.dic (putD kvs k v0))) else .bad) := h3
          split at h3
          · rename_i hz
            refine ⟨a, _, rfl, .inl ⟨ws, k, hH, key_is i3 hk, by rw [← t.len]; exact hz, rfl⟩, fun kf => ?_⟩
            obtain ⟨st, s2⟩ := SR.put (m := .dic (putD kvs k v0)) sr3 hat (fun st => ⟨_, upd_same, put_is (Is.step st.toStep sr3.st.noFrz i1') (t.step st.toStep sr3.st.noFrz)⟩) (fun xs => by rw [hH]; intro z; cases z) kf (by rw [hm]; rfl)
            exact h3 r3 _ σ st s2
          · exact h3.elim
      | .lst _, _, h3 => exact h3.elim
      | .ins _ _, _, h3 => exact h3.elim
    · exact h3.elim
end
end Mm
end

section
set_option Elab.async false
set_option linter.all false
set_option maxRecDepth 100000
namespace Mm
open PySem PySem.Spec PyProof.Rows L2

/-! ## repr of lists and tuples -/
theorem dp_of {G : GC} {r : Ads} {H : Hp} {S : Sto} {x : RV} {v : V} {y : PV} (s : StR G r H S) (i : RIs G r H x v) (h : pvOf x S = some y) (c : y.D.canLay0 = true) : Dp G.K H v y.D := by
  cases x with
  | p x => cases h; exact Is.dp i c
  | l n =>
    obtain ⟨a, ha, rfl⟩ := i
    obtain ⟨m, hm, q⟩ := s.obj n a ha
    have h : (S[n]?).map MO.pv = some _ := h
    rw [hm] at h
    cases h
    match m, q, c with
    | .lst xs, ⟨vs, q, t⟩, c =>
      unfold MO.pv PV.D at c ⊢
      exact .lst (SqL.of q) (IsAll.dp t (by simpa [PyData.canLay0] using c))
    | .dic _, _, c => unfold MO.pv PV.D at c; simp [PyData.canLay0] at c
    | .ins _ _, _, c => unfold MO.pv PV.D at c; simp [PyData.canLay0] at c
def isSeq : PV → Bool
  | .lst _ => true
  | .scr _ => true
  | .tup _ => true
  | _ => false
def reprOk (y : PV) : Bool := isSeq y && y.D.canLay0 && y.D.showable && decide (y.D.depth ≤ 64) && decide (y.D.shown.length ≤ sizeLine)
def fRepr : FC := fun xs S => match xs with
  | [x] => (match pvOf x S with
    | some y => if reprOk y then some (.str y.D.shown) else none
    | none => none)
  | _ => none
def rRepr (K : PySem.W.Frag) : List V → Hp → VK → Prop := fun xs H Q => ∃ (a : Addr) (d : PyData), xs = [.ref a] ∧ Dp K H (.ref a) d ∧ d.canLay0 = true ∧ d.showable = true ∧ d.depth ≤ 64 ∧ d.shown.length ≤ sizeLine ∧ Q (.str d.shown) H
theorem cr_repr {X : Cx} (hg : X.A.guards = some []) (hu : X.A.units + 65 < cLine) : CallR X (.builtin "repr") (rRepr X.K) := by
  intro pins s σ H xs us Q I r h
  obtain ⟨a, d, rfl, hd, hc, hs, hdp, hz, q⟩ := h
  obtain ⟨u, rfl, rx⟩ := vals1 r
  cases rx
  obtain ⟨as, rr⟩ := Dp.reads I d (.ref a) (.ref a) hd rfl
  refine repr_of_reads' rr hs (PyData.noDict_hsm (PyData.hasDict_of_canLay d hc)) hg (by omega) (fun _ _ e => e) (fun h' u tk hk => ?_) hz
  exact ⟨.str d.shown, H, I.kept (t' := tk) hk, ⟨u, rfl⟩, q⟩
theorem seq_ref {G : GC} {r : Ads} {H : Hp} {S : Sto} {x : RV} {v : V} {y : PV} (s : StR G r H S) (i : RIs G r H x v) (h : pvOf x S = some y) (c : isSeq y = true) : ∃ a, v = .ref a := by
  cases x with
  | l n => obtain ⟨a, _, e⟩ := i; exact ⟨a, e⟩
  | p x =>
    cases h
    have i : Is G r H y v := i
    cases y with
    | lst _ => unfold Is at i; obtain ⟨a, _, e, _⟩ := i; exact ⟨a, e⟩
    | scr _ => unfold Is at i; obtain ⟨a, _, e, _⟩ := i; exact ⟨a, e⟩
    | tup _ => unfold Is at i; obtain ⟨a, _, e, _⟩ := i; exact ⟨a, e⟩
    | _ => cases c
theorem sv_repr {G : GC} : ServesC G (rRepr G.K) fRepr := by
  intro r H S xs z vs Q st i hf k
  unfold fRepr at hf
  split at hf
  · rename_i x
    obtain ⟨v, rfl, q⟩ := i.one
    cases hp : pvOf x S with
    | none => rw [hp] at hf; cases hf
    | some y =>
      rw [hp] at hf
      dsimp only at hf
      split at hf
      · rename_i hok
        cases hf
        unfold reprOk at hok
        simp only [Bool.and_eq_true, decide_eq_true_eq] at hok
        obtain ⟨⟨⟨⟨h1, h2⟩, h3⟩, h4⟩, h5⟩ := hok
        obtain ⟨a, rfl⟩ := seq_ref st q hp h1
        exact ⟨a, y.D, rfl, dp_of st q hp h2, h2, h3, h4, h5, k _ H (.inl rfl) (by unfold Is; rfl)⟩
      · cases hf
  · cases hf
section
variable {X : Cx} {G : GC} {W : WX} {e : Expr} {na : MArg} {pos p : Pos}
theorem me_repr (hG : X.K = G.K) (hgd : X.A.guards = some []) (hu : X.A.units + 65 < cLine) (hg : Gl X "repr") (hm : X.mg "repr" = none) (ha : PA X [e] (rdA G W na)) (he : starEach [e] X.env = (false, eval e X.env) :: starEach [] X.env := by rfl) : PE X (.Call (.Name "repr" p) [e] [] pos) (rd G W (mB fRepr na)) :=
  me_callB hG (by rw [← hG]; exact cr_repr hgd hu) sv_repr hg hm (by decide +kernel) ha (he := he)
end
end Mm
end

section
set_option Elab.async false
set_option linter.all false
set_option maxRecDepth 100000
namespace Mm
open PySem PySem.Spec PyProof.Rows L2

/-! ## enumerate(zip(a, b)), dict(zip(a, b)): a zip whose tuples stay out -/
/-- a zip, whatever it keeps -/
abbrev ZipG (h : Heap) (z TI TO : Addr) (f0 f1 : Value) : Prop := h.get? z = some { cls := .type "zip", dict := none, data := .fields #[f0, f1, .bool false, .ref TI, .ref TO], slots := #[] }
def Keeps0 (f0 : Value) : Prop := f0 = .none ∨ ∃ T : Addr, f0 = rawInt T
def ZipAny (h : Heap) (z TI TO : Addr) : Prop := ∃ f0 f1, ZipG h z TI TO f0 (.bool f1) ∧ Keeps0 f0
def TwoAny (h : Heap) (T : Addr) : Prop := ∃ a b, IsTupOf2 h T a b
section
variable {prog : Program} {w : World} {A : Around} {E : Value → Shared → Prop} {z TI TO i1 i2 : Addr} {fp1 fp2 : List Addr} {n1 n2 i : Nat} {P1 P2 : Nat → Value → Prop} {St1 St2 : Nat → Heap → Prop}
/-- is its tuple free? either answer, the zip as it was but for its mark -/
theorem zip_free {s : Shared} {Q : Bool → Shared → Prop} (hz : ZipAny s.heap z TI TO) (h : ∀ b g, ZipAny g z TI TO → Heap.SameBut z s.heap g → Q b { s with heap := g }) : wpAny (model prog w) A (Builtin.SmallTypes.ownedTupleIsFree (.ref z)) Q E s := by
  obtain ⟨f0, f1, hz, hk⟩ := hz
  unfold Builtin.SmallTypes.ownedTupleIsFree
  rcases hk with rfl | ⟨T, rfl⟩
  · refine wpAny_bind (wpAny_field hz rfl (x := Value.none) rfl ?_)
    exact wpAny_pure (h true s.heap ⟨_, f1, hz, .inl rfl⟩ (Heap.SameBut.refl _ _))
  · refine wpAny_bind (wpAny_field hz rfl (x := rawInt T) rfl ?_)
    show wpAny _ _ (loadIfAlive ((T : Int).toNat) >>= _) _ _ s
    rw [Int.toNat_natCast]
    have alive : ∀ {R : Option Obj → Shared → Prop}, R (s.heap.get? T) s → wpAny (model prog w) A (loadIfAlive T) R E s := fun q => fun _ _ _ => q
    refine wpAny_bind (alive ?_)
    cases hT : s.heap.get? T with
    | none =>
      simp only [Option.isNone_none, if_true]
      exact wpAny_pure (h true s.heap ⟨_, f1, hz, .inr ⟨T, rfl⟩⟩ (Heap.SameBut.refl _ _))
    | some o =>
      simp only [Option.isNone_some, Bool.false_eq_true, if_false]
      refine wpAny_bind (wpAny_field hz rfl (x := .bool f1) rfl ?_)
      cases f1 with
      | true =>
        rw [if_neg (show ¬ ((Value.bool true != Value.bool true) = true) from Bool.false_ne_true)]
        exact wpAny_pure (h false s.heap ⟨_, true, hz, .inr ⟨T, rfl⟩⟩ (Heap.SameBut.refl _ _))
      | false =>
        rw [if_pos (show (Value.bool false != Value.bool true) = true from rfl)]
        refine wpAny_bind (wpAny_setField_rec hz (by simp) fun g1 hz1 hs1 => ?_)
        exact wpAny_pure (h false g1 ⟨_, true, hz1, .inr ⟨T, rfl⟩⟩ hs1)
theorem keeps_over {P : Nat → Value → Prop} {St : Nat → Heap → Prop} {it : Addr} {fp : List Addr} {n : Nat} (D : Draws prog w A it fp n P St) {j : Nat} {h h' : Heap} {x : Addr} (st : St j h) (hs : Heap.SameBut x h h') (hx : x ∉ fp) : St j h' := D.over st hs hx
/-- one more pair -/
theorem zip_any_item {s : Shared} {Q : Value → Shared → Prop} (S : ZipSep2 z TI TO i1 i2 fp1 fp2) (D1 : Draws prog w A i1 fp1 n1 P1 St1) (D2 : Draws prog w A i2 fp2 n2 P2 St2)
    (hz : ZipAny s.heap z TI TO) (hTI : IsTupOf2 s.heap TI (.ref i1) (.ref i2)) (hTO : TwoAny s.heap TO) (st1 : St1 i s.heap) (st2 : St2 i s.heap) (hlt1 : i < n1) (hlt2 : i < n2)
    (hQ : ∀ x1 x2 T g tk, P1 i x1 → P2 i x2 → ZipAny g z TI TO → TwoAny g TO → St1 (i + 1) g → St2 (i + 1) g → IsTupOf2 g T x1 x2 → s.heap.objs.size ≤ T → s.heap.objs.size ≤ g.objs.size →
      (∀ c o, c ≠ z → c ≠ TO → c ≠ i1 → c ≠ i2 → s.heap.get? c = some o → g.get? c = some o) → Q (.ref T) { s with heap := g, toks := tk }) :
    wpAny (model prog w) A (Builtin.«zip.__next__» ⟨[.ref z], []⟩) (fun fin s' => ∃ v, fin = .done (.ret v) ∧ Q v s') E s := by
  obtain ⟨hp, gn, dr, tk0, os⟩ := s
  obtain ⟨f0, f1, hzr, hk0⟩ := id hz
  show wpAny _ _ (field (.ref z) 2 >>= _) _ _ _
  refine wpAny_bind (wpAny_field hzr rfl (x := Value.bool false) rfl ?_)
  show wpAny _ _ (field (.ref z) 3 >>= _) _ _ _
  refine wpAny_bind (wpAny_field hzr rfl (x := Value.ref TI) rfl ?_)
  refine wpAny_bind (wpAny_seqItems hTI rfl ?_)
  show wpAny _ _ (Builtin.SmallTypes.ownedTupleIsFree (.ref z) >>= _) _ _ _
  refine wpAny_bind (zip_free hz fun b e0 hze hse => ?_)
  replace hse : Heap.SameBut z hp e0 := hse
  obtain ⟨k0, k1, hz0, hkk⟩ := hze
  have hTO0 : TwoAny e0 TO := let ⟨a, b, q⟩ := hTO; ⟨a, b, hse.extBut _ _ S.TOz q⟩
  have s10 : St1 i e0 := keeps_over D1 st1 hse S.zf1
  have s20 : St2 i e0 := keeps_over D2 st2 hse S.zf2
  cases b with
  | true =>
    simp only [if_true]
    refine wpAny_bind (wpAny_rule ?_)
    refine wpAny_bind (wpAny_field (s := ⟨e0, gn, dr, tk0, os⟩) hz0 rfl (x := Value.ref TO) rfl ?_)
    refine wpAny_bind (wpAny_setField_rec (s := ⟨e0, gn, dr, tk0, os⟩) hz0 (by simp) fun q0 hq0 hs0 => ?_)
    replace hs0 : Heap.SameBut z e0 q0 := hs0
    obtain ⟨b1, b2, hTO0⟩ := hTO0
    refine wpAny_bind ?_
    simp only [List.zipIdx_cons, List.zipIdx_nil, List.forIn_cons, List.forIn_nil]
    refine wpAny_bind (wpAny_bind (wpAny_onRaise ?_))
    show wpAny _ _ (Builtin.SmallTypes.nextOf (.ref i1) >>= _) _ _ ⟨q0, gn, dr, tk0, os⟩
    refine wpAny_bind (D1.item i _ _ _ hlt1 (keeps_over D1 s10 hs0 S.zf1) fun x1 p1 tk1 hx1 sn1 hp1 => wpAny_pure ?_)
    replace hp1 : Heap.SameBut i1 q0 p1 := hp1
    have u1 : IsTupOf2 p1 TO b1 b2 := hp1.extBut _ _ S.Ti1 (hs0.extBut _ _ S.TOz hTO0)
    refine wpAny_bind (wpAny_seqItems (s := ⟨p1, gn, dr, tk1, os⟩) u1 rfl ?_)
    refine wpAny_bind (updateSeq_IsTupOf2 (s := ⟨p1, gn, dr, tk1, os⟩) u1 fun q1 hT1 hs1 => ?_)
    replace hT1 : IsTupOf2 q1 TO x1 b2 := hT1
    replace hs1 : Heap.SameBut TO p1 q1 := hs1
    refine wpAny_bind (wpAny_letGo (wpAny_pure ?_))
    refine wpAny_bind (wpAny_bind (wpAny_onRaise ?_))
    show wpAny _ _ (Builtin.SmallTypes.nextOf (.ref i2) >>= _) _ _ ⟨q1, gn, dr, tk1, os⟩
    refine wpAny_bind (D2.item i _ _ _ hlt2 (keeps_over D2 (keeps_over D2 (keeps_over D2 s20 hs0 S.zf2) hp1 S.sep1_2) hs1 S.Tf2) fun x2 p2 tk2 hx2 sn2 hp2 => wpAny_pure ?_)
    replace hp2 : Heap.SameBut i2 q1 p2 := hp2
    have u2 : IsTupOf2 p2 TO x1 b2 := hp2.extBut _ _ S.Ti2 hT1
    refine wpAny_bind (wpAny_seqItems (s := ⟨p2, gn, dr, tk2, os⟩) u2 rfl ?_)
    refine wpAny_bind (updateSeq_IsTupOf2 (s := ⟨p2, gn, dr, tk2, os⟩) u2 fun q2 hT2 hs2 => ?_)
    replace hT2 : IsTupOf2 q2 TO x1 x2 := hT2
    replace hs2 : Heap.SameBut TO p2 q2 := hs2
    refine wpAny_bind (wpAny_letGo (wpAny_pure (wpAny_pure ?_)))
    refine wpAny_bind (wpAny_seqItems (s := ⟨q2, gn, dr, tk2, os⟩) hT2 rfl ?_)
    refine wpAny_bind (wpAny_newTuple ?_)
    have hsz : q2.objs.size = hp.objs.size := by rw [hs2.1, hp2.1, hs1.1, hp1.1, hs0.1, hse.1]
    have zz : ZipG q2 z TI TO .ellipsis (.bool k1) := hs2.extBut _ _ S.TOz.symm (hp2.extBut _ _ S.zi2 (hs1.extBut _ _ S.TOz.symm (hp1.extBut _ _ S.zi1 hq0)))
    have kk : ∀ c o, c ≠ z → c ≠ TO → c ≠ i1 → c ≠ i2 → hp.get? c = some o → q2.get? c = some o := fun c o cz cT c1 c2 e => hs2.extBut _ _ cT (hp2.extBut _ _ c2 (hs1.extBut _ _ cT (hp1.extBut _ _ c1 (hs0.extBut _ _ cz (hse.extBut _ _ cz e)))))
    have j1 : St1 (i + 1) q2 := keeps_over D1 (keeps_over D1 (keeps_over D1 sn1 hs1 S.Tf1) hp2 S.sep2_1) hs2 S.Tf1
    have j2 : St2 (i + 1) q2 := keeps_over D2 sn2 hs2 S.Tf2
    have zlt : z < q2.objs.size := Heap.lt_size zz
    show wpAny _ _ (Builtin.SmallTypes.ownedTupleHandOut (.ref z) (.ref q2.objs.size) >>= _) _ _ ⟨q2.push { cls := .type "tuple", data := .seq #[x1, x2] }, gn, dr, tk2, os⟩
    refine wpAny_bind ?_
    unfold Builtin.SmallTypes.ownedTupleHandOut
    have z6 : ZipG (q2.push { cls := .type "tuple", data := .seq #[x1, x2] }) z TI TO .ellipsis (.bool k1) := Heap.get?_push_of_some _ zz
    refine wpAny_bind (wpAny_setField_rec z6 (by simp) fun h7 z7 s7 => ?_)
    replace z7 : ZipG h7 z TI TO (rawInt q2.objs.size) (.bool k1) := z7
    refine wpAny_setField_rec z7 (by simp) fun h8 z8 s8 => ?_
    replace z8 : ZipG h8 z TI TO (rawInt q2.objs.size) (.bool false) := z8
    replace s7 : Heap.SameBut z (q2.push { cls := .type "tuple", data := .seq #[x1, x2] }) h7 := s7
    replace s8 : Heap.SameBut z h7 h8 := s8
    have up : ∀ c o, c ≠ z → q2.get? c = some o → h8.get? c = some o := fun c o c1 e => s8.extBut _ _ c1 (s7.extBut _ _ c1 (Heap.get?_push_of_some _ e))
    have T8 : IsTupOf2 h8 q2.objs.size x1 x2 := s8.extBut _ _ (Nat.ne_of_gt zlt) (s7.extBut _ _ (Nat.ne_of_gt zlt) (Heap.get?_push_size _ rfl))
    have sz8 : h8.objs.size = q2.objs.size + 1 := by rw [s8.1, s7.1, Heap.size_push]
    refine wpAny_pure ⟨_, rfl, ?_⟩
    exact hQ x1 x2 q2.objs.size h8 tk2 hx1 hx2 ⟨_, false, z8, .inr ⟨_, rfl⟩⟩ ⟨_, _, up _ _ S.TOz hT2⟩ (D1.frame _ _ _ j1 fun b hb o e => up b o (fun q => S.zf1 (q ▸ hb)) e) (D2.frame _ _ _ j2 fun b hb o e => up b o (fun q => S.zf2 (q ▸ hb)) e) T8
      (Nat.le_of_eq hsz.symm) (by rw [sz8, hsz]; exact Nat.le_succ _) fun c o cz cT c1 c2 e => up c o cz (kk c o cz cT c1 c2 e)
  | false =>
    simp only [Bool.false_eq_true, if_false]
    refine wpAny_bind ?_
    rw [← Array.forIn_toList]
    simp only [List.forIn_cons, List.forIn_nil]
    refine wpAny_bind (wpAny_bind (wpAny_holding ?_))
    show wpAny _ _ (Builtin.SmallTypes.nextOf (.ref i1) >>= _) _ _ ⟨e0, gn, dr, tk0, os⟩
    refine wpAny_bind (D1.item i _ _ _ hlt1 s10 fun x1 p1 tk1 hx1 sn1 hp1 => wpAny_pure ?_)
    replace hp1 : Heap.SameBut i1 e0 p1 := hp1
    refine wpAny_pure ?_
    refine wpAny_bind (wpAny_bind (wpAny_holding ?_))
    show wpAny _ _ (Builtin.SmallTypes.nextOf (.ref i2) >>= _) _ _ ⟨p1, gn, dr, tk1, os⟩
    refine wpAny_bind (D2.item i _ _ _ hlt2 (keeps_over D2 s20 hp1 S.sep1_2) fun x2 p2 tk2 hx2 sn2 hp2 => wpAny_pure ?_)
    replace hp2 : Heap.SameBut i2 p1 p2 := hp2
    refine wpAny_pure (wpAny_pure ?_)
    show wpAny _ _ (newTuple [x1, x2] >>= _) _ _ ⟨p2, gn, dr, tk2, os⟩
    refine wpAny_bind (wpAny_newTuple ?_)
    have hsz : p2.objs.size = hp.objs.size := by rw [hp2.1, hp1.1, hse.1]
    have zz : ZipG p2 z TI TO k0 (.bool k1) := hp2.extBut _ _ S.zi2 (hp1.extBut _ _ S.zi1 hz0)
    have TT : TwoAny p2 TO := let ⟨a, b, q⟩ := hTO0; ⟨a, b, hp2.extBut _ _ S.Ti2 (hp1.extBut _ _ S.Ti1 q)⟩
    have kk : ∀ c o, c ≠ z → c ≠ TO → c ≠ i1 → c ≠ i2 → hp.get? c = some o → p2.get? c = some o := fun c o cz cT c1 c2 e => hp2.extBut _ _ c2 (hp1.extBut _ _ c1 (hse.extBut _ _ cz e))
    have j1 : St1 (i + 1) p2 := keeps_over D1 sn1 hp2 S.sep2_1
    have up : ∀ c o, p2.get? c = some o → (p2.push { cls := .type "tuple", data := .seq #[x1, x2] }).get? c = some o := fun c o e => Heap.get?_push_of_some _ e
    refine wpAny_pure ⟨_, rfl, ?_⟩
    exact hQ x1 x2 p2.objs.size _ tk2 hx1 hx2 ⟨_, k1, up _ _ zz, hkk⟩ (let ⟨a, b, q⟩ := TT; ⟨a, b, up _ _ q⟩) (D1.frame _ _ _ j1 fun b hb o e => up b o e) (D2.frame _ _ _ sn2 fun b hb o e => up b o e) (Heap.get?_push_size _ rfl)
      (Nat.le_of_eq hsz.symm) (by rw [Heap.size_push, hsz]; exact Nat.le_succ _) fun c o cz cT c1 c2 e => up c o (kk c o cz cT c1 c2 e)

/-- no more pairs -/
theorem zip_any_end {s : Shared} {Q : Fin → Shared → Prop} (S : ZipSep2 z TI TO i1 i2 fp1 fp2) (D1 : Draws prog w A i1 fp1 n1 P1 St1) (D2 : Draws prog w A i2 fp2 n2 P2 St2)
    (hz : ZipAny s.heap z TI TO) (hTI : IsTupOf2 s.heap TI (.ref i1) (.ref i2)) (hTO : TwoAny s.heap TO) (st1 : St1 i s.heap) (st2 : St2 i s.heap) (hle1 : i ≤ n1) (hle2 : i ≤ n2) (hend : i = n1 ∨ i = n2)
    (hE : ∀ g tk e, (∀ c o, c ≠ z → c ≠ TO → c ≠ i1 → c ≠ i2 → s.heap.get? c = some o → g.get? c = some o) → (∃ o, g.get? e = some o ∧ o.cls = .type "StopIteration") → E (.ref e) { s with heap := g, toks := tk }) :
    wpAny (model prog w) A (Builtin.«zip.__next__» ⟨[.ref z], []⟩) Q E s := by
  obtain ⟨hp, gn, dr, tk0, os⟩ := s
  obtain ⟨f0, f1, hzr, hk0⟩ := id hz
  show wpAny _ _ (field (.ref z) 2 >>= _) _ _ _
  refine wpAny_bind (wpAny_field hzr rfl (x := Value.bool false) rfl ?_)
  show wpAny _ _ (field (.ref z) 3 >>= _) _ _ _
  refine wpAny_bind (wpAny_field hzr rfl (x := Value.ref TI) rfl ?_)
  refine wpAny_bind (wpAny_seqItems hTI rfl ?_)
  show wpAny _ _ (Builtin.SmallTypes.ownedTupleIsFree (.ref z) >>= _) _ _ _
  refine wpAny_bind (zip_free hz fun b e0 hze hse => ?_)
  replace hse : Heap.SameBut z hp e0 := hse
  obtain ⟨k0, k1, hz0, hkk⟩ := hze
  have hTO0 : TwoAny e0 TO := let ⟨a, b, q⟩ := hTO; ⟨a, b, hse.extBut _ _ S.TOz q⟩
  have s10 : St1 i e0 := keeps_over D1 st1 hse S.zf1
  have s20 : St2 i e0 := keeps_over D2 st2 hse S.zf2
  cases b with
  | true =>
    simp only [if_true]
    refine wpAny_bind (wpAny_rule ?_)
    refine wpAny_bind (wpAny_field (s := ⟨e0, gn, dr, tk0, os⟩) hz0 rfl (x := Value.ref TO) rfl ?_)
    refine wpAny_bind (wpAny_setField_rec (s := ⟨e0, gn, dr, tk0, os⟩) hz0 (by simp) fun q0 hq0 hs0 => ?_)
    replace hs0 : Heap.SameBut z e0 q0 := hs0
    replace hq0 : ZipG q0 z TI TO .ellipsis (.bool k1) := hq0
    obtain ⟨b1, b2, hTO0⟩ := hTO0
    refine wpAny_bind ?_
    simp only [List.zipIdx_cons, List.zipIdx_nil, List.forIn_cons, List.forIn_nil]
    refine wpAny_bind (wpAny_bind (wpAny_onRaise ?_))
    show wpAny _ _ (Builtin.SmallTypes.nextOf (.ref i1) >>= _) _ _ ⟨q0, gn, dr, tk0, os⟩
    have fin : ∀ (tk : Nat) (q : Heap) (e : Addr), ZipG q z TI TO .ellipsis (.bool k1) → (∀ c o, c ≠ z → c ≠ TO → c ≠ i1 → c ≠ i2 → hp.get? c = some o → q.get? c = some o) → (∃ o, q.get? e = some o ∧ o.cls = .type "StopIteration") →
        wpAny (model prog w) A (setField (.ref z) 0 .none) (fun _ s2 => E (.ref e) s2) E ⟨q, gn, dr, tk, os⟩ := fun tk q e hq hk he => by
      obtain ⟨oe, hoe, hce⟩ := he
      have hez : e ≠ z := fun x => by
        subst x
        rw [hq] at hoe
        cases hoe
        simp at hce
      refine wpAny_setField_rec (s := ⟨q, gn, dr, tk, os⟩) hq (by simp) fun q2 _ hs2 => ?_
      replace hs2 : Heap.SameBut z q q2 := hs2
      exact hE q2 tk e (fun c o cz cT c1 c2 x => hs2.extBut _ _ cz (hk c o cz cT c1 c2 x)) ⟨oe, hs2.extBut _ _ hez hoe, hce⟩
    by_cases hlt1 : i < n1
    · refine wpAny_bind (D1.item i _ _ _ hlt1 (keeps_over D1 s10 hs0 S.zf1) fun x1 p1 tk1 hx1 sn1 hp1 => wpAny_pure ?_)
      replace hp1 : Heap.SameBut i1 q0 p1 := hp1
      have u1 : IsTupOf2 p1 TO b1 b2 := hp1.extBut _ _ S.Ti1 (hs0.extBut _ _ S.TOz hTO0)
      refine wpAny_bind (wpAny_seqItems (s := ⟨p1, gn, dr, tk1, os⟩) u1 rfl ?_)
      refine wpAny_bind (updateSeq_IsTupOf2 (s := ⟨p1, gn, dr, tk1, os⟩) u1 fun q1 hT1 hs1 => ?_)
      replace hs1 : Heap.SameBut TO p1 q1 := hs1
      refine wpAny_bind (wpAny_letGo (wpAny_pure ?_))
      have hi2 : i = n2 := by omega
      refine wpAny_bind (wpAny_bind (wpAny_onRaise ?_))
      show wpAny _ _ (Builtin.SmallTypes.nextOf (.ref i2) >>= _) _ _ ⟨q1, gn, dr, tk1, os⟩
      refine wpAny_bind (D2.done ⟨q1, gn, dr, tk1, os⟩ _ _ (by rw [← hi2]; exact keeps_over D2 (keeps_over D2 (keeps_over D2 s20 hs0 S.zf2) hp1 S.sep1_2) hs1 S.Tf2) fun q e hq he => ?_)
      replace hq : Heap.ExtBut i2 q1 q := hq
      exact fin tk1 q e (hq _ _ S.zi2 (hs1.extBut _ _ S.TOz.symm (hp1.extBut _ _ S.zi1 hq0))) (fun c o cz cT c1 c2 x => hq _ _ c2 (hs1.extBut _ _ cT (hp1.extBut _ _ c1 (hs0.extBut _ _ cz (hse.extBut _ _ cz x))))) he
    · have hi1 : i = n1 := by omega
      refine wpAny_bind (D1.done ⟨q0, gn, dr, tk0, os⟩ _ _ (by rw [← hi1]; exact keeps_over D1 s10 hs0 S.zf1) fun q e hq he => ?_)
      replace hq : Heap.ExtBut i1 q0 q := hq
      exact fin tk0 q e (hq _ _ S.zi1 hq0) (fun c o cz cT c1 c2 x => hq _ _ c1 (hs0.extBut _ _ cz (hse.extBut _ _ cz x))) he
  | false =>
    simp only [Bool.false_eq_true, if_false]
    refine wpAny_bind ?_
    rw [← Array.forIn_toList]
    simp only [List.forIn_cons, List.forIn_nil]
    refine wpAny_bind (wpAny_bind (wpAny_holding ?_))
    show wpAny _ _ (Builtin.SmallTypes.nextOf (.ref i1) >>= _) _ _ ⟨e0, gn, dr, tk0, os⟩
    by_cases hlt1 : i < n1
    · refine wpAny_bind (D1.item i _ _ _ hlt1 s10 fun x1 p1 tk1 hx1 sn1 hp1 => wpAny_pure ?_)
      replace hp1 : Heap.SameBut i1 e0 p1 := hp1
      refine wpAny_pure ?_
      have hi2 : i = n2 := by omega
      refine wpAny_bind (wpAny_bind (wpAny_holding ?_))
      show wpAny _ _ (Builtin.SmallTypes.nextOf (.ref i2) >>= _) _ _ ⟨p1, gn, dr, tk1, os⟩
      refine wpAny_bind (D2.done ⟨p1, gn, dr, tk1, os⟩ _ _ (by rw [← hi2]; exact keeps_over D2 s20 hp1 S.sep1_2) fun q e hq he => ?_)
      replace hq : Heap.ExtBut i2 p1 q := hq
      exact hE q tk1 e (fun c o cz cT c1 c2 x => hq _ _ c2 (hp1.extBut _ _ c1 (hse.extBut _ _ cz x))) he
    · have hi1 : i = n1 := by omega
      refine wpAny_bind (D1.done ⟨e0, gn, dr, tk0, os⟩ _ _ (by rw [← hi1]; exact s10) fun q e hq he => ?_)
      replace hq : Heap.ExtBut i1 e0 q := hq
      exact hE q tk0 e (fun c o cz cT c1 c2 x => hq _ _ c1 (hse.extBut _ _ cz x)) he
/-- one more counted item, whatever is drawn -/
theorem enum_any_item {s : Shared} {e it : Addr} {c : Int} {old : Value} {wr : List Addr} {R : Value → Heap → Prop} {Q : Option Value → Shared → Prop} (he : IsEnum s.heap e it c old) (hew : e ∉ wr)
    (hnext : ∀ (Q : Value → Shared → Prop) (E : Value → Shared → Prop), (∀ x g tk, R x g → (∀ b o, b ∉ wr → s.heap.get? b = some o → g.get? b = some o) → s.heap.objs.size ≤ g.objs.size → Q x { s with heap := g, toks := tk }) → wpAny (model prog w) A.in1 (Builtin.SmallTypes.nextOf (.ref it)) Q E s)
    (hQ : ∀ x g tk h, R x g → (∀ b o, b ∉ wr → s.heap.get? b = some o → g.get? b = some o) → s.heap.objs.size ≤ g.objs.size → IsEnumOut h e it (c + 1) x g.objs.size → h.get? g.objs.size = some { cls := .type "tuple", data := .seq #[.int c tk, x] } →
      (∀ b o, b ≠ e → g.get? b = some o → h.get? b = some o) → Q (some (.ref g.objs.size)) { s with heap := h, toks := tk + 1 }) : wpAny (model prog w) A (pyNext (.ref e)) Q E s := by
  have hT : s.TypeIs (.ref e) "enumerate" := ⟨_, he, rfl⟩
  unfold pyNext
  refine wpAny_bind (wpAny_attempt (wpAny_callSpecial?_slot (name := Str.ofString "__next__") hT F.slot_enumerate_next (wpAny_call_entry F.slot_enumerate_next hT F.entry_enumerate_next ?_ (F.args_enumerate_next_1 _))))
  obtain ⟨hp, gn, dr, tk0, os⟩ := s
  show wpAny _ _ (field (.ref e) 2 >>= _) _ _ _
  refine wpAny_bind (wpAny_field he rfl (x := Value.ref it) rfl ?_)
  refine wpAny_bind (hnext _ _ fun x h1 tk hR hk hle => ?_)
  have e1 : IsEnum h1 e it c old := hk e _ hew he
  show wpAny _ _ (field (.ref e) 3 >>= _) _ _ ⟨h1, gn, dr, tk, os⟩
  refine wpAny_bind (wpAny_field (s := ⟨h1, gn, dr, tk, os⟩) e1 rfl (x := rawInt c) rfl ?_)
  show wpAny _ _ (field (.ref e) 4 >>= _) _ _ ⟨h1, gn, dr, tk, os⟩
  refine wpAny_bind (wpAny_field (s := ⟨h1, gn, dr, tk, os⟩) e1 rfl (x := Value.none) rfl ?_)
  show wpAny _ _ (mkInt c >>= _) _ _ ⟨h1, gn, dr, tk, os⟩
  refine wpAny_bind (wpAny_mkInt ?_)
  show wpAny _ _ (setField (.ref e) 3 (rawInt (c + 1)) >>= _) _ _ ⟨h1, gn, dr, tk + 1, os⟩
  refine wpAny_bind (wpAny_setField_rec (s := ⟨h1, gn, dr, tk + 1, os⟩) e1 (by simp) fun h2 e2 s2 => ?_)
  replace s2 : Heap.SameBut e h1 h2 := s2
  replace e2 : IsEnum h2 e it (c + 1) old := e2
  show wpAny _ _ (setField (.ref e) 4 .none >>= _) _ _ ⟨h2, gn, dr, tk + 1, os⟩
  refine wpAny_bind (wpAny_setField_rec (s := ⟨h2, gn, dr, tk + 1, os⟩) e2 (by simp) fun h3 e3 s3 => ?_)
  replace s3 : Heap.SameBut e h2 h3 := s3
  replace e3 : IsEnum h3 e it (c + 1) old := e3
  show wpAny _ _ (newTuple [.int c tk, x] >>= _) _ _ ⟨h3, gn, dr, tk + 1, os⟩
  refine wpAny_bind (wpAny_newTuple ?_)
  have hsz : h3.objs.size = h1.objs.size := by rw [s3.1, s2.1]
  have e4 : IsEnum (h3.push { cls := .type "tuple", data := .seq #[.int c tk, x] }) e it (c + 1) old := Heap.get?_push_of_some _ e3
  have t4 : (h3.push { cls := .type "tuple", data := .seq #[.int c tk, x] }).get? h1.objs.size = some { cls := .type "tuple", data := .seq #[.int c tk, x] } := by rw [← hsz]; exact Heap.get?_push_size _ rfl
  have k4 : ∀ b o, b ≠ e → h1.get? b = some o → (h3.push { cls := .type "tuple", data := .seq #[.int c tk, x] }).get? b = some o := fun b o hb q => Heap.get?_push_of_some _ (s3.extBut b o hb (s2.extBut b o hb q))
  have hel : e < h1.objs.size := Heap.lt_size e1
  show wpAny _ _ (Builtin.SmallTypes.ownedTupleIsFree (.ref e) >>= _) _ _ ⟨h3.push { cls := .type "tuple", data := .seq #[.int c tk, x] }, gn, dr, tk + 1, os⟩
  rw [hsz]
  generalize h3.push { cls := .type "tuple", data := .seq #[.int c tk, x] } = h4 at e4 t4 k4
  refine wpAny_bind ?_
  unfold Builtin.SmallTypes.ownedTupleIsFree
  refine wpAny_bind (wpAny_field (s := ⟨h4, gn, dr, tk + 1, os⟩) e4 rfl (x := Value.none) rfl (wpAny_pure ?_))
  simp only [if_true]
  refine wpAny_bind (wpAny_rule ?_)
  refine wpAny_bind (wpAny_field (s := ⟨h4, gn, dr, tk + 1, os⟩) e4 rfl (x := old) rfl ?_)
  refine wpAny_bind (wpAny_setField_rec (s := ⟨h4, gn, dr, tk + 1, os⟩) e4 (by simp) fun h5 e5 s5 => ?_)
  replace s5 : Heap.SameBut e h4 h5 := s5
  replace e5 : IsEnum h5 e it (c + 1) x := e5
  show wpAny _ _ (Builtin.SmallTypes.ownedTupleHandOut (.ref e) (.ref h1.objs.size) >>= _) _ _ ⟨h5, gn, dr, tk + 1, os⟩
  refine wpAny_bind ?_
  unfold Builtin.SmallTypes.ownedTupleHandOut
  refine wpAny_bind (wpAny_setField_rec (s := ⟨h5, gn, dr, tk + 1, os⟩) e5 (by simp) fun h6 e6 s6 => ?_)
  replace s6 : Heap.SameBut e h5 h6 := s6
  replace e6 : IsEnumOut h6 e it (c + 1) x h1.objs.size := e6
  refine wpAny_setField_rec (s := ⟨h6, gn, dr, tk + 1, os⟩) e6 (by simp) fun h7 e7 s7 => ?_
  replace s7 : Heap.SameBut e h6 h7 := s7
  replace e7 : IsEnumOut h7 e it (c + 1) x h1.objs.size := e7
  have k7 : ∀ b o, b ≠ e → h4.get? b = some o → h7.get? b = some o := fun b o hb q => s7.extBut b o hb (s6.extBut b o hb (s5.extBut b o hb q))
  refine wpAny_bind (wpAny_letGo (wpAny_pure ⟨_, rfl, ?_⟩))
  exact wpAny_pure (hQ x h1 tk h7 hR hk hle e7 (k7 _ _ (Nat.ne_of_gt hel) t4) fun b o hb q => k7 b o hb (k4 b o hb q))
theorem enum_any_end {s : Shared} {e it : Addr} {c : Int} {old : Value} {R : Heap → Nat → Prop} {Q : Option Value → Shared → Prop} (he : IsEnum s.heap e it c old)
    (hnext : ∀ (Q : Value → Shared → Prop) (E : Value → Shared → Prop), (∀ g tk x, R g tk → (∃ o, g.get? x = some o ∧ o.cls = .type "StopIteration") → E (.ref x) { s with heap := g, toks := tk }) → wpAny (model prog w) A.in1 (Builtin.SmallTypes.nextOf (.ref it)) Q E s)
    (hQ : ∀ g tk, R g tk → Q none { s with heap := g, toks := tk }) : wpAny (model prog w) A (pyNext (.ref e)) Q E s := by
  have hT : s.TypeIs (.ref e) "enumerate" := ⟨_, he, rfl⟩
  unfold pyNext
  refine wpAny_bind (wpAny_attempt (wpAny_callSpecial?_slot (name := Str.ofString "__next__") hT F.slot_enumerate_next (wpAny_call_entry F.slot_enumerate_next hT F.entry_enumerate_next ?_ (F.args_enumerate_next_1 _))))
  show wpAny _ _ (field (.ref e) 2 >>= _) _ _ _
  refine wpAny_bind (wpAny_field he rfl (x := Value.ref it) rfl ?_)
  refine wpAny_bind (hnext _ _ fun g tk x hR hx => ?_)
  obtain ⟨o, ho, hc⟩ := hx
  refine wpAny_bind (wpAny_isInstance (T := "StopIteration") (b := true) ⟨o, ho, hc⟩ isSubtype_stop ?_)
  exact wpAny_pure (hQ g tk hR)
/-- the zip drawn from within -/
theorem next_zip {s : Shared} {Q : Value → Shared → Prop} (hz : ZipAny s.heap z TI TO) (h : wpAny (model prog w) A.in1 (Builtin.«zip.__next__» ⟨[.ref z], []⟩) (fun fin s' => ∃ v, fin = .done (.ret v) ∧ Q v s') E s) : wpAny (model prog w) A (Builtin.SmallTypes.nextOf (.ref z)) Q E s := by
  obtain ⟨f0, f1, hz, _⟩ := hz
  have hT : s.TypeIs (.ref z) "zip" := ⟨_, hz, rfl⟩
  unfold Builtin.SmallTypes.nextOf
  refine wpAny_bind (wpAny_callSpecial?_slot (name := Str.ofString "__next__") hT F.slot_zip_next (wpAny_call_entry F.slot_zip_next hT F.entry_zip_next ?_ (F.args_zip_next_1 _)))
  exact thn h fun fin s' ⟨v, e, q⟩ => ⟨v, e, wpAny_pure q⟩
end
end Mm
end

section
set_option Elab.async false
set_option linter.all false
set_option maxRecDepth 100000
namespace Mm
open PySem PySem.Spec PyProof.Rows L2

/-! ## for i, (a, b) in enumerate(zip(..)) -/
/-- the counted pairs: two new tuples a turn -/
def Jez (K : PySem.W.Frag) (Ss : List Src) : It :=
  ⟨fun i H => ∃ r, RowZ K Ss H i r, fun i H v H' => ∃ T0 T o0 o r, v = .ref T ∧ H T0 = none ∧ T ≠ T0 ∧ H T = none ∧ Obj.dict o0 = none ∧ Obj.dict o = none ∧ H' = upd (upd H T0 (.frz o0 (.tup r))) T (.frz o (.tup [.int (i : Nat), .ref T0])) ∧ ∀ r', RowZ K Ss H i r' → r' = r, fun i H => FinZ K Ss H i⟩
theorem RowZ.two {K : PySem.W.Frag} {S1 S2 : Src} {H : Hp} {i : Nat} : ∀ {r : List V}, RowZ K [S1, S2] H i r → ∃ a b u v, r = [u, v] ∧ S1.Val K H a ∧ S2.Val K H b ∧ a[i]? = some u ∧ b[i]? = some v
  | _, ⟨_, .cons v1 (.cons v2 .nil), .cons x1 (.cons x2 .nil)⟩ => ⟨_, _, _, _, rfl, v1, v2, x1, x2⟩
theorem turn_ez {P : Program} {w : World} {K : PySem.W.Frag} {elts : List Expr} {kk : Nat} {tpos : Pos} (S1 S2 : Src) (e z TI TO i1 i2 : Addr) (za : ZA z TI TO [i1, i2] [S1, S2]) (he1 : e ∉ [z, TI, TO, i1, i2]) :
    Turn P w K (.Tuple elts kk tpos) (Jez K [S1, S2]) [e, z, TI, TO, i1, i2] e (fun i h => (∃ old, IsEnum h e z (0 + ((i : Nat) : Int)) old) ∧ ZipAny h z TI TO ∧ IsTupOf2 h TI (.ref i1) (.ref i2) ∧ TwoAny h TO ∧ S1.At i1 i h ∧ S2.At i2 i h) := by
  have h12 : i1 ≠ i2 := by have := za.nd; simp at this; exact this
  have sep : ∀ {X : Cx} {s : Shared} {i : Nat} {xs ys : List V} {A : Around} {f1 f2 n1 n2 P1 P2 T1 T2}, SD X.prog X.w A S1 i1 xs s i f1 n1 P1 T1 → SD X.prog X.w A S2 i2 ys s i f2 n2 P2 T2 → ZipSep2 z TI TO i1 i2 f1 f2 := fun d1 d2 =>
    { TIz := za.TIz, TOz := za.TOz, TITO := za.TITO, TIi1 := za.nTI _ (by simp), mem1 := d1.mem, zf1 := d1.off (za.nz _ (by simp)) (za.aS _ (by simp) _ (by simp)), Tf1 := d1.off (za.nTO _ (by simp)) (za.aS _ (by simp) _ (by simp)),
      TIi2 := za.nTI _ (by simp), mem2 := d2.mem, zf2 := d2.off (za.nz _ (by simp)) (za.aS _ (by simp) _ (by simp)), Tf2 := d2.off (za.nTO _ (by simp)) (za.aS _ (by simp) _ (by simp)),
      sep1_2 := d2.off h12 (za.aS _ (by simp) _ (by simp)), sep2_1 := d1.off (Ne.symm h12) (za.aS _ (by simp) _ (by simp)) }
  have ez : e ≠ z ∧ e ≠ TI ∧ e ≠ TO ∧ e ≠ i1 ∧ e ≠ i2 := by simp at he1; exact ⟨he1.1, he1.2.1, he1.2.2.1, he1.2.2.2.1, he1.2.2.2.2⟩
  obtain ⟨ez0, eTI, eTO, e1', e2'⟩ := ez
  refine ⟨by simp, ?_, ?_, ?_, ?_, ?_⟩
  · intro i h ⟨⟨old, he⟩, ⟨f0, f1, hz, _⟩, hTI, ⟨a, b, hTO⟩, h1, h2⟩ c hc
    have e' : c = e ∨ c = z ∨ c = TI ∨ c = TO ∨ c = i1 ∨ c = i2 := by simpa using hc
    rcases e' with q | q | q | q | q | q
    · rw [q]; exact ⟨_, he, fun v q => nomatch q⟩
    · rw [q]; exact ⟨_, hz, fun v q => nomatch q⟩
    · rw [q]; exact ⟨_, hTI, fun v q => nomatch q⟩
    · rw [q]; exact ⟨_, hTO, fun v q => nomatch q⟩
    · rw [q]; exact h1.there
    · rw [q]; exact h2.there
  · intro i h h' ⟨⟨old, he⟩, ⟨f0, f1, hz, hk⟩, hTI, ⟨a, b, hTO⟩, h1, h2⟩ k
    exact ⟨⟨old, k e (by simp) _ he⟩, ⟨f0, f1, k z (by simp) _ hz, hk⟩, k TI (by simp) _ hTI, ⟨a, b, k TO (by simp) _ hTO⟩, h1.stay fun o q => k i1 (by simp) o q, h2.stay fun o q => k i2 (by simp) o q⟩
  · intro X hP hw hK hc i pins s σ H E I hf ⟨⟨old, he⟩, hz, hTI, hTO, h1, h2⟩ ⟨r, hr⟩
    subst hP hw hK
    obtain ⟨xs1, xs2, w1, w2, er, v1, v2, x1, x2⟩ := hr.two
    subst er
    obtain ⟨f1, n1, P1, T1, d1⟩ := Src.sd I (A := X.A.in1.in1) (I.ok.hd hc) v1 h1
    obtain ⟨f2, n2, P2, T2, d2⟩ := Src.sd I (A := X.A.in1.in1) (I.ok.hd hc) v2 h2
    have S := sep d1 d2
    have l1 : i < n1 := by rw [d1.n]; exact (List.getElem?_eq_some_iff.mp x1).1
    have l2 : i < n2 := by rw [d2.n]; exact (List.getElem?_eq_some_iff.mp x2).1
    have hel : e < s.heap.objs.size := Heap.lt_size he
    refine enum_any_item (wr := [z, TO, i1, i2]) (R := fun x g => ∃ T0 y1 y2, x = .ref T0 ∧ P1 i y1 ∧ P2 i y2 ∧ IsTupOf2 g T0 y1 y2 ∧ s.heap.objs.size ≤ T0 ∧ ZipAny g z TI TO ∧ TwoAny g TO ∧ S1.At i1 (i + 1) g ∧ S2.At i2 (i + 1) g) he (by simp; exact ⟨ez0, eTO, e1', e2'⟩)
      (fun Q E q => next_zip hz (zip_any_item S d1.D d2.D hz hTI hTO d1.st d2.st l1 l2 fun y1 y2 T0 g tk p1 p2 hz' hTO' c1 c2 hT0 hge hgs hk => q _ g tk ⟨T0, y1, y2, rfl, p1, p2, hT0, hge, hz', hTO', d1.at_ _ _ c1, d2.at_ _ _ c2⟩
        (fun b o hb q => hk b o (fun w => hb (by simp [w])) (fun w => hb (by simp [w])) (fun w => hb (by simp [w])) (fun w => hb (by simp [w])) q) hgs)) ?_
    rintro x g tk h ⟨T0, y1, y2, rfl, p1, p2, hT0, hge, hz', hTO', a1, a2⟩ hk hgs heo hT hk2
    obtain ⟨u1, e1, r1⟩ := d1.rel i y1 p1
    obtain ⟨u2, e2, r2⟩ := d2.rel i y2 p2
    rw [x1] at e1
    rw [x2] at e2
    cases e1
    cases e2
    refine ⟨_, rfl, ?_⟩
    refine wpAny_letOwnedTupleGo_enum (s := { s with heap := h, toks := tk + 1 }) heo fun h2' he2 sb => ?_
    have T0lt : T0 < g.objs.size := Heap.lt_size hT0
    have T0e : T0 ≠ e := fun w => by rw [w] at hge; exact Nat.lt_irrefl _ (Nat.lt_of_lt_of_le hel hge)
    have kg : ∀ b o, b ≠ e → g.get? b = some o → h2'.get? b = some o := fun b o hb q => (sb.2 b hb).trans (hk2 b o hb q)
    have new0 : ObjOk X.prog X.w (upd H T0 (.frz { cls := .type "tuple", data := .seq #[y1, y2] } (.tup [w1, w2]))) g T0 (.frz { cls := .type "tuple", data := .seq #[y1, y2] } (.tup [w1, w2])) :=
      ⟨hT0, by show 2 ≤ sizeLine; decide, [y1, y2], .cons r1 (.cons r2 .nil), ⟨_, hT0, rfl, _, rfl⟩⟩
    have I1 : L2.Inv X pins σ (upd H T0 (.frz { cls := .type "tuple", data := .seq #[y1, y2] } (.tup [w1, w2]))) { s with heap := g, toks := tk } :=
      I.turnedNew (ch := [z, TO, i1, i2]) hk (fun b hb => hf b (by simp at hb ⊢; rcases hb with w | w | w | w <;> simp [w])) hge new0
    have hTT : h2'.get? g.objs.size = some { cls := .type "tuple", data := .seq #[.int (0 + ((i : Nat) : Int)) tk, .ref T0] } := (sb.2 _ (fun w => by rw [← w] at hel; exact Nat.lt_irrefl _ (Nat.lt_of_lt_of_le hel hgs))).trans hT
    have fe := hf e (by simp)
    have fe1 : FpOk X pins (upd H T0 (.frz { cls := .type "tuple", data := .seq #[y1, y2] } (.tup [w1, w2]))) e := ⟨by rw [upd_ne (Ne.symm T0e)]; exact fe.1, fe.2⟩
    have new1 : ObjOk X.prog X.w (upd (upd H T0 (.frz { cls := .type "tuple", data := .seq #[y1, y2] } (.tup [w1, w2]))) g.objs.size (.frz { cls := .type "tuple", data := .seq #[.int (0 + ((i : Nat) : Int)) tk, .ref T0] } (.tup [.int ((i : Nat) : Int), .ref T0]))) h2' g.objs.size
        (.frz { cls := .type "tuple", data := .seq #[.int (0 + ((i : Nat) : Int)) tk, .ref T0] } (.tup [.int ((i : Nat) : Int), .ref T0])) :=
      ⟨hTT, by show 2 ≤ sizeLine; decide, [_, _], .cons ⟨tk, by rw [Int.zero_add]⟩ (.cons rfl .nil), ⟨_, hTT, rfl, _, rfl⟩⟩
    have I2 := I1.turnedNew (t' := tk + 1) (ch := [e]) (h' := h2') (T := g.objs.size) (fun b o hb q => kg b o (fun w => hb (by simp [w])) q) (fun b hb => by rw [List.mem_singleton.mp hb]; exact fe1) (Nat.le_refl _) new1
    refine ⟨.ref g.objs.size, _, I2, rfl, ⟨T0, g.objs.size, _, _, [w1, w2], rfl, I.hok.fresh hge, Nat.ne_of_gt T0lt, I.hok.fresh hgs, rfl, rfl, rfl, fun r' hr' => RowZ.uniq I ⟨_, .cons v1 (.cons v2 .nil), .cons x1 (.cons x2 .nil)⟩ hr'⟩, ?_, fun b hb => ?_⟩
    · have up : ∀ {c o}, c ≠ e → g.get? c = some o → h2'.get? c = some o := fun hc q => kg _ _ hc q
      refine ⟨⟨.ref T0, ?_⟩, ?_, ?_, ?_, a1.stay fun o q => up (Ne.symm e1') q, a2.stay fun o q => up (Ne.symm e2') q⟩
      · have e3 : (0 : Int) + ((i + 1 : Nat) : Int) = 0 + (i : Int) + 1 := by omega
        rw [e3]
        exact he2
      · obtain ⟨g0, g1, q, qk⟩ := hz'
        exact ⟨g0, g1, up (Ne.symm ez0) q, qk⟩
      · exact up (Ne.symm eTI) (hk TI _ (by simp; exact ⟨za.TIz, za.TITO, za.nTI _ (by simp), za.nTI _ (by simp)⟩) hTI)
      · obtain ⟨a, b, q⟩ := hTO'
        exact ⟨a, b, up (Ne.symm eTO) q⟩
    · have hb2 : b < s.heap.objs.size := by
        have e' : b = e ∨ b = z ∨ b = TI ∨ b = TO ∨ b = i1 ∨ b = i2 := by simpa using hb
        rcases e' with w | w | w | w | w | w
        · rw [w]; exact hel
        · rw [w]; obtain ⟨_, _, q, _⟩ := hz; exact Heap.lt_size q
        · rw [w]; exact Heap.lt_size hTI
        · rw [w]; obtain ⟨_, _, q⟩ := hTO; exact Heap.lt_size q
        · rw [w]; obtain ⟨_, q, _⟩ := h1.there; exact Heap.lt_size q
        · rw [w]; obtain ⟨_, q, _⟩ := h2.there; exact Heap.lt_size q
      rw [upd_ne (Nat.ne_of_lt (Nat.lt_of_lt_of_le hb2 hgs)), upd_ne (Nat.ne_of_lt (Nat.lt_of_lt_of_le hb2 hge))]
      exact (hf b hb).1
  · intro X hP hw hK hc i pins s σ H E I hf ⟨⟨old, he⟩, hz, hTI, hTO, h1, h2⟩ ⟨_, .cons v1 (.cons v2 .nil), hle, hm⟩
    subst hP hw hK
    obtain ⟨f1, n1, P1, T1, d1⟩ := Src.sd I (A := X.A.in1.in1) (I.ok.hd hc) v1 h1
    obtain ⟨f2, n2, P2, T2, d2⟩ := Src.sd I (A := X.A.in1.in1) (I.ok.hd hc) v2 h2
    have S := sep d1 d2
    have l1 : i ≤ n1 := by rw [d1.n]; exact hle _ List.mem_cons_self
    have l2 : i ≤ n2 := by rw [d2.n]; exact hle _ (List.mem_cons_of_mem _ List.mem_cons_self)
    have hend : i = n1 ∨ i = n2 := by
      rw [d1.n, d2.n]
      obtain ⟨xs, hx, e⟩ := hm
      simp at hx
      rcases hx with rfl | rfl
      · exact .inl e.symm
      · exact .inr e.symm
    refine enum_any_end (R := fun g tk => ∀ c o, c ≠ z → c ≠ TO → c ≠ i1 → c ≠ i2 → s.heap.get? c = some o → g.get? c = some o) he (fun Q E q => next_zip hz (zip_any_end S d1.D d2.D hz hTI hTO d1.st d2.st l1 l2 hend fun g tk x hk hx => q g tk x hk hx)) fun g tk hk => ⟨rfl, ?_⟩
    exact I.turnedL (ch := [z, TO, i1, i2]) (fun b o hb q => hk b o (fun w => hb (by simp [w])) (fun w => hb (by simp [w])) (fun w => hb (by simp [w])) (fun w => hb (by simp [w])) q) fun b hb => hf b (by simp at hb ⊢; rcases hb with w | w | w | w <;> simp [w])
  · intro A i s Q E ⟨⟨_, he⟩, _⟩ h
    exact wpAny_pyIter_enum he h
set_option maxHeartbeats 1000000 in
theorem meets_enumZ (z TI TO : Addr) :
    Meets (Builtin.«enumerate.__new__» ⟨[.type "enumerate", .ref z], []⟩) (fun _ R s => IsZip s.heap z TI TO .none ∧
      R (.ok (.ret (.ref s.heap.objs.size))) { s with heap := s.heap.push { cls := .type "enumerate", data := .fields #[.none, .bool false, .ref z, rawInt 0, .none, .none] } }) :=
  .of_wp fun prog w A R s h => by
    obtain ⟨hp, gn, dr, tk, os⟩ := s; obtain ⟨h1, h⟩ := h
    have hsb := sub_enumerate
    have hz : IsZip hp z TI TO .none := h1
    have q1 : ∀ {A' : Around} {E : Value → Shared → Prop} {Q : Value → Shared → Prop}, Q (.ref z) ⟨hp, gn, dr, tk, os⟩ → wpAny (model prog w) A' (pyIter (.ref z)) Q E ⟨hp, gn, dr, tk, os⟩ :=
      fun q => wpAny_pyIter_zip (s := ⟨hp, gn, dr, tk, os⟩) h1 q
    wp_walk using q1
    refine wpAny_stack_any fun st => wpAny_pure ?_
    split
    · rename_i cv _ _ _ _ _
      cases (cv == Value.type "enumerate")
      · wp_walk using q1
        exact ⟨_, rfl, h⟩
      · wp_walk using q1
        exact ⟨_, rfl, h⟩
    · wp_walk using q1
      exact ⟨_, rfl, h⟩

theorem enumZ_begins {prog : Program} {w : World} {A : Around} {E : Value → Shared → Prop} {s : Shared} {z TI TO : Addr} {Q : Value → Shared → Prop} (hz : IsZip s.heap z TI TO .none)
    (h : ∀ g, IsEnum g s.heap.objs.size z 0 .none → (∀ b o, s.heap.get? b = some o → g.get? b = some o) → Q (.ref s.heap.objs.size) { s with heap := g }) : wpAny (model prog w) A (call (.type "enumerate") [.ref z]) Q E s := by
  apply callType_new F.called_enumerate (by decide) (F.typeCall_enumerate_1 _) (F.newCall_enumerate_1 _) (fun obj => F.args_object_init_2 obj _) F.entry_enumerate_new (meets_enumZ z TI TO)
  refine ⟨hz, ?_⟩
  show _ ∧ _
  have he : IsEnum (s.heap.push { cls := .type "enumerate", data := .fields #[.none, .bool false, .ref z, rawInt 0, .none, .none] }) s.heap.objs.size z 0 .none := Heap.get?_push_size _ rfl
  exact ⟨⟨_, he, rfl⟩, h _ he fun b o x => Heap.get?_push_of_some _ x⟩
def iEz (K : PySem.W.Frag) (ta : TA) : TI := fun σ H R => ta σ H fun vs H1 => ∃ (S1 S2 : Src) (x1 x2 : List V), vs = [S1.v, S2.v] ∧ S1.Val K H1 x1 ∧ S2.Val K H1 x2 ∧ R (Jez K [S1, S2]) H1
theorem pi_ez {X : Cx} {e e2 : Expr} {ta : TA} {p p2 pos pos2 tpos : Pos} {elts : List Expr} {kk : Nat} (hg : Gl X "enumerate") (hm : X.mg "enumerate" = none) (hgz : Gl X "zip") (hmz : X.mg "zip" = none) (ha : PA X [e, e2] ta)
    (hs : starEach [e, e2] X.env = (false, eval e X.env) :: starEach [e2] X.env := by rfl) (hpl : (backTo pos2 (starEach [e2] X.env)).any (·.1) = false := by rfl)
    (hse : starEach [.Call (.Name "zip" p2) [e, e2] [] pos2] X.env = (false, eval (.Call (.Name "zip" p2) [e, e2] [] pos2) X.env) :: starEach [] X.env := by rfl) :
    PI X (.Tuple elts kk tpos) (.Call (.Name "enumerate" p) [.Call (.Name "zip" p2) [e, e2] [] pos2] [] pos) (iEz X.K ta) := by
  refine ⟨fun pins s σ H R I h => Call_ (ld_blt I hg hm boot_enumerate (PyProof.Rows.callWith_type1 (PyProof.Rows.args_cons ?_ hse) hse rfl))⟩
  refine Call_ (ld_blt I hgz hmz PyProof.Rows.boot_zip (PyProof.Rows.callWith_type1 (thn (ha.run pos2 pins s σ H _ I h) fun us s1 ⟨vs, H1, I1, r1, q1⟩ => ?_) hs hpl))
  obtain ⟨S1, S2, x1, x2, ex, v1, v2, q⟩ := q1
  subst ex
  obtain ⟨u1, r1⟩ : ∃ u1 u2, us = [u1, u2] ∧ RelV S1.v u1 ∧ RelV S2.v u2 := by
    cases r1 with
    | cons r1 rr =>
      cases rr with
      | cons r2 rr =>
        cases rr
        exact ⟨_, _, rfl, r1, r2⟩
  obtain ⟨u2, rfl, r1, r2⟩ := r1
  obtain ⟨o1, Hh1, B1, hB1, at1⟩ := Src.begins I1 v1 r1
  obtain ⟨o2, Hh2, B2, hB2, at2⟩ := Src.begins I1 v2 r2
  refine zip_begins2 B1 B2 hB1 hB2 fun h1 hz hTI hTO g1 g2 hsz hk => PyProof.Rows.args_nil (enumZ_begins (s := { s1 with heap := h1 }) hz fun g he hk2 => wpAny_pyIter_enum (s := { s1 with heap := g }) he ?_)
  have I2 : L2.Inv X pins σ H1 { s1 with heap := g } := I1.kept (t' := s1.toks) fun b o q => hk2 b o (hk b o q)
  have hsz : h1.objs.size = s1.heap.objs.size + 5 := hsz
  have e5 : ({ s1 with heap := h1 } : Shared).heap.objs.size = s1.heap.objs.size + 5 := hsz
  rw [e5] at he ⊢
  have nin : s1.heap.objs.size + 5 ∉ [s1.heap.objs.size + 4, s1.heap.objs.size + 2, s1.heap.objs.size + 3, s1.heap.objs.size, s1.heap.objs.size + 1] := by
    intro hmem
    have ad : ∀ {a b : Nat}, a ≠ b → (s1.heap.objs.size + a : Nat) ≠ s1.heap.objs.size + b := fun h z => h (Nat.add_left_cancel z)
    rcases List.mem_cons.mp hmem with w | hmem
    · exact ad (by decide) w
    rcases List.mem_cons.mp hmem with w | hmem
    · exact ad (by decide) w
    rcases List.mem_cons.mp hmem with w | hmem
    · exact ad (by decide) w
    rcases List.mem_cons.mp hmem with w | hmem
    · exact ad (a := 5) (b := 0) (by decide) w
    · exact ad (by decide) (List.mem_singleton.mp hmem)
  refine ⟨s1.heap.objs.size + 5, [s1.heap.objs.size + 5, s1.heap.objs.size + 4, s1.heap.objs.size + 2, s1.heap.objs.size + 3, s1.heap.objs.size, s1.heap.objs.size + 1], _, _, H1, rfl, I2, turn_ez S1 S2 _ _ _ _ _ _ (ZA.two (Src.lt I1 v1) (Src.lt I1 v2)) nin,
    ⟨⟨.none, by simpa using he⟩, ⟨.none, false, hk2 _ _ hz, .inl rfl⟩, hk2 _ _ hTI, ⟨_, _, hk2 _ _ hTO⟩, at1 _ _ (hk2 _ _ g1), at2 _ _ (hk2 _ _ g2)⟩, fun c hcm => ?_, q⟩
  have hle : s1.heap.objs.size ≤ c := by
    simp at hcm
    rcases hcm with w | w | w | w | w | w <;> (rw [w]; first | exact Nat.le_add_right _ _ | exact Nat.le_refl _)
  exact I1.fpOk hle (I1.hok.fresh hle)
def ezP : Nat → List (List PV) → List PV
  | _, [] => []
  | i, r :: rs => .tup [.int (i : Nat), .tup r] :: ezP (i + 1) rs
theorem ezP_len : ∀ {i : Nat} {rs : List (List PV)}, (ezP i rs).length = rs.length
  | i, [] => rfl
  | i, r :: rs => by unfold ezP; rw [List.length_cons, List.length_cons, ezP_len]
theorem ezP_get : ∀ {k i : Nat} {rs : List (List PV)} {x : PV}, (ezP k rs)[i]? = some x → ∃ r, rs[i]? = some r ∧ x = .tup [.int ((k + i : Nat)), .tup r]
  | k, i, [], x, h => by unfold ezP at h; simp at h
  | k, 0, r :: rs, x, h => by
    unfold ezP at h
    simp at h
    exact ⟨r, rfl, h.symm⟩
  | k, i + 1, r :: rs, x, h => by
    unfold ezP at h
    rw [List.getElem?_cons_succ] at h
    obtain ⟨y, h1, h2⟩ := ezP_get h
    refine ⟨y, by simpa using h1, ?_⟩
    rw [h2]
    have : k + 1 + i = k + (i + 1) := by omega
    rw [this]
def mEz (m : MArg) : MIt := bindM m fun xs _ S => match xs with
  | [x, y] => (match srcR x, srcR y with
    | some xs, some ys => .ok (ezP 0 (zip2P xs ys)) S
    | _, _ => .bad)
  | _ => .bad
section
variable {X : Cx} {G : GC} {W : WX} {pos pos2 : Pos}
theorem mi_ez {e e2 : Expr} {elts : List Expr} {kk : Nat} {tpos p p2 : Pos} {m : MArg} (hG : X.K = G.K) (hg : Gl X "enumerate") (hm : X.mg "enumerate" = none) (hgz : Gl X "zip") (hmz : X.mg "zip" = none) (ha : PA X [e, e2] (rdA G W m))
    (hs : starEach [e, e2] X.env = (false, eval e X.env) :: starEach [e2] X.env := by rfl) (hpl : (backTo pos2 (starEach [e2] X.env)).any (·.1) = false := by rfl)
    (hse : starEach [.Call (.Name "zip" p2) [e, e2] [] pos2] X.env = (false, eval (.Call (.Name "zip" p2) [e, e2] [] pos2) X.env) :: starEach [] X.env := by rfl) :
    PI X (.Tuple elts kk tpos) (.Call (.Name "enumerate" p) [.Call (.Name "zip" p2) [e, e2] [] pos2] [] pos) (rdI G W (mEz m)) :=
  piImp (pi_ez hg hm hgz hmz ha hs hpl hse) fun σ H R ⟨r, S, e, sr, h⟩ => by
    rw [hG]
    refine bind_rd sr h fun xs S1 r1 H1 v1 st1 sr1 i1 h1 => ?_
    split at h1
    · rename_i x y
      split at h1
      · rename_i xs ys hx hy
        obtain ⟨v, w, ev, iv, iw⟩ := i1.two
        subst ev
        obtain ⟨Z1, e1, ok1, hz1⟩ := srcR_ok sr1.st.kf iv hx
        obtain ⟨Z2, e2, ok2, hz2⟩ := srcR_ok sr1.st.kf iw hy
        subst e1 e2
        obtain ⟨vs, hv, _⟩ := ok1.2
        obtain ⟨ws, hw, _⟩ := ok2.2
        have wk : Walk G r1 H1 (Jez G.K [Z1, Z2]) (ezP 0 (zip2P xs ys)) := by
          refine ⟨by rw [ezP_len, zip2P_len]; omega, fun r2 H2 S2 st s2 => ?_⟩
          obtain ⟨_, vs, hv, iv⟩ := ok1.step st sr1.st.noFrz
          obtain ⟨_, ws, hw, iw⟩ := ok2.step st sr1.st.noFrz
          refine ⟨fun i x hx => ?_, ⟨[vs, ws], .cons hv (.cons hw .nil), ?_, ?_⟩⟩
          · obtain ⟨zs, hzs, rfl⟩ := ezP_get hx
            obtain ⟨x, y, hx1, hy1, rfl⟩ := zip2P_get hzs
            obtain ⟨v, hv2, iv2⟩ := iv.get' hx1
            obtain ⟨w, hw2, iw2⟩ := iw.get' hy1
            refine ⟨⟨[v, w], [vs, ws], .cons hv (.cons hw .nil), .cons hv2 (.cons hw2 .nil)⟩, fun u H3 ⟨T0, T, o0, o, row, eu, h0, hne, hT, ho0, ho, eH, uq⟩ => ?_⟩
            have er := uq [v, w] ⟨[vs, ws], .cons hv (.cons hw .nil), .cons hv2 (.cons hw2 .nil)⟩
            subst er eu eH
            have n1 : upd H2 T0 (.frz o0 (.tup [v, w])) T = none := by rw [upd_ne hne]; exact hT
            refine ⟨fun b q e => ?_, fun _ => ?_⟩
            · exact Ext.upd n1 b q (Ext.upd h0 b q e)
            · have sT : Step G.K r2 H2 r2 (upd H2 T0 (.frz o0 (.tup [v, w]))) := Step.laid h0
              have sT2 : Step G.K r2 (upd H2 T0 (.frz o0 (.tup [v, w]))) r2 (upd (upd H2 T0 (.frz o0 (.tup [v, w]))) T (.frz o (.tup [.int ((i : Nat) : Int), .ref T0]))) := Step.laid n1
              have inner : Is G r2 (upd (upd H2 T0 (.frz o0 (.tup [v, w]))) T (.frz o (.tup [.int ((i : Nat) : Int), .ref T0]))) (.tup [x, y]) (.ref T0) := by
                unfold Is
                refine ⟨T0, _, rfl, .inl ⟨o0, by rw [upd_ne (Ne.symm hne)]; exact upd_same, ho0⟩, ?_⟩
                have := (IsAll.cons.mpr ⟨iv2, IsAll.cons.mpr ⟨iw2, IsAll.nil⟩⟩ : IsAll G r2 H2 [x, y] [v, w]).step (sT.trans sT2) s2.noFrz
                exact this
              unfold Is
              exact ⟨T, _, rfl, .inl ⟨o, upd_same, ho⟩, IsAll.cons.mpr ⟨by unfold Is; rw [Nat.zero_add], IsAll.cons.mpr ⟨inner, IsAll.nil⟩⟩⟩
          · intro zs hzs
            rw [ezP_len, zip2P_len, iv.len, iw.len]
            simp at hzs
            rcases hzs with rfl | rfl <;> omega
          · rw [ezP_len, zip2P_len, iv.len, iw.len]
            by_cases hle : vs.length ≤ ws.length
            · exact ⟨vs, by simp, by omega⟩
            · exact ⟨ws, by simp, by omega⟩
        exact ⟨Z1, Z2, vs, ws, rfl, hv, hw, h1 r1 H1 _ (StepE.refl _ _) sr1 wk⟩
      · exact h1.elim
    · exact h1.elim
end
end Mm
end

section
set_option Elab.async false
set_option linter.all false
set_option maxRecDepth 100000
namespace Mm
open PySem PySem.Spec PyProof.Rows L2

/-! ## dict(zip(keys, values)) -/
def Src.hold (items : Array Value) (h : Heap) : Src → Prop
  | .ofL a => h.IsList a items
  | .ofT a => h.IsTuple a items
  | .ofS _ => False
theorem Src.hold.stay {items : Array Value} {h h' : Heap} : ∀ {S : Src}, S.hold items h → (∀ a, S.adr = some a → ∀ o, h.get? a = some o → h'.get? a = some o) → S.hold items h'
  | .ofL a, x, k => Heap.IsList.at x fun o e => k a rfl o e
  | .ofT a, x, k => Heap.IsTuple.at x fun o e => k a rfl o e
  | .ofS _, x, k => x.elim
theorem Src.hold.there {items : Array Value} {h : Heap} : ∀ {S : Src}, S.hold items h → ∃ a o, S.adr = some a ∧ h.get? a = some o
  | .ofL a, ⟨o, e, _⟩ => ⟨a, o, rfl, e⟩
  | .ofT a, ⟨o, e, _⟩ => ⟨a, o, rfl, e⟩
  | .ofS _, x => x.elim
def Src.fp (it : Addr) : Src → List Addr
  | .ofL a => [it, a]
  | .ofT a => [it, a]
  | .ofS _ => [it]
theorem Src.fp_mem {it : Addr} : ∀ {S : Src}, it ∈ S.fp it
  | .ofL a => List.mem_cons_self
  | .ofT a => List.mem_cons_self
  | .ofS _ => List.mem_cons_self
theorem Src.fp_off {it b : Addr} : ∀ {S : Src}, b ≠ it → S.adr ≠ some b → b ∉ S.fp it
  | .ofL a, h1, h2, z => by
    rcases List.mem_cons.mp z with z | z
    · exact h1 z
    · exact h2 (by rw [List.mem_singleton.mp z]; rfl)
  | .ofT a, h1, h2, z => by
    rcases List.mem_cons.mp z with z | z
    · exact h1 z
    · exact h2 (by rw [List.mem_singleton.mp z]; rfl)
  | .ofS _, h1, h2, z => h1 (List.mem_singleton.mp z)
theorem Src.drawsF {prog : Program} {w : World} {A : Around} (hh : A.handled = none) (it : Addr) (items : Array Value) : ∀ (S : Src), S.adr ≠ some it → Draws prog w A it (S.fp it) items.size (fun i v => items[i]? = some v) (fun i h => S.At it i h ∧ S.hold items h)
  | .ofL a, hne => Draws.list hh it a (fun z => hne (by rw [← z]; rfl)) items
  | .ofT a, hne => Draws.tuple hh it a (fun z => hne (by rw [← z]; rfl)) items
  | .ofS x, hne =>
    { live := fun _ _ st => st.2.elim, frame := fun _ _ _ st _ => st.2.elim, item := fun _ _ _ _ _ st _ => st.2.elim, done := fun _ _ _ st _ => st.2.elim }
section
variable {prog : Program} {w : World}
/-- the zip as a maker of pairs -/
theorem pairsZip (S1 S2 : Src) (z TI TO i1 i2 : Addr) (za : ZA z TI TO [i1, i2] [S1, S2]) (xs ys : Array Value) :
    PairArg prog w "zip" z (z :: TI :: TO :: (S1.fp i1 ++ S2.fp i2)) [z, TO, i1, i2] (min xs.size ys.size) (fun i k v => xs[i]? = some k ∧ ys[i]? = some v)
      (fun h => IsZip h z TI TO .none ∧ IsTupOf2 h TI (.ref i1) (.ref i2) ∧ TwoAny h TO ∧ (S1.At i1 0 h ∧ S1.hold xs h) ∧ (S2.At i2 0 h ∧ S2.hold ys h)) := by
  have h12 : i1 ≠ i2 := by have := za.nd; simp at this; exact this
  have S : ZipSep2 z TI TO i1 i2 (S1.fp i1) (S2.fp i2) :=
    { TIz := za.TIz, TOz := za.TOz, TITO := za.TITO, TIi1 := za.nTI _ (by simp), mem1 := Src.fp_mem, zf1 := Src.fp_off (za.nz _ (by simp)) (za.aS _ (by simp) _ (by simp)), Tf1 := Src.fp_off (za.nTO _ (by simp)) (za.aS _ (by simp) _ (by simp)),
      TIi2 := za.nTI _ (by simp), mem2 := Src.fp_mem, zf2 := Src.fp_off (za.nz _ (by simp)) (za.aS _ (by simp) _ (by simp)), Tf2 := Src.fp_off (za.nTO _ (by simp)) (za.aS _ (by simp) _ (by simp)),
      sep1_2 := Src.fp_off h12 (za.aS _ (by simp) _ (by simp)), sep2_1 := Src.fp_off (Ne.symm h12) (za.aS _ (by simp) _ (by simp)) }
  have srcKeep : ∀ {Z : Src} {it : Addr} {i : Nat} {its : Array Value} {h h' : Heap}, Z.At it i h ∧ Z.hold its h → (∀ b ∈ Z.fp it, ∀ o, h.get? b = some o → h'.get? b = some o) → Z.At it i h' ∧ Z.hold its h' := by
    intro Z it i its h h' ⟨a, b⟩ k
    refine ⟨a.stay fun o q => k it Src.fp_mem o q, b.stay fun c hc o q => k c ?_ o q⟩
    cases Z with
    | ofL d => cases hc; simp [Src.fp]
    | ofT d => cases hc; simp [Src.fp]
    | ofS _ => exact b.elim
  have srcThere : ∀ {Z : Src} {it : Addr} {i : Nat} {its : Array Value} {h : Heap}, Z.At it i h ∧ Z.hold its h → ∀ b ∈ Z.fp it, ∃ o, h.get? b = some o := by
    intro Z it i its h ⟨a, b⟩ c hc
    obtain ⟨o, ho, _⟩ := a.there
    cases Z with
    | ofL d => obtain ⟨q, hq, _⟩ := b; rcases List.mem_cons.mp hc with w | w; · exact ⟨o, by rw [w]; exact ho⟩
               exact ⟨q, by rw [List.mem_singleton.mp w]; exact hq⟩
    | ofT d => obtain ⟨q, hq, _⟩ := b; rcases List.mem_cons.mp hc with w | w; · exact ⟨o, by rw [w]; exact ho⟩
               exact ⟨q, by rw [List.mem_singleton.mp w]; exact hq⟩
    | ofS _ => exact b.elim
  refine ⟨fun s ok => ⟨_, ok.1, rfl⟩, by decide, ?_, ?_, ?_, ?_, ?_⟩
  · intro h h' ⟨hz, hTI, ⟨a, b, hTO⟩, h1, h2⟩ k
    exact ⟨k _ _ hz, k _ _ hTI, ⟨a, b, k _ _ hTO⟩, srcKeep h1 fun b _ o q => k b o q, srcKeep h2 fun b _ o q => k b o q⟩
  · intro h ⟨hz, hTI, ⟨a, b, hTO⟩, h1, h2⟩ c hc
    rcases List.mem_cons.mp hc with q | hc
    · exact ⟨_, by rw [q]; exact hz⟩
    rcases List.mem_cons.mp hc with q | hc
    · exact ⟨_, by rw [q]; exact hTI⟩
    rcases List.mem_cons.mp hc with q | hc
    · exact ⟨_, by rw [q]; exact hTO⟩
    rcases List.mem_append.mp hc with hc | hc
    · exact srcThere h1 c hc
    · exact srcThere h2 c hc
  · intro b hb
    simp at hb
    rcases hb with q | q | q | q
    · rw [q]; exact List.mem_cons_self
    · rw [q]; exact List.mem_cons_of_mem _ (List.mem_cons_of_mem _ List.mem_cons_self)
    · rw [q]; exact List.mem_cons_of_mem _ (List.mem_cons_of_mem _ (List.mem_cons_of_mem _ (List.mem_append_left _ Src.fp_mem)))
    · rw [q]; exact List.mem_cons_of_mem _ (List.mem_cons_of_mem _ (List.mem_cons_of_mem _ (List.mem_append_right _ Src.fp_mem)))
  · intro A s Q E hA ok h
    exact getAttrOr_miss_zip ok.1 rfl rfl rfl zip_no_keys (by decide +kernel) hA h
  · intro A s d Q E hA ⟨hz, hTI, hTO, h1, h2⟩ hd hdf h
    have dz : d ≠ z ∧ d ≠ TI ∧ d ≠ TO ∧ d ∉ S1.fp i1 ∧ d ∉ S2.fp i2 := by
      simp only [List.mem_cons, List.mem_append, not_or] at hdf
      exact ⟨hdf.1, hdf.2.1, hdf.2.2.1, hdf.2.2.2.1, hdf.2.2.2.2⟩
    obtain ⟨dz, dTI, dTO, d1, d2⟩ := dz
    have di1 : d ≠ i1 := fun q => d1 (by rw [q]; exact Src.fp_mem)
    have di2 : d ≠ i2 := fun q => d2 (by rw [q]; exact Src.fp_mem)
    have D1 := Src.drawsF (prog := prog) (w := w) (A := A.in1) (show A.in1.handled = none from hA) i1 xs S1 (za.aS _ (by simp) _ (by simp))
    have D2 := Src.drawsF (prog := prog) (w := w) (A := A.in1) (show A.in1.handled = none from hA) i2 ys S2 (za.aS _ (by simp) _ (by simp))
    refine wpAny_pyIter_zip hz (h z [z, TO, i1, i2] (fun i h => ZipAny h z TI TO ∧ IsTupOf2 h TI (.ref i1) (.ref i2) ∧ TwoAny h TO ∧ (S1.At i1 i h ∧ S1.hold xs h) ∧ (S2.At i2 i h ∧ S2.hold ys h)) s.heap s.toks ?_ ⟨⟨.none, false, hz, .inl rfl⟩, hTI, hTO, h1, h2⟩ (fun _ _ e => e) fun b hb => .inl hb)
    refine ⟨fun hm => ?_, ?_, ?_, ?_⟩
    · simp at hm
      rcases hm with q | q | q | q
      · exact dz q
      · exact dTO q
      · exact di1 q
      · exact di2 q
    · intro i g g' ⟨⟨f0, f1, q1, q2⟩, q3, ⟨a, b, q4⟩, q5, q6⟩ k
      exact ⟨⟨f0, f1, k _ _ (Ne.symm dz) q1, q2⟩, k _ _ (Ne.symm dTI) q3, ⟨a, b, k _ _ (Ne.symm dTO) q4⟩, srcKeep q5 fun c hc o q => k c o (fun w => d1 (by rw [← w]; exact hc)) q, srcKeep q6 fun c hc o q => k c o (fun w => d2 (by rw [← w]; exact hc)) q⟩
    · intro i s1 Q1 E1 hi ⟨q1, q3, q4, q5, q6⟩ hds hQ
      have hT : s1.TypeIs (.ref z) "zip" := by obtain ⟨f0, f1, q, _⟩ := q1; exact ⟨_, q, rfl⟩
      unfold pyNext
      refine wpAny_bind (wpAny_attempt (wpAny_callSpecial?_slot (name := Str.ofString "__next__") hT F.slot_zip_next (wpAny_call_entry F.slot_zip_next hT F.entry_zip_next (zip_any_item S D1 D2 q1 q3 q4 q5 q6 (Nat.lt_of_lt_of_le hi (Nat.min_le_left ..)) (Nat.lt_of_lt_of_le hi (Nat.min_le_right ..)) fun x1 x2 T g tk p1 p2 r1 r2 r3 r4 r5 _ _ hk => wpAny_pure ?_) (F.args_zip_next_1 _))))
      exact hQ T x1 x2 g tk ⟨p1, p2⟩ (.inl ⟨_, r5, rfl, _, rfl⟩) ⟨r1, hk _ _ S.TIz S.TITO S.TIi1 S.TIi2 q3, r2, r3, r4⟩ fun b o hb q => hk b o (fun w => hb (by simp [w])) (fun w => hb (by simp [w])) (fun w => hb (by simp [w])) (fun w => hb (by simp [w])) q
    · intro s1 Q1 E1 ⟨q1, q3, q4, q5, q6⟩ hQ
      have hT : s1.TypeIs (.ref z) "zip" := by obtain ⟨f0, f1, q, _⟩ := q1; exact ⟨_, q, rfl⟩
      unfold pyNext
      refine wpAny_bind (wpAny_attempt (wpAny_callSpecial?_slot (name := Str.ofString "__next__") hT F.slot_zip_next (wpAny_call_entry F.slot_zip_next hT F.entry_zip_next (zip_any_end S D1 D2 q1 q3 q4 q5 q6 (Nat.min_le_left ..) (Nat.min_le_right ..) (by omega) fun g tk e hk he => ?_) (F.args_zip_next_1 _))))
      obtain ⟨o, ho, hc⟩ := he
      refine wpAny_bind (wpAny_isInstance (T := "StopIteration") (b := true) ⟨o, ho, hc⟩ isSubtype_stop ?_)
      exact wpAny_pure (hQ g tk fun b o hb q => hk b o (fun w => hb (by simp [w])) (fun w => hb (by simp [w])) (fun w => hb (by simp [w])) (fun w => hb (by simp [w])) q)
end
/-- the keys of plain values -/
def keysP : List PV → List PV → Option (List (Key × PV))
  | x :: xs, y :: ys => (match keyOf x, keysP xs ys with
    | some k, some r => some ((k, y) :: r)
    | _, _ => none)
  | _, _ => some []
def mergeP (kvs more : List (Key × PV)) : List (Key × PV) := more.foldl (fun acc kv => putD acc kv.1 kv.2) kvs
theorem merge_is {G : GC} {r : Ads} {H : Hp} : ∀ {more : List (Key × PV)} {wm : List (Key × V)} {kvs : List (Key × PV)} {ws : List (Key × V)}, IsKv G r H more wm → IsKv G r H kvs ws → IsKv G r H (mergeP kvs more) (mergeK ws wm)
  | [], wm, kvs, ws, i, j => by unfold IsKv at i; subst i; exact j
  | (k, x) :: more, wm, kvs, ws, i, j => by
    unfold IsKv at i
    obtain ⟨v, us, rfl, q, t⟩ := i
    exact merge_is (kvs := putD kvs k x) (ws := putK ws k v) t (put_is q j)
theorem keys_is {G : GC} {r : Ads} {H : Hp} : ∀ {xs ys : List PV} {kvs : List (Key × PV)} {vs ws : List V}, IsAll G r H xs vs → IsAll G r H ys ws → keysP xs ys = some kvs → ∃ zs : List (Key × V), IsKv G r H kvs zs ∧ zs.length = min vs.length ws.length ∧ ∀ (i : Nat) a b, vs[i]? = some a → ws[i]? = some b → ∃ k, zs[i]? = some (k, b) ∧ a = kV k
  | [], ys, kvs, vs, ws, i, j, h => by
    unfold keysP at h
    cases h
    unfold IsAll at i
    subst i
    exact ⟨[], IsKv.nil, by simp, fun i a b h => by simp at h⟩
  | x :: xs, [], kvs, vs, ws, i, j, h => by
    unfold keysP at h
    cases h
    unfold IsAll at j
    subst j
    exact ⟨[], IsKv.nil, by simp, fun i a b _ h => by simp at h⟩
  | x :: xs, y :: ys, kvs, vs, ws, i, j, h => by
    unfold IsAll at i j
    obtain ⟨v, vs', rfl, q, t⟩ := i
    obtain ⟨u, ws', rfl, q', t'⟩ := j
    unfold keysP at h
    cases hk : keyOf x with
    | none => rw [hk] at h; cases h
    | some k =>
      cases hr : keysP xs ys with
      | none => rw [hk, hr] at h; cases h
      | some rr =>
        rw [hk, hr] at h
        cases h
        obtain ⟨zs, z1, z2, z3⟩ := keys_is t t' hr
        refine ⟨(k, u) :: zs, IsKv.cons.mpr ⟨q', z1⟩, by simp [z2], fun n a b ha hb => ?_⟩
        cases n with
        | zero => simp at ha hb; subst ha hb; exact ⟨k, rfl, key_is q hk⟩
        | succ n => simp at ha hb ⊢; exact z3 n a b ha hb
def mDZip (m : MArg) : MExp := bindM m fun xs _ S => match xs with
  | [x, y] => (match srcR x, srcR y with
    | some xs, some ys => (match keysP xs ys with
      | some kvs => if isSeqR x && isSeqR y then .ok (.l S.length) (S ++ [.dic (mergeP [] kvs)]) else .bad
      | none => .bad)
    | _, _ => .bad)
  | _ => .bad
where isSeqR : RV → Bool
  | .p x => isSeq x
  | .l _ => false

def Src.real : Src → Prop
  | .ofS _ => False
  | _ => True
theorem Src.holds {X : Cx} {pins : List (Addr × Obj)} {σ : L2.St} {H : Hp} {s : Shared} (I : L2.Inv X pins σ H s) : ∀ {S : Src} {xs : List V}, S.real → S.Val X.K H xs → ∃ its : List Value, Vals xs its ∧ S.hold its.toArray s.heap
  | .ofL a, xs, _, hv => by
    obtain ⟨its, rv, p, hz⟩ := I.list hv
    exact ⟨its, rv, p.isList⟩
  | .ofT a, xs, _, hv => by
    obtain ⟨its, rv, p, hz⟩ := I.tuple hv
    exact ⟨its, rv, p⟩
  | .ofS _, xs, h, _ => h.elim
theorem kv_zip : ∀ {zs : List (Key × V)} {ws : List V} {us : List Value}, Vals ws us → zs.length ≤ ws.length → (∀ (i : Nat) k b, zs[i]? = some (k, b) → ws[i]? = some b) → KV zs (zs.zipWith (fun z u => (z.1, u)) us)
  | [], ws, us, r, h, z => by
    unfold KV
    simp
    exact .nil
  | (k, b) :: zs, [], us, r, h, z => by simp at h
  | (k, b) :: zs, w :: ws, us, r, h, z => by
    cases r with
    | cons r1 r2 =>
      have e := z 0 k b rfl
      simp at e
      subst e
      unfold KV
      exact .cons ⟨rfl, r1⟩ (kv_zip r2 (by simpa using h) fun i k c q => by have := z (i + 1) k c (by simpa using q); simpa using this)
def tDZip (K : PySem.W.Frag) (ta : TA) : TE := fun σ H Q => ta σ H fun vs H1 => ∃ (S1 S2 : Src) (x1 x2 : List V) (zs : List (Key × V)), vs = [S1.v, S2.v] ∧ S1.real ∧ S2.real ∧ S1.Val K H1 x1 ∧ S2.Val K H1 x2 ∧ zs.length = min x1.length x2.length ∧
  (∀ (i : Nat) a b, x1[i]? = some a → x2[i]? = some b → ∃ k, zs[i]? = some (k, b) ∧ a = kV k) ∧ zs.length ≤ sizeLine ∧ ∀ p, H1 p = none → Q (.ref p) (upd H1 p (.dK (mergeK [] zs)))
theorem pe_dzip {X : Cx} {e e2 : Expr} {ta : TA} {p p2 pos pos2 : Pos} (hcalm : X.calm = true) (hg : Gl X "zip") (hm : X.mg "zip" = none) (hgd : Gl X "dict") (hmd : X.mg "dict" = none) (ha : PA X [e, e2] ta)
    (hs : starEach [e, e2] X.env = (false, eval e X.env) :: starEach [e2] X.env := by rfl) (hpl : (backTo pos (starEach [e2] X.env)).any (·.1) = false := by rfl)
    (hs2 : starEach [.Call (.Name "zip" p) [e, e2] [] pos] X.env = [(false, eval (.Call (.Name "zip" p) [e, e2] [] pos) X.env)] := by rfl) :
    PE X (.Call (.Name "dict" p2) [.Call (.Name "zip" p) [e, e2] [] pos] [] pos2) (tDZip X.K ta) := by
  refine ⟨fun pins s σ H Q I h => ?_⟩
  refine Call_ (ld_blt I hgd hmd PyProof.Rows.boot_dict (PyProof.Rows.callWith_type1 (Calls.spliced_cons (thn (Call_ (ld_blt I hg hm PyProof.Rows.boot_zip (PyProof.Rows.callWith_type1 (thn (ha.run pos pins s σ H _ I h) fun us s1 ⟨vs, H1, I1, r1, q1⟩ => ?_) hs hpl))) fun u s2 q => Calls.spliced_nil q)) hs2 rfl))
  obtain ⟨S1, S2, x1, x2, zs, ex, l1, l2, v1, v2, hzl, hzs, hzz, q⟩ := q1
  subst ex
  obtain ⟨r1, r2⟩ : ∃ u1 u2, us = [u1, u2] ∧ RelV S1.v u1 ∧ RelV S2.v u2 := by
    cases r1 with
    | cons r1 rr =>
      cases rr with
      | cons r2 rr =>
        cases rr
        exact ⟨_, _, rfl, r1, r2⟩
  obtain ⟨u2, rfl, r1, r2⟩ := r2
  obtain ⟨o1, Hh1, B1, hB1, at1⟩ := Src.begins I1 v1 r1
  obtain ⟨o2, Hh2, B2, hB2, at2⟩ := Src.begins I1 v2 r2
  obtain ⟨is1, w1, h1⟩ := Src.holds I1 l1 v1
  obtain ⟨is2, w2, h2⟩ := Src.holds I1 l2 v2
  have e1 := w1.length
  have e2 := w2.length
  refine zip_begins2 B1 B2 hB1 hB2 fun h' hz hTI hTO g1 g2 hsz hk => ?_
  have I2 : L2.Inv X pins σ H1 { s1 with heap := h' } := I1.kept (t' := s1.toks) hk
  have P := pairsZip (prog := X.prog) (w := X.w) S1 S2 _ _ _ _ _ (ZA.two (Src.lt I1 v1) (Src.lt I1 v2)) is1.toArray is2.toArray
  refine call_dict_pairs (knd := mixKind X.prog X.w) (kvs := zs.zipWith (fun z u => (z.1, u)) is2) P (I2.ok.hd hcalm)
    ⟨hz, hTI, ⟨_, _, hTO⟩, ⟨at1 _ _ g1, h1.stay fun a _ o q => hk a o q⟩, ⟨at2 _ _ g2, h2.stay fun a _ o q => hk a o q⟩⟩ ⟨?_, ?_⟩ ?_ fun h3 tk hd hk3 => ?_
  · rw [List.length_zipWith, hzl, List.size_toArray, List.size_toArray]
    omega
  · intro i key v ⟨hk1, hk2⟩
    rw [List.getElem?_toArray] at hk1 hk2
    have q1 := (List.getElem?_eq_some_iff.mp hk1).1
    have q2 := (List.getElem?_eq_some_iff.mp hk2).1
    have ha1 : x1[i]? = some x1[i] := List.getElem?_eq_getElem (by omega)
    have hb1 : x2[i]? = some x2[i] := List.getElem?_eq_getElem (by omega)
    obtain ⟨u, ha3, ha2⟩ := w1.get ha1
    rw [hk1] at ha3
    cases ha3
    obtain ⟨k, z1, z2⟩ := hzs i _ _ ha1 hb1
    rw [z2] at ha2
    exact ⟨k, by rw [List.getElem?_zipWith, z1, hk2], kV_is ha2⟩
  · rw [List.size_toArray, List.size_toArray, ← e1, ← e2, ← hzl]
    exact hzz
  · have rel : KV zs (zs.zipWith (fun z u => (z.1, u)) is2) := kv_zip w2 (by rw [hzl]; exact Nat.min_le_right _ _) fun i k b hb => by
      have hlt : i < min x1.length x2.length := by rw [← hzl]; exact (List.getElem?_eq_some_iff.mp hb).1
      obtain ⟨k', z1, z2⟩ := hzs i x1[i] x2[i] (List.getElem?_eq_getElem (by omega)) (List.getElem?_eq_getElem (by omega))
      rw [hb] at z1
      cases z1
      exact List.getElem?_eq_getElem (by omega)
    have hbig : (h'.objs.size == sysModules) = false := beq_eq_false_iff_ne.mpr (Nat.ne_of_gt I2.big)
    have hlen : (mergeK [] zs).length ≤ sizeLine := by
      refine Nat.le_trans (length_mergeK zs []) ?_
      rw [List.length_nil, Nat.zero_add]
      exact hzz
    have keep : ∀ b o, s1.heap.get? b = some o → h3.get? b = some o := fun b o q => hk3 b o (fun z => by
      have hlt := Heap.lt_size q
      simp only [List.mem_cons, List.not_mem_nil, or_false] at z
      rcases z with z | z | z | z <;> (rw [z] at hlt; first | exact Nat.lt_irrefl _ hlt | exact absurd hlt (Nat.not_lt.mpr (Nat.le_add_right _ _)))) (hk b o q)
    have hle : s1.heap.objs.size ≤ h'.objs.size := by rw [hsz]; omega
    exact ⟨.ref h'.objs.size, upd H1 h'.objs.size (.dK (mergeK [] zs)), I1.laid (t' := tk) keep hle (show ObjOk X.prog X.w _ _ _ (.dK (mergeK [] zs)) from ⟨hlen, hbig, _, KV.merge rel .nil, hd⟩), rfl, q _ (I1.hok.fresh hle)⟩
theorem seq_real {r : Ads} {H : Hp} {x : PV} {v : V} {Z : Src} (i : RIs G r H (.p x) v) (e : v = Z.v) (h : isSeq x = true) : Z.real := by
  have i : Is G r H x v := i
  cases Z with
  | ofL a => trivial
  | ofT a => trivial
  | ofS z =>
    subst e
    cases x with
    | tup xs => unfold Is at i; obtain ⟨a, ws, e, _⟩ := i; cases e
    | lst xs => unfold Is at i; obtain ⟨a, ws, e, _⟩ := i; cases e
    | scr xs => unfold Is at i; obtain ⟨a, ws, e, _⟩ := i; cases e
    | _ => cases h
section
variable {X : Cx} {G : GC} {W : WX}
theorem me_dzip {e e2 : Expr} {p p2 pos pos2 : Pos} {m : MArg} (hG : X.K = G.K) (hcalm : X.calm = true) (hg : Gl X "zip") (hm : X.mg "zip" = none) (hgd : Gl X "dict") (hmd : X.mg "dict" = none) (ha : PA X [e, e2] (rdA G W m))
    (hs : starEach [e, e2] X.env = (false, eval e X.env) :: starEach [e2] X.env := by rfl) (hpl : (backTo pos (starEach [e2] X.env)).any (·.1) = false := by rfl)
    (hs2 : starEach [.Call (.Name "zip" p) [e, e2] [] pos] X.env = [(false, eval (.Call (.Name "zip" p) [e, e2] [] pos) X.env)] := by rfl) :
    PE X (.Call (.Name "dict" p2) [.Call (.Name "zip" p) [e, e2] [] pos] [] pos2) (rd G W (mDZip m)) :=
  peI (pe_dzip hcalm hg hm hgd hmd ha hs hpl hs2) fun σ H Q _ ⟨r, S, e, sr, h⟩ => by
    rw [hG]
    refine bind_rd sr h fun xs S1 r1 H1 v1 st1 sr1 i1 h1 => ?_
    split at h1
    · rename_i x y
      split at h1
      · rename_i xs ys hx hy
        split at h1
        · rename_i kvs hk
          split at h1
          · rename_i hb
            rw [Bool.and_eq_true] at hb
            obtain ⟨v, w, ev, iv, iw⟩ := i1.two
            subst ev
            obtain ⟨Z1, e1, ok1, hz1⟩ := srcR_ok sr1.st.kf iv hx
            obtain ⟨Z2, e2, ok2, hz2⟩ := srcR_ok sr1.st.kf iw hy
            have rl1 : Z1.real := by cases x with | p x => exact seq_real iv e1 hb.1 | l n => cases hx
            have rl2 : Z2.real := by cases y with | p y => exact seq_real iw e2 hb.2 | l n => cases hy
            subst e1 e2
            obtain ⟨_, vs, hv, iv⟩ := ok1
            obtain ⟨_, ws, hw, iw⟩ := ok2
            obtain ⟨zs, z1, z2, z3⟩ := keys_is iv iw hk
            refine ⟨Z1, Z2, vs, ws, zs, rfl, rl1, rl2, hv, hw, z2, z3, ?_, fun p hn kf => ?_⟩
            · rw [z2, ← iv.len]
              omega
            · exact h1 _ _ _ (StepE.own hn (kf_new kf)) (sr1.own hn kf ⟨mergeK [] zs, upd_same, (merge_is z1 IsKv.nil).step (StepE.own hn (kf_new kf)).toStep sr1.st.noFrz⟩) (is_own sr1.st)
          · exact h1.elim
        · exact h1.elim
      · exact h1.elim
    · exact h1.elim
end
end Mm
end

section
set_option Elab.async false
set_option linter.all false
set_option maxRecDepth 100000
namespace Mm
open PySem PySem.Spec PyProof.Rows L2

/-! ## what the printed derivations use -/
theorem takes_w0 {X : Cx} : Takes X (fun _ _ _ _ => False) := fun u s' ⟨a, B, sI, pins, σ, H, cls, d, e, I, nb, up, sky, na, os, ag, w⟩ => w.elim
/-- a method's text -/
def inC (s : Stmt) (j : Nat) : Stmt := match s with
  | .ClassDef _ _ _ body _ _ _ _ _ _ _ => body.getD j (.Pass ⟨0, 0, 0, 0⟩)
  | s => s
/-- what a lambda's free names are in the def -/
def freeC (lsc sc : Scope) : Bool := lsc.names.all fun y => !decide (y.2 = .free) || decide (sc.names.lookup y.1 = some .cell) || decide (sc.names.lookup y.1 = some .free)
theorem free_by {lsc sc : Scope} (h : freeC lsc sc = true) : ∀ y ∈ lsc.names, y.2 = .free → sc.names.lookup y.1 = some .cell ∨ sc.names.lookup y.1 = some .free := fun y hy e => by
  unfold freeC at h
  have q := List.all_eq_true.mp h y hy
  simp only [Bool.or_eq_true, Bool.not_eq_true', decide_eq_false_iff_not, decide_eq_true_eq] at q
  rcases q with (q | q) | q
  · exact absurd e q
  · exact .inl q
  · exact .inr q
def lamQ (x : Str) : Str := x ++ ".<locals>." ++ "<lambda>"
section
variable {K : PySem.W.Frag} {x qual : Str} {params : Arguments} {body : List Stmt} {scope : Scope} {dvs : List V} {kws : List (Str × V)} {f : Addr} {fd : FuncData} {ps ks : List Str} {pk : List Nat}
/-- every parameter is written, also those that may be left out -/
theorem _root_.L2.FunD.bindsD (F : FunD K x qual params body scope dvs kws f fd) (hd : dvs ≠ [])
    (h : ∀ (T : Addr) (kV doc pm : Value) (an : Option Addr) (cdv ct : Value) (us its : List Value), us.length = ps.length → its.length = dvs.length →
      ∃ k, bindArgs (PySem.W.fnOf x qual params body scope (.ref T) kV doc pm an cdv ct) ⟨us, []⟩ = seqItems? (.ref T) >>= k ∧ k (some its.toArray) = pure (ps.zip us)) : Binds K fd ps [] := by
  obtain ⟨oc, od, dV, kV, doc, pm, an, cdv, ct, osl, rfl, _, _, hD, _⟩ := F.ex
  rcases hD with ⟨e, _⟩ | ⟨_, T, o, its, n, rfl, lT, oT, rT⟩
  · exact absurd e hd
  · intro s us X hl
    rw [List.append_nil] at hl ⊢
    obtain ⟨k, e1, e2⟩ := h T kV doc pm an cdv ct us its hl rT.length.symm
    refine BindsTo.of_looks fun M => ?_
    rw [e1]
    exact looks_items X lT oT (.of_pure e2)
/-- every parameter is written by its name -/
theorem _root_.L2.FunD.kwb (F : FunD K x qual params body scope [] kws f fd)
    (h : ∀ (kV doc pm : Value) (an : Option Addr) (cdv ct : Value) (us : List Value), us.length = ks.length → bindArgs (PySem.W.fnOf x qual params body scope .none kV doc pm an cdv ct) ⟨[], ks.zip us⟩ = pure (ps.zip (permL pk us))) : KwB K fd ps ks pk := by
  obtain ⟨oc, od, dV, kV, doc, pm, an, cdv, ct, osl, rfl, _, _, hD, _⟩ := F.ex
  rcases hD with ⟨_, rfl⟩ | ⟨e, _⟩
  · exact fun s us _ hl => .of_eq (h kV doc pm an cdv ct us hl)
  · exact absurd rfl e
theorem _root_.L2.FunD.kwbm (F : FunD K x qual params body scope dvs kws f fd) (hd : dvs ≠ [])
    (h : ∀ (T : Addr) (kV doc pm : Value) (an : Option Addr) (cdv ct sl : Value) (us its : List Value), us.length = ks.length → its.length = dvs.length →
      ∃ k, bindArgs (PySem.W.fnOf x qual params body scope (.ref T) kV doc pm an cdv ct) ⟨[sl], ks.zip us⟩ = seqItems? (.ref T) >>= k ∧ k (some its.toArray) = pure (ps.zip (sl :: permL pk us))) : KwBM K fd ps ks pk := by
  obtain ⟨oc, od, dV, kV, doc, pm, an, cdv, ct, osl, rfl, _, _, hD, _⟩ := F.ex
  rcases hD with ⟨e, _⟩ | ⟨_, T, o, its, n, rfl, lT, oT, rT⟩
  · exact absurd e hd
  · intro s sl us X hl
    obtain ⟨k, e1, e2⟩ := h T kV doc pm an cdv ct sl us its hl rT.length.symm
    refine BindsTo.of_looks fun M => ?_
    rw [e1]
    exact looks_items X lT oT (.of_pure e2)
end
end Mm
end

section
set_option Elab.async false
set_option linter.all false
set_option maxRecDepth 100000
set_option maxHeartbeats 2000000
namespace Mm
open PySem PySem.Spec PyProof.Rows L2 LamX

/-! ## the law's call -/
/-- what is tracked when the law's def is called: the tables, and the script where the top did not write it -/
def atCall (K : PySem.W.Frag) (Ts : List Addr) (a : Addr) (o : Obj) (xs : List V) : Hp := fun b =>
  if b ∈ Ts then some (.tbl #[]) else if b = a then (match K.lookup a with | none => some (.frz o (.lst xs)) | some _ => none) else none
section
variable {K : PySem.W.Frag} {Ts : List Addr} {a : Addr} {o : Obj} {xs : List V}
theorem atCall_tab {b : Addr} (h : b ∈ Ts) : atCall K Ts a o xs b = some (.tbl #[]) := if_pos h
theorem atCall_cases {b : Addr} {u : HO} (h : atCall K Ts a o xs b = some u) : (b ∈ Ts ∧ u = .tbl #[]) ∨ (b ∉ Ts ∧ b = a ∧ K.lookup a = none ∧ u = .frz o (.lst xs)) := by
  unfold atCall at h
  by_cases hb : b ∈ Ts
  · rw [if_pos hb] at h; cases h; exact .inl ⟨hb, rfl⟩
  · rw [if_neg hb] at h
    by_cases he : b = a
    · rw [if_pos he] at h
      cases hk : K.lookup a with
      | none => rw [hk] at h; cases h; exact .inr ⟨hb, he, rfl, rfl⟩
      | some q => rw [hk] at h; cases h
    · rw [if_neg he] at h; cases h
theorem atCall_none {b : Addr} (h1 : b ∉ Ts) (h2 : b ≠ a) : atCall K Ts a o xs b = none := by
  unfold atCall
  rw [if_neg h1, if_neg h2]
theorem atCall_script (h1 : a ∉ Ts) (hk : K.lookup a = none) : atCall K Ts a o xs a = some (.frz o (.lst xs)) := by
  unfold atCall
  rw [if_neg h1, if_pos rfl, hk]
end
/-- what the law's def is asked at its call -/
abbrev Asked (K : PySem.W.Frag) (n : Nat) (cs : List (Addr × Addr)) (sp : Sp) : Prop :=
  ∀ (H : Hp) (a : Addr) (ns : List Int), ns.length ≤ n → (∀ z ∈ ns, Builtin.Int.intBits z ≤ 1048576) → (∀ p ∈ cs, H p.2 = some (.tbl #[])) → SqL K H a (ns.map V.int) → KF K H → sp [.ref a] H (fun v _ => v = .bl true) fun _ _ _ => False
/-- the def's promise, once the top's objects stand in base -/
abbrev Kept (l : PySem.W.OpenLaw) (w : World) (K : PySem.W.Frag) (mg : Str → Option Value) (cs : List (Addr × Addr)) (k : Nat) (fa : Addr) (fd : FuncData) (x : Str) (sp : Sp) : Prop :=
  ∀ base : Heap, K.In base → base.Ns mainGlobals mg → (∀ p ∈ cs, TabB base mg p.1 p.2) → FnG l.prog w K mg base k fa fd [x] sp
/-- the tables of the defs that make lambdas: empty, out of K, each its code object's -/
structure TabsAt (K : PySem.W.Frag) (h : Heap) (cs : List (Addr × Addr)) : Prop where
  empty : ∀ p ∈ cs, h.get? p.2 = some { cls := .none, data := .fields #[] }
  out : ∀ p ∈ cs, K.lookup p.2 = none
  code : ∀ p ∈ cs, PySem.W.CodeHd h p.1 p.2
theorem law_run {l : PySem.W.OpenLaw} {w : World} {K : PySem.W.Frag} {mg mb : Str → Option Value} {k n : Nat} {fa a : Addr} {cs : List (Addr × Addr)} {fd : FuncData} {x : Str} {sp : Sp} {st : Shared} {vs : List Value} {ns : List Int}
    (kin : K.In st.heap) (gns : st.heap.Ns mainGlobals mg) (bns : st.heap.Ns builtinsNs mb) (boot : ∀ x : Str, x ≠ "__name__" → mb x = bootBuiltins x) (lim : st.heap.NoLimit) (gens : st.gens = #[]) (T : TabsAt K st.heap cs)
    (bmain : ∃ (bm : Addr) (ob : Obj), mg "__builtins__" = some (.ref bm) ∧ bm ≠ builtinsNs ∧ st.heap.get? bm = some ob ∧ ob.cls = .type "module" ∧ ob.dict = some builtinsNs ∧ ob.data = .plain)
    (script : st.heap.get? a = some { cls := .type "list", data := .seq vs.toArray }) (whole : IntsAre vs ns) (few : ns.length ≤ n) (line : n ≤ sizeLine) (small : ∀ z ∈ ns, Builtin.Int.intBits z ≤ 1048576) (room : RoomG k callerA)
    (F : Kept l w K mg cs k fa fd x sp) (bind : ∀ (s : Shared) (u : Value), BindsTo s fd ⟨[u], []⟩ [(x, u)]) (ask : Asked K n cs sp) :
    codeAny (model l.prog w) callerA (.call (.ref fa) ⟨[.ref a], []⟩) (fun r s' => r = .ok (.ret (.bool true)) ∧ OldK st.heap s'.heap ∧ s'.os = st.os ∧ AllBare s'.gens) st := by
  obtain ⟨Ts, eTs⟩ : ∃ Ts, Ts = cs.map (·.2) := ⟨_, rfl⟩
  have inTs : ∀ p ∈ cs, p.2 ∈ Ts := fun p hp => by rw [eTs]; exact List.mem_map.mpr ⟨p, hp, rfl⟩
  have ofTs : ∀ b ∈ Ts, ∃ p ∈ cs, p.2 = b := fun b hb => by rw [eTs] at hb; exact List.mem_map.mp hb
  have tabObj : ∀ b ∈ Ts, st.heap.get? b = some { cls := .none, data := .fields #[] } := fun b hb => by
    obtain ⟨p, hp, rfl⟩ := ofTs b hb
    exact T.empty p hp
  have notK : ∀ b ∈ Ts, K.lookup b = none := fun b hb => by
    obtain ⟨p, hp, rfl⟩ := ofTs b hb
    exact T.out p hp
  have aOut : a ∉ Ts := fun z => by
    have q := tabObj a z
    rw [script] at q
    cases q
  obtain ⟨H, eH⟩ : ∃ H, H = atCall K Ts a { cls := .type "list", data := .seq vs.toArray } (ns.map V.int) := ⟨_, rfl⟩
  have tracked : ∀ {b u}, H b = some u → (b ∈ Ts ∧ u = .tbl #[]) ∨ (b ∉ Ts ∧ b = a ∧ K.lookup a = none ∧ u = .frz { cls := .type "list", data := .seq vs.toArray } (.lst (ns.map V.int))) := fun {b u} e => by rw [eH] at e; exact atCall_cases e
  have rv := vals_ints whole
  have len : vs.length = ns.length := whole.length
  have size : (ns.map V.int).length ≤ sizeLine := by rw [List.length_map]; exact Nat.le_trans few line
  have hok : HOk l.prog w H st.heap := fun b u e => by
    rcases tracked e with ⟨hb, rfl⟩ | ⟨_, rfl, _, rfl⟩
    · exact tabObj b hb
    · exact ⟨script, size, vs, _, rv, script⟩
  have free : ∀ {b u}, st.heap.get? b = some u → (∀ its m, u.data ≠ .seq its m) → u.data ≠ .fields #[] → H b = none := fun {b u} e q1 q2 => by
    rw [eH]
    refine atCall_none (fun z => ?_) fun z => ?_
    · have y := tabObj b z
      rw [e] at y
      cases y
      exact q2 rfl
    · subst z
      rw [script] at e
      cases e
      exact q1 _ _ rfl
  have ns' : ∀ {b : Addr} {m : Str → Option Value}, st.heap.Ns b m → (hidT st.heap H).Ns b m := fun {b m} ⟨u, es, ep, e, d, q⟩ =>
    ⟨u, es, ep, hidT_get e (free e (fun its j z => by rw [d] at z; cases z) fun z => by rw [d] at z; cases z), d, q⟩
  have kin' : K.In (hidT st.heap H) := fun b u e => by
    refine hidT_get (kin b u e) ?_
    cases q : H b with
    | none => rfl
    | some v =>
      rcases tracked q with ⟨hb, _⟩ | ⟨_, rfl, hk, _⟩
      · rw [notK b hb] at e; cases e
      · rw [hk] at e; cases e
  have tabB : ∀ p ∈ cs, TabB (hidT st.heap H) mg p.1 p.2 := fun p hp => by
    refine ⟨?_, ?_, fun z => ?_⟩
    · obtain ⟨u, us, fl, tf, fs, tg, inF, tx, tt, c1, c2, c3, c4, cc⟩ := T.code p hp
      exact ⟨u, us, fl, tf, fs, tg, inF, tx, tt, hidT_get c1 (free c1 (fun its j z => by rw [c3] at z; cases z) fun z => by rw [c3] at z; cases z; simp at c4), c2, c3, c4, cc⟩
    · obtain ⟨bm, u, b1, b2, b3, b4, b5, b6⟩ := bmain
      refine ⟨bm, u, b1, b2, fun z => ?_, fun z => ?_, hidT_get b3 (free b3 (fun its j z => by rw [b6] at z; cases z) fun z => by rw [b6] at z; cases z), b4, b5, b6⟩
      · obtain ⟨u', es, ep, e, d, _⟩ := gns
        rw [z, e] at b3
        cases b3
        rw [d] at b6
        cases b6
      · rw [z, T.empty p hp] at b3
        cases b3
        cases b6
    · obtain ⟨u', es, ep, e, d, _⟩ := gns
      rw [z, T.empty p hp] at e
      cases e
      cases d
  have sq : SqL K H a (ns.map V.int) := by
    cases hk : K.lookup a with
    | none => exact .inl (.inr ⟨{ cls := .type "list", data := .seq vs.toArray }, by rw [eH]; exact atCall_script aOut hk⟩)
    | some u =>
      have e := kin a u hk
      rw [script] at e
      cases e
      exact .inr ⟨_, vs.toArray, _, hk, rfl, rfl, rfl, by rw [List.size_toArray, len]; exact Nat.le_trans few line, by simpa using rv⟩
  have kf : KF K H := by
    refine ⟨fun b u e => ?_, fun b ys q => ?_, fun b ys q => ?_⟩
    · cases q : H b with
      | none => rfl
      | some v =>
        rcases tracked q with ⟨hb, _⟩ | ⟨_, rfl, hk, _⟩
        · rw [notK b hb] at e; cases e
        · rw [hk] at e; cases e
    · rcases q with (q | ⟨u, q⟩) | ⟨u, its, m, hk, _, _, _, hz, r⟩
      · rcases tracked q with ⟨_, z⟩ | ⟨_, _, _, z⟩ <;> cases z
      · rcases tracked q with ⟨_, z⟩ | ⟨_, _, _, z⟩ <;> cases z
        exact size
      · have e : ys.length = its.toList.length := Vals.length r
        have e2 : its.toList.length = its.size := Array.length_toList
        omega
    · rcases q with (q | ⟨u, q⟩) | ⟨u, its, m, hk, _, _, hz, r⟩
      · rcases tracked q with ⟨_, z⟩ | ⟨_, _, _, z⟩ <;> cases z
      · rcases tracked q with ⟨_, z⟩ | ⟨_, _, _, z⟩ <;> cases z
      · have e : ys.length = its.toList.length := Vals.length r
        have e2 : its.toList.length = its.size := Array.length_toList
        omega
  have tabH : ∀ p ∈ cs, H p.2 = some (.tbl #[]) := fun p hp => by rw [eH]; exact atCall_tab (inTs p hp)
  have e0 : Env0 l.prog w K mg (hidT st.heap H) callerA [] st H :=
    { frames := rfl, mod := ⟨kin', ns' gns, ⟨mb, ns' bns, boot⟩, let ⟨c, q1, q2⟩ := lim; ⟨c, ns' q1, q2⟩⟩, bs := fun b u e => of_hidT e, bsz := Nat.le_of_eq (hidT_size _ _), funs := trivial, frf := fun b hb => (by cases hb), hok := hok, bare := .of_eq gens }
  have run := (F _ kin' (ns' gns) tabB).run callerA [] st H ⟨[.ref a], []⟩ [.ref a] [.ref a] _ _ room e0 (bind st (.ref a)) (.cons rfl .nil) (ask H a ns few small tabH sq kf)
  refine codeAny_mono run fun r s' h => ?_
  match r, h with
  | .ok (.ret u), ⟨v, H', os, bare, un, hok', rel, (q : v = .bl true)⟩ =>
    subst q
    obtain rfl : u = Value.bool true := rel
    have same : ∀ b u, b ∉ Ts → st.heap.get? b = some u → s'.heap.get? b = some u := fun b u nb e => by
      cases q : H b with
      | none => exact un.keep b u e q (fun z => by cases z) fun z => by cases z
      | some v =>
        rcases tracked q with ⟨hb, _⟩ | ⟨_, rfl, _, rfl⟩
        · exact absurd hb nb
        · have e2 := (hok' _ _ (un.frzs _ _ _ q)).1
          rw [script] at e
          cases e
          exact e2
    have grow : ∀ p ∈ cs, ∃ more : Array Value, s'.heap.get? p.2 = some { cls := .none, data := .fields more } := fun p hp => by
      obtain ⟨more, z⟩ := un.tbls _ _ (tabH p hp)
      exact ⟨_, hok' _ _ z⟩
    refine ⟨rfl, ⟨fun b u e => ?_, fun b u e => ?_⟩, os, bare⟩
    · by_cases hb : b ∈ Ts
      · obtain ⟨p, hp, rfl⟩ := ofTs b hb
        obtain ⟨more, hm⟩ := grow p hp
        rw [T.empty p hp] at e
        cases e
        exact .inr (.inl ⟨((T.code p hp).tab (T.empty p hp)).isCodeTable, rfl, #[], more, rfl, by rw [hm, Array.empty_append]⟩)
      · exact .inl (same b u hb e)
    · by_cases hb : b ∈ Ts
      · obtain ⟨p, hp, rfl⟩ := ofTs b hb
        obtain ⟨more, hm⟩ := grow p hp
        exact ⟨_, hm⟩
      · exact ⟨u, same b u hb e⟩
  | .error e, h =>
    obtain ⟨_, _, _, _, _, _, _, _, _, _, _, _, _, hE⟩ := h
  | .ok .next, h => exact h.elim
  | .ok .brk, h => exact h.elim
  | .ok .cont, h => exact h.elim
/-- what is known of the law's def at the head's heap -/
def LawGood (l : PySem.W.OpenLaw) (w : World) (k n : Nat) (mg : Str → Option Value) (fa : Addr) (h : Heap) : Prop :=
  ∃ (K : PySem.W.Frag) (fd : FuncData) (x : Str) (cs : List (Addr × Addr)) (sp : Sp), K.In h ∧ TabsAt K h cs ∧ (∀ (s : Shared) (u : Value), BindsTo s fd ⟨[u], []⟩ [(x, u)]) ∧ Asked K n cs sp ∧ Kept l w K mg cs k fa fd x sp
theorem law_walk {l : PySem.W.OpenLaw} {n k : Nat} {q : Program} {loose : List Str} {XP : (Str → Option Value) → Heap → Prop} {YP : World → Heap → Prop} {d : DefRec} (most : l.most = some n) (line : n ≤ sizeLine) (plain : d.params.defaults = []) (room : Room k callerA)
    (F : ∀ (w : World) (mg : Str → Option Value) (fa : Addr) (h : Heap), YP w h → h.Ns mainGlobals mg → mg d.name = some (.ref fa) → LawGood l w k n mg fa h) : PySem.W.WalkO q loose XP YP l.row.toRowW d [] (fun f vs => PySem.call f vs) := by
  refine Att.attach_callB most plain fun w s0 s1 mg mb fa o pm cd doc a vs ns G Y _ _ _ hmg script whole few small gens => ?_
  obtain ⟨K, fd, x, cs, sp, kin, T, bind, ask, keep⟩ := F w mg fa _ Y G.T.g hmg
  exact law_run kin G.T.g G.T.b G.T.builtins G.T.nolimit gens T G.T.bmain script whole few line small ⟨room, rfl⟩ keep bind ask

/-! ## what the head is looked at for -/
end Mm
end

section
set_option Elab.async false
set_option linter.all false
set_option maxRecDepth 100000
set_option maxHeartbeats 2000000
namespace Mm
open PySem PySem.Spec PyProof.Rows L2 LamX

/-! ## the head's facts, as the derivations ask them -/
theorem ints_are {G : GC} {r : Ads} {H : Hp} : ∀ {ns : List Int}, IsAll G r H (ns.map .int) (ns.map V.int)
  | [] => IsAll.nil
  | n :: ns => IsAll.cons.mpr ⟨by unfold Is; rfl, ints_are⟩
theorem ask_of {G : GC} {n : Nat} {cs : List (Addr × Addr)} {F : MFn} (hT : ∀ p ∈ G.T, ∃ q ∈ cs, q.2 = p.1)
    (law : ∀ ns : List Int, ns.length ≤ n → (∀ z ∈ ns, Builtin.Int.intBits z ≤ 1048576) → ∃ S, F [.p (.scr (ns.map .int))] [] = .ok (.p (.bl true)) S) : Asked G.K n cs (spM G 1 F) := by
  intro H a ns few small tabs sq kf
  obtain ⟨S, hS⟩ := law ns few small
  refine ⟨[], [], [.p (.scr (ns.map .int))], ⟨⟨rfl, fun i j b h => by simp at h, fun m b h => by simp at h, fun p hp => ?_⟩, kf⟩, RIsAll.cons.mpr ⟨?_, RIsAll.nil⟩, rfl, ?_⟩
  · obtain ⟨q, hq, e⟩ := hT p hp
    rw [← e]
    exact TabS.nil (tabs q hq)
  · show Is G [] H (.scr _) (.ref a)
    unfold Is
    exact ⟨a, _, rfl, by simp, sq, ints_are⟩
  · rw [hS]
    intro r' H' v _ _ i
    have i : Is G r' H' (.bl true) v := i
    unfold Is at i
    exact i
theorem nodup_map {α β : Type} {g : α → β} : ∀ {l : List α}, (l.map g).Nodup → ∀ {x y : α}, x ∈ l → y ∈ l → g x = g y → x = y
  | [], _, x, y, hx, _, _ => absurd hx (by simp)
  | z :: l, nd, x, y, hx, hy, e => by
    obtain ⟨h1, h2⟩ := List.nodup_cons.mp nd
    rcases List.mem_cons.mp hx with e1 | k1
    · rcases List.mem_cons.mp hy with e2 | k2
      · rw [e1, e2]
      · exact absurd (by rw [← e1, e]; exact List.mem_map.mpr ⟨y, k2, rfl⟩) h1
    · rcases List.mem_cons.mp hy with e2 | k2
      · exact absurd (by rw [← e2, ← e]; exact List.mem_map.mpr ⟨x, k1, rfl⟩) h1
      · exact nodup_map h2 k1 k2 e
/-- the tables, each with its lambda's name -/
def tabsOf (tf : List He.Defn) (K : PySem.W.Frag) : List (Addr × Str) := tf.map fun p => ((He.cT K p).2, lamQ p.1)
def codesOf (tf : List He.Defn) (K : PySem.W.Frag) : List (Addr × Addr) := tf.map (He.cT K)
theorem tabs_codes {tf : List He.Defn} {K : PySem.W.Frag} : ∀ p ∈ tabsOf tf K, ∃ q ∈ codesOf tf K, q.2 = p.1 := fun p hp => by
  obtain ⟨d, hd, rfl⟩ := List.mem_map.mp hp
  exact ⟨_, List.mem_map.mpr ⟨d, hd, rfl⟩, rfl⟩
theorem lam_at {K : PySem.W.Frag} {mg : Str → Option Value} {base : Heap} {tf : List He.Defn} {p : He.Defn} {x qual : Str} {params : Arguments} {body : List Stmt} {scope : Scope} {dvs : List V} {kws : List (Str × V)} {fd : FuncData} (hp : p ∈ tf)
    (F : FunD K x qual params body scope dvs kws (He.fAd K p) fd) (TB : ∀ q ∈ codesOf tf K, TabB base mg q.1 q.2) (nd : (tf.map fun p => (He.cT K p).2).Nodup) :
    ∀ c, fd.code = .ref c → ∃ Q, TabB base mg c Q ∧ (Q, lamQ p.1) ∈ tabsOf tf K ∧ ∀ q ∈ tabsOf tf K, q.1 = Q → q.2 = lamQ p.1 := fun c hc => by
  obtain ⟨oc, od, dV, kV, doc, pm, an, cdv, ct, osl, e, lk, _⟩ := F.ex
  have hcode := He.codeOf_eq lk hc
  have tb := TB (He.cT K p) (List.mem_map.mpr ⟨p, hp, rfl⟩)
  refine ⟨(He.cT K p).2, ?_, List.mem_map.mpr ⟨p, hp, rfl⟩, fun q hq h => ?_⟩
  · have e1 : (He.cT K p).1 = c := hcode
    rw [← e1]
    exact tb
  · obtain ⟨d, hd, rfl⟩ := List.mem_map.mp hq
    rw [nodup_map nd hd hp h]
theorem tabs_at {fa : List He.Fa} {fn : List He.DefD} {ts : List He.Tab} {tf : List He.Defn} {ex : PySem.W.Frag → Bool} {w : World} {h : Heap} {K : PySem.W.Frag} (X : K.In h) (c : He.SaysX fa fn ts tf ex w h K) : TabsAt K h (codesOf tf K) where
  empty := fun q hq => by obtain ⟨p, hp, rfl⟩ := List.mem_map.mp hq; exact c.empty p hp
  out := fun q hq => by obtain ⟨p, hp, rfl⟩ := List.mem_map.mp hq; exact c.out p hp
  code := fun q hq => by obtain ⟨p, hp, rfl⟩ := List.mem_map.mp hq; exact PySem.W.codeHd_of_K X (c.hd p hp)
theorem exW_nd {tf : List He.Defn} {K : PySem.W.Frag} (h : exW tf K = true) : (tf.map fun p => (He.cT K p).2).Nodup := by
  unfold exW at h
  exact of_decide_eq_true (He.ba h).2
/-- the fields of the class Work -/
def fl0 (n : Nat) : List Str := if n = 0 then ["tools", "stuffs", "recipes", "washes"] else []
/-- the objects' classes: one alone -/
abbrev GG (K : PySem.W.Frag) (cls : Nat → Addr) (T : List (Addr × Str)) : GC := ⟨K, cls, fl0, T⟩
theorem gs_of {K : PySem.W.Frag} {cls : Nat → Addr} {T : List (Addr × Str)} (c : Cls K (cls 0)) (na : ∀ f ∈ fl0 0, NoAttr K (cls 0) f) : GS (GG K cls T) := by
  have zero : ∀ {n : Nat} {f : Str}, f ∈ fl0 n → n = 0 := fun {n f} h => by
    by_cases e : n = 0
    · exact e
    · have : fl0 n = [] := if_neg e
      rw [this] at h
      cases h
  refine ⟨⟨fun n f _ h => ?_, fun n f _ h => ?_⟩, fun n => ?_⟩
  · have e := zero h
    subst e
    exact c
  · have e := zero h
    subst e
    exact na f h
  · show (fl0 n).length < 1000
    unfold fl0
    split <;> decide
theorem gn_of {K : PySem.W.Frag} {cls : Nat → Addr} {T : List (Addr × Str)} {tf : List He.Defn} (h0 : cls 0 = He.ga K "Work") (c : Cls K (cls 0)) (h : exW tf K = true) : GN (GG K cls T) 0 := by
  unfold exW at h
  obtain ⟨h, _⟩ := He.ba h
  obtain ⟨h1, h⟩ := He.ba h
  obtain ⟨h2, h⟩ := He.ba h
  obtain ⟨h3, h⟩ := He.ba h
  obtain ⟨h4, h5⟩ := He.ba h
  rw [← h0] at h1 h4 h5
  exact ⟨⟨c, He.eqO_ok h1, He.eqO_ok h2, of_decide_eq_true h3, of_decide_eq_true h4⟩, fun n hn => of_decide_eq_true (List.all_eq_true.mp h5 n (List.mem_range.mpr hn))⟩
end Mm
end

section
set_option Elab.async false
set_option linter.all false
set_option maxRecDepth 100000
namespace Mm
open PySem PySem.Spec L2

/-! ## mirrors are worked out -/
section
variable {α β : Type} {m n : MExp} {e : MEnv} {S S1 : Sto}
@[simp] theorem at_bindM {m : MEnv → Sto → Res α} {k : α → MEnv → Sto → Res β} : Mm.bindM m k e S = match m e S with | .ok x S1 => k x e S1 | .exn c fs S1 => .exn c fs S1 | .bad => .bad := rfl
@[simp] theorem at_bindS {m : MEnv → Sto → Res α} {k : α → MEnv → Sto → ResS} : bindS m k e S = match m e S with | .ok x S1 => k x e S1 | .exn c fs S1 => .exn c fs e S1 | .bad => .bad := rfl
@[simp] theorem at_seqS {a b : MStm} : seqS a b e S = match a e S with | .next e1 S1 => b e1 S1 | x => x := rfl
@[simp] theorem at_nilS : nilS e S = .next e S := rfl
@[simp] theorem at_retS : retS m e S = bindS m (fun x _ S => .ret x S) e S := rfl
@[simp] theorem at_dropS : dropS m e S = bindS m (fun _ e S => .next e S) e S := rfl
@[simp] theorem at_setS {i : Nat} : setS i m e S = bindS m (fun x e S => .next (setE e i x) S) e S := rfl
@[simp] theorem at_ifS {c : MTst} {a b : MStm} : ifS c a b e S = bindS c (fun z e S => if z then a e S else b e S) e S := rfl
@[simp] theorem at_mIf {c : MTst} : mIf c m n e S = Mm.bindM c (fun b e S => if b then m e S else n e S) e S := rfl
@[simp] theorem at_mVar {i : Nat} : mVar i e S = match e[i]? with | some (some x) => .ok x S | _ => .bad := rfl
@[simp] theorem at_mC {x : PV} : mC x e S = .ok (.p x) S := rfl
@[simp] theorem at_mNil : mNil e S = .ok [] S := rfl
@[simp] theorem at_mCons {a : MArg} : mCons m a e S = Mm.bindM m (fun x => Mm.bindM a fun xs _ S => .ok (x :: xs) S) e S := rfl
@[simp] theorem at_mCall {F : MFn} {ds : List RV} {a : MArg} : mCall F ds a e S = Mm.bindM a (fun xs _ S => F (xs ++ ds) S) e S := rfl
@[simp] theorem at_mCallK {F : MFn} {pk : List Nat} {a : MArg} : mCallK F pk a e S = Mm.bindM a (fun xs _ S => F (permL pk xs) S) e S := rfl
@[simp] theorem at_mOp2 {f : F2} {a b : MExp} : mOp2 f a b e S = Mm.bindM a (fun x => Mm.bindM b fun y e S => match x, y with | .p x, .p y => (match f x y with | some z => .ok (.p z) S | none => .bad) | _, _ => .bad) e S := rfl
@[simp] theorem at_mCmp {f : FB} {a b : MExp} : mCmp f a b e S = Mm.bindM a (fun x => Mm.bindM b fun y e S => match x, y with | .p x, .p y => (match f x y with | some z => .ok (.p (.bl z)) S | none => .bad) | _, _ => .bad) e S := rfl
@[simp] theorem at_mCmpT {f : FB} {a b : MExp} : mCmpT f a b e S = Mm.bindM a (fun x => Mm.bindM b fun y e S => match x, y with | .p x, .p y => (match f x y with | some z => .ok z S | none => .bad) | _, _ => .bad) e S := rfl
@[simp] theorem at_mB {f : FC} {a : MArg} : mB f a e S = Mm.bindM a (fun xs _ S => match f xs S with | some z => .ok (.p z) S | none => .bad) e S := rfl
@[simp] theorem at_mTup {a : MArg} : mTup a e S = Mm.bindM a (fun xs _ S => match pures xs with | some ys => if ys.length ≤ 1000 then .ok (.p (.tup ys)) S else .bad | none => .bad) e S := rfl
@[simp] theorem at_mLst {a : MArg} : mLst a e S = Mm.bindM a (fun xs _ S => match pures xs with | some ys => if ys.length ≤ 1000 then .ok (.p (.lst ys)) S else .bad | none => .bad) e S := rfl
@[simp] theorem at_mLstO {a : MArg} : mLstO a e S = Mm.bindM a (fun xs _ S => match pures xs with | some ys => if ys.length ≤ 1000 then .ok (.l S.length) (S ++ [.lst ys]) else .bad | none => .bad) e S := rfl
@[simp] theorem at_mIx {a b : MExp} : mIx a b e S = Mm.bindM a (fun x => Mm.bindM b fun y _ S => match y with
  | .p (.int i) => (match seqOf x S with
    | some xs => (match atI xs i with
      | some v => .ok (.p v) S
      | none => .bad)
    | none => (match x with
      | .p (.str z) => if z.length ≤ 1000 then (match atI z.cps.toList i with
        | some c => .ok (.p (.str ⟨#[c]⟩)) S
        | none => .bad) else .bad
      | _ => .bad))
  | _ => .bad) e S := rfl
@[simp] theorem at_unlS {a : MExp} {k : Nat} {g : MGs} : unlS a k g e S = bindS a (fun x e S => match lstOf x S with | some xs => if xs.length = k then (match g xs e with | some e1 => .next e1 S | none => .bad) else .bad | none => .bad) e S := rfl
@[simp] theorem at_setIxS {mo mi mv : MExp} : setIxS mo mi mv e S = bindS mv (fun y => bindS mo fun x => bindS mi fun k e S => match x, k, y with
  | .l n, .p (.int i), .p v => (match S[n]? with
    | some (.lst xs) => (match ixN xs.length i with
      | some j => .next e (S.set n (.lst (xs.set j v)))
      | none => .bad)
    | _ => .bad)
  | _, _, _ => .bad) e S := rfl
@[simp] theorem at_asgS {g : MG} : asgS m g e S = bindS m (fun x e S => match g x e with | some e1 => .next e1 S | none => .bad) e S := rfl
@[simp] theorem at_parS {i j : Nat} {a : MArg} : parS i j a e S = bindS a (fun xs e S => match xs with | [x, y] => .next (setE (setE e i x) j y) S | _ => .bad) e S := rfl
@[simp] theorem at_par3S {i j l : Nat} {a : MArg} : par3S i j l a e S = bindS a (fun xs e S => match xs with | [x, y, z] => .next (setE (setE (setE e i x) j y) l z) S | _ => .bad) e S := rfl
@[simp] theorem at_gN {i : Nat} {x : RV} : gN i x e = some (setE e i x) := rfl
@[simp] theorem at_gNil : gNilM [] e = some e := rfl
@[simp] theorem at_gCons {g : MG} {h : MGs} {x : PV} {xs : List PV} : gConsM g h (x :: xs) e = match g (.p x) e with | some e1 => h xs e1 | none => none := rfl
@[simp] theorem at_gT {k : Nat} {h : MGs} {xs : List PV} : gT k h (.p (.tup xs)) e = if xs.length = k then h xs e else none := rfl
@[simp] theorem at_setE {i : Nat} {x : RV} : setE e i x = e.set i (some x) := rfl
@[simp] theorem at_mDef {k : Nat} {fz : Bool} {b : MStm} {xs : List RV} : mDef k fz b xs S = match b (xs.map some ++ List.replicate (k - xs.length) none) S with
  | .ret x S1 => trimR S.length fz x S1
  | .next _ S1 => .ok (.p .non) (S1.take S.length)
  | .exn c fs _ S1 => .exn c fs (S1.take S.length)
  | _ => .bad := rfl
@[simp] theorem at_trim {L : Nat} {fz : Bool} {x : PV} : trimR L fz (.p x) S = .ok (.p x) (S.take L) := rfl
@[simp] theorem at_lstOf {i : Nat} : lstOf (.l i) S = match S[i]? with | some (.lst xs) => some xs | _ => none := rfl
@[simp] theorem at_seqOf {i : Nat} : seqOf (.l i) S = match S[i]? with | some (.lst xs) => some xs | _ => none := rfl
@[simp] theorem at_mMeth {k : Nat} {f : FM} {o : MExp} {a : MArg} : mMeth k f o a e S = Mm.bindM o (fun x e S => if kindN x S = k then Mm.bindM a (fun xs _ S1 => match f x xs S1 with
    | some (y, S2) => .ok y S2
    | none => .bad) e S else .bad) e S := rfl
@[simp] theorem at_forS {mi : MIt} {g : MG} {b : MStm} : forS mi g b e S = bindS mi (fun xs => forL g b xs) e S := rfl
@[simp] theorem at_mRng1 {a : MArg} : mRng1 a e S = Mm.bindM a (fun xs _ S => match xs with
  | [.p (.int n)] => if n ≤ (2 ^ 24 : Int) ∧ -(2 ^ 62) ≤ n then .ok (upTo 0 n.toNat) S else .bad
  | _ => .bad) e S := rfl
@[simp] theorem at_fAdd {i j : Int} : fAdd (.int i) (.int j) = some (.int (i + j)) := rfl
@[simp] theorem at_fInt {g : Int → Int → Int} {i j : Int} : fInt g (.int i) (.int j) = some (.int (g i j)) := rfl
@[simp] theorem at_fIntC {c : Int → Int → Bool} {g : Int → Int → Int} {i j : Int} : fIntC c g (.int i) (.int j) = if c i j then some (.int (g i j)) else none := rfl
@[simp] theorem at_fCmp {c : Int → Int → Bool} {i j : Int} : fCmp c (.int i) (.int j) = some (c i j) := rfl
@[simp] theorem at_fI1 {g : Int → Int} {i : Int} : fI1 g [.p (.int i)] S = some (.int (g i)) := rfl
@[simp] theorem at_p0 : pures [] = some [] := rfl
@[simp] theorem at_p1 {x : PV} {xs : List RV} : pures (.p x :: xs) = (match pures xs with | some ys => some (x :: ys) | none => none) := rfl
@[simp] theorem at_mSeqI : mSeqI m e S = Mm.bindM m (fun x _ S => match srcR x with | some xs => .ok xs S | none => .bad) e S := rfl
@[simp] theorem at_mLC {own : Bool} {vs : List Nat} {mi : MIt} {g : MG} {mt : MTst} {me : MExp} : mLC own vs mi g mt me e S = Mm.bindM mi (fun xs e S => lcF own (lcL g mt me (wipeE e vs) xs S [])) e S := rfl
@[simp] theorem at_lcF0 {ys : List PV} : lcF false (.ok ys S) = .ok (.p (.lst ys)) S := rfl
@[simp] theorem at_lcF1 {ys : List PV} : lcF true (.ok ys S) = .ok (.l S.length) (S ++ [.lst ys]) := rfl
@[simp] theorem at_wipe0 : wipeE e [] = e := rfl
@[simp] theorem at_wipe1 {v : Nat} {vs : List Nat} : wipeE e (v :: vs) = (wipeE e vs).set v none := rfl
@[simp] theorem at_tYes : tYesM e S = .ok true S := rfl
@[simp] theorem at_srcT {xs : List PV} : srcR (.p (.tup xs)) = some xs := rfl
@[simp] theorem at_srcL {xs : List PV} : srcR (.p (.lst xs)) = some xs := rfl
@[simp] theorem at_srcS {xs : List PV} : srcR (.p (.scr xs)) = some xs := rfl
@[simp] theorem at_seqT {xs : List PV} : seqOf (.p (.tup xs)) S = some xs := rfl
@[simp] theorem at_seqL {xs : List PV} : seqOf (.p (.lst xs)) S = some xs := rfl
@[simp] theorem at_seqC {xs : List PV} : seqOf (.p (.scr xs)) S = some xs := rfl
@[simp] theorem at_lstL {xs : List PV} : lstOf (.p (.lst xs)) S = some xs := rfl
@[simp] theorem at_lstS {xs : List PV} : lstOf (.p (.scr xs)) S = some xs := rfl
@[simp] theorem at_fTuple {x : RV} : fTuple [x] S = (match seqOf x S with | some ys => some (.tup ys) | none => none) := rfl
@[simp] theorem at_fLenT {xs : List PV} : fLen [.p (.tup xs)] S = some (.int xs.length) := rfl
@[simp] theorem at_fLenL {xs : List PV} : fLen [.p (.lst xs)] S = some (.int xs.length) := rfl
@[simp] theorem at_fLenS {xs : List PV} : fLen [.p (.scr xs)] S = some (.int xs.length) := rfl
@[simp] theorem at_mNoP : mNoP e S = .ok none S := rfl
@[simp] theorem at_mPart : mPart m e S = Mm.bindM m (fun x _ S => match x with
  | .p (.int i) => .ok (some i) S
  | _ => .bad) e S := rfl
@[simp] theorem at_mSl {l u : MPart} : mSl m l u e S = Mm.bindM m (fun x => Mm.bindM l fun lo => Mm.bindM u fun hi _ S => match x with
  | .p (.tup xs) => .ok (.p (.tup (cutP xs lo hi))) S
  | .p (.lst xs) => .ok (.p (.lst (cutP xs lo hi))) S
  | .p (.scr xs) => .ok (.p (.lst (cutP xs lo hi))) S
  | .p (.str z) => if z.length ≤ 1000 then .ok (.p (.str (cutS z lo hi))) S else .bad
  | _ => .bad) e S := rfl
@[simp] theorem at_mNotT {c : MTst} : mNotT c e S = Mm.bindM c (fun b _ S => .ok (!b) S) e S := rfl
@[simp] theorem at_mAndT {c d : MTst} : mAndT c d e S = Mm.bindM c (fun b e S => if b then d e S else .ok false S) e S := rfl
@[simp] theorem at_mOrT {c d : MTst} : mOrT c d e S = Mm.bindM c (fun b e S => if b then .ok true S else d e S) e S := rfl
@[simp] theorem at_asB : asB m e S = Mm.bindM m (fun x _ S => match x with
  | .p (.bl b) => .ok b S
  | _ => .bad) e S := rfl
@[simp] theorem at_fAddT {xs ys : List PV} : fAdd (.tup xs) (.tup ys) = if xs.length + ys.length ≤ sizeLine then some (.tup (xs ++ ys)) else none := rfl
@[simp] theorem at_fAddL {xs ys : List PV} : fAdd (.lst xs) (.lst ys) = if xs.length + ys.length ≤ sizeLine then some (.lst (xs ++ ys)) else none := rfl
@[simp] theorem at_permL0 {α : Type} {xs : List α} : permL [] xs = [] := rfl
end
end Mm
end

section
set_option Elab.async false
set_option linter.all false
set_option maxRecDepth 100000
namespace Mm
open PySem PySem.Spec L2

/-! ## loops and comprehensions by their turns -/
theorem forL_all {g : MG} {b : MStm} : ∀ (xs : List PV) (Jn : Nat → MEnv → Sto → Prop) (i : Nat) {e : MEnv} {S : Sto}, Jn i e S →
    (∀ (j : Nat) x e S, xs[j]? = some x → Jn (i + j) e S → ∃ e1 e2 S2, g (.p x) e = some e1 ∧ b e1 S = .next e2 S2 ∧ Jn (i + j + 1) e2 S2) → ∃ e2 S2, forL g b xs e S = .next e2 S2 ∧ Jn (i + xs.length) e2 S2
  | [], Jn, i, e, S, h, _ => ⟨e, S, rfl, h⟩
  | x :: xs, Jn, i, e, S, h, step => by
    obtain ⟨e1, e2, S2, h1, h2, h3⟩ := step 0 x e S rfl h
    obtain ⟨e3, S3, h4, h5⟩ := forL_all xs Jn (i + 1) h3 fun j y e S hy q => by
      have := step (j + 1) y e S (by simpa using hy) (by rw [show i + (j + 1) = i + 1 + j by omega]; exact q)
      rw [show i + (j + 1) + 1 = i + 1 + j + 1 by omega] at this
      exact this
    refine ⟨e3, S3, ?_, by rw [List.length_cons, show i + (xs.length + 1) = i + 1 + xs.length by omega]; exact h5⟩
    unfold forL
    rw [h1]
    dsimp only
    rw [h2]
    exact h4
theorem for_all {g : MG} {b : MStm} {xs : List PV} {e : MEnv} {S : Sto} (Jn : Nat → MEnv → Sto → Prop) (h : Jn 0 e S)
    (step : ∀ (j : Nat) x e S, xs[j]? = some x → Jn j e S → ∃ e1 e2 S2, g (.p x) e = some e1 ∧ b e1 S = .next e2 S2 ∧ Jn (j + 1) e2 S2) : ∃ e2 S2, forL g b xs e S = .next e2 S2 ∧ Jn xs.length e2 S2 := by
  have := forL_all (g := g) (b := b) xs Jn 0 h fun j x e S hx q => by
    have := step j x e S hx (by rw [← Nat.zero_add j]; exact q)
    rw [Nat.zero_add]
    exact this
  rwa [Nat.zero_add] at this
/-- a loop that hands back at the first turn that does -/
theorem for_find {g : MG} {b : MStm} {e0 : MEnv} {S : Sto} {res : Nat → Option RV} : ∀ (xs : List PV) (i : Nat) (Ok : Nat → MEnv → Prop) {e : MEnv}, Ok i e →
    (∀ (j : Nat) x e, xs[j]? = some x → Ok (i + j) e → ∃ e1, g (.p x) e = some e1 ∧ match res (i + j) with
      | some v => b e1 S = .ret v S
      | none => ∃ e2, b e1 S = .next e2 S ∧ Ok (i + j + 1) e2) →
    (∃ j v, j < xs.length ∧ res (i + j) = some v ∧ (∀ k, k < j → res (i + k) = none) ∧ forL g b xs e S = .ret v S) ∨ ((∀ k, k < xs.length → res (i + k) = none) ∧ ∃ e2, forL g b xs e S = .next e2 S ∧ Ok (i + xs.length) e2)
  | [], i, Ok, e, h, _ => .inr ⟨fun k hk => absurd hk (by simp), e, rfl, h⟩
  | x :: xs, i, Ok, e, h, step => by
    obtain ⟨e1, h1, h2⟩ := step 0 x e rfl h
    cases hr : res (i + 0) with
    | some v =>
      rw [hr] at h2
      refine .inl ⟨0, v, by simp, hr, fun k hk => absurd hk (by omega), ?_⟩
      unfold forL
      rw [h1]
      dsimp only
      rw [h2]
    | none =>
      rw [hr] at h2
      obtain ⟨e2, h3, h4⟩ := h2
      have go : forL g b (x :: xs) e S = forL g b xs e2 S := by
        conv => lhs; unfold forL
        rw [h1]
        dsimp only
        rw [h3]
      have ih := for_find (g := g) (b := b) (e0 := e0) (S := S) (res := res) xs (i + 1) Ok h4 fun j y e hy q => by
        have := step (j + 1) y e (by simpa using hy) (by rw [show i + (j + 1) = i + 1 + j by omega]; exact q)
        rw [show i + (j + 1) = i + 1 + j by omega] at this
        exact this
      rw [go]
      rcases ih with ⟨j, v, hj, q1, q2, q3⟩ | ⟨q1, e3, q2, q3⟩
      · refine .inl ⟨j + 1, v, by simp; omega, by rw [show i + (j + 1) = i + 1 + j by omega]; exact q1, fun k hk => ?_, q3⟩
        cases k with
        | zero => exact hr
        | succ k => rw [show i + (k + 1) = i + 1 + k by omega]; exact q2 k (by omega)
      · refine .inr ⟨fun k hk => ?_, e3, q2, by rw [List.length_cons, show i + (xs.length + 1) = i + 1 + xs.length by omega]; exact q3⟩
        cases k with
        | zero => exact hr
        | succ k => rw [show i + (k + 1) = i + 1 + k by omega]; exact q1 k (by simpa using hk)
/-- a comprehension whose turns leave the store -/
theorem lcL_pure {g : MG} {mt : MTst} {me : MExp} {ew : MEnv} {c : PV → Bool} {f : PV → PV} : ∀ (xs : List PV) (S : Sto) (acc : List PV),
    (∀ x ∈ xs, ∃ e1, g (.p x) ew = some e1 ∧ ∀ a, mt e1 (S ++ [.lst a]) = .ok (c x) (S ++ [.lst a]) ∧ (c x = true → me e1 (S ++ [.lst a]) = .ok (.p (f x)) (S ++ [.lst a]))) →
    lcL g mt me ew xs S acc = .ok (acc ++ (xs.filter c).map f) S
  | [], S, acc, _ => by unfold lcL; simp
  | x :: xs, S, acc, h => by
    obtain ⟨e1, h1, h2⟩ := h x List.mem_cons_self
    obtain ⟨h3, h4⟩ := h2 acc
    have ih := fun acc' => lcL_pure (g := g) (mt := mt) (me := me) (ew := ew) (c := c) (f := f) xs S acc' fun y hy => h y (List.mem_cons_of_mem _ hy)
    unfold lcL
    rw [h1]
    dsimp only
    rw [h3]
    have t1 : (S ++ [MO.lst acc]).take S.length = S := by simp
    have t2 : (S ++ [MO.lst acc])[S.length]? = some (.lst acc) := by simp
    cases hc : c x with
    | false =>
      dsimp only
      rw [t2]
      dsimp only
      rw [if_pos rfl, t1, ih acc, List.filter_cons, hc]
      rfl
    | true =>
      dsimp only
      rw [h4 hc]
      dsimp only
      rw [t2]
      dsimp only
      rw [if_pos rfl, t1, ih (acc ++ [f x]), List.filter_cons, hc]
      simp

/-! ## draws: a list of three numbers in the store -/
def dr (f s t : Int) : MO := .lst [.int f, .int s, .int t]
def Dw (k : Nat) (S : Sto) : Prop := ∃ f s t, S[k]? = some (dr f s t) ∧ 0 ≤ s ∧ s < 2147483549
/-- nothing but the draws has changed -/
def Dr (k : Nat) (S S' : Sto) : Prop := ∃ f s t, k < S.length ∧ S' = S.set k (dr f s t) ∧ 0 ≤ s ∧ s < 2147483549
section
variable {k : Nat} {S S1 S2 T : Sto}
theorem Dw.lt (h : Dw k S) : k < S.length := by obtain ⟨_, _, _, h, _⟩ := h; exact (List.getElem?_eq_some_iff.mp h).1
theorem Dr.len (h : Dr k S S1) : S1.length = S.length := by obtain ⟨f, s, t, h1, rfl, _⟩ := h; simp
theorem Dr.dw (h : Dr k S S1) : Dw k S1 := by obtain ⟨f, s, t, h1, rfl, h2⟩ := h; exact ⟨f, s, t, List.getElem?_set_self h1, h2⟩
theorem Dr.trans (h : Dr k S S1) (h' : Dr k S1 S2) : Dr k S S2 := by
  obtain ⟨f, s, t, h1, rfl, h2⟩ := h
  obtain ⟨f', s', t', h1', rfl, h2'⟩ := h'
  exact ⟨f', s', t', h1, by rw [List.set_set], h2'⟩
theorem Dr.at_ (h : Dr k S S1) {j : Nat} (hj : j ≠ k) : S1[j]? = S[j]? := by
  obtain ⟨f, s, t, h1, rfl, _⟩ := h
  exact List.getElem?_set_ne (Ne.symm hj)
theorem Dr.refl (h : Dw k S) : Dr k S S := by
  obtain ⟨f, s, t, h1, h2⟩ := h
  refine ⟨f, s, t, (List.getElem?_eq_some_iff.mp h1).1, ?_, h2⟩
  refine List.ext_getElem? fun j => ?_
  by_cases hj : k = j
  · subst hj
    rw [List.getElem?_set_self (List.getElem?_eq_some_iff.mp h1).1, h1]
  · rw [List.getElem?_set_ne hj]
theorem Dr.take (h : Dr k S S1) : S1.take S.length = S1 := List.take_of_length_le (Nat.le_of_eq h.len)
/-- with more behind -/
theorem Dr.app (h : Dr k (S ++ T) S1) (hk : k < S.length) : ∃ S2, S1 = S2 ++ T ∧ Dr k S S2 := by
  obtain ⟨f, s, t, h1, rfl, h2⟩ := h
  exact ⟨S.set k (dr f s t), List.set_append_left _ _ hk, f, s, t, hk, rfl, h2⟩
theorem Dw.app (h : Dw k S) : Dw k (S ++ T) := by
  obtain ⟨f, s, t, h1, h2⟩ := h
  exact ⟨f, s, t, by rw [List.getElem?_append_left (List.getElem?_eq_some_iff.mp h1).1]; exact h1, h2⟩
theorem Dw.pre (h : Dw k (S ++ T)) (hk : k < S.length) : Dw k S := by
  obtain ⟨f, s, t, h1, h2⟩ := h
  exact ⟨f, s, t, by rw [List.getElem?_append_left hk] at h1; exact h1, h2⟩
end
/-- a comprehension that draws: R tells each element's value; those that are taken -/
theorem lcL_draw {k : Nat} {g : MG} {mt : MTst} {me : MExp} {ew : MEnv} {R : PV → PV → Prop} : ∀ (xs : List PV) (S : Sto) (acc : List PV), Dw k S →
    (∀ x ∈ xs, ∃ e1, g (.p x) ew = some e1 ∧ ∀ S1, Dw k S1 → (∃ b S2, mt e1 S1 = .ok b S2 ∧ Dr k S1 S2) ∧ ∃ y S3, me e1 S1 = .ok (.p y) S3 ∧ Dr k S1 S3 ∧ R x y) →
    ∃ zs ys S', lcL g mt me ew xs S acc = .ok (acc ++ ys) S' ∧ Dr k S S' ∧ List.Sublist zs xs ∧ zs.length = ys.length ∧ ∀ (i : Nat) x y, zs[i]? = some x → ys[i]? = some y → R x y
  | [], S, acc, h, _ => ⟨[], [], S, by unfold lcL; simp, .refl h, .slnil, rfl, fun i x y hx => by simp at hx⟩
  | x :: xs, S, acc, h, st => by
    obtain ⟨e1, h1, h2⟩ := st x List.mem_cons_self
    obtain ⟨⟨b, S2, h3, h4⟩, _⟩ := h2 (S ++ [.lst acc]) h.app
    obtain ⟨S3, rfl, h5⟩ := h4.app h.lt
    have ih := fun S' acc' (hS : Dw k S') => lcL_draw (k := k) (g := g) (mt := mt) (me := me) (ew := ew) (R := R) xs S' acc' hS fun y hy => st y (List.mem_cons_of_mem _ hy)
    cases b with
    | false =>
      obtain ⟨zs, ys, S', q1, q2, q3, q4, q5⟩ := ih S3 acc h5.dw
      refine ⟨zs, ys, S', ?_, h5.trans q2, .cons _ q3, q4, q5⟩
      unfold lcL
      rw [h1]
      dsimp only
      rw [h3]
      dsimp only
      rw [show (S3 ++ [MO.lst acc])[S.length]? = some (.lst acc) by rw [← h5.len]; simp]
      dsimp only
      rw [if_pos rfl, show (S3 ++ [MO.lst acc]).take S.length = S3 by rw [← h5.len]; simp]
      exact q1
    | true =>
      obtain ⟨_, y, S4, h6, h7, hR⟩ := h2 (S3 ++ [.lst acc]) h5.dw.app
      obtain ⟨S5, rfl, h8⟩ := h7.app h5.dw.lt
      obtain ⟨zs, ys, S', q1, q2, q3, q4, q5⟩ := ih S5 (acc ++ [y]) h8.dw
      have hl : S5.length = S.length := h8.len.trans h5.len
      refine ⟨x :: zs, y :: ys, S', ?_, (h5.trans h8).trans q2, .cons₂ _ q3, by simp [q4], fun i a b ha hb => ?_⟩
      · unfold lcL
        rw [h1]
        dsimp only
        rw [h3]
        dsimp only
        rw [h6]
        dsimp only
        rw [show (S5 ++ [MO.lst acc])[S.length]? = some (.lst acc) by rw [← hl]; simp]
        dsimp only
        rw [if_pos rfl, show (S5 ++ [MO.lst acc]).take S.length = S5 by rw [← hl]; simp, q1]
        simp
      · cases i with
        | zero => simp at ha hb; subst ha hb; exact hR
        | succ i => simp at ha hb; exact q5 i a b ha hb
end Mm
end

section
set_option Elab.async false
set_option linter.all false
set_option maxRecDepth 100000
namespace Mm
open PySem PySem.Spec PyProof.Rows L2

/-! ## a mirror does not hang on what else stands in the store -/
def shN (a d n : Nat) : Nat := if n < a then n else n + d
def shV (a d : Nat) : RV → RV
  | .p x => .p x
  | .l n => .l (shN a d n)
abbrev shL (a d : Nat) (xs : List RV) : List RV := xs.map (shV a d)
abbrev shE (a d : Nat) (e : MEnv) : MEnv := e.map (Option.map (shV a d))
/-- J put in at a -/
def ins (a : Nat) (J S : Sto) : Sto := S.take a ++ (J ++ S.drop a)
section
variable {a n : Nat} {J S T : Sto}
theorem shN_ge (h : a ≤ n) (d : Nat) : shN a d n = n + d := if_neg (by omega)
theorem shN_lt (h : n < a) (d : Nat) : shN a d n = n := if_pos h
theorem ins_len (h : a ≤ S.length) : (ins a J S).length = S.length + J.length := by unfold ins; simp; omega
theorem ins_get (h : a ≤ S.length) : (ins a J S)[shN a J.length n]? = S[n]? := by
  have ht : (S.take a).length = a := by simp; omega
  unfold ins
  by_cases hn : n < a
  · rw [shN_lt hn, List.getElem?_append_left (by omega), List.getElem?_take, if_pos hn]
  · rw [shN_ge (by omega), List.getElem?_append_right (by omega), ht, List.getElem?_append_right (by omega), List.getElem?_drop]
    congr 1
    omega
theorem ins_app (h : a ≤ S.length) : ins a J (S ++ T) = ins a J S ++ T := by
  unfold ins
  rw [List.take_append_of_le_length h, List.drop_append_of_le_length h, List.append_assoc, List.append_assoc]
theorem ins_set {o : MO} (h : a ≤ S.length) : ins a J (S.set n o) = (ins a J S).set (shN a J.length n) o := by
  have ht : (S.take a).length = a := by simp; omega
  unfold ins
  by_cases hn : n < a
  · rw [shN_lt hn, List.set_append_left _ _ (by omega), List.take_set, List.drop_set_of_lt hn]
  · rw [shN_ge (by omega), List.set_append_right _ _ (by omega), ht, List.set_append_right _ _ (by omega), List.take_set_of_le (by omega), List.drop_set]
    rw [if_neg (by omega)]
    congr 3
    omega
theorem ins_take {L : Nat} (h : a ≤ L) (h2 : L ≤ S.length) : (ins a J S).take (L + J.length) = ins a J (S.take L) := by
  have ht : (S.take a).length = a := by simp; omega
  unfold ins
  rw [List.take_append, ht, List.take_append, List.take_of_length_le (by omega), List.take_of_length_le (l := J) (by omega), List.take_take, Nat.min_eq_left h, List.drop_take]
  congr 3
  omega
end
class Sh (α : Type) where
  sh : Nat → Nat → α → α
instance : Sh RV := ⟨shV⟩
instance : Sh Bool := ⟨fun _ _ x => x⟩
instance : Sh (List RV) := ⟨shL⟩
instance : Sh (Option Int) := ⟨fun _ _ x => x⟩
instance : Sh (List PV) := ⟨fun _ _ x => x⟩
def insR {α : Type} [Sh α] (a : Nat) (J : Sto) : Res α → Res α
  | .ok x S => .ok (Sh.sh a J.length x) (ins a J S)
  | .exn c fs S => .exn c fs (ins a J S)
  | .bad => .bad
def insRS (a : Nat) (J : Sto) : ResS → ResS
  | .next e S => .next (shE a J.length e) (ins a J S)
  | .ret x S => .ret (shV a J.length x) (ins a J S)
  | .brk e S => .brk (shE a J.length e) (ins a J S)
  | .cnt e S => .cnt (shE a J.length e) (ins a J S)
  | .exn c fs e S => .exn c fs (shE a J.length e) (ins a J S)
  | .bad => .bad
def lenR {α : Type} (L : Nat) : Res α → Prop
  | .ok _ S => L ≤ S.length
  | .exn _ _ S => L ≤ S.length
  | .bad => True
def lenRS (L : Nat) : ResS → Prop
  | .next _ S => L ≤ S.length
  | .ret _ S => L ≤ S.length
  | .brk _ S => L ≤ S.length
  | .cnt _ S => L ≤ S.length
  | .exn _ _ _ S => L ≤ S.length
  | .bad => True
class Fr {α : Type} [Sh α] (m : MEnv → Sto → Res α) : Prop where
  fr : ∀ a J e S, a ≤ S.length → m (shE a J.length e) (ins a J S) = insR a J (m e S)
  mono : ∀ e S, lenR S.length (m e S)
class FrS (m : MStm) : Prop where
  fr : ∀ a J e S, a ≤ S.length → m (shE a J.length e) (ins a J S) = insRS a J (m e S)
  mono : ∀ e S, lenRS S.length (m e S)
class FrF (F : MFn) : Prop where
  fr : ∀ a J xs S, a ≤ S.length → F (shL a J.length xs) (ins a J S) = insR a J (F xs S)
  mono : ∀ xs S, lenR S.length (F xs S)
class FrG (g : MG) : Prop where
  fr : ∀ a d x e, g (shV a d x) (shE a d e) = (g x e).map (shE a d)
class FrGs (g : MGs) : Prop where
  fr : ∀ a d xs e, g xs (shE a d e) = (g xs e).map (shE a d)
class FrC {β : Type} (f : List RV → Sto → Option β) : Prop where
  fr : ∀ a J xs S, a ≤ S.length → f (shL a J.length xs) (ins a J S) = f xs S
class FrM (f : FM) : Prop where
  fr : ∀ a J x xs S, a ≤ S.length → f (shV a J.length x) (shL a J.length xs) (ins a J S) = (f x xs S).map fun y => (shV a J.length y.1, ins a J y.2)
  mono : ∀ x xs S y S', f x xs S = some (y, S') → S.length ≤ S'.length
section
variable {α β : Type} [Sh α] [Sh β] {a : Nat} {J S : Sto} {e : MEnv} {m : MEnv → Sto → Res α}
theorem bind_fr [Fr m] {k k' : α → MEnv → Sto → Res β} (h : a ≤ S.length) (hk : ∀ x S1, a ≤ S1.length → k' (Sh.sh a J.length x) (shE a J.length e) (ins a J S1) = insR a J (k x e S1)) :
    Mm.bindM m k' (shE a J.length e) (ins a J S) = insR a J (Mm.bindM m k e S) := by
  unfold Mm.bindM
  rw [Fr.fr (m := m) a J e S h]
  have hm := Fr.mono (m := m) e S
  cases q : m e S with
  | ok x S1 => rw [q] at hm; exact hk x S1 (Nat.le_trans h hm)
  | exn c fs S1 => rfl
  | bad => rfl
theorem bind_len [Fr m] {k : α → MEnv → Sto → Res β} (hk : ∀ x S1, lenR S1.length (k x e S1)) : lenR S.length (Mm.bindM m k e S) := by
  unfold Mm.bindM
  have hm := Fr.mono (m := m) e S
  cases q : m e S with
  | ok x S1 =>
    rw [q] at hm
    have hm : S.length ≤ S1.length := hm
    have := hk x S1
    dsimp only
    cases q2 : k x e S1 with
    | ok y S2 => rw [q2] at this; exact Nat.le_trans hm this
    | exn c fs S2 => rw [q2] at this; exact Nat.le_trans hm this
    | bad => trivial
  | exn c fs S1 => rw [q] at hm; exact hm
  | bad => trivial
theorem bindS_fr [Fr m] {k k' : α → MEnv → Sto → ResS} (h : a ≤ S.length) (hk : ∀ x S1, a ≤ S1.length → k' (Sh.sh a J.length x) (shE a J.length e) (ins a J S1) = insRS a J (k x e S1)) :
    bindS m k' (shE a J.length e) (ins a J S) = insRS a J (bindS m k e S) := by
  unfold bindS
  rw [Fr.fr (m := m) a J e S h]
  have hm := Fr.mono (m := m) e S
  cases q : m e S with
  | ok x S1 => rw [q] at hm; exact hk x S1 (Nat.le_trans h hm)
  | exn c fs S1 => rfl
  | bad => rfl
theorem lenRS_trans {L M : Nat} (h : L ≤ M) {r : ResS} (q : lenRS M r) : lenRS L r := by
  cases r <;> first | exact Nat.le_trans h q | trivial
theorem lenR_trans {L M : Nat} (h : L ≤ M) {r : Res α} (q : lenR M r) : lenR L r := by
  cases r <;> first | exact Nat.le_trans h q | trivial
theorem bindS_len [Fr m] {k : α → MEnv → Sto → ResS} (hk : ∀ x S1, lenRS S1.length (k x e S1)) : lenRS S.length (bindS m k e S) := by
  unfold bindS
  have hm := Fr.mono (m := m) e S
  cases q : m e S with
  | ok x S1 => rw [q] at hm; exact lenRS_trans hm (hk x S1)
  | exn c fs S1 => rw [q] at hm; exact hm
  | bad => trivial
end
section
variable {a d : Nat} {J S : Sto}
theorem pures_sh : ∀ (xs : List RV), pures (shL a d xs) = pures xs
  | [] => rfl
  | .p x :: xs => by
    show (match pures (shL a d xs) with | some ys => some (x :: ys) | none => none) = _
    rw [pures_sh xs]
    rfl
  | .l n :: xs => rfl
theorem seqOf_sh {x : RV} (h : a ≤ S.length) : seqOf (shV a J.length x) (ins a J S) = seqOf x S := by
  cases x with
  | p x => cases x <;> rfl
  | l n => show (match (ins a J S)[shN a J.length n]? with | some (.lst xs) => some xs | _ => none) = _; rw [ins_get h]; rfl
theorem lstOf_sh {x : RV} (h : a ≤ S.length) : lstOf (shV a J.length x) (ins a J S) = lstOf x S := by
  cases x with
  | p x => cases x <;> rfl
  | l n => show (match (ins a J S)[shN a J.length n]? with | some (.lst xs) => some xs | _ => none) = _; rw [ins_get h]; rfl
theorem dicOf_sh {x : RV} (h : a ≤ S.length) : dicOf (shV a J.length x) (ins a J S) = dicOf x S := by
  cases x with
  | p x => cases x <;> rfl
  | l n => show (match (ins a J S)[shN a J.length n]? with | some (.dic xs) => some xs | _ => none) = _; rw [ins_get h]; rfl
theorem pvOf_sh {x : RV} (h : a ≤ S.length) : pvOf (shV a J.length x) (ins a J S) = pvOf x S := by
  cases x with
  | p x => rfl
  | l n => show ((ins a J S)[shN a J.length n]?).map MO.pv = _; rw [ins_get h]; rfl
theorem kindN_sh {x : RV} (h : a ≤ S.length) : kindN (shV a J.length x) (ins a J S) = kindN x S := by
  cases x with
  | p x => cases x <;> rfl
  | l n => show (match (ins a J S)[shN a J.length n]? with | some (.lst _) => 3 | some (.dic _) => 5 | _ => 0) = _; rw [ins_get h]; rfl
theorem srcR_sh {x : RV} : srcR (shV a d x) = srcR x := by cases x <;> rfl
end
/-! ### expressions -/
section
variable {ma mb mc m : MExp} {ta tb tc : MTst} {na : MArg}
instance {i : Nat} : Fr (mVar i) where
  fr a J e S h := by
    unfold mVar
    rw [List.getElem?_map]
    cases e[i]? with
    | none => rfl
    | some o => cases o <;> rfl
  mono e S := by unfold mVar; split <;> first | exact Nat.le_refl _ | trivial
instance {x : PV} : Fr (mC x) where
  fr a J e S h := rfl
  mono e S := Nat.le_refl _
instance {f : F2} [Fr ma] [Fr mb] : Fr (mOp2 f ma mb) where
  fr a J e S h := bind_fr h fun x S1 h => bind_fr h fun y S2 h => by
    cases x <;> cases y <;> first | rfl | (dsimp only [Sh.sh, shV]; split <;> rfl)
  mono e S := bind_len fun x S1 => bind_len fun y S2 => by
    cases x <;> cases y <;> first | trivial | (dsimp only; split <;> first | exact Nat.le_refl _ | trivial)
instance {f : FB} [Fr ma] [Fr mb] : Fr (mCmp f ma mb) where
  fr a J e S h := bind_fr h fun x S1 h => bind_fr h fun y S2 h => by
    cases x <;> cases y <;> first | rfl | (dsimp only [Sh.sh, shV]; split <;> rfl)
  mono e S := bind_len fun x S1 => bind_len fun y S2 => by
    cases x <;> cases y <;> first | trivial | (dsimp only; split <;> first | exact Nat.le_refl _ | trivial)
instance {f : FB} [Fr ma] [Fr mb] : Fr (mCmpT f ma mb) where
  fr a J e S h := bind_fr h fun x S1 h => bind_fr h fun y S2 h => by
    cases x <;> cases y <;> first | rfl | (dsimp only [Sh.sh, shV]; split <;> rfl)
  mono e S := bind_len fun x S1 => bind_len fun y S2 => by
    cases x <;> cases y <;> first | trivial | (dsimp only; split <;> first | exact Nat.le_refl _ | trivial)
instance [Fr m] : Fr (asB m) where
  fr a J e S h := bind_fr h fun x S1 h => by
    cases x with
    | l n => rfl
    | p x => cases x <;> rfl
  mono e S := bind_len fun x S1 => by
    cases x with
    | l n => trivial
    | p x => cases x <;> first | trivial | exact Nat.le_refl _
instance [Fr ta] : Fr (mNotT ta) where
  fr a J e S h := bind_fr h fun x S1 h => rfl
  mono e S := bind_len fun x S1 => Nat.le_refl _
instance [Fr ta] [Fr tb] : Fr (mAndT ta tb) where
  fr a J e S h := bind_fr h fun x S1 h => by
    cases x with
    | false => rfl
    | true => exact Fr.fr a J e S1 h
  mono e S := bind_len fun x S1 => by
    cases x with
    | false => exact Nat.le_refl _
    | true => exact Fr.mono e S1
instance [Fr ta] [Fr tb] : Fr (mOrT ta tb) where
  fr a J e S h := bind_fr h fun x S1 h => by
    cases x with
    | true => rfl
    | false => exact Fr.fr a J e S1 h
  mono e S := bind_len fun x S1 => by
    cases x with
    | true => exact Nat.le_refl _
    | false => exact Fr.mono e S1
instance [Fr m] : Fr (mNotV m) where
  fr a J e S h := bind_fr h fun x S1 h => by
    cases x with
    | l n => rfl
    | p x => cases x <;> rfl
  mono e S := bind_len fun x S1 => by
    cases x with
    | l n => trivial
    | p x => cases x <;> first | trivial | exact Nat.le_refl _
instance [Fr ma] [Fr mb] : Fr (mAndV ma mb) where
  fr a J e S h := bind_fr h fun x S1 h => by
    cases x with
    | l n => rfl
    | p x => cases x with
      | bl b => cases b <;> first | rfl | exact Fr.fr a J e S1 h
      | _ => rfl
  mono e S := bind_len fun x S1 => by
    cases x with
    | l n => trivial
    | p x => cases x with
      | bl b => cases b <;> first | exact Nat.le_refl _ | exact Fr.mono e S1
      | _ => trivial
instance [Fr ma] [Fr mb] : Fr (mOrV ma mb) where
  fr a J e S h := bind_fr h fun x S1 h => by
    cases x with
    | l n => rfl
    | p x => cases x with
      | bl b => cases b <;> first | rfl | exact Fr.fr a J e S1 h
      | _ => rfl
  mono e S := bind_len fun x S1 => by
    cases x with
    | l n => trivial
    | p x => cases x with
      | bl b => cases b <;> first | exact Nat.le_refl _ | exact Fr.mono e S1
      | _ => trivial
instance [Fr ta] [Fr ma] [Fr mb] : Fr (mIf ta ma mb) where
  fr a J e S h := bind_fr h fun x S1 h => by
    cases x with
    | true => exact Fr.fr (m := ma) a J e S1 h
    | false => exact Fr.fr (m := mb) a J e S1 h
  mono e S := bind_len fun x S1 => by
    cases x with
    | true => exact Fr.mono (m := ma) e S1
    | false => exact Fr.mono (m := mb) e S1
instance {f g : FB} [Fr ma] [Fr mb] [Fr mc] : Fr (mChain f g ma mb mc) where
  fr a J e S h := bind_fr h fun x S1 h => bind_fr h fun y S2 h => by
    cases x <;> cases y <;> first | rfl | skip
    rename_i x y
    dsimp only [Sh.sh, shV]
    cases f x y with
    | none => rfl
    | some b =>
      cases b with
      | false => rfl
      | true =>
        refine bind_fr h fun z S3 h => ?_
        cases z <;> first | rfl | (dsimp only [Sh.sh, shV]; split <;> rfl)
  mono e S := bind_len fun x S1 => bind_len fun y S2 => by
    cases x <;> cases y <;> first | trivial | skip
    rename_i x y
    dsimp only
    cases f x y with
    | none => trivial
    | some b =>
      cases b with
      | false => exact Nat.le_refl _
      | true =>
        refine bind_len fun z S3 => ?_
        cases z <;> first | trivial | (dsimp only; split <;> first | exact Nat.le_refl _ | trivial)
instance {g : Int → Int} [Fr m] : Fr (mUn g m) where
  fr a J e S h := bind_fr h fun x S1 h => by
    cases x with
    | l n => rfl
    | p x => cases x <;> rfl
  mono e S := bind_len fun x S1 => by
    cases x with
    | l n => trivial
    | p x => cases x <;> first | trivial | exact Nat.le_refl _
instance : Fr mNil where
  fr a J e S h := rfl
  mono e S := Nat.le_refl _
instance [Fr m] [Fr na] : Fr (mCons m na) where
  fr a J e S h := bind_fr h fun x S1 h => bind_fr h fun y S2 h => rfl
  mono e S := bind_len fun x S1 => bind_len fun y S2 => Nat.le_refl _
instance [Fr na] : Fr (mTup na) where
  fr a J e S h := bind_fr h fun x S1 h => by
    show (match pures (shL _ _ x) with | some ys => _ | none => _) = _
    rw [pures_sh]
    cases pures x with
    | none => rfl
    | some ys => dsimp only; split <;> rfl
  mono e S := bind_len fun x S1 => by
    split
    · split <;> first | exact Nat.le_refl _ | trivial
    · trivial
instance [Fr na] : Fr (mLst na) where
  fr a J e S h := bind_fr h fun x S1 h => by
    show (match pures (shL _ _ x) with | some ys => _ | none => _) = _
    rw [pures_sh]
    cases pures x with
    | none => rfl
    | some ys => dsimp only; split <;> rfl
  mono e S := bind_len fun x S1 => by
    split
    · split <;> first | exact Nat.le_refl _ | trivial
    · trivial
instance [Fr na] : Fr (mLstO na) where
  fr a J e S h := bind_fr h fun x S1 h => by
    show (match pures (shL _ _ x) with | some ys => _ | none => _) = _
    rw [pures_sh]
    cases pures x with
    | none => rfl
    | some ys =>
      dsimp only
      split
      · show Res.ok _ _ = Res.ok (RV.l (shN _ _ _)) (ins _ _ _)
        rw [ins_app h, ins_len h, shN_ge h]
      · rfl
  mono e S := bind_len fun x S1 => by
    split
    · split
      · show _ ≤ _; simp
      · trivial
    · trivial
instance {fl : Nat → List Str} {f : Str} [Fr m] : Fr (mFld fl f m) where
  fr a J e S h := bind_fr h fun x S1 h => by
    cases x with
    | l n =>
      show (match (ins a J S1)[shN a J.length n]? with | some (.ins c fs) => _ | _ => _) = insR a J (match S1[n]? with | some (.ins c fs) => _ | _ => _)
      rw [ins_get h]
      cases S1[n]? with
      | none => rfl
      | some o =>
        cases o <;> first | rfl | (dsimp only; repeat' split) <;> rfl
    | p x => cases x <;> first | rfl | (dsimp only [Sh.sh, shV]; repeat' split) <;> rfl
  mono e S := bind_len fun x S1 => by
    repeat' split
    all_goals first | exact Nat.le_refl _ | trivial
instance [Fr ma] [Fr mb] : Fr (mIx ma mb) where
  fr a J e S h := bind_fr h fun x S1 h => bind_fr h fun y S2 h => by
    cases y with
    | l n => rfl
    | p y =>
      cases y <;> first | rfl | skip
      rename_i i
      show (match seqOf (shV a J.length x) (ins a J S2) with | some xs => _ | none => _) = insR a J (match seqOf x S2 with | some xs => _ | none => _)
      rw [seqOf_sh h]
      cases seqOf x S2 with
      | some xs => dsimp only; split <;> rfl
      | none =>
        cases x with
        | l n => rfl
        | p x =>
          cases x <;> first | rfl | skip
          rename_i z
          show (if z.length ≤ 1000 then (match atI z.cps.toList i with | some c => _ | none => _) else _) = insR a J (if z.length ≤ 1000 then (match atI z.cps.toList i with | some c => _ | none => _) else _)
          by_cases hz : z.length ≤ 1000
          · rw [if_pos hz, if_pos hz]
            cases atI z.cps.toList i <;> rfl
          · rw [if_neg hz, if_neg hz]
            rfl
  mono e S := bind_len fun x S1 => bind_len fun y S2 => by
    repeat' split
    all_goals first | exact Nat.le_refl _ | trivial
instance : Fr mNoP where
  fr a J e S h := rfl
  mono e S := Nat.le_refl _
instance [Fr m] : Fr (mPart m) where
  fr a J e S h := bind_fr h fun x S1 h => by
    cases x with
    | l n => rfl
    | p x => cases x <;> rfl
  mono e S := bind_len fun x S1 => by
    cases x with
    | l n => trivial
    | p x => cases x <;> first | trivial | exact Nat.le_refl _
instance {l u : MPart} [Fr m] [Fr l] [Fr u] : Fr (mSl m l u) where
  fr a J e S h := bind_fr h fun x S1 h => bind_fr h fun y S2 h => bind_fr h fun z S3 h => by
    cases x with
    | l n => rfl
    | p x => cases x <;> first | rfl | (dsimp only [Sh.sh, shV]; split <;> rfl)
  mono e S := bind_len fun x S1 => bind_len fun y S2 => bind_len fun z S3 => by
    repeat' split
    all_goals first | exact Nat.le_refl _ | trivial
instance {f : FC} [FrC f] [Fr na] : Fr (mB f na) where
  fr a J e S h := bind_fr h fun x S1 h => by
    show (match f (shL _ _ x) _ with | some ys => _ | none => _) = _
    rw [FrC.fr (f := f) a J x S1 h]
    cases f x S1 <;> rfl
  mono e S := bind_len fun x S1 => by
    split <;> first | exact Nat.le_refl _ | trivial
instance {f : List RV → Sto → Option (List PV)} [FrC f] [Fr na] : Fr (mBO f na) where
  fr a J e S h := bind_fr h fun x S1 h => by
    show (match f (shL _ _ x) _ with | some ys => _ | none => _) = _
    rw [FrC.fr (f := f) a J x S1 h]
    cases f x S1 with
    | none => rfl
    | some ys =>
      show Res.ok _ _ = Res.ok (RV.l (shN _ _ _)) (ins _ _ _)
      rw [ins_app h, ins_len h, shN_ge h]
  mono e S := bind_len fun x S1 => by
    split
    · show _ ≤ _; simp
    · trivial
instance : FrC fLen where
  fr a J xs S h := by
    match xs with
    | [] => rfl
    | [x] =>
      show (match seqOf (shV _ _ x) _ with | some ys => _ | none => _) = _
      rw [seqOf_sh h]
      cases x <;> rfl
    | _ :: _ :: _ => rfl
instance : FrC fTuple where
  fr a J xs S h := by
    match xs with
    | [] => rfl
    | [x] =>
      show (match seqOf (shV _ _ x) _ with | some ys => _ | none => _) = _
      rw [seqOf_sh h]
      rfl
    | _ :: _ :: _ => rfl
instance : FrC fList where
  fr a J xs S h := by
    match xs with
    | [] => rfl
    | [x] => exact seqOf_sh h
    | _ :: _ :: _ => rfl
instance : FrC (fun xs S => (fList xs S).map PV.lst) where
  fr a J xs S h := by
    show (fList (shL _ _ xs) _).map PV.lst = _
    rw [FrC.fr (f := fList) a J xs S h]
instance : FrC fSum where
  fr a J xs S h := by
    match xs with
    | [] => rfl
    | [x] =>
      show (match lstOf (shV _ _ x) _ with | some ys => _ | none => _) = _
      rw [lstOf_sh h]
      rfl
    | _ :: _ :: _ => rfl
instance {f : List Bool → Bool} : FrC (fAll f) where
  fr a J xs S h := by
    match xs with
    | [] => rfl
    | [x] =>
      show (match lstOf (shV _ _ x) _ with | some ys => _ | none => _) = _
      rw [lstOf_sh h]
      rfl
    | _ :: _ :: _ => rfl
instance {g : Int → Int} : FrC (fI1 g) where
  fr a J xs S h := by
    match xs with
    | [] => rfl
    | [.p x] => cases x <;> rfl
    | [.l n] => rfl
    | .p x :: _ :: _ => cases x <;> rfl
    | .l n :: _ :: _ => rfl
instance {g : Int → Int → Int} : FrC (fI2 g) where
  fr a J xs S h := by
    match xs with
    | [] => rfl
    | [.p x] => cases x <;> rfl
    | [.l n] => rfl
    | [.p x, .p y] => cases x <;> cases y <;> rfl
    | [.p x, .l n] => cases x <;> rfl
    | [.l n, _] => rfl
    | .p x :: .p y :: _ :: _ => cases x <;> cases y <;> rfl
    | .p x :: .l n :: _ :: _ => cases x <;> rfl
    | .l n :: _ :: _ :: _ => rfl
instance : FrC fSorted where
  fr a J xs S h := by
    match xs with
    | [] => rfl
    | [x] =>
      show (match lstOf (shV _ _ x) _ with | some ys => _ | none => _) = _
      rw [lstOf_sh h]
      rfl
    | _ :: _ :: _ => rfl
instance : FrC fRepr where
  fr a J xs S h := by
    match xs with
    | [] => rfl
    | [x] =>
      show (match pvOf (shV _ _ x) _ with | some ys => _ | none => _) = _
      rw [pvOf_sh h]
      rfl
    | _ :: _ :: _ => rfl
instance {f : PV → Option Bool} [Fr m] : Fr (mIs f m) where
  fr a J e S h := bind_fr h fun x S1 h => by
    show (match pvOf (shV _ _ x) _ with | some y => _ | none => _) = _
    rw [pvOf_sh h]
    cases pvOf x S1 with
    | none => rfl
    | some y => dsimp only; split <;> rfl
  mono e S := bind_len fun x S1 => by
    repeat' split
    all_goals first | exact Nat.le_refl _ | trivial
instance {n : Nat} {f : FM} [FrM f] [Fr m] [Fr na] : Fr (mMeth n f m na) where
  fr a J e S h := bind_fr h fun x S1 h => by
    show (if kindN (shV _ _ x) _ = n then _ else _) = _
    rw [kindN_sh h]
    by_cases hk : kindN x S1 = n
    · rw [if_pos hk, if_pos hk]
      exact bind_fr h fun xs S2 h => by
        show (match f (shV _ _ x) (shL _ _ xs) _ with | some (y, S2) => _ | none => _) = _
        rw [FrM.fr (f := f) a J x xs S2 h]
        cases f x xs S2 <;> rfl
    · rw [if_neg hk, if_neg hk]
      rfl
  mono e S := bind_len fun x S1 => by
    by_cases hk : kindN x S1 = n
    · rw [if_pos hk]
      exact bind_len fun xs S2 => by
        cases q : f x xs S2 with
        | none => trivial
        | some y => exact FrM.mono x xs S2 y.1 y.2 q
    · rw [if_neg hk]
      trivial
instance : FrM fAppend where
  fr a J x xs S h := by
    match x, xs with
    | .p x, xs => cases x <;> rfl
    | .l n, [] => rfl
    | .l n, [.l k] => rfl
    | .l n, _ :: _ :: _ => 
      rename_i u v w
      cases u <;> rfl
    | .l n, [.p y] =>
      show (match (ins a J S)[shN a J.length n]? with | some (.lst zs) => _ | _ => _) = Option.map _ (match S[n]? with | some (.lst zs) => _ | _ => _)
      rw [ins_get h]
      cases S[n]? with
      | none => rfl
      | some o =>
        cases o <;> first | rfl | skip
        rename_i zs
        dsimp only
        split
        · rw [Option.map_some, ins_set h]
          rfl
        · rfl
  mono x xs S y S' q := by
    unfold fAppend at q
    repeat' split at q
    all_goals first | (cases q; done) | (cases q; simp)
instance : FrM fPopAt where
  fr a J x xs S h := by
    match x, xs with
    | .p x, xs => cases x <;> rfl
    | .l n, [] => rfl
    | .l n, [.l k] => rfl
    | .l n, u :: _ :: _ => 
      cases u with
      | l k => rfl
      | p u => cases u <;> rfl
    | .l n, [.p y] =>
      cases y <;> first | rfl | skip
      rename_i i
      show (match (ins a J S)[shN a J.length n]? with | some (.lst zs) => _ | _ => _) = Option.map _ (match S[n]? with | some (.lst zs) => _ | _ => _)
      rw [ins_get h]
      cases S[n]? with
      | none => rfl
      | some o =>
        cases o <;> first | rfl | skip
        rename_i zs
        dsimp only
        split
        · split
          · rw [Option.map_some, ins_set h]
            rfl
          · rfl
        · rfl
  mono x xs S y S' q := by
    unfold fPopAt at q
    repeat' split at q
    all_goals first | (cases q; done) | (cases q; simp)
instance : FrM fTIdx where
  fr a J x xs S h := by
    match x, xs with
    | .l n, xs => rfl
    | .p x, [] => cases x <;> rfl
    | .p x, [.l n] => cases x <;> rfl
    | .p x, u :: _ :: _ => cases x <;> first | rfl | (cases u with | l k => rfl | p u => cases u <;> rfl)
    | .p x, [.p y] =>
      cases x <;> first | rfl | skip
      cases y <;> first | rfl | skip
      rename_i zs z
      show (match strsOf zs with | some ys => _ | none => _) = Option.map _ (match strsOf zs with | some ys => _ | none => _)
      repeat' split
      all_goals rfl
  mono x xs S y S' q := by
    unfold fTIdx at q
    repeat' split at q
    all_goals first | (cases q; done) | (cases q; exact Nat.le_refl _)
instance : FrM fSplit where
  fr a J x xs S h := by
    match x, xs with
    | .l n, xs => rfl
    | .p x, [] => cases x <;> rfl
    | .p x, [.l n] => cases x <;> rfl
    | .p x, u :: _ :: _ => cases x <;> first | rfl | (cases u with | l k => rfl | p u => cases u <;> rfl)
    | .p x, [.p y] =>
      cases x <;> first | rfl | skip
      cases y <;> first | rfl | skip
      rename_i zs z
      show (if _ then _ else _) = Option.map _ (if _ then _ else _)
      split
      · rw [Option.map_some, ins_app h, ins_len h]
        show _ = some (RV.l (shN _ _ _), _)
        rw [shN_ge h]
      · rfl
  mono x xs S y S' q := by
    unfold fSplit at q
    repeat' split at q
    all_goals first | (cases q; done) | (cases q; simp)
instance [Fr ma] [Fr mb] : Fr (mDGet ma mb) where
  fr a J e S h := bind_fr h fun x S1 h => bind_fr h fun y S2 h => by
    cases y with
    | l n => rfl
    | p y =>
      show (match keyOf y, dicOf (shV _ _ x) _ with | some k, some kvs => _ | _, _ => _) = _
      rw [dicOf_sh h]
      cases q : keyOf y <;> cases q2 : dicOf x S2 <;> simp only [q, q2] <;> first | rfl | skip
      rename_i k kvs
      cases lookP kvs k <;> rfl
  mono e S := bind_len fun x S1 => bind_len fun y S2 => by
    repeat' split
    all_goals first | exact Nat.le_refl _ | trivial
instance [Fr na] : Fr (mDZip na) where
  fr a J e S h := bind_fr h fun xs S1 h => by
    match xs with
    | [] => rfl
    | [x] => rfl
    | _ :: _ :: _ :: _ => rfl
    | [x, y] =>
      show (match srcR (shV _ _ x), srcR (shV _ _ y) with | some xs, some ys => _ | _, _ => _) = _
      rw [srcR_sh, srcR_sh]
      have q : ∀ z : RV, mDZip.isSeqR (shV a J.length z) = mDZip.isSeqR z := fun z => by cases z <;> rfl
      rw [q, q]
      show _ = insR a J (match srcR x, srcR y with | some xs, some ys => _ | _, _ => _)
      cases srcR x with
      | none => rfl
      | some us =>
        cases srcR y with
        | none => rfl
        | some ws =>
          show (match keysP us ws with | some kvs => _ | none => _) = insR a J (match keysP us ws with | some kvs => _ | none => _)
          cases keysP us ws with
          | none => rfl
          | some kvs =>
            show (if (mDZip.isSeqR x && mDZip.isSeqR y) = true then _ else _) = insR a J (if (mDZip.isSeqR x && mDZip.isSeqR y) = true then _ else _)
            split
            · show Res.ok _ _ = Res.ok (RV.l (shN _ _ _)) (ins _ _ _)
              rw [ins_app h, ins_len h, shN_ge h]
            · rfl
  mono e S := bind_len fun x S1 => by
    repeat' split
    all_goals first | trivial | (show _ ≤ _; simp)
end
end Mm
end

section
set_option Elab.async false
set_option linter.all false
set_option maxRecDepth 100000
namespace Mm
open PySem PySem.Spec PyProof.Rows L2

/-! ### what is walked -/
section
variable {ma mb mc m : MExp} {ta tb tc : MTst} {na : MArg} {mi : MIt} {g : MG} {gs : MGs} {sa sb : MStm} {F : MFn}
instance [Fr m] : Fr (mSeqI m) where
  fr a J e S h := bind_fr h fun x S1 h => by
    show (match srcR (shV _ _ x) with | some ys => _ | none => _) = _
    rw [srcR_sh]
    cases srcR x <;> rfl
  mono e S := bind_len fun x S1 => by
    split <;> first | exact Nat.le_refl _ | trivial
instance [Fr na] : Fr (mRng1 na) where
  fr a J e S h := bind_fr h fun xs S1 h => by
    match xs with
    | [] => rfl
    | [.l n] => rfl
    | [.p x] => cases x <;> first | rfl | (show (if _ then _ else _) = insR _ _ (if _ then _ else _); split <;> rfl)
    | .l n :: _ :: _ => rfl
    | .p x :: _ :: _ => cases x <;> rfl
  mono e S := bind_len fun x S1 => by
    repeat' split
    all_goals first | exact Nat.le_refl _ | trivial
instance [Fr na] : Fr (mRng2 na) where
  fr a J e S h := bind_fr h fun xs S1 h => by
    match xs with
    | [] => rfl
    | [.l n] => rfl
    | [.p x] => cases x <;> rfl
    | [.p x, .p y] => cases x <;> cases y <;> first | rfl | (show (if _ then _ else _) = insR _ _ (if _ then _ else _); split <;> rfl)
    | [.p x, .l n] => cases x <;> rfl
    | [.l n, _] => rfl
    | .p x :: .p y :: _ :: _ => cases x <;> cases y <;> rfl
    | .p x :: .l n :: _ :: _ => cases x <;> rfl
    | .l n :: _ :: _ :: _ => rfl
  mono e S := bind_len fun x S1 => by
    repeat' split
    all_goals first | exact Nat.le_refl _ | trivial
instance [Fr na] : Fr (mEnum na) where
  fr a J e S h := bind_fr h fun xs S1 h => by
    match xs with
    | [] => rfl
    | _ :: _ :: _ => rfl
    | [x] =>
      show (match srcR (shV _ _ x) with | some ys => _ | none => _) = _
      rw [srcR_sh]
      cases q : srcR x with
      | none => simp only [q]; rfl
      | some ys => simp only [q]; rfl
  mono e S := bind_len fun x S1 => by
    repeat' split
    all_goals first | exact Nat.le_refl _ | trivial
instance [Fr na] : Fr (mZip2 na) where
  fr a J e S h := bind_fr h fun xs S1 h => by
    match xs with
    | [] => rfl
    | [_] => rfl
    | _ :: _ :: _ :: _ => rfl
    | [x, y] =>
      show (match srcR (shV _ _ x), srcR (shV _ _ y) with | some xs, some ys => _ | _, _ => _) = _
      rw [srcR_sh, srcR_sh]
      cases q : srcR x <;> cases q2 : srcR y <;> (simp only [q, q2]; rfl)
  mono e S := bind_len fun x S1 => by
    repeat' split
    all_goals first | exact Nat.le_refl _ | trivial
instance [Fr na] : Fr (mZip3 na) where
  fr a J e S h := bind_fr h fun xs S1 h => by
    match xs with
    | [] => rfl
    | [_] => rfl
    | [_, _] => rfl
    | _ :: _ :: _ :: _ :: _ => rfl
    | [x, y, z] =>
      show (match srcR (shV _ _ x), srcR (shV _ _ y), srcR (shV _ _ z) with | some xs, some ys, some zs => _ | _, _, _ => _) = _
      rw [srcR_sh, srcR_sh, srcR_sh]
      cases q : srcR x <;> cases q2 : srcR y <;> cases q3 : srcR z <;> (simp only [q, q2, q3]; rfl)
  mono e S := bind_len fun x S1 => by
    repeat' split
    all_goals first | exact Nat.le_refl _ | trivial
instance [Fr na] : Fr (mEz na) where
  fr a J e S h := bind_fr h fun xs S1 h => by
    match xs with
    | [] => rfl
    | [_] => rfl
    | _ :: _ :: _ :: _ => rfl
    | [x, y] =>
      show (match srcR (shV _ _ x), srcR (shV _ _ y) with | some xs, some ys => _ | _, _ => _) = _
      rw [srcR_sh, srcR_sh]
      cases q : srcR x <;> cases q2 : srcR y <;> (simp only [q, q2]; rfl)
  mono e S := bind_len fun x S1 => by
    repeat' split
    all_goals first | exact Nat.le_refl _ | trivial
/-! ### targets -/
instance {i : Nat} : FrG (gN i) where
  fr a d x e := by
    unfold gN setE shE
    rw [Option.map_some, List.map_set]
    rfl
instance : FrGs gNilM where
  fr a d xs e := by cases xs <;> rfl
instance [FrG g] [FrGs gs] : FrGs (gConsM g gs) where
  fr a d xs e := by
    cases xs with
    | nil => rfl
    | cons x xs =>
      show (match g (.p x) (shE a d e) with | some e1 => _ | none => _) = Option.map _ (match g (.p x) e with | some e1 => _ | none => _)
      have q := FrG.fr (g := g) a d (.p x) e
      rw [show shV a d (.p x) = .p x from rfl] at q
      rw [q]
      cases g (.p x) e with
      | none => rfl
      | some e1 => exact FrGs.fr a d xs e1
instance {n : Nat} [FrGs gs] : FrG (gT n gs) where
  fr a d x e := by
    cases x with
    | l k => rfl
    | p x =>
      cases x <;> first | rfl | skip
      rename_i xs
      show (if xs.length = n then _ else _) = Option.map _ (if xs.length = n then _ else _)
      split
      · exact FrGs.fr a d xs e
      · rfl
/-! ### comprehensions -/
theorem wipe_sh {a d : Nat} {e : MEnv} : ∀ {vs : List Nat}, wipeE (shE a d e) vs = shE a d (wipeE e vs)
  | [] => rfl
  | v :: vs => by
    unfold wipeE
    rw [wipe_sh, shE, shE, List.map_set]
    rfl
theorem lcL_fr [FrG g] [Fr ta] [Fr m] {a : Nat} {J : Sto} {ew : MEnv} : ∀ (xs : List PV) (S : Sto) (acc : List PV), a ≤ S.length → lcL g ta m (shE a J.length ew) xs (ins a J S) acc = insR a J (lcL g ta m ew xs S acc)
  | [], S, acc, h => rfl
  | x :: xs, S, acc, h => by
    unfold lcL
    have q := FrG.fr (g := g) a J.length (.p x) ew
    rw [show shV a J.length (.p x) = .p x from rfl] at q
    rw [q]
    cases g (.p x) ew with
    | none => rfl
    | some e1 =>
      have h0 : a ≤ (S ++ [MO.lst acc]).length := by simp; omega
      dsimp only [Option.map_some]
      rw [← ins_app h, Fr.fr (m := ta) a J e1 _ h0]
      have hm := Fr.mono (m := ta) e1 (S ++ [.lst acc])
      have more : ∀ S1 : Sto, S.length + 1 ≤ S1.length → (ins a J S1)[(ins a J S).length]? = S1[S.length]? ∧ (ins a J S1).take (ins a J S).length = ins a J (S1.take S.length) := fun S1 h1 => by
        rw [ins_len h]
        refine ⟨?_, ins_take h (by omega)⟩
        have := ins_get (J := J) (n := S.length) (show a ≤ S1.length by omega)
        rwa [shN_ge h] at this
      cases ht : ta e1 (S ++ [.lst acc]) with
      | bad => rfl
      | exn c fs S1 => rfl
      | ok b S1 =>
        rw [ht] at hm
        have hm : S.length + 1 ≤ S1.length := by simpa [lenR] using hm
        obtain ⟨m1, m2⟩ := more S1 hm
        cases b with
        | false =>
          show (match (ins a J S1)[(ins a J S).length]? with | some (.lst a1) => _ | _ => _) = insR a J (match S1[S.length]? with | some (.lst a1) => _ | _ => _)
          rw [m1]
          cases S1[S.length]? with
          | none => rfl
          | some o =>
            cases o <;> first | rfl | skip
            dsimp only
            split
            · rw [m2]; exact lcL_fr xs _ _ (by rw [List.length_take]; omega)
            · rfl
        | true =>
          show (match m (shE a J.length e1) (ins a J S1) with | .ok (.p y) S2 => _ | _ => _) = insR a J (match m e1 S1 with | .ok (.p y) S2 => _ | _ => _)
          rw [Fr.fr (m := m) a J e1 S1 (by omega)]
          have hm2 := Fr.mono (m := m) e1 S1
          cases hq : m e1 S1 with
          | bad => rfl
          | exn c fs S2 => rfl
          | ok y S2 =>
            rw [hq] at hm2
            have hm2 : S1.length ≤ S2.length := hm2
            obtain ⟨n1, n2⟩ := more S2 (by omega)
            cases y with
            | l n => rfl
            | p y =>
              show (match (ins a J S2)[(ins a J S).length]? with | some (.lst a1) => _ | _ => _) = insR a J (match S2[S.length]? with | some (.lst a1) => _ | _ => _)
              rw [n1]
              cases S2[S.length]? with
              | none => rfl
              | some o =>
                cases o <;> first | rfl | skip
                dsimp only
                split
                · rw [n2]; exact lcL_fr xs _ _ (by rw [List.length_take]; omega)
                · rfl
theorem lcL_len [FrG g] [Fr ta] [Fr m] {ew : MEnv} : ∀ (xs : List PV) (S : Sto) (acc : List PV), lenR S.length (lcL g ta m ew xs S acc)
  | [], S, acc => Nat.le_refl _
  | x :: xs, S, acc => by
    unfold lcL
    cases g (.p x) ew with
    | none => trivial
    | some e1 =>
      have hm := Fr.mono (m := ta) e1 (S ++ [.lst acc])
      dsimp only
      cases ht : ta e1 (S ++ [.lst acc]) with
      | bad => trivial
      | exn c fs S1 => trivial
      | ok b S1 =>
        rw [ht] at hm
        have hm : S.length + 1 ≤ S1.length := by simpa [lenR] using hm
        cases b with
        | false =>
          dsimp only
          split
          · split
            · exact lenR_trans (by rw [List.length_take]; omega) (lcL_len xs _ _)
            · trivial
          · trivial
        | true =>
          dsimp only
          have hm2 := Fr.mono (m := m) e1 S1
          cases hq : m e1 S1 with
          | bad => trivial
          | exn c fs S2 => trivial
          | ok y S2 =>
            rw [hq] at hm2
            have hm2 : S1.length ≤ S2.length := hm2
            cases y with
            | l n => trivial
            | p y =>
              dsimp only
              split
              · split
                · exact lenR_trans (by rw [List.length_take]; omega) (lcL_len xs _ _)
                · trivial
              · trivial
instance {own : Bool} {vs : List Nat} [Fr mi] [FrG g] [Fr ta] [Fr m] : Fr (mLC own vs mi g ta m) where
  fr a J e S h := bind_fr h fun xs S1 h => by
    show lcF own (lcL g ta m (wipeE (shE a J.length e) vs) xs (ins a J S1) []) = _
    rw [wipe_sh, lcL_fr xs S1 [] h]
    have hl := lcL_len (g := g) (ta := ta) (m := m) (ew := wipeE e vs) xs S1 []
    cases q : lcL g ta m (wipeE e vs) xs S1 [] with
    | bad => rfl
    | exn c fs S2 => rfl
    | ok ys S2 =>
      rw [q] at hl
      have hl : S1.length ≤ S2.length := hl
      cases own with
      | false => rfl
      | true =>
        show Res.ok (RV.l (ins a J S2).length) (ins a J S2 ++ [.lst ys]) = Res.ok (RV.l (shN _ _ _)) (ins _ _ _)
        rw [ins_app (by omega), ins_len (by omega), shN_ge (by omega)]
  mono e S := bind_len fun xs S1 => by
    have hl := lcL_len (g := g) (ta := ta) (m := m) (ew := wipeE e vs) xs S1 []
    cases q : lcL g ta m (wipeE e vs) xs S1 [] with
    | bad => trivial
    | exn c fs S2 => trivial
    | ok ys S2 =>
      rw [q] at hl
      have hl : S1.length ≤ S2.length := hl
      cases own with
      | false => exact hl
      | true => show _ ≤ _; simp; omega
instance : Fr tYesM where
  fr a J e S h := rfl
  mono e S := Nat.le_refl _
/-! ### statements -/
instance [FrS sa] [FrS sb] : FrS (seqS sa sb) where
  fr a J e S h := by
    unfold seqS
    rw [FrS.fr (m := sa) a J e S h]
    have hm := FrS.mono (m := sa) e S
    cases q : sa e S with
    | next e1 S1 => rw [q] at hm; exact FrS.fr a J e1 S1 (Nat.le_trans h hm)
    | _ => rfl
  mono e S := by
    unfold seqS
    have hm := FrS.mono (m := sa) e S
    cases q : sa e S with
    | next e1 S1 => rw [q] at hm; exact lenRS_trans hm (FrS.mono e1 S1)
    | _ => rw [q] at hm; exact hm
instance : FrS nilS := ⟨fun a J e S h => rfl, fun e S => Nat.le_refl _⟩
instance : FrS badS := ⟨fun a J e S h => rfl, fun e S => trivial⟩
instance : FrS brkS := ⟨fun a J e S h => rfl, fun e S => Nat.le_refl _⟩
instance : FrS cntS := ⟨fun a J e S h => rfl, fun e S => Nat.le_refl _⟩
instance : FrS retN := ⟨fun a J e S h => rfl, fun e S => Nat.le_refl _⟩
instance [Fr m] : FrS (retS m) := ⟨fun a J e S h => bindS_fr h fun x S1 h => rfl, fun e S => bindS_len fun x S1 => Nat.le_refl _⟩
instance [Fr m] : FrS (dropS m) := ⟨fun a J e S h => bindS_fr h fun x S1 h => rfl, fun e S => bindS_len fun x S1 => Nat.le_refl _⟩
instance [Fr ta] [FrS sa] [FrS sb] : FrS (ifS ta sa sb) where
  fr a J e S h := bindS_fr h fun x S1 h => by
    cases x with
    | true => exact FrS.fr (m := sa) a J e S1 h
    | false => exact FrS.fr (m := sb) a J e S1 h
  mono e S := bindS_len fun x S1 => by
    cases x with
    | true => exact FrS.mono (m := sa) e S1
    | false => exact FrS.mono (m := sb) e S1
theorem setE_sh {a d i : Nat} {x : RV} {e : MEnv} : setE (shE a d e) i (shV a d x) = shE a d (setE e i x) := by
  unfold setE shE
  rw [List.map_set]
  rfl
instance {i : Nat} [Fr m] : FrS (setS i m) where
  fr a J e S h := bindS_fr h fun x S1 h => by
    show ResS.next (setE (shE _ _ e) i (shV _ _ x)) _ = _
    rw [setE_sh]
    rfl
  mono e S := bindS_len fun x S1 => Nat.le_refl _
instance [Fr m] [FrG g] : FrS (asgS m g) where
  fr a J e S h := bindS_fr h fun x S1 h => by
    show (match g (shV _ _ x) (shE _ _ e) with | some e1 => _ | none => _) = _
    rw [FrG.fr (g := g) a J.length x e]
    cases g x e <;> rfl
  mono e S := bindS_len fun x S1 => by
    split <;> first | exact Nat.le_refl _ | trivial
instance {i j : Nat} [Fr na] : FrS (parS i j na) where
  fr a J e S h := bindS_fr h fun xs S1 h => by
    match xs with
    | [] => rfl
    | [_] => rfl
    | _ :: _ :: _ :: _ => rfl
    | [x, y] =>
      show ResS.next (setE (setE (shE _ _ e) i (shV _ _ x)) j (shV _ _ y)) _ = _
      rw [setE_sh, setE_sh]
      rfl
  mono e S := bindS_len fun x S1 => by
    split <;> first | exact Nat.le_refl _ | trivial
instance {i j l : Nat} [Fr na] : FrS (par3S i j l na) where
  fr a J e S h := bindS_fr h fun xs S1 h => by
    match xs with
    | [] => rfl
    | [_] => rfl
    | [_, _] => rfl
    | _ :: _ :: _ :: _ :: _ => rfl
    | [x, y, z] =>
      show ResS.next (setE (setE (setE (shE _ _ e) i (shV _ _ x)) j (shV _ _ y)) l (shV _ _ z)) _ = _
      rw [setE_sh, setE_sh, setE_sh]
      rfl
  mono e S := bindS_len fun x S1 => by
    split <;> first | exact Nat.le_refl _ | trivial
theorem forL_fr [FrG g] [FrS sa] {a : Nat} {J : Sto} : ∀ (xs : List PV) (e : MEnv) (S : Sto), a ≤ S.length → forL g sa xs (shE a J.length e) (ins a J S) = insRS a J (forL g sa xs e S)
  | [], e, S, h => rfl
  | x :: xs, e, S, h => by
    unfold forL
    have q := FrG.fr (g := g) a J.length (.p x) e
    rw [show shV a J.length (.p x) = .p x from rfl] at q
    rw [q]
    cases g (.p x) e with
    | none => rfl
    | some e1 =>
      dsimp only [Option.map_some]
      rw [FrS.fr (m := sa) a J e1 S h]
      have hm := FrS.mono (m := sa) e1 S
      cases hq : sa e1 S with
      | next e2 S2 => rw [hq] at hm; exact forL_fr xs e2 S2 (Nat.le_trans h hm)
      | cnt e2 S2 => rw [hq] at hm; exact forL_fr xs e2 S2 (Nat.le_trans h hm)
      | _ => rfl
theorem forL_len [FrG g] [FrS sa] : ∀ (xs : List PV) (e : MEnv) (S : Sto), lenRS S.length (forL g sa xs e S)
  | [], e, S => Nat.le_refl _
  | x :: xs, e, S => by
    unfold forL
    cases g (.p x) e with
    | none => trivial
    | some e1 =>
      have hm := FrS.mono (m := sa) e1 S
      dsimp only
      cases hq : sa e1 S with
      | next e2 S2 => rw [hq] at hm; exact lenRS_trans hm (forL_len xs e2 S2)
      | cnt e2 S2 => rw [hq] at hm; exact lenRS_trans hm (forL_len xs e2 S2)
      | _ => rw [hq] at hm; exact hm
instance [Fr mi] [FrG g] [FrS sa] : FrS (forS mi g sa) := ⟨fun a J e S h => bindS_fr h fun xs S1 h => forL_fr xs e S1 h, fun e S => bindS_len fun xs S1 => forL_len xs e S1⟩
instance {n : Nat} [Fr ta] [FrS sa] : FrS (whileL ta sa n) where
  fr := by
    induction n with
    | zero => exact fun a J e S h => rfl
    | succ n ih =>
      intro a J e S h
      unfold whileL
      exact bindS_fr h fun b S1 h => by
        cases b with
        | false => rfl
        | true =>
          show (if true = true then _ else _) = insRS a J (if true = true then _ else _)
          rw [if_pos rfl, if_pos rfl, FrS.fr (m := sa) a J e S1 h]
          have hm := FrS.mono (m := sa) e S1
          cases hq : sa e S1 with
          | next e2 S2 => rw [hq] at hm; exact ih a J e2 S2 (Nat.le_trans h hm)
          | cnt e2 S2 => rw [hq] at hm; exact ih a J e2 S2 (Nat.le_trans h hm)
          | _ => rfl
  mono := by
    induction n with
    | zero => exact fun e S => trivial
    | succ n ih =>
      intro e S
      unfold whileL
      exact bindS_len fun b S1 => by
        cases b with
        | false => exact Nat.le_refl _
        | true =>
          show lenRS _ (if true = true then _ else _)
          rw [if_pos rfl]
          have hm := FrS.mono (m := sa) e S1
          cases hq : sa e S1 with
          | next e2 S2 => rw [hq] at hm; exact lenRS_trans hm (ih e2 S2)
          | cnt e2 S2 => rw [hq] at hm; exact lenRS_trans hm (ih e2 S2)
          | _ => rw [hq] at hm; exact hm
instance {fl : Nat → List Str} {f : Str} [Fr ma] [Fr mb] : FrS (setFldS fl f ma mb) where
  fr a J e S h := bindS_fr h fun y S1 h => bindS_fr h fun x S2 h => by
    cases x with
    | p x => rfl
    | l n =>
      cases y with
      | l k => rfl
      | p y =>
        show (match (ins a J S2)[shN a J.length n]? with | some (.ins c fs) => _ | _ => _) = insRS a J (match S2[n]? with | some (.ins c fs) => _ | _ => _)
        rw [ins_get h]
        cases S2[n]? with
        | none => rfl
        | some o =>
          cases o <;> first | rfl | skip
          dsimp only
          split
          · split
            · split
              · show _ = ResS.next _ _
                rw [ins_set h]
              · rfl
            · rfl
          · rfl
  mono e S := bindS_len fun y S1 => bindS_len fun x S2 => by
    repeat' split
    all_goals first | trivial | (show _ ≤ _; simp)
instance [Fr ma] [Fr mb] [Fr mc] : FrS (setIxS ma mb mc) where
  fr a J e S h := bindS_fr h fun y S1 h => bindS_fr h fun x S2 h => bindS_fr h fun k S3 h => by
    cases x with
    | p x => rfl
    | l n =>
      cases k with
      | l k => rfl
      | p k =>
        cases y with
        | l m => cases k <;> rfl
        | p y =>
          cases k <;> first | rfl | skip
          show (match (ins a J S3)[shN a J.length n]? with | some (.lst xs) => _ | _ => _) = insRS a J (match S3[n]? with | some (.lst xs) => _ | _ => _)
          rw [ins_get h]
          cases S3[n]? with
          | none => rfl
          | some o =>
            cases o <;> first | rfl | skip
            dsimp only
            split
            · show _ = ResS.next _ _
              rw [ins_set h]
            · rfl
  mono e S := bindS_len fun y S1 => bindS_len fun x S2 => bindS_len fun k S3 => by
    repeat' split
    all_goals first | trivial | (show _ ≤ _; simp)
instance {n : Nat} [Fr m] [FrGs gs] : FrS (unlS m n gs) where
  fr a J e S h := bindS_fr h fun x S1 h => by
    show (match lstOf (shV _ _ x) _ with | some xs => _ | none => _) = _
    rw [lstOf_sh h]
    cases lstOf x S1 with
    | none => rfl
    | some xs =>
      dsimp only
      split
      · rw [FrGs.fr (g := gs) a J.length xs e]
        cases gs xs e <;> rfl
      · rfl
  mono e S := bindS_len fun x S1 => by
    repeat' split
    all_goals first | trivial | exact Nat.le_refl _
instance [Fr ma] [Fr mb] [Fr mc] : FrS (putDS ma mb mc) where
  fr a J e S h := bindS_fr h fun y S1 h => bindS_fr h fun x S2 h => bindS_fr h fun k S3 h => by
    cases x with
    | p x => rfl
    | l n =>
      cases k with
      | l k => rfl
      | p k =>
        cases y with
        | l m => rfl
        | p y =>
          show (match (ins a J S3)[shN a J.length n]?, keyOf k with | some (.dic kvs), some k => _ | _, _ => _) = insRS a J (match S3[n]?, keyOf k with | some (.dic kvs), some k => _ | _, _ => _)
          rw [ins_get h]
          cases S3[n]? with
          | none => rfl
          | some o =>
            cases o <;> first | rfl | skip
            cases keyOf k <;> first | rfl | skip
            dsimp only
            split
            · show _ = ResS.next _ _
              rw [ins_set h]
            · rfl
  mono e S := bindS_len fun y S1 => bindS_len fun x S2 => bindS_len fun k S3 => by
    repeat' split
    all_goals first | trivial | (show _ ≤ _; simp)
/-! ### defs and calls -/
theorem trim_fr {a : Nat} {J S : Sto} {L : Nat} {fz : Bool} {x : RV} (h : a ≤ L) (h2 : L ≤ S.length) : trimR (L + J.length) fz (shV a J.length x) (ins a J S) = insR a J (trimR L fz x S) := by
  cases x with
  | p x =>
    show Res.ok _ _ = Res.ok _ _
    rw [ins_take h h2]
    rfl
  | l i =>
    show (if shN a J.length i < L + J.length then _ else _) = insR a J (if i < L then _ else _)
    by_cases hi : i < L
    · rw [if_pos hi, if_pos (by unfold shN; split <;> omega), ins_take h h2]
      rfl
    · rw [if_neg hi, if_neg (by rw [shN_ge (by omega)]; omega)]
      show (match (ins a J S)[shN a J.length i]? with | some o => _ | none => _) = insR a J (match S[i]? with | some o => _ | none => _)
      rw [ins_get (by omega), ins_take h h2]
      cases S[i]? with
      | none => rfl
      | some o =>
        cases fz with
        | true => rfl
        | false =>
          show Res.ok (RV.l _) _ = Res.ok (RV.l (shN _ _ _)) (ins _ _ _)
          rw [shN_ge h, ins_app (by rw [List.length_take]; omega)]
theorem trim_len {L : Nat} {fz : Bool} {x : RV} {S : Sto} (h : L ≤ S.length) : lenR L (trimR L fz x S) := by
  have ht : (S.take L).length = L := by rw [List.length_take]; omega
  cases x with
  | p x => show L ≤ _; omega
  | l i =>
    show lenR L (if i < L then _ else _)
    split
    · show L ≤ _; omega
    · split
      · split
        · show L ≤ _; omega
        · show L ≤ _; rw [List.length_append]; omega
      · trivial
instance {n : Nat} {fz : Bool} [FrS sa] : FrF (mDef n fz sa) where
  fr a J xs S h := by
    unfold mDef
    have e1 : (shL a J.length xs).map some ++ List.replicate (n - (shL a J.length xs).length) none = shE a J.length (xs.map some ++ List.replicate (n - xs.length) none) := by
      simp only [shL, shE, List.map_append, List.map_map, List.map_replicate, Option.map_none, List.length_map]
      rfl
    rw [e1, FrS.fr (m := sa) a J _ S h, ins_len h]
    have hm := FrS.mono (m := sa) (xs.map some ++ List.replicate (n - xs.length) none) S
    cases q : sa (xs.map some ++ List.replicate (n - xs.length) none) S with
    | ret x S1 => rw [q] at hm; exact trim_fr h hm
    | next e1 S1 =>
      rw [q] at hm
      show Res.ok _ _ = Res.ok _ _
      rw [ins_take h hm]
      rfl
    | exn c fs e1 S1 =>
      rw [q] at hm
      show Res.exn _ _ _ = Res.exn _ _ _
      rw [ins_take h hm]
    | _ => rfl
  mono xs S := by
    unfold mDef
    have hm := FrS.mono (m := sa) (xs.map some ++ List.replicate (n - xs.length) none) S
    cases q : sa (xs.map some ++ List.replicate (n - xs.length) none) S with
    | ret x S1 => rw [q] at hm; exact trim_len hm
    | next e1 S1 => rw [q] at hm; show _ ≤ _; rw [List.length_take]; exact Nat.le_min.mpr ⟨Nat.le_refl _, hm⟩
    | exn c fs e1 S1 => rw [q] at hm; show _ ≤ _; rw [List.length_take]; exact Nat.le_min.mpr ⟨Nat.le_refl _, hm⟩
    | _ => trivial
/-- values that may be left out are plain -/
class PlainDs (ds : List RV) : Prop where
  pl : ∀ a d, shL a d ds = ds
instance : PlainDs [] := ⟨fun _ _ => rfl⟩
instance {x : PV} {ds : List RV} [PlainDs ds] : PlainDs (.p x :: ds) := ⟨fun a d => by show RV.p x :: shL a d ds = _; rw [PlainDs.pl]⟩
instance {ds : List RV} [PlainDs ds] [FrF F] [Fr na] : Fr (mCall F ds na) where
  fr a J e S h := bind_fr h fun xs S1 h => by
    show F (shL a J.length xs ++ ds) (ins a J S1) = insR a J (F (xs ++ ds) S1)
    rw [← FrF.fr (F := F) a J (xs ++ ds) S1 h]
    show _ = F (List.map _ _) _
    rw [List.map_append, show ds.map (shV a J.length) = ds from PlainDs.pl a J.length]
  mono e S := bind_len fun xs S1 => FrF.mono _ _
theorem perm_sh {α β : Type} {f : α → β} {pk : List Nat} {xs : List α} : permL pk (xs.map f) = (permL pk xs).map f := by
  unfold permL
  induction pk with
  | nil => rfl
  | cons i pk ih =>
    rw [List.filterMap_cons, List.filterMap_cons, ih, List.getElem?_map]
    cases xs[i]? <;> rfl
instance {pk : List Nat} [FrF F] [Fr na] : Fr (mCallK F pk na) where
  fr a J e S h := bind_fr h fun xs S1 h => by
    show F (permL pk (xs.map _)) (ins a J S1) = insR a J (F (permL pk xs) S1)
    rw [← FrF.fr (F := F) a J _ S1 h, perm_sh]
  mono e S := bind_len fun xs S1 => FrF.mono _ _
theorem make_fr [FrF F] {c a : Nat} {J S : Sto} {xs : List RV} (h : a ≤ S.length) :
    (match F (.l (ins a J S).length :: shL a J.length xs) (ins a J S ++ [.ins c []]) with | .ok (.p .non) S1 => (.ok (.l (ins a J S).length) S1 : Res RV) | .exn c fs S1 => .exn c fs S1 | _ => .bad) =
      insR a J (match F (.l S.length :: xs) (S ++ [.ins c []]) with | .ok (.p .non) S1 => .ok (.l S.length) S1 | .exn c fs S1 => .exn c fs S1 | _ => .bad) := by
  have h0 : a ≤ (S ++ [MO.ins c []]).length := by simp; omega
  have e1 : RV.l (ins a J S).length :: shL a J.length xs = shL a J.length (.l S.length :: xs) := by
    show _ = RV.l (shN _ _ _) :: _
    rw [shN_ge h, ins_len h]
  rw [e1, ← ins_app h, FrF.fr (F := F) a J _ _ h0]
  cases F (.l S.length :: xs) (S ++ [.ins c []]) with
  | bad => rfl
  | exn c fs S1 => rfl
  | ok x S1 =>
    cases x with
    | l n => rfl
    | p x =>
      cases x <;> first | rfl | skip
      show Res.ok (RV.l _) _ = Res.ok (RV.l (shN _ _ _)) _
      rw [shN_ge h, ins_len h]
theorem make_len [FrF F] {c : Nat} {S : Sto} {xs : List RV} : lenR S.length (match F (.l S.length :: xs) (S ++ [.ins c []]) with | .ok (.p .non) S1 => (.ok (.l S.length) S1 : Res RV) | .exn c fs S1 => .exn c fs S1 | _ => .bad) := by
  have hm := FrF.mono (F := F) (.l S.length :: xs) (S ++ [.ins c []])
  cases q : F (.l S.length :: xs) (S ++ [.ins c []]) with
  | bad => trivial
  | exn c fs S1 => rw [q] at hm; exact Nat.le_trans (by simp) hm
  | ok x S1 =>
    rw [q] at hm
    cases x with
    | l n => trivial
    | p x => cases x <;> first | trivial | exact Nat.le_trans (by simp) hm
instance {c : Nat} {ds : List RV} [PlainDs ds] [FrF F] [Fr na] : Fr (mMake c F ds na) where
  fr a J e S h := bind_fr h fun xs S1 h => by
    have := make_fr (F := F) (c := c) (J := J) (xs := xs ++ ds) h
    rw [shL, List.map_append, show ds.map (shV a J.length) = ds from PlainDs.pl a J.length] at this
    exact this
  mono e S := bind_len fun xs S1 => make_len
instance {c : Nat} {pk : List Nat} [FrF F] [Fr na] : Fr (mMakeK c F pk na) where
  fr a J e S h := bind_fr h fun xs S1 h => by
    have := make_fr (F := F) (c := c) (J := J) (xs := permL pk xs) h
    rw [shL, ← perm_sh] at this
    exact this
  mono e S := bind_len fun xs S1 => make_len
theorem cap_sh {a d : Nat} {js : List Nat} {e : MEnv} : capE js (shE a d e) = shE a d (capE js e) := by
  unfold capE shE
  rw [List.map_map]
  refine List.map_congr_left fun j _ => ?_
  dsimp only [Function.comp]
  rw [List.getElem?_map]
  cases e[j]? <;> rfl
theorem lamMF_fr {n : Nat} [Fr m] {caps : List (Option RV)} {a : Nat} {J S : Sto} {xs : List RV} (h : a ≤ S.length) : lamMF (shE a J.length caps) n m (shL a J.length xs) (ins a J S) = insR a J (lamMF caps n m xs S) := by
  unfold lamMF
  have e1 : (shL a J.length xs).map some ++ (shE a J.length caps ++ List.replicate (n - (shL a J.length xs).length - (shE a J.length caps).length) none) = shE a J.length (xs.map some ++ (caps ++ List.replicate (n - xs.length - caps.length) none)) := by
    simp only [shL, shE, List.map_append, List.map_map, List.map_replicate, Option.map_none, List.length_map]
    rfl
  rw [e1, Fr.fr (m := m) a J _ S h, ins_len h]
  have hm := Fr.mono (m := m) (xs.map some ++ (caps ++ List.replicate (n - xs.length - caps.length) none)) S
  cases q : m (xs.map some ++ (caps ++ List.replicate (n - xs.length - caps.length) none)) S with
  | bad => rfl
  | exn c fs S1 => rfl
  | ok x S1 =>
    rw [q] at hm
    cases x with
    | l k => rfl
    | p x =>
      cases x <;> first | rfl | skip
      show Res.ok _ _ = Res.ok _ _
      rw [ins_take h hm]
      rfl
theorem lamMF_len {n : Nat} [Fr m] {caps : List (Option RV)} {S : Sto} {xs : List RV} : lenR S.length (lamMF caps n m xs S) := by
  unfold lamMF
  have hm := Fr.mono (m := m) (xs.map some ++ (caps ++ List.replicate (n - xs.length - caps.length) none)) S
  cases q : m (xs.map some ++ (caps ++ List.replicate (n - xs.length - caps.length) none)) S with
  | bad => trivial
  | exn c fs S1 => trivial
  | ok x S1 =>
    rw [q] at hm
    cases x with
    | l k => trivial
    | p x =>
      cases x <;> first | trivial | skip
      show _ ≤ _
      rw [List.length_take]
      exact Nat.le_min.mpr ⟨Nat.le_refl _, hm⟩
theorem firstL_fr {n : Nat} [Fr m] {caps : List (Option RV)} {a : Nat} {J : Sto} {all : List PV} : ∀ (rest : List PV) (i : Nat) (S : Sto), a ≤ S.length → firstL (lamMF (shE a J.length caps) n m) all i rest (ins a J S) = insR a J (firstL (lamMF caps n m) all i rest S)
  | [], i, S, h => rfl
  | x :: rest, i, S, h => by
    unfold firstL
    have e1 := lamMF_fr (n := n) (m := m) (caps := caps) (J := J) (xs := [.p x, .p (.tup (all.take i))]) h
    rw [show shL a J.length [.p x, .p (.tup (all.take i))] = [.p x, .p (.tup (all.take i))] from rfl] at e1
    rw [e1]
    have hm := lamMF_len (n := n) (m := m) (caps := caps) (S := S) (xs := [.p x, .p (.tup (all.take i))])
    cases q : lamMF caps n m [.p x, .p (.tup (all.take i))] S with
    | bad => rfl
    | exn c fs S1 => rfl
    | ok y S1 =>
      rw [q] at hm
      have hm : S.length ≤ S1.length := hm
      cases y with
      | l k => rfl
      | p y =>
        cases y <;> first | rfl | skip
        rename_i b
        cases b with
        | true => exact firstL_fr rest (i + 1) S1 (by omega)
        | false => rfl
theorem firstL_len {n : Nat} [Fr m] {caps : List (Option RV)} {all : List PV} : ∀ (rest : List PV) (i : Nat) (S : Sto), lenR S.length (firstL (lamMF caps n m) all i rest S)
  | [], i, S => Nat.le_refl _
  | x :: rest, i, S => by
    unfold firstL
    have hm := lamMF_len (n := n) (m := m) (caps := caps) (S := S) (xs := [.p x, .p (.tup (all.take i))])
    cases q : lamMF caps n m [.p x, .p (.tup (all.take i))] S with
    | bad => trivial
    | exn c fs S1 => trivial
    | ok y S1 =>
      rw [q] at hm
      have hm : S.length ≤ S1.length := hm
      cases y with
      | l k => trivial
      | p y =>
        cases y <;> first | trivial | skip
        rename_i b
        cases b with
        | true => exact lenR_trans hm (firstL_len rest (i + 1) S1)
        | false => exact hm
instance {js : List Nat} {n : Nat} [Fr ma] [Fr m] : Fr (mFirst js n ma m) where
  fr a J e S h := bind_fr h fun x S1 h => by
    cases x with
    | l k => rfl
    | p x =>
      cases x <;> first | rfl | skip
      rename_i xs
      show firstL (lamMF (capE js (shE _ _ e)) n ma) xs 0 xs (ins _ _ _) = _
      rw [cap_sh]
      exact firstL_fr xs 0 S1 h
  mono e S := bind_len fun x S1 => by
    cases x with
    | l k => trivial
    | p x =>
      cases x <;> first | trivial | skip
      exact firstL_len _ 0 S1
end
/-! ## what follows -/
/-- what a def makes of plain things alone, it makes of them beside any others -/
theorem pure_all {F : MFn} [FrF F] {xs : List RV} {v : PV} (h : F xs [] = .ok (.p v) []) (hp : ∀ d, shL 0 d xs = xs := by intros; rfl) (S : Sto) : F xs S = .ok (.p v) S := by
  have q := FrF.fr (F := F) 0 S xs [] (Nat.le_refl _)
  rw [hp, h] at q
  have e : ins 0 S [] = S := by unfold ins; simp
  rw [e] at q
  exact q.trans (by show Res.ok _ _ = _; rw [e]; rfl)
theorem pure_exn {F : MFn} [FrF F] {xs : List RV} {c : Nat} {fs : List PV} (h : F xs [] = .exn c fs []) (hp : ∀ d, shL 0 d xs = xs := by intros; rfl) (S : Sto) : F xs S = .exn c fs S := by
  have q := FrF.fr (F := F) 0 S xs [] (Nat.le_refl _)
  rw [hp, h] at q
  have e : ins 0 S [] = S := by unfold ins; simp
  rw [e] at q
  exact q.trans (by show Res.exn _ _ _ = _; rw [e])
end Mm
end

section
set_option Elab.async false
set_option linter.all false
set_option maxRecDepth 100000
namespace Mm
open PySem PySem.Spec PyProof.Rows L2

/-! ## comprehensions, apart from the list that they make -/
def stepX (g : MG) (mt : MTst) (me : MExp) (ew : MEnv) (x : PV) : Sto → Res (Option PV) := fun S => match g (.p x) ew with
  | none => .bad
  | some e1 => match mt e1 S with
    | .ok false S1 => .ok none (S1.take S.length)
    | .ok true S1 => (match me e1 S1 with
      | .ok (.p y) S2 => .ok (some y) (S2.take S.length)
      | _ => .bad)
    | _ => .bad
def mapX {α : Type} (f : α → Sto → Res (Option PV)) : List α → Sto → Res (List PV)
  | [], S => .ok [] S
  | x :: xs, S => match f x S with
    | .ok o S1 => (match mapX f xs S1 with
      | .ok ys S2 => .ok (o.toList ++ ys) S2
      | _ => .bad)
    | _ => .bad
def addX (acc : List PV) : Res (List PV) → Res (List PV)
  | .ok ys S => .ok (acc ++ ys) S
  | _ => .bad
theorem at_mapX {α : Type} {f : α → Sto → Res (Option PV)} {x : α} {xs : List α} {S : Sto} : mapX f (x :: xs) S = match f x S with
    | .ok o S1 => (match mapX f xs S1 with
      | .ok ys S2 => .ok (o.toList ++ ys) S2
      | _ => .bad)
    | _ => .bad := rfl
theorem ins_end {S J : Sto} : ins S.length J S = S ++ J := by unfold ins; simp
theorem lcL_X {g : MG} {mt : MTst} {me : MExp} {ew : MEnv} [FrG g] [Fr mt] [Fr me] : ∀ (xs : List PV) (S : Sto) (acc : List PV), shE S.length 1 ew = ew → lcL g mt me ew xs S acc = addX acc (mapX (stepX g mt me ew) xs S)
  | [], S, acc, hw => by unfold lcL mapX addX; simp
  | x :: xs, S, acc, hw => by
    have ih : ∀ (S' : Sto) (acc' : List PV), S'.length = S.length → lcL g mt me ew xs S' acc' = addX acc' (mapX (stepX g mt me ew) xs S') := fun S' acc' hl => lcL_X xs S' acc' (by rw [hl]; exact hw)
    have q := FrG.fr (g := g) S.length 1 (.p x) ew
    rw [hw, show shV S.length 1 (.p x) = .p x from rfl] at q
    rw [at_mapX]
    unfold lcL
    cases hg : g (.p x) ew with
    | none =>
      have sx : stepX g mt me ew x S = .bad := by unfold stepX; rw [hg]
      rw [sx]
      rfl
    | some e1 =>
      rw [hg] at q
      have he : shE S.length 1 e1 = e1 := (Option.some.inj q).symm
      have t1 := Fr.fr (m := mt) S.length [.lst acc] e1 S (Nat.le_refl _)
      rw [ins_end, show List.length [MO.lst acc] = 1 from rfl, he] at t1
      have hm := Fr.mono (m := mt) e1 S
      dsimp only
      rw [t1]
      cases ht : mt e1 S with
      | bad =>
        have sx : stepX g mt me ew x S = .bad := by unfold stepX; rw [hg]; dsimp only; rw [ht]
        rw [sx]
        rfl
      | exn c fs S1 =>
        have sx : stepX g mt me ew x S = .bad := by unfold stepX; rw [hg]; dsimp only; rw [ht]
        rw [sx]
        rfl
      | ok b S1 =>
        rw [ht] at hm
        have hm : S.length ≤ S1.length := hm
        have at_ : ∀ S1 : Sto, S.length ≤ S1.length → (ins S.length [MO.lst acc] S1)[S.length]? = some (.lst acc) ∧ (ins S.length [MO.lst acc] S1).take S.length = S1.take S.length := fun S1 h => by
          have hl : (S1.take S.length).length = S.length := by rw [List.length_take]; omega
          unfold ins
          refine ⟨?_, ?_⟩
          · rw [List.getElem?_append_right (by omega), hl]; simp
          · rw [List.take_append, hl, Nat.sub_self, List.take_zero, List.append_nil, List.take_take, Nat.min_self]
        have hl : ∀ S1 : Sto, S.length ≤ S1.length → (S1.take S.length).length = S.length := fun S1 h => by rw [List.length_take]; omega
        cases b with
        | false =>
          have sx : stepX g mt me ew x S = .ok none (S1.take S.length) := by unfold stepX; rw [hg]; dsimp only; rw [ht]
          rw [sx]
          show (match (ins S.length [MO.lst acc] S1)[S.length]? with | some (.lst a1) => _ | _ => _) = _
          rw [(at_ S1 hm).1]
          dsimp only
          rw [if_pos rfl, (at_ S1 hm).2, ih _ acc (hl S1 hm)]
          cases mapX (stepX g mt me ew) xs (S1.take S.length) <;> rfl
        | true =>
          show (match me e1 (ins S.length [MO.lst acc] S1) with | .ok (.p y) S2 => _ | _ => _) = _
          have t2 := Fr.fr (m := me) S.length [.lst acc] e1 S1 hm
          rw [show List.length [MO.lst acc] = 1 from rfl, he] at t2
          rw [t2]
          have hm2 := Fr.mono (m := me) e1 S1
          cases hq : me e1 S1 with
          | bad =>
            have sx : stepX g mt me ew x S = .bad := by unfold stepX; rw [hg]; dsimp only; rw [ht]; dsimp only; rw [hq]
            rw [sx]
            rfl
          | exn c fs S2 =>
            have sx : stepX g mt me ew x S = .bad := by unfold stepX; rw [hg]; dsimp only; rw [ht]; dsimp only; rw [hq]
            rw [sx]
            rfl
          | ok y S2 =>
            rw [hq] at hm2
            have hm2 : S1.length ≤ S2.length := hm2
            cases y with
            | l n =>
              have sx : stepX g mt me ew x S = .bad := by unfold stepX; rw [hg]; dsimp only; rw [ht]; dsimp only; rw [hq]
              rw [sx]
              rfl
            | p y =>
              have sx : stepX g mt me ew x S = .ok (some y) (S2.take S.length) := by unfold stepX; rw [hg]; dsimp only; rw [ht]; dsimp only; rw [hq]
              rw [sx]
              show (match (ins S.length [MO.lst acc] S2)[S.length]? with | some (.lst a1) => _ | _ => _) = _
              rw [(at_ S2 (by omega)).1]
              dsimp only
              rw [if_pos rfl, (at_ S2 (by omega)).2, ih _ _ (hl S2 (by omega))]
              cases mapX (stepX g mt me ew) xs (S2.take S.length) with
              | ok ys S3 => show Res.ok _ _ = Res.ok _ _; simp
              | _ => rfl
@[simp] theorem lcF_X {own : Bool} {g : MG} {mt : MTst} {me : MExp} {ew : MEnv} [FrG g] [Fr mt] [Fr me] {xs : List PV} {S : Sto} (hw : shE S.length 1 ew = ew) : lcF own (lcL g mt me ew xs S []) = lcF own (mapX (stepX g mt me ew) xs S) := by
  rw [lcL_X xs S [] hw]
  cases mapX (stepX g mt me ew) xs S <;> rfl
theorem at_stepX {g : MG} {mt : MTst} {me : MExp} {ew : MEnv} {x : PV} : stepX g mt me ew x = fun S => match g (.p x) ew with
  | none => .bad
  | some e1 => match mt e1 S with
    | .ok false S1 => .ok none (S1.take S.length)
    | .ok true S1 => (match me e1 S1 with
      | .ok (.p y) S2 => .ok (some y) (S2.take S.length)
      | _ => .bad)
    | _ => .bad := rfl
theorem mapX_map {α β : Type} {f : β → Sto → Res (Option PV)} {h : α → β} : ∀ {l : List α} {S : Sto}, mapX f (l.map h) S = mapX (fun t => f (h t)) l S
  | [], S => rfl
  | x :: l, S => by
    show (match f (h x) S with | .ok o S1 => _ | _ => _) = (match f (h x) S with | .ok o S1 => _ | _ => _)
    cases f (h x) S with
    | ok o S1 => dsimp only; rw [mapX_map]
    | _ => rfl
/-- each step leaves the store as it is -/
theorem mapX_ok {α : Type} {f : α → Sto → Res (Option PV)} {k : α → Option PV} : ∀ {l : List α} {S : Sto}, (∀ t ∈ l, f t S = .ok (k t) S) → mapX f l S = .ok (l.filterMap k) S
  | [], S, h => rfl
  | x :: l, S, h => by
    unfold mapX
    rw [h x List.mem_cons_self]
    dsimp only
    rw [mapX_ok fun t ht => h t (List.mem_cons_of_mem _ ht), List.filterMap_cons]
    cases k x <;> rfl
theorem mapX_all {α : Type} {f : α → Sto → Res (Option PV)} {k : α → PV} {l : List α} {S : Sto} (h : ∀ t ∈ l, f t S = .ok (some (k t)) S) : mapX f l S = .ok (l.map k) S := by
  rw [mapX_ok (k := fun t => some (k t)) h]
  congr 1
  induction l with
  | nil => rfl
  | cons x l ih => rw [List.filterMap_cons, List.map_cons, ih fun t ht => h t (List.mem_cons_of_mem _ ht)]
theorem filterMap_if {α : Type} {c : α → Bool} {k : α → PV} : ∀ {l : List α}, (l.filterMap fun t => if c t then some (k t) else none) = (l.filter c).map k
  | [] => rfl
  | x :: l => by
    rw [List.filterMap_cons, List.filter_cons]
    cases c x with
    | false => simpa using filterMap_if
    | true => simpa using filterMap_if
theorem mapX_if {α : Type} {f : α → Sto → Res (Option PV)} {c : α → Bool} {k : α → PV} {l : List α} {S : Sto} (h : ∀ t ∈ l, f t S = .ok (if c t then some (k t) else none) S) : mapX f l S = .ok ((l.filter c).map k) S := by
  rw [mapX_ok h, filterMap_if]
/-- a comprehension over what is told by e, without a test -/
theorem lc_all {α : Type} {own : Bool} {g : MG} {me : MExp} {ew : MEnv} [FrG g] [Fr me] {enc : α → PV} {k : α → PV} {l : List α} {S : Sto} (hw : shE S.length 1 ew = ew)
    (h : ∀ t ∈ l, ∃ e1, g (.p (enc t)) ew = some e1 ∧ me e1 S = .ok (.p (k t)) S) : lcF own (lcL g tYesM me ew (l.map enc) S []) = lcF own (.ok (l.map k) S) := by
  rw [lcF_X hw, mapX_map, mapX_all (k := k) fun t ht => ?_]
  obtain ⟨e1, h1, h2⟩ := h t ht
  unfold stepX
  rw [h1]
  show (match me e1 S with | .ok (.p y) S2 => _ | _ => _) = _
  rw [h2]
  show Res.ok _ _ = _
  rw [List.take_length]
theorem lc_if {α : Type} {own : Bool} {g : MG} {mt : MTst} {me : MExp} {ew : MEnv} [FrG g] [Fr mt] [Fr me] {enc : α → PV} {c : α → Bool} {k : α → PV} {l : List α} {S : Sto} (hw : shE S.length 1 ew = ew)
    (h : ∀ t ∈ l, ∃ e1, g (.p (enc t)) ew = some e1 ∧ mt e1 S = .ok (c t) S ∧ (c t = true → me e1 S = .ok (.p (k t)) S)) : lcF own (lcL g mt me ew (l.map enc) S []) = lcF own (.ok ((l.filter c).map k) S) := by
  rw [lcF_X hw, mapX_map, mapX_if (c := c) (k := k) fun t ht => ?_]
  obtain ⟨e1, h1, h2, h3⟩ := h t ht
  unfold stepX
  rw [h1]
  dsimp only
  rw [h2]
  cases hc : c t with
  | false => show Res.ok _ _ = _; rw [List.take_length]; rfl
  | true =>
    show (match me e1 S with | .ok (.p y) S2 => _ | _ => _) = _
    rw [h3 hc]
    show Res.ok _ _ = _
    rw [List.take_length]
    rfl
/-- the first refused one: none -/
theorem firstL_all {α : Type} {fn : MFn} {enc : α → PV} {l : List α} {S : Sto} (h : ∀ (i : Nat) t, l[i]? = some t → fn [.p (enc t), .p (.tup ((l.take i).map enc))] S = .ok (.p (.bl true)) S) :
    ∀ (rest : List α) (i : Nat), l.drop i = rest → firstL fn (l.map enc) i (rest.map enc) S = .ok (.p .non) S
  | [], i, _ => rfl
  | x :: rest, i, hd => by
    have hx : l[i]? = some x := by
      have := congrArg (fun z => z[0]?) hd
      simpa using this
    rw [List.map_cons]
    unfold firstL
    rw [← List.map_take, h i x hx]
    show firstL fn (l.map enc) (i + 1) (rest.map enc) S = _
    refine firstL_all h rest (i + 1) ?_
    rw [← List.drop_drop, hd]
    rfl
theorem first_all {α : Type} {fn : MFn} {enc : α → PV} {l : List α} {S : Sto} (h : ∀ (i : Nat) t, l[i]? = some t → fn [.p (enc t), .p (.tup ((l.take i).map enc))] S = .ok (.p (.bl true)) S) :
    firstL fn (l.map enc) 0 (l.map enc) S = .ok (.p .non) S := firstL_all h l 0 rfl
/-! ### lists of one kind -/
theorem bools_map {α : Type} {k : α → Bool} : ∀ (l : List α), boolsOf (l.map fun t => .bl (k t)) = some (l.map k)
  | [] => rfl
  | x :: l => by
    show (match boolsOf (l.map fun t => .bl (k t)) with | some is => some (k x :: is) | none => none) = _
    rw [bools_map l]
    rfl
theorem ints_map {α : Type} {k : α → Int} : ∀ (l : List α), intsOf (l.map fun t => .int (k t)) = some (l.map k)
  | [] => rfl
  | x :: l => by
    show (match intsOf (l.map fun t => .int (k t)) with | some is => some (k x :: is) | none => none) = _
    rw [ints_map l]
    rfl
theorem strs_all : ∀ l : List Str, strsOf (l.map PV.str) = some l
  | [] => rfl
  | x :: l => by
    show (strsOf (l.map PV.str)).map (x :: ·) = _
    rw [strs_all l]
    rfl
theorem zip2_map {α β : Type} {f : α → PV} {g : β → PV} : ∀ (l : List α) (m : List β), zip2P (l.map f) (m.map g) = (l.zip m).map fun p => [f p.1, g p.2]
  | [], m => by cases m <;> rfl
  | x :: l, [] => rfl
  | x :: l, y :: m => by
    show [f x, g y] :: zip2P (l.map f) (m.map g) = _
    rw [zip2_map l m]
    rfl
theorem enum_map {α : Type} {f : α → PV} : ∀ (l : List α) (i : Nat), enumP i (l.map f) = (l.zipIdx i).map fun p => [.int (p.2 : Nat), f p.1]
  | [], i => rfl
  | x :: l, i => by
    show [.int (i : Nat), f x] :: enumP (i + 1) (l.map f) = _
    rw [enum_map l (i + 1)]
    rfl
theorem idx_map {z : Str} : ∀ {l : List Str} {i : Nat}, l[i]? = some z → l.Nodup → idxS z l = some i
  | [], i, h, _ => by simp at h
  | x :: l, 0, h, _ => by
    simp at h
    unfold idxS
    rw [if_pos h]
  | x :: l, i + 1, h, nd => by
    have h : l[i]? = some z := by simpa using h
    have nd' := List.nodup_cons.mp nd
    unfold idxS
    rw [if_neg (fun e => nd'.1 (by rw [e]; exact List.mem_of_getElem? h)), idx_map h nd'.2]
    rfl
end Mm
end

section
set_option Elab.async false
set_option linter.all false
set_option maxRecDepth 100000
namespace Mm
open PySem PySem.Spec L2
/-! ## more mirrors are worked out -/
section
variable {α β : Type} {m n : MExp} {e : MEnv} {S S1 : Sto}
@[simp] theorem at_mIs {f : PV → Option Bool} : mIs f m e S = Mm.bindM m (fun x _ S => match pvOf x S with
  | some y => (match f y with
    | some b => .ok (.p (.bl b)) S
    | none => .bad)
  | none => .bad) e S := rfl
@[simp] theorem at_pvOf {x : PV} : pvOf (.p x) S = some x := rfl
@[simp] theorem at_mNotV : mNotV m e S = Mm.bindM m (fun x _ S => match x with
  | .p (.bl b) => .ok (.p (.bl (!b))) S
  | _ => .bad) e S := rfl
@[simp] theorem at_mAndV : mAndV m n e S = Mm.bindM m (fun x e S => match x with
  | .p (.bl true) => n e S
  | .p (.bl false) => .ok (.p (.bl false)) S
  | _ => .bad) e S := rfl
@[simp] theorem at_mOrV : mOrV m n e S = Mm.bindM m (fun x e S => match x with
  | .p (.bl true) => .ok (.p (.bl true)) S
  | .p (.bl false) => n e S
  | _ => .bad) e S := rfl
@[simp] theorem at_mFldI {fl : Nat → List Str} {f : Str} : mFld fl f m e S = Mm.bindM m (fun x _ S => match x with
  | .p (.ins c fs) => if c < 100 then (match ((fl c).zip fs).lookup f with
    | some v => .ok (.p v) S
    | none => .bad) else .bad
  | .l n => (match S[n]? with
    | some (.ins c fs) => if c < 100 then (match ((fl c).zip fs).lookup f with
      | some v => .ok (.p v) S
      | none => .bad) else .bad
    | _ => .bad)
  | _ => .bad) e S := by unfold mFld; rfl
@[simp] theorem at_mChain {f g : FB} {ma mb mc : MExp} : mChain f g ma mb mc e S = Mm.bindM ma (fun x => Mm.bindM mb fun y e S =>
  match x, y with
  | .p x, .p y => (match f x y with
    | some true => Mm.bindM mc (fun z e S => match z with
      | .p z => (match g y z with
        | some b => .ok (.p (.bl b)) S
        | none => .bad)
      | _ => .bad) e S
    | some false => .ok (.p (.bl false)) S
    | none => .bad)
  | _, _ => .bad) e S := by unfold mChain; rfl
@[simp] theorem at_mUn {g : Int → Int} : mUn g m e S = Mm.bindM m (fun x _ S => match x with
  | .p (.int i) => .ok (.p (.int (g i))) S
  | _ => .bad) e S := rfl
@[simp] theorem at_mFirst {js : List Nat} {k : Nat} {mb : MExp} : mFirst js k mb m e S = Mm.bindM m (fun x e S => match x with
  | .p (.tup xs) => firstL (lamMF (capE js e) k mb) xs 0 xs S
  | _ => .bad) e S := rfl
@[simp] theorem at_capE0 : capE [] e = [] := rfl
@[simp] theorem at_capE {j : Nat} {js : List Nat} : capE (j :: js) e = (match e[j]? with | some o => o | none => none) :: capE js e := rfl
theorem at_lamMF {caps : List (Option RV)} {k : Nat} {mb : MExp} {xs : List RV} : lamMF caps k mb xs S = match mb (xs.map some ++ (caps ++ List.replicate (k - xs.length - caps.length) none)) S with
  | .ok (.p (.bl b)) S1 => .ok (.p (.bl b)) (S1.take S.length)
  | _ => .bad := rfl
@[simp] theorem at_mEnum {a : MArg} : mEnum a e S = Mm.bindM a (fun xs _ S => match xs with
  | [x] => (match srcR x with
    | some xs => .ok ((enumP 0 xs).map PV.tup) S
    | none => .bad)
  | _ => .bad) e S := rfl
@[simp] theorem at_mZip2 {a : MArg} : mZip2 a e S = Mm.bindM a (fun xs _ S => match xs with
  | [x, y] => (match srcR x, srcR y with
    | some xs, some ys => .ok ((zip2P xs ys).map PV.tup) S
    | _, _ => .bad)
  | _ => .bad) e S := rfl
@[simp] theorem at_mZip3 {a : MArg} : mZip3 a e S = Mm.bindM a (fun xs _ S => match xs with
  | [x, y, z] => (match srcR x, srcR y, srcR z with
    | some xs, some ys, some zs => .ok ((zip3P xs ys zs).map PV.tup) S
    | _, _, _ => .bad)
  | _ => .bad) e S := rfl
@[simp] theorem at_mEz {a : MArg} : mEz a e S = Mm.bindM a (fun xs _ S => match xs with
  | [x, y] => (match srcR x, srcR y with
    | some xs, some ys => .ok (ezP 0 (zip2P xs ys)) S
    | _, _ => .bad)
  | _ => .bad) e S := rfl
@[simp] theorem at_mDGet : mDGet m n e S = Mm.bindM m (fun x => Mm.bindM n fun y _ S => match y with
  | .p y => (match keyOf y, dicOf x S with
    | some k, some kvs => (match lookP kvs k with
      | some v => .ok (.p v) S
      | none => .bad)
    | _, _ => .bad)
  | .l _ => .bad) e S := rfl
@[simp] theorem at_putDS {mo mi mv : MExp} : putDS mo mi mv e S = bindS mv (fun v => bindS mo fun x => bindS mi fun y e S => match x, y, v with
  | .l n, .p y, .p v => (match S[n]?, keyOf y with
    | some (.dic kvs), some k => if kvs.length < sizeLine then .next e (S.set n (.dic (putD kvs k v))) else .bad
    | _, _ => .bad)
  | _, _, _ => .bad) e S := rfl
@[simp] theorem at_keyS {x : Str} : keyOf (.str x) = some (.inr x) := rfl
@[simp] theorem at_keyI {i : Int} : keyOf (.int i) = some (.inl i) := rfl
@[simp] theorem at_setFldS {fl : Nat → List Str} {f : Str} {mo mv : MExp} : setFldS fl f mo mv e S = bindS mv (fun y => bindS mo fun x e S => match x, y with
  | .l n, .p v => (match S[n]? with
    | some (.ins c fs) => if c < 100 then (match fldIx f (fl c) with
      | some i => (match putP i v fs with
        | some gs => .next e (S.set n (.ins c gs))
        | none => .bad)
      | none => .bad) else .bad
    | _ => .bad)
  | _, _ => .bad) e S := rfl
@[simp] theorem at_mMake {c : Nat} {F : MFn} {ds : List RV} {a : MArg} : mMake c F ds a e S = Mm.bindM a (fun xs _ S => match F (.l S.length :: (xs ++ ds)) (S ++ [.ins c []]) with
  | .ok (.p .non) S1 => .ok (.l S.length) S1
  | .exn c fs S1 => .exn c fs S1
  | _ => .bad) e S := rfl
@[simp] theorem at_mMakeK {c : Nat} {F : MFn} {pk : List Nat} {a : MArg} : mMakeK c F pk a e S = Mm.bindM a (fun xs _ S => match F (.l S.length :: permL pk xs) (S ++ [.ins c []]) with
  | .ok (.p .non) S1 => .ok (.l S.length) S1
  | .exn c fs S1 => .exn c fs S1
  | _ => .bad) e S := rfl
@[simp] theorem at_shE0 {a d : Nat} : shE a d [] = [] := rfl
@[simp] theorem at_shEn {a d : Nat} : shE a d (none :: e) = none :: shE a d e := rfl
@[simp] theorem at_shEp {a d : Nat} {x : PV} : shE a d (some (.p x) :: e) = some (.p x) :: shE a d e := rfl
@[simp] theorem at_shEl {a d k : Nat} : shE a d (some (.l k) :: e) = some (.l (shN a d k)) :: shE a d e := rfl
@[simp] theorem at_isT {x : Str} : isTy 3 (.str x) = some true := rfl
@[simp] theorem at_isTup {xs : List PV} : isTy 5 (.tup xs) = some true := rfl
@[simp] theorem at_isInt {i : Int} : isTy 2 (.int i) = some true := rfl
@[simp] theorem at_isBl {i : Int} : isTy 1 (.int i) = some false := rfl
@[simp] theorem at_isO {c : Nat} {fs : List PV} : isOw c (.ins c fs) = some true := by unfold isOw; simp
@[simp] theorem at_isN0 : fIsN false .non .non = some true := rfl
@[simp] theorem at_isN1 : fIsN true .non .non = some false := rfl
@[simp] theorem at_isNs {neg : Bool} {x : Str} : fIsN neg (.str x) .non = some neg := by cases neg <;> rfl
@[simp] theorem at_isNi {neg : Bool} {i : Int} : fIsN neg (.int i) .non = some neg := by cases neg <;> rfl
@[simp] theorem at_isNt {neg : Bool} {xs : List PV} : fIsN neg (.tup xs) .non = some neg := by cases neg <;> rfl
@[simp] theorem at_eqI {neg : Bool} {i j : Int} : fEq neg (.int i) (.int j) = some (if neg then !(i == j) else (i == j)) := rfl
@[simp] theorem at_eqS {neg : Bool} {i j : Str} : fEq neg (.str i) (.str j) = some (if neg then !(i == j) else (i == j)) := rfl
@[simp] theorem at_eqB {neg : Bool} {i j : Bool} : fEq neg (.bl i) (.bl j) = some (if neg then !(i == j) else (i == j)) := rfl
@[simp] theorem at_ltI {i j : Int} : fLt (.int i) (.int j) = some (decide (i < j)) := rfl
@[simp] theorem at_ltS {i j : Str} : fLt (.str i) (.str j) = some (decide (i.cps.toList < j.cps.toList)) := rfl
@[simp] theorem at_srcStr {x : Str} : srcR (.p (.str x)) = if x.cps.size ≤ sizeLine then some (signs x) else none := rfl
@[simp] theorem at_fAllL {f : List Bool → Bool} {xs : List PV} : fAll f [.p (.lst xs)] S = (match boolsOf xs with | some is => some (.bl (f is)) | none => none) := rfl
@[simp] theorem at_fSumL {xs : List PV} : fSum [.p (.lst xs)] S = (match intsOf xs with | some is => some (.int is.sum) | none => none) := rfl
end
end Mm
end

section
set_option Elab.async false
set_option linter.all false
set_option maxRecDepth 100000
namespace Mm
open PySem PySem.Spec PyProof.Rows L2

/-! ## divmod -/
section
variable {X : Cx} {G : GC} {W : WX} {pos p : Pos}
theorem call_divmodX : CallR X (.builtin "divmod") (fun xs H Q => ∃ i j, xs = [.int i, .int j] ∧ (0 < j ∧ j < 1073741824) ∧ NewT [.int (i / j), .int (i % j)] H Q) := by
  intro pins s σ H xs us Q I r h
  obtain ⟨i, j, rfl, ⟨h1, h2⟩, q⟩ := h
  obtain ⟨u, w', rfl, ⟨t, rfl⟩, ⟨t', rfl⟩⟩ := vals2 r
  refine divmod_int (by omega) ?_ (.inl (PyProof.noPylong_small (by omega)))
  rw [Int.fdiv_eq_ediv_of_nonneg i (by omega), Int.fmod_eq_emod_of_nonneg i (by omega)]
  have rv : Vals [V.int (i / j), V.int (i % j)] [.int (i / j) s.toks, .int (i % j) (s.toks + 1)] := .cons ⟨_, rfl⟩ (.cons ⟨_, rfl⟩ .nil)
  exact NewT.ep I rv (by simp only [List.length_cons, List.length_nil]; rw [sizeLine_eq]; decide) (s.toks + 2) q
def fDivmod : FC := fun xs S => match xs with
  | [.p (.int i), .p (.int j)] => if cDiv i j then some (.tup [.int (i / j), .int (i % j)]) else none
  | _ => none
theorem sv_divmod {G : GC} : ServesC G (fun xs H Q => ∃ i j, xs = [.int i, .int j] ∧ (0 < j ∧ j < 1073741824) ∧ NewT [.int (i / j), .int (i % j)] H Q) fDivmod := by
  intro r H S xs z vs Q st i hf k
  unfold fDivmod at hf
  split at hf
  · rename_i a b
    split at hf
    · rename_i hc
      cases hf
      obtain ⟨v, w, rfl, q1, q2⟩ := i.two
      have q1 := int_of q1
      have q2 := int_of q2
      subst q1 q2
      unfold cDiv at hc
      simp only [Bool.and_eq_true, decide_eq_true_eq] at hc
      refine ⟨a, b, rfl, hc, fun l o hl ho => k _ _ (.inr ⟨l, _, hl, fun _ => noF, rfl⟩) (is_tupN st.toStR0 hl ho ?_)⟩
      refine IsAll.cons.mpr ⟨by unfold Is; rfl, IsAll.cons.mpr ⟨by unfold Is; rfl, IsAll.nil⟩⟩
    · cases hf
  · cases hf
theorem me_divmod {e0 e1 : Expr} {na : MArg} (hG : X.K = G.K) (hg : Gl X "divmod") (hm : X.mg "divmod" = none) (ha : PA X [e0, e1] (rdA G W na)) (he : starEach [e0, e1] X.env = (false, eval e0 X.env) :: starEach [e1] X.env := by rfl) (hpl : (backTo pos (starEach [e1] X.env)).any (·.1) = false := by rfl) : PE X (.Call (.Name "divmod" p) [e0, e1] [] pos) (rd G W (mB fDivmod na)) :=
  me_callB hG call_divmodX sv_divmod hg hm (by decide +kernel) ha (he := he) (hpl := hpl)
instance : FrC fDivmod where
  fr a J xs S h := by
    match xs with
    | [] => rfl
    | [.p x] => cases x <;> rfl
    | [.l n] => rfl
    | [.p x, .p y] => cases x <;> cases y <;> rfl
    | [.p x, .l n] => cases x <;> rfl
    | [.l n, _] => rfl
    | .p x :: .p y :: _ :: _ => cases x <;> cases y <;> rfl
    | .p x :: .l n :: _ :: _ => cases x <;> rfl
    | .l n :: _ :: _ :: _ => rfl
/-! ### xs[k], name = a pair -/
def putPair (a b : PV) (j : Nat) (mo mi : MExp) : MStm := bindS mo fun o => bindS mi fun k e S => match o, k with
  | .l n, .p (.int i) => (match S[n]? with
    | some (.lst xs) => (match ixN xs.length i with
      | some q => .next (setE e j (.p b)) (S.set n (.lst (xs.set q a)))
      | none => .bad)
    | _ => .bad)
  | _, _ => .bad
def pairS (mo mi : MExp) (j : Nat) (m : MExp) : MStm := bindS m fun x => match x with
  | .p (.tup [a, b]) => putPair a b j mo mi
  | _ => fun _ _ => .bad
theorem is_two {r : Ads} {H : Hp} {a b : PV} {v : V} (h : RIs G r H (.p (.tup [a, b])) v) : ∃ p u w, v = .ref p ∧ SqT G.K H p [u, w] ∧ Is G r H a u ∧ Is G r H b w := by
  have h : Is G r H (.tup [a, b]) v := h
  unfold Is at h
  obtain ⟨p, vs, rfl, q, t⟩ := h
  unfold IsAll at t
  obtain ⟨u, ws, rfl, q1, t⟩ := t
  unfold IsAll at t
  obtain ⟨w, ws, rfl, q2, t⟩ := t
  unfold IsAll at t
  subst t
  exact ⟨p, u, w, rfl, q.t, q1, q2⟩
theorem ms_pair {o i value : Expr} {x : Str} {j : Nat} {pos' px pt : Pos} {kt : Nat} {mo mi mv : MExp} (hG : X.K = G.K) (hc : X.calm = true) (hN : X.N.Nodup) (hj : X.N[j]? = some x) (hx : Loc X.env.scope x) (ho : PE X o (rd G W mo)) (hi : PE X i (rd G W mi)) (hv : PE X value (rd G W mv))
    (hs : swapsWithSole [.Tuple [.Subscript o i pos', .Name x px] kt pt] value pos.line X.env = pure false := by rfl) (hw : swappedStores [.Tuple [.Subscript o i pos', .Name x px] kt pt] value X.env = pure none := by rfl)
    (ha : ∀ v, assign (.Subscript o i pos') X.env v = (do
      let ov ← holding [v] (eval o X.env)
      let iv ← holding [v, ov] (eval i X.env)
      standAt pos'
      holding [v, ov, iv] (setItem ov iv v)
      release [v, ov, iv] []) := by intro _; rfl) (h1 : (assignEach [.Tuple [.Subscript o i pos', .Name x px] kt pt] X.env).map (·.2) = [assign (.Tuple [.Subscript o i pos', .Name x px] kt pt) X.env] := by rfl)
    (hn : (assignEach [.Subscript o i pos', .Name x px] X.env).length = 2 := by rfl) (hst : (assignEach [.Subscript o i pos', .Name x px] X.env).findIdx? (·.1) = none := by rfl)
    (hs1 : (assignEach (.Subscript o i pos' :: [.Name x px]) X.env).map (·.2) = assign (.Subscript o i pos') X.env :: (assignEach [.Name x px] X.env).map (·.2) := by rfl)
    (hs2 : (assignEach (.Name x px :: []) X.env).map (·.2) = assign (.Name x px) X.env :: (assignEach [] X.env).map (·.2) := by rfl)
    (hf : X.fn x = true ∨ X.env.scope.names.lookup x = some .local := by first | exact .inl rfl | exact .inr rfl | assumption) :
    PS X (.Assign [.Tuple [.Subscript o i pos', .Name x px] kt pt] value pos) (rdS G W (pairS mo mi j mv)) :=
  psI (ps_asg hv (pg_tup hc (pgs_cons (pg_sub ho hi set_list ha) (pgs_cons (pg_name hN hj hx hf) pgs_nil hs2) hs1) hn hst) hs hw h1) fun D σ H _ ⟨r, S, e, sr, h⟩ => by
    rw [hG]
    refine bindS_rd sr h fun y S1 r1 H1 v1 st1 sr1 i1 h1 => ?_
    have no : SatS G W r1 H1 D (ResS.bad) → False := fun z => z
    cases y with
    | l n => exact (no h1).elim
    | p y =>
      cases y <;> first | exact (no h1).elim | skip
      rename_i xs
      match xs, i1, h1 with
      | [], _, h1 => exact (no h1).elim
      | [_], _, h1 => exact (no h1).elim
      | _ :: _ :: _ :: _, _, h1 => exact (no h1).elim
      | [a, b], i1, h1 =>
        obtain ⟨pt, u, w, rfl, hq, ia, ib⟩ := is_two i1
        refine ⟨pt, [u, w], rfl, hq, rfl, u, [w], rfl, ?_⟩
        refine bindS_rd sr1 h1 fun x S2 r2 H2 v2 st2 sr2 i2 h2 => ?_
        refine bindS_rd sr2 h2 fun k S3 r3 H3 v3 st3 sr3 i3 h3 => ?_
        have ia' := (ia.step st2.toStep sr1.st.noFrz).step st3.toStep sr2.st.noFrz
        have ib' := (ib.step st2.toStep sr1.st.noFrz).step st3.toStep sr2.st.noFrz
        have i2' := i2.step st3 sr2.st.noFrz
        have no3 : SatS G W r3 H3 D (ResS.bad) → False := fun z => z
        cases x with
        | p x => exact (no3 h3).elim
        | l n =>
          cases k with
          | l k => exact (no3 h3).elim
          | p k =>
            cases k <;> first | exact (no3 h3).elim | skip
            rename_i z
            obtain ⟨q, hat, rfl⟩ := i2'
            obtain ⟨m, hm, mk⟩ := sr3.st.obj n q hat
            dsimp only at h3
            rw [hm] at h3
            match m, mk, h3 with
            | .lst xs, ⟨us, hH, iu⟩, h3 =>
              dsimp only at h3
              cases hj : ixN xs.length z with
              | none => rw [hj] at h3; exact h3.elim
              | some jn =>
                rw [hj] at h3
                refine ⟨q, us, z, jn, rfl, int_of i3, hH, by rw [← iu.len]; exact hj, ⟨w, [], rfl, ?_⟩⟩
                refine ⟨rfl, fun kf => ?_⟩
                obtain ⟨st, s2⟩ := StR.putL (ys := xs.set jn a) sr3.st hat (iu.set jn ia') kf
                exact h3 r3 _ _ st ((StR.with sr3 st s2).set (ib'.step st.toStep sr3.st.noFrz))
            | .dic _, _, h3 => exact h3.elim
            | .ins _ _, _, h3 => exact h3.elim
end
section
variable {mo mi m : MExp} {e : MEnv} {S : Sto}
theorem putPair_fr {a' b' : PV} {j a : Nat} {J : Sto} [Fr mo] [Fr mi] (h : a ≤ S.length) : putPair a' b' j mo mi (shE a J.length e) (ins a J S) = insRS a J (putPair a' b' j mo mi e S) :=
  bindS_fr h fun x S2 h => bindS_fr h fun k S3 h => by
    cases x with
    | p x => rfl
    | l n =>
      cases k with
      | l k => rfl
      | p k =>
        cases k <;> first | rfl | skip
        show (match (ins a J S3)[shN a J.length n]? with | some (.lst xs) => _ | _ => _) = insRS a J (match S3[n]? with | some (.lst xs) => _ | _ => _)
        rw [ins_get h]
        cases S3[n]? with
        | none => rfl
        | some o =>
          cases o <;> first | rfl | skip
          dsimp only
          split
          · show ResS.next _ _ = ResS.next _ _
            rw [ins_set h, ← setE_sh]
            rfl
          · rfl
theorem putPair_len {a' b' : PV} {j : Nat} [Fr mo] [Fr mi] : lenRS S.length (putPair a' b' j mo mi e S) :=
  bindS_len fun x S2 => bindS_len fun k S3 => by
    repeat' split
    all_goals first | trivial | (show _ ≤ _; simp)
instance {j : Nat} [Fr mo] [Fr mi] [Fr m] : FrS (pairS mo mi j m) where
  fr a J e S h := bindS_fr h fun x S1 h => by
    cases x with
    | l n => rfl
    | p x =>
      cases x <;> first | rfl | skip
      rename_i xs
      match xs with
      | [] => rfl
      | [_] => rfl
      | _ :: _ :: _ :: _ => rfl
      | [a', b'] => exact putPair_fr h
  mono e S := bindS_len fun x S1 => by
    cases x with
    | l n => trivial
    | p x =>
      cases x <;> first | trivial | skip
      rename_i xs
      match xs with
      | [] => trivial
      | [_] => trivial
      | _ :: _ :: _ :: _ => trivial
      | [a', b'] => exact putPair_len
@[simp] theorem at_pairS {j : Nat} : pairS mo mi j m e S = bindS m (fun x => match x with
  | .p (.tup [a, b]) => putPair a b j mo mi
  | _ => fun _ _ => .bad) e S := rfl
@[simp] theorem at_putPair {a b : PV} {j : Nat} : putPair a b j mo mi e S = bindS mo (fun o => bindS mi fun k e S => match o, k with
  | .l n, .p (.int i) => (match S[n]? with
    | some (.lst xs) => (match ixN xs.length i with
      | some q => .next (setE e j (.p b)) (S.set n (.lst (xs.set q a)))
      | none => .bad)
    | _ => .bad)
  | _, _ => .bad) e S := rfl
@[simp] theorem at_divmod {i j : Int} : fDivmod [.p (.int i), .p (.int j)] S = if cDiv i j then some (.tup [.int (i / j), .int (i % j)]) else none := rfl
end
end Mm
end

section
set_option Elab.async false
set_option linter.all false
set_option maxRecDepth 100000
namespace Mm
open PySem PySem.Spec PyProof.Rows L2

/-! ## comprehensions of two clauses -/
/-- the inner turns: they go on from what is made so far -/
def lcI (g : MG) (mt : MTst) (me : MExp) (ew : MEnv) : List PV → Sto → List PV → Res (List PV)
  | [], S, acc => .ok acc S
  | x :: xs, S, acc => match g (.p x) ew with
    | none => .bad
    | some e1 => match mt e1 (S ++ [.lst acc]) with
      | .ok false S1 => (match S1[S.length]? with
        | some (.lst a1) => if a1.length = acc.length then lcI g mt me ew xs (S1.take S.length) a1 else .bad
        | _ => .bad)
      | .ok true S1 => (match me e1 S1 with
        | .ok (.p y) S2 => (match S2[S.length]? with
          | some (.lst a1) => if a1.length = acc.length ∧ acc.length < sizeLine then lcI g mt me ew xs (S2.take S.length) (a1 ++ [y]) else .bad
          | _ => .bad)
        | _ => .bad)
      | _ => .bad
def lc2L (g : MG) (mt : MTst) (mi1 : MIt) (g1 : MG) (mt1 : MTst) (me : MExp) (ew : MEnv) (vs1 : List Nat) : List PV → Sto → List PV → Res (List PV)
  | [], S, acc => .ok acc S
  | x :: xs, S, acc => match g (.p x) ew with
    | none => .bad
    | some e1 => match mt e1 (S ++ [.lst acc]) with
      | .ok false S1 => (match S1[S.length]? with
        | some (.lst a1) => if a1.length = acc.length then lc2L g mt mi1 g1 mt1 me ew vs1 xs (S1.take S.length) a1 else .bad
        | _ => .bad)
      | .ok true S1 => (match mi1 e1 S1 with
        | .ok xs1 S2 => (match S2[S.length]? with
          | some (.lst a1) => if a1.length = acc.length then (match lcI g1 mt1 me (wipeE e1 vs1) xs1 (S2.take S.length) a1 with
            | .ok a2 S3 => lc2L g mt mi1 g1 mt1 me ew vs1 xs S3 a2
            | _ => .bad) else .bad
          | _ => .bad)
        | _ => .bad)
      | _ => .bad
def mLC2 (own : Bool) (vs vs1 : List Nat) (mi : MIt) (g : MG) (mt : MTst) (mi1 : MIt) (g1 : MG) (mt1 : MTst) (me : MExp) : MExp := bindM mi fun xs e S => lcF own (lc2L g mt mi1 g1 mt1 me (wipeE e vs) vs1 xs S [])
/-- the rest, behind the inner turns -/
def thenX (k : Sto → List PV → Res (List PV)) : Res (List PV) → Res (List PV)
  | .ok a2 S3 => k S3 a2
  | _ => .bad
section
variable {X : Cx} {G : GC} {W : WX} {pos : Pos}
/-- a turn's end: the store cut to the list -/
theorem cut_end {rD r5 : Ads} {H5 : Hp} {S5 : Sto} {n : Nat} {a1 : List PV} (hl : rD.length = n + 1) (pre : r5.take rD.length = rD) (sr5 : StR0 G r5 H5 S5) (hat5 : S5[n]? = some (.lst a1)) :
    StR0 G rD H5 (S5.take n ++ [.lst a1]) ∧ (S5.take n).length = n := by
  have t1 := sr5.take (n + 1)
  rw [show r5.take (n + 1) = rD by rw [← hl]; exact pre, take_at hat5] at t1
  refine ⟨t1, ?_⟩
  have hl5 := (List.getElem?_eq_some_iff.mp hat5).1
  rw [List.length_take]
  omega
theorem lcF_bad {own : Bool} {α : Type} {σ : L2.St} {H : Hp} {Q : VK} {r : Ads} {e : MEnv} (h : Sat (RIs G) G W r H e σ Q (lcF own .bad)) : False := h
theorem lc2_sim {vs vs1 : List Nat} {mi mi1 : MIt} {g g1 : MG} {mt mt1 : MTst} {me : MExp} {own : Bool} {σ : L2.St} {H : Hp} {Q : VK} (h : rd G W (mLC2 own vs vs1 mi g mt mi1 g1 mt1 me) σ H Q) :
    tLc2 (fun σ H R => rdI G W mi σ H (fun J H' => KF G.K H' → R (itKf G.K J) H')) (rdG G vs g) (rdT G W0 mt) (fun σ H R => rdI G W0 mi1 σ H (fun J H' => KF G.K H' → R (itKf G.K J) H')) (rdG G vs1 g1) (rdT G W0 mt1) (rd G W0 me) vs vs1 σ H (fun v H' => KF G.K H' → Q v H') := by
  obtain ⟨r, S, e, sr, h⟩ := h
  refine bind_rd sr h fun xs S1 r1 H1 J st1 sr1 wk h1 kf1 D hD => ?_
  have fr : some D ∉ r1 := sr1.st.toStR0.fresh hD
  have hn : r1.length = S1.length := sr1.st.len
  have hlD : (r1 ++ [some D]).length = S1.length + 1 := by rw [List.length_append, hn]; rfl
  have hDat : (r1 ++ [some D])[S1.length]? = some (some D) := by rw [← hn, List.getElem?_append_right (Nat.le_refl _), Nat.sub_self]; rfl
  refine ⟨fun i m H => m = xs.length - i ∧ i ≤ xs.length ∧ ∃ S acc, S.length = S1.length ∧ (∃ r' S', Step G.K r1 H1 r' H ∧ StR0 G r' H S') ∧
      (KF G.K H → StepE G.K r1 H1 (r1 ++ [some D]) H ∧ StR0 G (r1 ++ [some D]) H (S ++ [.lst acc])) ∧ Sat (RIs G) G W r1 H1 e σ Q (lcF own (lc2L g mt mi1 g1 mt1 me (wipeE e vs) vs1 (xs.drop i) S acc)),
    ⟨xs.length, by simp, Nat.zero_le _, S1, [], rfl, ⟨r1, S1, Step.laid hD, sr1.st.toStR0.ext (Ext.of_upd hD)⟩, fun kf => ⟨StepE.own hD (kf_new kf), sr1.st.toStR0.own (m := .lst []) hD (kf_new kf) ⟨[], upd_same, IsAll.nil⟩⟩, by simpa using h1⟩, ?_⟩
  rintro i m H2 ⟨rfl, hi, S2, acc, hS2, ⟨r', S', stw, srw⟩, full, h2⟩
  have hS2n : S2.length = r1.length := by rw [hS2, hn]
  by_cases hlt : i < xs.length
  · obtain ⟨wi, _⟩ := wk.2 r' H2 S' stw srw
    obtain ⟨hgo, _⟩ := wi i xs[i] (List.getElem?_eq_getElem hlt)
    rw [List.drop_eq_getElem_cons hlt] at h2
    refine .inr ⟨hgo, fun H' => xs.length - (i + 1) < xs.length - i ∧ i + 1 ≤ xs.length ∧ ∃ S acc, S.length = S1.length ∧ (∃ r' S', Step G.K r1 H1 r' H' ∧ StR0 G r' H' S') ∧
      (KF G.K H' → StepE G.K r1 H1 (r1 ++ [some D]) H' ∧ StR0 G (r1 ++ [some D]) H' (S ++ [.lst acc])) ∧ Sat (RIs G) G W r1 H1 e σ Q (lcF own (lc2L g mt mi1 g1 mt1 me (wipeE e vs) vs1 (xs.drop (i + 1)) S acc)),
      fun H' ⟨q1, q2, q3⟩ => ⟨_, q1, rfl, q2, q3⟩, fun v H3 hy => ?_⟩
    obtain ⟨hy, kf3⟩ := hy
    obtain ⟨_, yy⟩ := wi i xs[i] (List.getElem?_eq_getElem hlt)
    have hx := (yy v H3 hy).1
    have kf2 := kf3.back hx
    obtain ⟨st2, sr2⟩ := full kf2
    obtain ⟨wi2, _⟩ := wk.2 _ H2 _ st2.toStep sr2
    have iv := ((wi2 i xs[i] (List.getElem?_eq_getElem hlt)).2 v H3 hy).2 kf3
    have st3 : StepE G.K r1 H1 (r1 ++ [some D]) H3 := st2.trans hx.stepE
    have sr3 : SR G (r1 ++ [some D]) H3 (S2 ++ [.lst acc]) (wipeE e vs) (L2.wipe σ vs) := ⟨⟨sr2.ext hx, kf3⟩, (sr1.env.step st3 sr1.st.noFrz).wipe vs⟩
    unfold lc2L at h2
    cases hg : g (.p xs[i]) (wipeE e vs) with
    | none => rw [hg] at h2; exact h2.elim
    | some e1 =>
      rw [hg] at h2
      dsimp only at h2
      refine ⟨_, _, _, .p xs[i], sr3, iv, e1, hg, fun σ4 hw4 sr4 => ⟨by rw [hw4, wipe_wipe], ?_⟩⟩
      refine ⟨_, _, _, sr4, ?_⟩
      have hlD2 : (r1 ++ [some D]).length = S2.length + 1 := by rw [hlD, hS2]
      have hDat2 : (r1 ++ [some D])[S2.length]? = some (some D) := by rw [hS2]; exact hDat
      have nxt : ∀ {r5 : Ads} {H5 : Hp} {S3 : Sto} {S5 : Sto} {a1 : List PV}, Step G.K r1 H1 r5 H5 → StR0 G r5 H5 S5 → S3.length = S2.length → (KF G.K H5 → StepE G.K r1 H1 (r1 ++ [some D]) H5 ∧ StR0 G (r1 ++ [some D]) H5 (S3 ++ [.lst a1])) →
          Sat (RIs G) G W r1 H1 e σ Q (lcF own (lc2L g mt mi1 g1 mt1 me (wipeE e vs) vs1 (xs.drop (i + 1)) S3 a1)) →
          xs.length - (i + 1) < xs.length - i ∧ i + 1 ≤ xs.length ∧ ∃ S acc, S.length = S1.length ∧ (∃ r' S', Step G.K r1 H1 r' H5 ∧ StR0 G r' H5 S') ∧
          (KF G.K H5 → StepE G.K r1 H1 (r1 ++ [some D]) H5 ∧ StR0 G (r1 ++ [some D]) H5 (S ++ [.lst acc])) ∧ Sat (RIs G) G W r1 H1 e σ Q (lcF own (lc2L g mt mi1 g1 mt1 me (wipeE e vs) vs1 (xs.drop (i + 1)) S acc)) :=
        fun {r5 H5 S3 S5 a1} q1 q2 q3 q4 q5 => ⟨by omega, hlt, S3, a1, by rw [q3, hS2], ⟨r5, S5, q1, q2⟩, q4, q5⟩
      cases hm : mt e1 (S2 ++ [.lst acc]) with
      | bad => rw [hm] at h2; exact h2.elim
      | exn c fs S5 => rw [hm] at h2; exact h2.elim
      | ok b S5 =>
        rw [hm] at h2
        intro r5 H5 b' st5 sr5 eb
        have eb : b = b' := eb
        subst eb
        cases b with
        | false =>
          rw [if_neg Bool.false_ne_true]
          dsimp only at h2
          cases hq : S5[S2.length]? with
          | none => rw [hq] at h2; exact h2.elim
          | some mo =>
            rw [hq] at h2
            cases mo with
            | lst a1 =>
              dsimp only at h2
              split at h2
              · obtain ⟨c1, c2⟩ := cut_end hlD2 (pre_take st5) sr5.st.toStR0 hq
                have sA : StepE G.K r1 H1 r5 H5 := st3.trans st5
                refine nxt sA.toStep sr5.st.toStR0 c2 (fun _ => ⟨⟨?_, fun n hn => List.getElem?_append_left hn, by rw [List.length_append]; exact Nat.le_add_right _ _⟩, c1⟩) h2
                have := sA.toStep.take (r1 ++ [some D]).length
                rwa [pre_take st5] at this
              · exact h2.elim
            | _ => exact h2.elim
        | true =>
          rw [if_pos rfl]
          dsimp only at h2
          refine ⟨_, _, _, sr5, ?_⟩
          cases hmi : mi1 e1 S5 with
          | bad => rw [hmi] at h2; exact h2.elim
          | exn c fs S6 => rw [hmi] at h2; exact h2.elim
          | ok xs1 S6 =>
            rw [hmi] at h2
            intro r6 H6 J1 st6 sr6 wk1 kf6
            dsimp only at h2
            cases hq : S6[S2.length]? with
            | none => rw [hq] at h2; exact h2.elim
            | some mo =>
              rw [hq] at h2
              cases mo with
              | dic _ => exact h2.elim
              | ins _ _ => exact h2.elim
              | lst a1 =>
                dsimp only at h2
                split at h2
                · have st36 := st5.trans st6
                  obtain ⟨c1, c2⟩ := cut_end hlD2 (pre_take st36) sr6.st.toStR0 hq
                  have sD6 : Step G.K (r1 ++ [some D]) H3 (r1 ++ [some D]) H6 := by
                    have := st36.toStep.take (r1 ++ [some D]).length
                    rwa [pre_take st36] at this
                  have s66 : Step G.K r6 H6 (r1 ++ [some D]) H6 := by
                    have := (Step.refl (K := G.K) r6 H6).take (r1 ++ [some D]).length
                    rwa [pre_take st36] at this
                  refine ⟨fun j k H => k = xs1.length - j ∧ j ≤ xs1.length ∧ ∃ S acc, S.length = S2.length ∧ (∃ r' S', Step G.K r6 H6 r' H ∧ StR0 G r' H S') ∧
                      (KF G.K H → Step G.K (r1 ++ [some D]) H3 (r1 ++ [some D]) H ∧ Step G.K r6 H6 (r1 ++ [some D]) H ∧ StR0 G (r1 ++ [some D]) H (S ++ [.lst acc])) ∧
                      Sat (RIs G) G W r1 H1 e σ Q (lcF own (thenX (lc2L g mt mi1 g1 mt1 me (wipeE e vs) vs1 (xs.drop (i + 1))) (lcI g1 mt1 me (wipeE e1 vs1) (xs1.drop j) S acc))),
                    ⟨xs1.length, by simp, Nat.zero_le _, S6.take S2.length, a1, c2, ⟨r6, S6, Step.refl _ _, sr6.st.toStR0⟩, fun _ => ⟨sD6, s66, c1⟩, h2⟩, ?_⟩
                  rintro j k H7 ⟨rfl, hj, S7, acc7, hS7, ⟨r', S', stw7, srw7⟩, full7, h7⟩
                  by_cases hlt7 : j < xs1.length
                  · obtain ⟨wj, _⟩ := wk1.2 r' H7 S' stw7 srw7
                    obtain ⟨hgo7, _⟩ := wj j xs1[j] (List.getElem?_eq_getElem hlt7)
                    rw [List.drop_eq_getElem_cons hlt7] at h7
                    refine .inr ⟨hgo7, fun H' => xs1.length - (j + 1) < xs1.length - j ∧ j + 1 ≤ xs1.length ∧ ∃ S acc, S.length = S2.length ∧ (∃ r' S', Step G.K r6 H6 r' H' ∧ StR0 G r' H' S') ∧
                      (KF G.K H' → Step G.K (r1 ++ [some D]) H3 (r1 ++ [some D]) H' ∧ Step G.K r6 H6 (r1 ++ [some D]) H' ∧ StR0 G (r1 ++ [some D]) H' (S ++ [.lst acc])) ∧
                      Sat (RIs G) G W r1 H1 e σ Q (lcF own (thenX (lc2L g mt mi1 g1 mt1 me (wipeE e vs) vs1 (xs.drop (i + 1))) (lcI g1 mt1 me (wipeE e1 vs1) (xs1.drop (j + 1)) S acc))),
                      fun H' ⟨q1, q2, q3⟩ => ⟨_, q1, rfl, q2, q3⟩, fun v H8 hy8 => ?_⟩
                    obtain ⟨hy8, kf8⟩ := hy8
                    obtain ⟨_, yy8⟩ := wj j xs1[j] (List.getElem?_eq_getElem hlt7)
                    have hx8 := (yy8 v H8 hy8).1
                    have kf7 := kf8.back hx8
                    obtain ⟨sd7, s67, sr7⟩ := full7 kf7
                    obtain ⟨wj2, _⟩ := wk1.2 _ H7 _ s67 sr7
                    have iv8 := ((wj2 j xs1[j] (List.getElem?_eq_getElem hlt7)).2 v H8 hy8).2 kf8
                    have sE8 : StepE G.K (r1 ++ [some D]) H7 (r1 ++ [some D]) H8 := hx8.stepE
                    have sd8 : Step G.K (r1 ++ [some D]) H3 (r1 ++ [some D]) H8 := sd7.trans sE8.toStep
                    have sdE8 : StepE G.K (r1 ++ [some D]) H3 (r1 ++ [some D]) H8 := ⟨sd8, fun _ _ => rfl, Nat.le_refl _⟩
                    have s68 : Step G.K r6 H6 (r1 ++ [some D]) H8 := s67.trans sE8.toStep
                    have sr8 : SR G (r1 ++ [some D]) H8 (S7 ++ [.lst acc7]) (wipeE e1 vs1) (L2.wipe σ4 vs1) := ⟨⟨sr7.ext hx8, kf8⟩, (sr4.env.step sdE8 sr4.st.noFrz).wipe vs1⟩
                    unfold lcI at h7
                    cases hg8 : g1 (.p xs1[j]) (wipeE e1 vs1) with
                    | none => rw [hg8] at h7; exact h7.elim
                    | some e8 =>
                      rw [hg8] at h7
                      dsimp only at h7
                      refine ⟨_, _, _, .p xs1[j], sr8, iv8, e8, hg8, fun σ9 hw9 sr9 => ⟨by rw [hw9, wipe_wipe], ?_⟩⟩
                      refine ⟨_, _, _, sr9, ?_⟩
                      have hlD7 : (r1 ++ [some D]).length = S7.length + 1 := by rw [hlD2, hS7]
                      have hDat7 : (r1 ++ [some D])[S7.length]? = some (some D) := by rw [hS7]; exact hDat2
                      have nxt7 : ∀ {r5 : Ads} {H5 : Hp} {S5 : Sto} {a1 : List PV}, StepE G.K (r1 ++ [some D]) H8 r5 H5 → StR0 G r5 H5 S5 → S5[S7.length]? = some (.lst a1) →
                          Sat (RIs G) G W r1 H1 e σ Q (lcF own (thenX (lc2L g mt mi1 g1 mt1 me (wipeE e vs) vs1 (xs.drop (i + 1))) (lcI g1 mt1 me (wipeE e1 vs1) (xs1.drop (j + 1)) (S5.take S7.length) a1))) →
                          xs1.length - (j + 1) < xs1.length - j ∧ j + 1 ≤ xs1.length ∧ ∃ S acc, S.length = S2.length ∧ (∃ r' S', Step G.K r6 H6 r' H5 ∧ StR0 G r' H5 S') ∧
                          (KF G.K H5 → Step G.K (r1 ++ [some D]) H3 (r1 ++ [some D]) H5 ∧ Step G.K r6 H6 (r1 ++ [some D]) H5 ∧ StR0 G (r1 ++ [some D]) H5 (S ++ [.lst acc])) ∧
                          Sat (RIs G) G W r1 H1 e σ Q (lcF own (thenX (lc2L g mt mi1 g1 mt1 me (wipeE e vs) vs1 (xs.drop (i + 1))) (lcI g1 mt1 me (wipeE e1 vs1) (xs1.drop (j + 1)) S acc))) := by
                        intro r5 H5 S5 a1 st sr5 hat hsat
                        obtain ⟨c1, c2⟩ := cut_end hlD7 (pre_take st) sr5 hat
                        have sC : Step G.K (r1 ++ [some D]) H8 (r1 ++ [some D]) H5 := by
                          have := st.toStep.take (r1 ++ [some D]).length
                          rwa [pre_take st] at this
                        exact ⟨by omega, hlt7, S5.take S7.length, a1, by rw [c2, hS7], ⟨r5, S5, s68.trans st.toStep, sr5⟩, fun _ => ⟨sd8.trans sC, s68.trans sC, c1⟩, hsat⟩
                      cases hm8 : mt1 e8 (S7 ++ [.lst acc7]) with
                      | bad => rw [hm8] at h7; exact h7.elim
                      | exn c fs S9 => rw [hm8] at h7; exact h7.elim
                      | ok b S9 =>
                        rw [hm8] at h7
                        intro r9 H9 b' st9 sr9' eb
                        have eb : b = b' := eb
                        subst eb
                        cases b with
                        | false =>
                          rw [if_neg Bool.false_ne_true]
                          dsimp only at h7
                          cases hq9 : S9[S7.length]? with
                          | none => rw [hq9] at h7; exact h7.elim
                          | some mo =>
                            rw [hq9] at h7
                            cases mo with
                            | lst a9 =>
                              dsimp only at h7
                              split at h7
                              · exact nxt7 st9 sr9'.st.toStR0 hq9 h7
                              · exact h7.elim
                            | _ => exact h7.elim
                        | true =>
                          rw [if_pos rfl]
                          dsimp only at h7
                          refine ⟨_, _, _, sr9', ?_⟩
                          cases hme : me e8 S9 with
                          | bad => rw [hme] at h7; exact h7.elim
                          | exn c fs S10 => rw [hme] at h7; exact h7.elim
                          | ok y S10 =>
                            rw [hme] at h7
                            cases y with
                            | l n => exact h7.elim
                            | p y =>
                              dsimp only at h7
                              cases hq10 : S10[S7.length]? with
                              | none => rw [hq10] at h7; exact h7.elim
                              | some mo =>
                                rw [hq10] at h7
                                cases mo with
                                | dic _ => exact h7.elim
                                | ins _ _ => exact h7.elim
                                | lst a10 =>
                                  dsimp only at h7
                                  split at h7
                                  · rename_i hla
                                    intro r10 H10 yv st10 sr10 iy
                                    have iy : Is G r10 H10 y yv := iy
                                    have st910 := st9.trans st10
                                    have hat10 : r10[S7.length]? = some (some D) := by rw [st910.pre _ (by rw [hlD7]; omega)]; exact hDat7
                                    obtain ⟨mo, hmo, q⟩ := sr10.st.obj _ _ hat10
                                    rw [hq10] at hmo
                                    cases hmo
                                    obtain ⟨ws, hD10, iw⟩ := q
                                    have hp := StR0.put (o := .lst (ws ++ [yv])) (m := .lst (a10 ++ [y])) sr10.st.toStR0 hat10 (fun {K} => ?_) (fun _ => noL)
                                    · obtain ⟨sp, stp⟩ := hp
                                      refine ⟨ws, hD10, ?_, nxt7 (a1 := a10 ++ [y]) (st910.trans (stp G.K)) sp ?_ (by
                                        rw [List.take_set_of_le (Nat.le_refl _)]
                                        exact h7)⟩
                                      · rw [← iw.len, hla.1]
                                        exact hla.2
                                      · rw [List.getElem?_set_self]
                                        exact (List.getElem?_eq_some_iff.mp hq10).1
                                    · have stq : Step K r10 H10 r10 (upd H10 D (.lst (ws ++ [yv]))) := ⟨fun b u e hb _ => by
                                          rw [upd_ne (fun z => hb (by rw [z]; exact List.mem_of_getElem? hat10))]; exact e, fun b xs e => by rw [upd_ne (fun z => by rw [z, hD10] at e; cases e)]; exact e,
                                          fun _ h => .inl h⟩
                                      have stq' : Step G.K r10 H10 r10 (upd H10 D (.lst (ws ++ [yv]))) := ⟨stq.keep, stq.tups, fun _ h => .inl h⟩
                                      exact ⟨ws ++ [yv], upd_same, (iw.step stq' sr10.st.noFrz).append (IsAll.cons.mpr ⟨iy.step stq' sr10.st.noFrz, IsAll.nil⟩)⟩
                                  · exact h7.elim
                  · have ej : j = xs1.length := by omega
                    subst ej
                    obtain ⟨_, ws1⟩ := wk1.2 r' H7 S' stw7 srw7
                    refine .inl ⟨ws1, ?_⟩
                    rw [List.drop_length] at h7
                    unfold lcI at h7
                    have h7 : Sat (RIs G) G W r1 H1 e σ Q (lcF own (lc2L g mt mi1 g1 mt1 me (wipeE e vs) vs1 (xs.drop (i + 1)) S7 acc7)) := h7
                    have sA : StepE G.K r1 H1 r6 H6 := st3.trans st36
                    refine nxt (sA.toStep.trans stw7) srw7 hS7 (fun kf => ?_) h7
                    obtain ⟨sd7, s67, sr7⟩ := full7 kf
                    exact ⟨⟨st3.toStep.trans sd7, fun n hn => List.getElem?_append_left hn, by rw [List.length_append]; exact Nat.le_add_right _ _⟩, sr7⟩
                · exact h2.elim
  · have ei : i = xs.length := by omega
    subst ei
    obtain ⟨_, ws⟩ := wk.2 r' H2 S' stw srw
    refine .inl ⟨ws, fun kf => ?_⟩
    rw [List.drop_length] at h2
    unfold lc2L lcF at h2
    obtain ⟨st2, sr2⟩ := full kf
    cases own with
    | true =>
      have h2 : Sat (RIs G) G W r1 H1 e σ Q (.ok (.l S2.length) (S2 ++ [.lst acc])) := h2
      exact h2 _ _ _ st2 ⟨⟨sr2, kf⟩, sr1.env.step st2 sr1.st.noFrz⟩ ⟨D, by rw [hS2n, List.getElem?_append_right (Nat.le_refl _), Nat.sub_self]; rfl, rfl⟩
    | false =>
      have h2 : Sat (RIs G) G W r1 H1 e σ Q (.ok (.p (.lst acc)) S2) := h2
      have t1 := sr2.take r1.length
      have er : (r1 ++ [some D]).take r1.length = r1 := by rw [List.take_left]
      have eS : (S2 ++ [MO.lst acc]).take r1.length = S2 := by rw [← hS2n, List.take_left]
      rw [er, eS] at t1
      have sB : StepE G.K r1 H1 r1 H2 := ⟨by have := st2.toStep.take r1.length; rw [er] at this; exact this, fun _ _ => rfl, Nat.le_refl _⟩
      obtain ⟨mo, hmo, q⟩ := sr2.obj r1.length D (by rw [List.getElem?_append_right (Nat.le_refl _), Nat.sub_self]; rfl)
      rw [← hS2n, List.getElem?_append_right (Nat.le_refl _), Nat.sub_self] at hmo
      cases hmo
      obtain ⟨wv, hDw, iw⟩ := q
      refine h2 r1 H2 (.ref D) sB ⟨⟨t1, kf⟩, sr1.env.step sB sr1.st.noFrz⟩ ?_
      show Is _ _ _ _ _
      unfold Is
      exact ⟨D, wv, rfl, fr, hDw, iw.less fun b hb => List.mem_append_left _ hb⟩
end
end Mm
end

section
set_option Elab.async false
set_option linter.all false
set_option maxRecDepth 100000
namespace Mm
open PySem PySem.Spec PyProof.Rows L2
section
variable {X : Cx} {G : GC} {W : WX} {pos : Pos}
theorem me_lc2 {elt tg iter tg1 iter1 : Expr} {ifs ifs1 : List Expr} {scope : Scope} {ow : List (Str × Nat)} {vs1 : List Nat} {mi mi1 : MIt} {g g1 : MG} {mt mt1 : MTst} {me : MExp} (own : Bool) (hG : X.K = G.K) (hc : X.calm = true) (hN : X.N.Nodup) (hi : PI X tg iter (rdI G W mi)) (ok : BlkOk X.N X.env.scope scope ow) (hv : ∀ i ∈ vs1, i ∈ ow.map (·.2))
    (hg : ∀ (s : Shared) (H : Hp) (C : Addr) (cl : List (Str × Addr)) (fp : List Addr), PG (X.blk s H scope (compEnvC scope cl C X.env) fp) tg (rdG G (ow.map (·.2)) g)) (ht : ∀ (s : Shared) (H : Hp) (C : Addr) (cl : List (Str × Addr)) (fp : List Addr), PTs (X.blk s H scope (compEnvC scope cl C X.env) fp) ifs (rdT G W0 mt))
    (hi1 : ∀ (s : Shared) (H : Hp) (C : Addr) (cl : List (Str × Addr)) (fp : List Addr), PI (X.blk s H scope (compEnvC scope cl C X.env) fp) tg1 iter1 (rdI G W0 mi1))
    (hg1 : ∀ (s : Shared) (H : Hp) (C : Addr) (cl : List (Str × Addr)) (fp : List Addr), PG (X.blk s H scope (compEnvC scope cl C X.env) fp) tg1 (rdG G vs1 g1)) (ht1 : ∀ (s : Shared) (H : Hp) (C : Addr) (cl : List (Str × Addr)) (fp : List Addr), PTs (X.blk s H scope (compEnvC scope cl C X.env) fp) ifs1 (rdT G W0 mt1))
    (he : ∀ (s : Shared) (H : Hp) (C : Addr) (cl : List (Str × Addr)) (fp : List Addr), PE (X.blk s H scope (compEnvC scope cl C X.env) fp) elt (rd G W0 me)) (hs : ∀ x, foldedSetIterable iter X.env x = pure x := by intro _; rfl) (hs1 : ∀ env x, foldedSetIterable iter1 env x = pure x := by intro _ _; rfl) :
    PE X (.ListComp elt [⟨tg, iter, ifs, 0⟩, ⟨tg1, iter1, ifs1, 0⟩] scope pos) (rd G W (mLC2 own (ow.map (·.2)) vs1 mi g mt mi1 g1 mt1 me)) := by
  have hi' : PI X tg iter (fun σ H R => rdI G W mi σ H (fun J H' => KF G.K H' → R (itKf G.K J) H')) := by
    have := piI hi (t' := fun σ H R => rdI G W mi σ H (fun J H' => KF X.K H' → R (itKf X.K J) H')) fun _ _ _ _ h => h
    rw [hG] at this
    exact this
  have hi1' : ∀ (s : Shared) (H : Hp) (C : Addr) (cl : List (Str × Addr)) (fp : List Addr), PI (X.blk s H scope (compEnvC scope cl C X.env) fp) tg1 iter1 (fun σ H R => rdI G W0 mi1 σ H (fun J H' => KF G.K H' → R (itKf G.K J) H')) := fun s H C cl fp => by
    have := piI (hi1 s H C cl fp) (t' := fun σ H R => rdI G W0 mi1 σ H (fun J H' => KF X.K H' → R (itKf X.K J) H')) fun _ _ _ _ h => h
    rw [hG] at this
    exact this
  exact peI (pe_lc2 hc hN hi' ok hv hg ht hi1' hg1 ht1 he hs hs1) fun σ H Q _ h => by rw [hG]; exact lc2_sim h
theorem ms_setLc2 {i : Nat} {y : Str} {py : Pos} {spos : Pos} {elt tg iter tg1 iter1 : Expr} {ifs ifs1 : List Expr} {scope : Scope} {ow : List (Str × Nat)} {vs1 : List Nat} {mi mi1 : MIt} {g g1 : MG} {mt mt1 : MTst} {me : MExp} (own : Bool) (hG : X.K = G.K) (hc : X.calm = true) (hN : X.N.Nodup) (hy : X.N[i]? = some y) (hyl : X.env.scope.names.lookup y = some .local)
    (hsw : swapsWith (.ListComp elt [⟨tg, iter, ifs, 0⟩, ⟨tg1, iter1, ifs1, 0⟩] scope pos) (some (.Name y py)) spos.line X.env = pure true) (hi : PI X tg iter (rdI G W mi)) (ok : BlkOk X.N X.env.scope scope ow) (hv : ∀ i ∈ vs1, i ∈ ow.map (·.2))
    (hg : ∀ (s : Shared) (H : Hp) (C : Addr) (cl : List (Str × Addr)) (fp : List Addr), PG (X.blk s H scope (compEnvC scope cl C X.env) fp) tg (rdG G (ow.map (·.2)) g)) (ht : ∀ (s : Shared) (H : Hp) (C : Addr) (cl : List (Str × Addr)) (fp : List Addr), PTs (X.blk s H scope (compEnvC scope cl C X.env) fp) ifs (rdT G W0 mt))
    (hi1 : ∀ (s : Shared) (H : Hp) (C : Addr) (cl : List (Str × Addr)) (fp : List Addr), PI (X.blk s H scope (compEnvC scope cl C X.env) fp) tg1 iter1 (rdI G W0 mi1))
    (hg1 : ∀ (s : Shared) (H : Hp) (C : Addr) (cl : List (Str × Addr)) (fp : List Addr), PG (X.blk s H scope (compEnvC scope cl C X.env) fp) tg1 (rdG G vs1 g1)) (ht1 : ∀ (s : Shared) (H : Hp) (C : Addr) (cl : List (Str × Addr)) (fp : List Addr), PTs (X.blk s H scope (compEnvC scope cl C X.env) fp) ifs1 (rdT G W0 mt1))
    (he : ∀ (s : Shared) (H : Hp) (C : Addr) (cl : List (Str × Addr)) (fp : List Addr), PE (X.blk s H scope (compEnvC scope cl C X.env) fp) elt (rd G W0 me)) (hs : ∀ x, foldedSetIterable iter X.env x = pure x := by intro _; rfl) (hs1 : ∀ env x, foldedSetIterable iter1 env x = pure x := by intro _ _; rfl) :
    PS X (.Assign [.Name y py] (.ListComp elt [⟨tg, iter, ifs, 0⟩, ⟨tg1, iter1, ifs1, 0⟩] scope pos) spos) (rdS G W (setS i (mLC2 own (ow.map (·.2)) vs1 mi g mt mi1 g1 mt1 me))) := by
  have hi' : PI X tg iter (fun σ H R => rdI G W mi σ H (fun J H' => KF G.K H' → R (itKf G.K J) H')) := by
    have := piI hi (t' := fun σ H R => rdI G W mi σ H (fun J H' => KF X.K H' → R (itKf X.K J) H')) fun _ _ _ _ h => h
    rw [hG] at this
    exact this
  have hi1' : ∀ (s : Shared) (H : Hp) (C : Addr) (cl : List (Str × Addr)) (fp : List Addr), PI (X.blk s H scope (compEnvC scope cl C X.env) fp) tg1 iter1 (fun σ H R => rdI G W0 mi1 σ H (fun J H' => KF G.K H' → R (itKf G.K J) H')) := fun s H C cl fp => by
    have := piI (hi1 s H C cl fp) (t' := fun σ H R => rdI G W0 mi1 σ H (fun J H' => KF X.K H' → R (itKf X.K J) H')) fun _ _ _ _ h => h
    rw [hG] at this
    exact this
  exact psI (ps_setLc2 hc hN hy hyl hsw hi' ok hv hg ht hi1' hg1 ht1 he hs hs1) fun D σ H _ ⟨r, S, e, sr, h⟩ => by
    rw [hG]
    have q : rd G W (mLC2 own (ow.map (·.2)) vs1 mi g mt mi1 g1 mt1 me) σ H (fun v H' => D.nx (σ.set i (some v)) H') := bindS_rd sr h fun x S1 r1 H1 v1 st1 sr1 i1 h1 => h1 r1 H1 _ (StepE.refl _ _) (sr1.set i1)
    exact lc2_sim q
end
/-! ### they are as they are beside others -/
section
variable {g g1 : MG} {mt mt1 : MTst} {me : MExp} {mi mi1 : MIt}
theorem lcI_fr [FrG g] [Fr mt] [Fr me] {a : Nat} {J : Sto} {ew : MEnv} : ∀ (xs : List PV) (S : Sto) (acc : List PV), a ≤ S.length → lcI g mt me (shE a J.length ew) xs (ins a J S) acc = insR a J (lcI g mt me ew xs S acc)
  | [], S, acc, h => rfl
  | x :: xs, S, acc, h => by
    unfold lcI
    have q := FrG.fr (g := g) a J.length (.p x) ew
    rw [show shV a J.length (.p x) = .p x from rfl] at q
    rw [q]
    cases g (.p x) ew with
    | none => rfl
    | some e1 =>
      have h0 : a ≤ (S ++ [MO.lst acc]).length := by simp; omega
      dsimp only [Option.map_some]
      rw [← ins_app h, Fr.fr (m := mt) a J e1 _ h0]
      have hm := Fr.mono (m := mt) e1 (S ++ [.lst acc])
      have more : ∀ S1 : Sto, S.length + 1 ≤ S1.length → (ins a J S1)[(ins a J S).length]? = S1[S.length]? ∧ (ins a J S1).take (ins a J S).length = ins a J (S1.take S.length) := fun S1 h1 => by
        rw [ins_len h]
        refine ⟨?_, ins_take h (by omega)⟩
        have := ins_get (J := J) (n := S.length) (show a ≤ S1.length by omega)
        rwa [shN_ge h] at this
      cases ht : mt e1 (S ++ [.lst acc]) with
      | bad => rfl
      | exn c fs S1 => rfl
      | ok b S1 =>
        rw [ht] at hm
        have hm : S.length + 1 ≤ S1.length := by simpa [lenR] using hm
        obtain ⟨m1, m2⟩ := more S1 hm
        cases b with
        | false =>
          show (match (ins a J S1)[(ins a J S).length]? with | some (.lst a1) => _ | _ => _) = insR a J (match S1[S.length]? with | some (.lst a1) => _ | _ => _)
          rw [m1]
          cases S1[S.length]? with
          | none => rfl
          | some o =>
            cases o <;> first | rfl | skip
            dsimp only
            split
            · rw [m2]; exact lcI_fr xs _ _ (by rw [List.length_take]; omega)
            · rfl
        | true =>
          show (match me (shE a J.length e1) (ins a J S1) with | .ok (.p y) S2 => _ | _ => _) = insR a J (match me e1 S1 with | .ok (.p y) S2 => _ | _ => _)
          rw [Fr.fr (m := me) a J e1 S1 (by omega)]
          have hm2 := Fr.mono (m := me) e1 S1
          cases hq : me e1 S1 with
          | bad => rfl
          | exn c fs S2 => rfl
          | ok y S2 =>
            rw [hq] at hm2
            have hm2 : S1.length ≤ S2.length := hm2
            obtain ⟨n1, n2⟩ := more S2 (by omega)
            cases y with
            | l n => rfl
            | p y =>
              show (match (ins a J S2)[(ins a J S).length]? with | some (.lst a1) => _ | _ => _) = insR a J (match S2[S.length]? with | some (.lst a1) => _ | _ => _)
              rw [n1]
              cases S2[S.length]? with
              | none => rfl
              | some o =>
                cases o <;> first | rfl | skip
                dsimp only
                split
                · rw [n2]; exact lcI_fr xs _ _ (by rw [List.length_take]; omega)
                · rfl
theorem lcI_len [FrG g] [Fr mt] [Fr me] {ew : MEnv} : ∀ (xs : List PV) (S : Sto) (acc : List PV), lenR S.length (lcI g mt me ew xs S acc)
  | [], S, acc => Nat.le_refl _
  | x :: xs, S, acc => by
    unfold lcI
    cases g (.p x) ew with
    | none => trivial
    | some e1 =>
      have hm := Fr.mono (m := mt) e1 (S ++ [.lst acc])
      dsimp only
      cases ht : mt e1 (S ++ [.lst acc]) with
      | bad => trivial
      | exn c fs S1 => trivial
      | ok b S1 =>
        rw [ht] at hm
        have hm : S.length + 1 ≤ S1.length := by simpa [lenR] using hm
        cases b with
        | false =>
          dsimp only
          split
          · split
            · exact lenR_trans (by rw [List.length_take]; omega) (lcI_len xs _ _)
            · trivial
          · trivial
        | true =>
          dsimp only
          have hm2 := Fr.mono (m := me) e1 S1
          cases hq : me e1 S1 with
          | bad => trivial
          | exn c fs S2 => trivial
          | ok y S2 =>
            rw [hq] at hm2
            have hm2 : S1.length ≤ S2.length := hm2
            cases y with
            | l n => trivial
            | p y =>
              dsimp only
              split
              · split
                · exact lenR_trans (by rw [List.length_take]; omega) (lcI_len xs _ _)
                · trivial
              · trivial
theorem lc2L_fr [FrG g] [Fr mt] [Fr mi1] [FrG g1] [Fr mt1] [Fr me] {a : Nat} {J : Sto} {ew : MEnv} {vs1 : List Nat} : ∀ (xs : List PV) (S : Sto) (acc : List PV), a ≤ S.length → lc2L g mt mi1 g1 mt1 me (shE a J.length ew) vs1 xs (ins a J S) acc = insR a J (lc2L g mt mi1 g1 mt1 me ew vs1 xs S acc)
  | [], S, acc, h => rfl
  | x :: xs, S, acc, h => by
    unfold lc2L
    have q := FrG.fr (g := g) a J.length (.p x) ew
    rw [show shV a J.length (.p x) = .p x from rfl] at q
    rw [q]
    cases g (.p x) ew with
    | none => rfl
    | some e1 =>
      have h0 : a ≤ (S ++ [MO.lst acc]).length := by simp; omega
      dsimp only [Option.map_some]
      rw [← ins_app h, Fr.fr (m := mt) a J e1 _ h0]
      have hm := Fr.mono (m := mt) e1 (S ++ [.lst acc])
      have more : ∀ S1 : Sto, S.length + 1 ≤ S1.length → (ins a J S1)[(ins a J S).length]? = S1[S.length]? ∧ (ins a J S1).take (ins a J S).length = ins a J (S1.take S.length) := fun S1 h1 => by
        rw [ins_len h]
        refine ⟨?_, ins_take h (by omega)⟩
        have := ins_get (J := J) (n := S.length) (show a ≤ S1.length by omega)
        rwa [shN_ge h] at this
      cases ht : mt e1 (S ++ [.lst acc]) with
      | bad => rfl
      | exn c fs S1 => rfl
      | ok b S1 =>
        rw [ht] at hm
        have hm : S.length + 1 ≤ S1.length := by simpa [lenR] using hm
        obtain ⟨m1, m2⟩ := more S1 hm
        cases b with
        | false =>
          show (match (ins a J S1)[(ins a J S).length]? with | some (.lst a1) => _ | _ => _) = insR a J (match S1[S.length]? with | some (.lst a1) => _ | _ => _)
          rw [m1]
          cases S1[S.length]? with
          | none => rfl
          | some o =>
            cases o <;> first | rfl | skip
            dsimp only
            split
            · rw [m2]; exact lc2L_fr xs _ _ (by rw [List.length_take]; omega)
            · rfl
        | true =>
          show (match mi1 (shE a J.length e1) (ins a J S1) with | .ok xs1 S2 => _ | _ => _) = insR a J (match mi1 e1 S1 with | .ok xs1 S2 => _ | _ => _)
          rw [Fr.fr (m := mi1) a J e1 S1 (by omega)]
          have hm2 := Fr.mono (m := mi1) e1 S1
          cases hq : mi1 e1 S1 with
          | bad => rfl
          | exn c fs S2 => rfl
          | ok xs1 S2 =>
            rw [hq] at hm2
            have hm2 : S1.length ≤ S2.length := hm2
            obtain ⟨n1, n2⟩ := more S2 (by omega)
            show (match (ins a J S2)[(ins a J S).length]? with | some (.lst a1) => _ | _ => _) = insR a J (match S2[S.length]? with | some (.lst a1) => _ | _ => _)
            rw [n1]
            cases S2[S.length]? with
            | none => rfl
            | some o =>
              cases o <;> first | rfl | skip
              rename_i a1
              dsimp only
              split
              · rw [n2, wipe_sh]
                have hl : a ≤ (S2.take S.length).length := by rw [List.length_take]; omega
                show (match lcI g1 mt1 me (shE a J.length (wipeE e1 vs1)) xs1 (ins a J (S2.take S.length)) a1 with | .ok a2 S3 => _ | _ => _) = _
                rw [lcI_fr (g := g1) (mt := mt1) (me := me) xs1 (S2.take S.length) a1 hl]
                have hi := lcI_len (g := g1) (mt := mt1) (me := me) (ew := wipeE e1 vs1) xs1 (S2.take S.length) a1
                cases hz : lcI g1 mt1 me (wipeE e1 vs1) xs1 (S2.take S.length) a1 with
                | bad => rfl
                | exn c fs S3 => rfl
                | ok a2 S3 =>
                  rw [hz] at hi
                  have hi : (S2.take S.length).length ≤ S3.length := hi
                  exact lc2L_fr xs S3 a2 (by omega)
              · rfl
theorem lc2L_len [FrG g] [Fr mt] [Fr mi1] [FrG g1] [Fr mt1] [Fr me] {ew : MEnv} {vs1 : List Nat} : ∀ (xs : List PV) (S : Sto) (acc : List PV), lenR S.length (lc2L g mt mi1 g1 mt1 me ew vs1 xs S acc)
  | [], S, acc => Nat.le_refl _
  | x :: xs, S, acc => by
    unfold lc2L
    cases g (.p x) ew with
    | none => trivial
    | some e1 =>
      have hm := Fr.mono (m := mt) e1 (S ++ [.lst acc])
      dsimp only
      cases ht : mt e1 (S ++ [.lst acc]) with
      | bad => trivial
      | exn c fs S1 => trivial
      | ok b S1 =>
        rw [ht] at hm
        have hm : S.length + 1 ≤ S1.length := by simpa [lenR] using hm
        cases b with
        | false =>
          dsimp only
          split
          · split
            · exact lenR_trans (by rw [List.length_take]; omega) (lc2L_len xs _ _)
            · trivial
          · trivial
        | true =>
          dsimp only
          have hm2 := Fr.mono (m := mi1) e1 S1
          cases hq : mi1 e1 S1 with
          | bad => trivial
          | exn c fs S2 => trivial
          | ok xs1 S2 =>
            rw [hq] at hm2
            have hm2 : S1.length ≤ S2.length := hm2
            dsimp only
            split
            · rename_i a1 _
              split
              · have hi := lcI_len (g := g1) (mt := mt1) (me := me) (ew := wipeE e1 vs1) xs1 (S2.take S.length) a1
                cases hz : lcI g1 mt1 me (wipeE e1 vs1) xs1 (S2.take S.length) a1 with
                | bad => trivial
                | exn c fs S3 => trivial
                | ok a2 S3 =>
                  rw [hz] at hi
                  have hi : (S2.take S.length).length ≤ S3.length := hi
                  rw [List.length_take] at hi
                  exact lenR_trans (by omega) (lc2L_len xs S3 a2)
              · trivial
            · trivial
instance {own : Bool} {vs vs1 : List Nat} [Fr mi] [FrG g] [Fr mt] [Fr mi1] [FrG g1] [Fr mt1] [Fr me] : Fr (mLC2 own vs vs1 mi g mt mi1 g1 mt1 me) where
  fr a J e S h := bind_fr h fun xs S1 h => by
    show lcF own (lc2L g mt mi1 g1 mt1 me (wipeE (shE a J.length e) vs) vs1 xs (ins a J S1) []) = _
    rw [wipe_sh, lc2L_fr xs S1 [] h]
    have hl := lc2L_len (g := g) (mt := mt) (mi1 := mi1) (g1 := g1) (mt1 := mt1) (me := me) (ew := wipeE e vs) (vs1 := vs1) xs S1 []
    cases q : lc2L g mt mi1 g1 mt1 me (wipeE e vs) vs1 xs S1 [] with
    | bad => rfl
    | exn c fs S2 => rfl
    | ok ys S2 =>
      rw [q] at hl
      have hl : S1.length ≤ S2.length := hl
      cases own with
      | false => rfl
      | true =>
        show Res.ok (RV.l (ins a J S2).length) (ins a J S2 ++ [.lst ys]) = Res.ok (RV.l (shN _ _ _)) (ins _ _ _)
        rw [ins_app (by omega), ins_len (by omega), shN_ge (by omega)]
  mono e S := bind_len fun xs S1 => by
    have hl := lc2L_len (g := g) (mt := mt) (mi1 := mi1) (g1 := g1) (mt1 := mt1) (me := me) (ew := wipeE e vs) (vs1 := vs1) xs S1 []
    cases q : lc2L g mt mi1 g1 mt1 me (wipeE e vs) vs1 xs S1 [] with
    | bad => trivial
    | exn c fs S2 => trivial
    | ok ys S2 =>
      rw [q] at hl
      have hl : S1.length ≤ S2.length := hl
      cases own with
      | false => exact hl
      | true => show _ ≤ _; simp; omega
@[simp] theorem at_mLC2 {own : Bool} {vs vs1 : List Nat} {e : MEnv} {S : Sto} : mLC2 own vs vs1 mi g mt mi1 g1 mt1 me e S = Mm.bindM mi (fun xs e S => lcF own (lc2L g mt mi1 g1 mt1 me (wipeE e vs) vs1 xs S [])) e S := rfl
theorem lcI_L {ew : MEnv} : ∀ (xs : List PV) (S : Sto) (acc : List PV), acc.length + xs.length ≤ sizeLine → lcI g mt me ew xs S acc = lcL g mt me ew xs S acc
  | [], S, acc, h => rfl
  | x :: xs, S, acc, h => by
    have h' : acc.length + (xs.length + 1) ≤ sizeLine := h
    unfold lcI lcL
    cases g (.p x) ew with
    | none => rfl
    | some e1 =>
      dsimp only
      cases mt e1 (S ++ [.lst acc]) with
      | bad => rfl
      | exn c fs S1 => rfl
      | ok b S1 =>
        cases b with
        | false =>
          dsimp only
          cases S1[S.length]? with
          | none => rfl
          | some o =>
            cases o <;> first | rfl | skip
            rename_i a1
            dsimp only
            by_cases hl : a1.length = acc.length
            · rw [if_pos hl, if_pos hl, lcI_L xs _ _ (by omega)]
            · rw [if_neg hl, if_neg hl]
        | true =>
          dsimp only
          cases me e1 S1 with
          | bad => rfl
          | exn c fs S2 => rfl
          | ok y S2 =>
            cases y with
            | l n => rfl
            | p y =>
              dsimp only
              cases S2[S.length]? with
              | none => rfl
              | some o =>
                cases o <;> first | rfl | skip
                rename_i a1
                dsimp only
                by_cases hl : a1.length = acc.length
                · rw [if_pos ⟨hl, by omega⟩, if_pos hl, lcI_L xs _ _ (by rw [List.length_append, List.length_singleton]; omega)]
                · rw [if_neg hl, if_neg fun z => hl z.1]
/-- two clauses over typed lists; no test in the first -/
theorem lc2_if [FrG g] [Fr mi1] [FrG g1] [Fr mt1] [Fr me] {α β : Type} {ew : MEnv} {vs1 : List Nat} {enc : α → PV} {inner : α → List β} {enc1 : α → β → PV} {c : α → β → Bool} {k : α → β → PV} {S : Sto} (hw : shE S.length 1 ew = ew) :
    ∀ (l : List α) (acc : List PV), acc.length + (l.map fun t => (inner t).length).sum ≤ sizeLine →
    (∀ t ∈ l, ∃ e1, g (.p (enc t)) ew = some e1 ∧ mi1 e1 S = .ok ((inner t).map (enc1 t)) S ∧ ∀ u ∈ inner t, ∃ e2, g1 (.p (enc1 t u)) (wipeE e1 vs1) = some e2 ∧ mt1 e2 S = .ok (c t u) S ∧ (c t u = true → me e2 S = .ok (.p (k t u)) S)) →
    lc2L g tYesM mi1 g1 mt1 me ew vs1 (l.map enc) S acc = .ok (acc ++ l.flatMap fun t => ((inner t).filter (c t)).map (k t)) S
  | [], acc, _, _ => by simp [lc2L]
  | t :: l, acc, hz, h => by
    have hz : acc.length + ((inner t).length + (l.map fun t => (inner t).length).sum) ≤ sizeLine := by simpa using hz
    obtain ⟨e1, h1, h2, h3⟩ := h t List.mem_cons_self
    have q := FrG.fr (g := g) S.length 1 (.p (enc t)) ew
    rw [hw, show shV S.length 1 (.p (enc t)) = .p (enc t) from rfl, h1] at q
    have he : shE S.length 1 e1 = e1 := (Option.some.inj q).symm
    have t2 := Fr.fr (m := mi1) S.length [.lst acc] e1 S (Nat.le_refl _)
    rw [ins_end, show List.length [MO.lst acc] = 1 from rfl, he, h2] at t2
    have t2 : mi1 e1 (S ++ [.lst acc]) = .ok ((inner t).map (enc1 t)) (S ++ [.lst acc]) := by rw [t2]; show Res.ok _ (ins _ _ _) = _; rw [ins_end]; rfl
    have hwi : shE S.length 1 (wipeE e1 vs1) = wipeE e1 vs1 := by rw [← wipe_sh, he]
    have st := lcF_X (own := false) (xs := (inner t).map (enc1 t)) (S := S) (g := g1) (mt := mt1) (me := me) hwi
    have hin : lcL g1 mt1 me (wipeE e1 vs1) ((inner t).map (enc1 t)) S acc = .ok (acc ++ ((inner t).filter (c t)).map (k t)) S := by
      rw [lcL_X _ S acc hwi, mapX_map, mapX_if (c := c t) (k := k t) fun u hu => ?_]
      · rfl
      · obtain ⟨e2, i1, i2, i3⟩ := h3 u hu
        unfold stepX
        rw [i1]
        dsimp only
        rw [i2]
        cases hc : c t u with
        | false => show Res.ok _ _ = _; rw [List.take_length]; rfl
        | true =>
          show (match me e2 S with | .ok (.p y) S2 => _ | _ => _) = _
          rw [i3 hc]
          show Res.ok _ _ = _
          rw [List.take_length]
          rfl
    have hfl : ((inner t).filter (c t)).length ≤ (inner t).length := List.length_filter_le _ _
    have ih := lc2_if hw l (acc ++ ((inner t).filter (c t)).map (k t)) (by rw [List.length_append, List.length_map]; omega) fun u hu => h u (List.mem_cons_of_mem _ hu)
    rw [List.map_cons]
    unfold lc2L
    rw [h1]
    dsimp only
    rw [at_tYes]
    dsimp only
    rw [t2]
    dsimp only
    rw [show (S ++ [MO.lst acc])[S.length]? = some (.lst acc) by simp]
    dsimp only
    rw [if_pos rfl, show (S ++ [MO.lst acc]).take S.length = S by simp, lcI_L _ _ _ (by rw [List.length_map]; omega), hin]
    dsimp only
    rw [ih, List.flatMap_cons, List.append_assoc]
end
end Mm
end

section
set_option Elab.async false
set_option linter.all false
set_option maxRecDepth 100000
namespace Mm
open PySem PySem.Spec PyProof.Rows L2

/-! ## a tuple so many times -/
def rRepX (K : PySem.W.Frag) : R2 := fun x y H Q => ∃ l k xs, x = .ref l ∧ y = .int k ∧ SqT K H l xs ∧ xs ≠ [] ∧ 2 ≤ k ∧ k ≤ 1000 ∧ xs.length ≤ 1000 ∧ NewT (List.replicate k.toNat xs).flatten H Q
theorem op_repX {X : Cx} : OpR X (binaryOp .Mult) (rRepX X.K) := by
  intro pins s σ H v0 v1 x0 x1 Q I r0 r1 h
  obtain ⟨b, many, xs, rfl, rfl, hT, hne, g1, g2, g3, q⟩ := h
  cases r0
  obtain ⟨tk, rfl⟩ := r1
  obtain ⟨us, rv, ⟨⟨kc, dc, da, sa⟩, at_, ec, cap, ed⟩, _⟩ := I.tuple hT
  simp only at ec ed
  subst ec ed
  have el : us.length = xs.length := rv.length.symm
  have ne : us.toArray.isEmpty = false := by
    cases us with
    | nil => exact absurd (List.eq_nil_of_length_eq_zero el.symm) hne
    | cons _ _ => rfl
  have es : us.toArray.size = xs.length := by rw [List.size_toArray, el]
  have most : ((us.toArray.size : Nat) : Int) * many ≤ 1000000 := by
    rw [es]
    refine Int.le_trans (Int.mul_le_mul_of_nonneg_right (b := 1000) (by omega) (by omega)) ?_
    omega
  have mm : many.toNat * xs.length ≤ 1000000 := Nat.le_trans (Nat.mul_le_mul (show many.toNat ≤ 1000 by omega) g3) (by decide)
  have fl : (List.replicate many.toNat us).flatten.length ≤ sizeLine := by
    rw [PyProof.Rows.lm_len_rep_flat, el, sizeLine_eq]
    omega
  have d0 : (decide (many < -(2 ^ 63)) || decide (many ≥ 2 ^ 63)) = false := by simp; omega
  have d1 : (us.toArray.isEmpty || many == 1) = false := by rw [ne, Bool.false_or]; simp; omega
  have d2 : (decide (many ≤ 0) || us.toArray.isEmpty) = false := by rw [ne, Bool.or_false]; simp; omega
  have d4 : Builtin.Tuple.tupleTooMany (((us.toArray.size : Nat) : Int) * many) = false := by
    unfold Builtin.Tuple.tupleTooMany
    rw [sizeLine_eq]
    exact decide_eq_false (by omega)
  have mk := tuple_mulW b us.toArray cap dc sa many tk d0 d1 d2 (by omega) d4 (by rw [size_rep, List.size_toArray]; exact fl)
  refine wpAny_binaryOp_repeat_ref (U := "int") (T := "tuple") (by decide) ⟨_, at_, rfl⟩ (fun z => typeIs_int z many tk) noFill_tuple_mul F.fills_int_mul F.slot_int_rmul repeat_tuple F.slot_int_index.lookup ?_
  refine call_meets F.slot_int_rmul (typeIs_int s many tk) F.entry_int_rmul (F.args_int_rmul_2 _ _) (int_rmul_tuple many tk b us.toArray cap dc sa) ⟨at_, rfl, ⟨_, at_, rfl⟩, ?_⟩
  refine call_meets F.slot_tuple_mul ⟨_, at_, rfl⟩ F.entry_tuple_mul (F.args_tuple_mul_2 _ _) mk ⟨at_, ?_⟩
  rw [size_rep]
  exact NewT.ep I (rv.rep many.toNat) (by rw [PyProof.Rows.lm_len_rep_flat, sizeLine_eq]; omega) s.toks q
def fRep : F2
  | .tup xs, .int k => if xs ≠ [] ∧ 2 ≤ k ∧ k ≤ 1000 ∧ xs.length ≤ 1000 then some (.tup (List.replicate k.toNat xs).flatten) else none
  | _, _ => none
theorem rep_is {G : GC} {r : Ads} {H : Hp} {xs : List PV} {vs : List V} (h : IsAll G r H xs vs) : ∀ k : Nat, IsAll G r H (List.replicate k xs).flatten (List.replicate k vs).flatten
  | 0 => IsAll.nil
  | k + 1 => by
    rw [List.replicate_succ, List.replicate_succ, List.flatten_cons, List.flatten_cons]
    exact h.append (rep_is h k)
theorem sv_rep {G : GC} : Serves2 G (rRepX G.K) fRep := by
  intro r H S x y z v w Q st hx hy hf k
  unfold fRep at hf
  split at hf
  · rename_i xs n
    split at hf
    · rename_i hc
      cases hf
      unfold Is at hx hy
      obtain ⟨a, vs, rfl, q, t⟩ := hx
      subst hy
      have hl := t.len
      refine ⟨a, n, vs, rfl, rfl, q.t, fun e => hc.1 (List.eq_nil_of_length_eq_zero (by rw [hl, e]; rfl)), hc.2.1, hc.2.2.1, by rw [← hl]; exact hc.2.2.2, fun p o hp ho => ?_⟩
      exact k _ _ (.inr ⟨p, _, hp, fun _ => noF, rfl⟩) (is_tupN st.toStR0 hp ho (rep_is t n.toNat))
    · cases hf
  · cases hf
theorem me_rep {X : Cx} {G : GC} {W : WX} {a b : Expr} {ma mb : MExp} {pos : Pos} (hG : X.K = G.K) (ha : PE X a (rd G W ma)) (hb : PE X b (rd G W mb)) : PE X (.BinOp a .Mult b pos) (rd G W (mOp2 fRep ma mb)) :=
  me_op hG (by rw [← hG]; exact op_repX) sv_rep ha hb
end Mm
end

section
set_option Elab.async false
set_option linter.all false
set_option maxRecDepth 100000
set_option maxHeartbeats 4000000
set_option synthInstance.maxHeartbeats 4000000
set_option synthInstance.maxSize 100000
namespace Q
open PySem PySem.Spec PyProof.Rows L2 NdefX LamX Mm
/-! ## mirrors -/
/-- _law_take -/
def m__law_take : MFn := mDef 5 true <|
  (seqS (unlS (mVar 0) 3 (gConsM (gN 2) (gConsM (gN 3) (gConsM (gN 4) gNilM)))) (seqS (setIxS (mVar 0) (mC (.int 1)) (mOp2 (fIntC (fun _ j => decide (0 < j)) fun i j => i % j) (mB (fI1 id) (mCons (mOp2 fAdd (mOp2 fAdd (mOp2 (fIntC cMul fun i j => i * j) (mVar 3) (mOp2 fAdd (mC (.int 43019)) (mOp2 (fIntC cMul fun i j => i * j) (mC (.int 6)) (mVar 4)))) (mOp2 (fIntC cMul fun i j => i * j) (mC (.int 16273)) (mVar 4))) (mC (.int 5557))) mNil)) (mC (.int 2147483549)))) (seqS (setIxS (mVar 0) (mC (.int 2)) (mOp2 fAdd (mVar 4) (mC (.int 1)))) (seqS (ifS (mCmpT (fCmp fun i j => decide (j < i)) (mVar 2) (mC (.int 0))) (seqS (setIxS (mVar 0) (mC (.int 0)) (mOp2 (fIntC cDiv fun i j => i / j) (mB (fI1 id) (mCons (mVar 2) mNil)) (mVar 1))) (retS (mOp2 (fIntC (fun _ j => decide (0 < j)) fun i j => i % j) (mB (fI1 id) (mCons (mVar 2) mNil)) (mVar 1)))) nilS) (retS (mOp2 (fIntC (fun _ j => decide (0 < j)) fun i j => i % j) (mB (fI1 id) (mCons (mOp2 (fIntC cDiv fun i j => i / j) (mIx (mVar 0) (mC (.int 1))) (mC (.int 128))) mNil)) (mVar 1)))))))
instance : FrF m__law_take := by unfold m__law_take; infer_instance

/-- _law_names -/
def m__law_names : MFn := mDef 6 true <|
  (seqS (parS 3 4 (mCons (mLstO mNil) (mCons (mMeth 1 fSplit (mVar 2) (mCons (mC (.str " ")) mNil)) mNil))) (seqS (forS (mRng1 (mCons (mVar 1) mNil)) (gN 5) (dropS (mMeth 3 fAppend (mVar 3) (mCons (mMeth 3 fPopAt (mVar 4) (mCons (mCall m__law_take [] (mCons (mVar 0) (mCons (mB fLen (mCons (mVar 4) mNil)) mNil))) mNil)) mNil)))) (retS (mB fTuple (mCons (mB fSorted (mCons (mVar 3) mNil)) mNil)))))
instance : FrF m__law_names := by unfold m__law_names; infer_instance

/-- _law_lot -/
def m__law_lot : MFn := mDef 5 true <|
  (seqS (setS 3 (mB fTuple (mCons (mLC false [4] (mSeqI (mVar 1)) (gN 4) (mCmpT fLt (mCall m__law_take [] (mCons (mVar 0) (mCons (mC (.int 5)) mNil))) (mC (.int 2))) (mVar 4)) mNil))) (retS (mSl (mVar 3) mNoP (mPart (mVar 2)))))
instance : FrF m__law_lot := by unfold m__law_lot; infer_instance

/-- _law_pick -/
def m__law_pick : MFn := mDef 2 true <|
  (retS (mIx (mVar 1) (mCall m__law_take [] (mCons (mVar 0) (mCons (mB fLen (mCons (mVar 1) mNil)) mNil)))))
instance : FrF m__law_pick := by unfold m__law_pick; infer_instance

/-- _law_work -/
def m__law_work : MFn := mDef 18 true <|
  (seqS (setS 5 (mCall m__law_names [] (mCons (mVar 0) (mCons (mVar 1) (mCons (mC (.str "bowl cup knife ladle pan pot sieve tray")) mNil))))) (seqS (par3S 6 7 8 (mCons (mCall m__law_names [] (mCons (mVar 0) (mCons (mVar 2) (mCons (mC (.str "egg fish gluten milk nut soy")) mNil)))) (mCons (mTup mNil) (mCons (mTup mNil) mNil)))) (seqS (forS (mSeqI (mCall m__law_names [] (mCons (mVar 0) (mCons (mVar 3) (mCons (mC (.str "bread cake make pie salad soup stew wash")) mNil))))) (gN 9) (seqS (asgS (mTup (mCons (mCall m__law_lot [] (mCons (mVar 0) (mCons (mVar 6) (mCons (mC (.int 3)) mNil)))) (mCons (mCall m__law_lot [] (mCons (mVar 0) (mCons (mVar 5) (mCons (mC (.int 3)) mNil)))) mNil))) (gT 2 (gConsM (gN 10) (gConsM (gN 11) gNilM)))) (seqS (setS 12 (mCall m__law_lot [] (mCons (mVar 0) (mCons (mLC false [16] (mSeqI (mVar 6)) (gN 16) (mCmpT (fIn true) (mVar 16) (mVar 10)) (mVar 16)) (mCons (mC (.int 2)) mNil))))) (setS 7 (mOp2 fAdd (mVar 7) (mTup (mCons (mTup (mCons (mVar 9) (mCons (mVar 10) (mCons (mIf (mCmpT (fEq true) (mVar 11) (mTup mNil)) (mVar 11) (mTup (mCons (mCall m__law_pick [] (mCons (mVar 0) (mCons (mVar 5) mNil))) mNil))) (mCons (mVar 12) mNil))))) mNil))))))) (seqS (forS (mRng1 (mCons (mVar 4) mNil)) (gN 13) (seqS (setS 14 (mIf (mCmpT (fEq false) (mCall m__law_take [] (mCons (mVar 0) (mCons (mC (.int 2)) mNil))) (mC (.int 0))) (mCall m__law_lot [] (mCons (mVar 0) (mCons (mVar 6) (mCons (mC (.int 4)) mNil)))) (mVar 6))) (seqS (setS 15 (mTup (mCons (mCall m__law_pick [] (mCons (mVar 0) (mCons (mVar 5) mNil))) (mCons (mIf (mCmpT (fEq true) (mVar 14) (mTup mNil)) (mVar 14) (mSl (mVar 6) mNoP (mPart (mC (.int 1))))) (mCons (mOp2 fAdd (mC (.int 1)) (mCall m__law_take [] (mCons (mVar 0) (mCons (mC (.int 9)) mNil)))) mNil))))) (setS 8 (mOp2 fAdd (mVar 8) (mIf (mCmpT (fIn true) (mSl (mVar 15) mNoP (mPart (mC (.int 2)))) (mLC false [17] (mSeqI (mVar 8)) (gN 17) tYesM (mSl (mVar 17) mNoP (mPart (mC (.int 2)))))) (mTup (mCons (mVar 15) mNil)) (mTup mNil))))))) (retS (mTup (mCons (mVar 5) (mCons (mVar 6) (mCons (mVar 7) (mCons (mVar 8) mNil))))))))))
instance : FrF m__law_work := by unfold m__law_work; infer_instance

/-- _law_drawn -/
def m__law_drawn : MFn := mDef 3 true <|
  (seqS (parS 1 2 (mCons (mOp2 fAdd (mC (.int 2)) (mCall m__law_take [] (mCons (mVar 0) (mCons (mC (.int 5)) mNil)))) (mCons (mOp2 fAdd (mC (.int 1)) (mCall m__law_take [] (mCons (mVar 0) (mCons (mC (.int 4)) mNil)))) mNil))) (retS (mCall m__law_work [] (mCons (mVar 0) (mCons (mVar 1) (mCons (mVar 2) (mCons (mOp2 fAdd (mC (.int 1)) (mCall m__law_take [] (mCons (mVar 0) (mCons (mC (.int 6)) mNil)))) (mCons (mCall m__law_take [] (mCons (mVar 0) (mCons (mC (.int 7)) mNil))) mNil))))))))
instance : FrF m__law_drawn := by unfold m__law_drawn; infer_instance

/-- _law_row -/
def m__law_row : MFn := mDef 5 true <|
  (seqS (setS 3 (mTup mNil)) (seqS (forS (mRng1 (mCons (mCall m__law_take [] (mCons (mVar 0) (mCons (mOp2 fAdd (mVar 2) (mC (.int 1))) mNil))) mNil)) (gN 4) (ifS (mAndT (mCmpT (fEq true) (mIx (mVar 1) (mC (.int 3))) (mTup mNil)) (mCmpT (fEq false) (mCall m__law_take [] (mCons (mVar 0) (mCons (mC (.int 3)) mNil))) (mC (.int 0)))) (setS 3 (mOp2 fAdd (mVar 3) (mTup (mCons (mTup (mCons (mC (.str "wash")) (mCons (mCall m__law_take [] (mCons (mVar 0) (mCons (mB fLen (mCons (mIx (mVar 1) (mC (.int 3))) mNil)) mNil))) mNil))) mNil)))) (setS 3 (mOp2 fAdd (mVar 3) (mTup (mCons (mTup (mCons (mC (.str "make")) (mCons (mCall m__law_take [] (mCons (mVar 0) (mCons (mB fLen (mCons (mIx (mVar 1) (mC (.int 2))) mNil)) mNil))) mNil))) mNil)))))) (retS (mVar 3))))
instance : FrF m__law_row := by unfold m__law_row; infer_instance

/-- check_work -/
def m_check_work : MFn := mDef 1 true <|
  (ifS (mNotT (asB (mIs (isOw 0) (mVar 0)))) badS nilS)
instance : FrF m_check_work := by unfold m_check_work; infer_instance

/-- is_tuple_of -/
def m_is_tuple_of : MFn := mDef 2 true <|
  (retS (mAndV (mIs (isTy 5) (mVar 0)) (mCmp (fEq false) (mB fLen (mCons (mVar 0) mNil)) (mVar 1))))
instance : FrF m_is_tuple_of := by unfold m_is_tuple_of; infer_instance

/-- is_string -/
def m_is_string : MFn := mDef 1 true <|
  (retS (mIs (isTy 3) (mVar 0)))
instance : FrF m_is_string := by unfold m_is_string; infer_instance

/-- is_one_of -/
def m_is_one_of : MFn := mDef 2 true <|
  (retS (mAndV (mCall m_is_string [] (mCons (mVar 1) mNil)) (mCmp (fIn false) (mVar 1) (mVar 0))))
instance : FrF m_is_one_of := by unfold m_is_one_of; infer_instance

/-- are_some -/
def m_are_some : MFn := mDef 2 true <|
  (seqS (ifS (mNotT (asB (mIs (isTy 5) (mVar 1)))) (retS (mC (.bl false))) nilS) (retS (mCmp (fIsN false) (mFirst [0] 3 (mAndV (mCall m_is_one_of [] (mCons (mVar 2) (mCons (mVar 0) mNil))) (mOrV (mCmp (fEq false) (mVar 1) (mTup mNil)) (mCmp fLt (mIx (mVar 1) (mUn (fun i => -i) (mC (.int 1)))) (mVar 0)))) (mVar 1)) (mC .non))))
instance : FrF m_are_some := by unfold m_are_some; infer_instance

/-- is_marks -/
def m_is_marks : MFn := mDef 3 true <|
  (retS (mAndV (mCall m_is_tuple_of [] (mCons (mVar 1) (mCons (mB fLen (mCons (mFld fl0 "tools" (mVar 0)) mNil)) mNil))) (mB (fAll fun bs => bs.all id) (mCons (mLC false [2] (mSeqI (mVar 1)) (gN 2) tYesM (mCall m_are_some [] (mCons (mFld fl0 "stuffs" (mVar 0)) (mCons (mVar 2) mNil)))) mNil))))
instance : FrF m_is_marks := by unfold m_is_marks; infer_instance

/-- check_marks -/
def m_check_marks : MFn := mDef 2 true <|
  (ifS (mNotT (asB (mCall m_is_marks [] (mCons (mVar 0) (mCons (mVar 1) mNil))))) badS nilS)
instance : FrF m_check_marks := by unfold m_check_marks; infer_instance

/-- check_marked -/
def m_check_marked : MFn := mDef 2 true <|
  (seqS (dropS (mCall m_check_work [] (mCons (mVar 0) mNil))) (dropS (mCall m_check_marks [] (mCons (mVar 0) (mCons (mVar 1) mNil)))))
instance : FrF m_check_marked := by unfold m_check_marked; infer_instance

/-- is_whole -/
def m_is_whole : MFn := mDef 1 true <|
  (retS (mAndV (mIs (isTy 2) (mVar 0)) (mNotV (mIs (isTy 1) (mVar 0)))))
instance : FrF m_is_whole := by unfold m_is_whole; infer_instance

/-- is_between -/
def m_is_between : MFn := mDef 3 true <|
  (retS (mAndV (mCall m_is_whole [] (mCons (mVar 0) mNil)) (mChain (fCmp fun i j => decide (i ≤ j)) (fCmp fun i j => decide (i ≤ j)) (mVar 1) (mVar 0) (mVar 2))))
instance : FrF m_is_between := by unfold m_is_between; infer_instance

/-- is_step -/
def m_is_step : MFn := mDef 2 true <|
  (seqS (ifS (mOrT (mNotT (asB (mCall m_is_tuple_of [] (mCons (mVar 1) (mCons (mC (.int 2)) mNil))))) (mNotT (asB (mCall m_is_string [] (mCons (mIx (mVar 1) (mC (.int 0))) mNil))))) (retS (mC (.bl false))) nilS) (seqS (ifS (mCmpT (fEq false) (mIx (mVar 1) (mC (.int 0))) (mC (.str "make"))) (retS (mCall m_is_between [] (mCons (mIx (mVar 1) (mC (.int 1))) (mCons (mC (.int 0)) (mCons (mOp2 (fInt fun i j => i - j) (mB fLen (mCons (mFld fl0 "recipes" (mVar 0)) mNil)) (mC (.int 1))) mNil))))) nilS) (retS (mAndV (mCmp (fEq false) (mIx (mVar 1) (mC (.int 0))) (mC (.str "wash"))) (mCall m_is_between [] (mCons (mIx (mVar 1) (mC (.int 1))) (mCons (mC (.int 0)) (mCons (mOp2 (fInt fun i j => i - j) (mB fLen (mCons (mFld fl0 "washes" (mVar 0)) mNil)) (mC (.int 1))) mNil))))))))
instance : FrF m_is_step := by unfold m_is_step; infer_instance

/-- wrong_step -/
def m_wrong_step : MFn := mDef 4 true <|
  (seqS (forS (mEnum (mCons (mVar 1) mNil)) (gT 2 (gConsM (gN 2) (gConsM (gN 3) gNilM))) (ifS (mNotT (asB (mCall m_is_step [] (mCons (mVar 0) (mCons (mVar 3) mNil))))) (retS (mVar 2)) nilS)) (retS (mC .non)))
instance : FrF m_wrong_step := by unfold m_wrong_step; infer_instance

/-- is_row -/
def m_is_row : MFn := mDef 3 true <|
  (retS (mAndV (mIs (isTy 5) (mVar 0)) (mChain (fCmp fun i j => decide (i ≤ j)) (fCmp fun i j => decide (i ≤ j)) (mVar 1) (mB fLen (mCons (mVar 0) mNil)) (mVar 2))))
instance : FrF m_is_row := by unfold m_is_row; infer_instance

/-- check_row -/
def m_check_row : MFn := mDef 3 true <|
  (seqS (ifS (mNotT (asB (mCall m_is_row [] (mCons (mVar 1) (mCons (mC (.int 0)) (mCons (mC (.int 60)) mNil)))))) badS nilS) (seqS (setS 2 (mCall m_wrong_step [] (mCons (mVar 0) (mCons (mVar 1) mNil)))) (ifS (mCmpT (fIsN true) (mVar 2) (mC .non)) badS nilS)))
instance : FrF m_check_row := by unfold m_check_row; infer_instance

/-- check_asked -/
def m_check_asked : MFn := mDef 3 true <|
  (seqS (dropS (mCall m_check_marked [] (mCons (mVar 0) (mCons (mVar 1) mNil)))) (dropS (mCall m_check_row [] (mCons (mVar 0) (mCons (mVar 2) mNil)))))
instance : FrF m_check_asked := by unfold m_check_asked; infer_instance

/-- marks_with -/
def m_marks_with : MFn := mDef 7 true <|
  (seqS (setS 2 (mLstO mNil)) (seqS (forS (mEnum (mCons (mFld fl0 "tools" (mVar 0)) mNil)) (gT 2 (gConsM (gN 3) (gConsM (gN 4) gNilM))) (dropS (mMeth 3 fAppend (mVar 2) (mCons (mB fTuple (mCons (mLC false [5, 6] (mZip2 (mCons (mFld fl0 "stuffs" (mVar 0)) (mCons (mVar 1) mNil))) (gT 2 (gConsM (gN 5) (gConsM (gN 6) gNilM))) (mCmpT (fEq false) (mOp2 (fInt Builtin.bitAnd) (mOp2 (fIntC (fun _ j => decide (0 ≤ j)) fun i j => i / 2 ^ j.toNat) (mVar 6) (mVar 3)) (mC (.int 1))) (mC (.int 1))) (mVar 5)) mNil)) mNil)))) (retS (mB fTuple (mCons (mVar 2) mNil)))))
instance : FrF m_marks_with := by unfold m_marks_with; infer_instance

/-- bit_of -/
def m_bit_of : MFn := mDef 2 true <|
  (retS (mOp2 (fIntC cPow fun i j => i * 2 ^ j.toNat) (mC (.int 1)) (mMeth 4 fTIdx (mFld fl0 "tools" (mVar 0)) (mCons (mVar 1) mNil))))
instance : FrF m_bit_of := by unfold m_bit_of; infer_instance

/-- lot_with -/
def m_lot_with : MFn := mDef 3 true <|
  (retS (mB fSum (mCons (mLC false [2] (mSeqI (mVar 1)) (gN 2) tYesM (mCall m_bit_of [] (mCons (mVar 0) (mCons (mVar 2) mNil)))) mNil)))
instance : FrF m_lot_with := by unfold m_lot_with; infer_instance

/-- lot_of -/
def m_lot_of : MFn := mDef 5 true <|
  (retS (mCall m_lot_with [] (mCons (mVar 0) (mCons (mLC false [3, 4] (mZip2 (mCons (mFld fl0 "tools" (mVar 0)) (mCons (mVar 1) mNil))) (gT 2 (gConsM (gN 3) (gConsM (gN 4) gNilM))) (mCmpT (fIn false) (mVar 2) (mVar 4)) (mVar 3)) mNil))))
instance : FrF m_lot_of := by unfold m_lot_of; infer_instance

/-- lots_of -/
def m_lots_of : MFn := mDef 3 true <|
  (retS (mB fTuple (mCons (mLC false [2] (mSeqI (mFld fl0 "stuffs" (mVar 0))) (gN 2) tYesM (mCall m_lot_of [] (mCons (mVar 0) (mCons (mVar 1) (mCons (mVar 2) mNil))))) mNil)))
instance : FrF m_lots_of := by unfold m_lots_of; infer_instance

/-- takes_from -/
def m_takes_from : MFn := mDef 6 true <|
  (seqS (ifS (mCmpT (fEq false) (mIx (mVar 1) (mC (.int 0))) (mC (.str "make"))) (retS (mC .non)) nilS) (seqS (asgS (mIx (mFld fl0 "washes" (mVar 0)) (mIx (mVar 1) (mC (.int 1)))) (gT 3 (gConsM (gN 3) (gConsM (gN 4) (gConsM (gN 5) gNilM))))) (retS (mIf (mCmpT (fIn false) (mVar 2) (mVar 4)) (mVar 3) (mC .non)))))
instance : FrF m_takes_from := by unfold m_takes_from; infer_instance

/-- puts_of -/
def m_puts_of : MFn := mDef 2 true <|
  (retS (mIf (mCmpT (fEq false) (mIx (mVar 1) (mC (.int 0))) (mC (.str "make"))) (mIx (mIx (mFld fl0 "recipes" (mVar 0)) (mIx (mVar 1) (mC (.int 1)))) (mC (.int 1))) (mTup mNil)))
instance : FrF m_puts_of := by unfold m_puts_of; infer_instance

/-- uses_of -/
def m_uses_of : MFn := mDef 2 true <|
  (retS (mIf (mCmpT (fEq false) (mIx (mVar 1) (mC (.int 0))) (mC (.str "make"))) (mIx (mIx (mFld fl0 "recipes" (mVar 0)) (mIx (mVar 1) (mC (.int 1)))) (mC (.int 2))) (mTup mNil)))
instance : FrF m_uses_of := by unfold m_uses_of; infer_instance

/-- is_in_made -/
def m_is_in_made : MFn := mDef 4 true <|
  (retS (mOrV (mCmp (fIn false) (mVar 3) (mCall m_puts_of [] (mCons (mVar 0) (mCons (mVar 2) mNil)))) (mCmp (fEq true) (mOp2 (fInt Builtin.bitAnd) (mVar 1) (mCall m_lot_with [] (mCons (mVar 0) (mCons (mCall m_uses_of [] (mCons (mVar 0) (mCons (mVar 2) mNil))) mNil)))) (mC (.int 0)))))
instance : FrF m_is_in_made := by unfold m_is_in_made; infer_instance

/-- lot_behind -/
def m_lot_behind : MFn := mDef 5 true <|
  (seqS (ifS (mCmpT (fEq false) (mIx (mVar 2) (mC (.int 0))) (mC (.str "make"))) (retS (mIf (asB (mCall m_is_in_made [] (mCons (mVar 0) (mCons (mVar 1) (mCons (mVar 2) (mCons (mVar 3) mNil)))))) (mOp2 (fInt Builtin.bitOr) (mVar 1) (mCall m_lot_with [] (mCons (mVar 0) (mCons (mCall m_uses_of [] (mCons (mVar 0) (mCons (mVar 2) mNil))) mNil)))) (mVar 1))) nilS) (seqS (setS 4 (mCall m_takes_from [] (mCons (mVar 0) (mCons (mVar 2) (mCons (mVar 3) mNil))))) (retS (mIf (mCmpT (fIsN false) (mVar 4) (mC .non)) (mVar 1) (mOp2 (fInt Builtin.bitAnd) (mVar 1) (mUn Builtin.bitNot (mCall m_bit_of [] (mCons (mVar 0) (mCons (mVar 4) mNil)))))))))
instance : FrF m_lot_behind := by unfold m_lot_behind; infer_instance

/-- lots_behind -/
def m_lots_behind : MFn := mDef 5 true <|
  (retS (mB fTuple (mCons (mLC false [3, 4] (mZip2 (mCons (mFld fl0 "stuffs" (mVar 0)) (mCons (mVar 1) mNil))) (gT 2 (gConsM (gN 3) (gConsM (gN 4) gNilM))) tYesM (mCall m_lot_behind [] (mCons (mVar 0) (mCons (mVar 4) (mCons (mVar 2) (mCons (mVar 3) mNil)))))) mNil)))
instance : FrF m_lots_behind := by unfold m_lots_behind; infer_instance

/-- lots_along -/
def m_lots_along : MFn := mDef 5 true <|
  (seqS (setS 3 (mLstO (mCons (mCall m_lots_of [] (mCons (mVar 0) (mCons (mVar 1) mNil))) mNil))) (seqS (forS (mSeqI (mVar 2)) (gN 4) (dropS (mMeth 3 fAppend (mVar 3) (mCons (mCall m_lots_behind [] (mCons (mVar 0) (mCons (mIx (mVar 3) (mUn (fun i => -i) (mC (.int 1)))) (mCons (mVar 4) mNil)))) mNil)))) (retS (mVar 3))))
instance : FrF m_lots_along := by unfold m_lots_along; infer_instance

/-- marks_behind -/
def m_marks_behind : MFn := mDef 3 true <|
  (retS (mCall m_marks_with [] (mCons (mVar 0) (mCons (mIx (mCall m_lots_along [] (mCons (mVar 0) (mCons (mVar 1) (mCons (mVar 2) mNil)))) (mUn (fun i => -i) (mC (.int 1)))) mNil))))
instance : FrF m_marks_behind := by unfold m_marks_behind; infer_instance

/-- behind -/
def m_behind : MFn := mDef 3 true <|
  (seqS (dropS (mCall m_check_asked [] (mCons (mVar 0) (mCons (mVar 1) (mCons (mVar 2) mNil))))) (retS (mCall m_marks_behind [] (mCons (mVar 0) (mCons (mVar 1) (mCons (mVar 2) mNil))))))
instance : FrF m_behind := by unfold m_behind; infer_instance

/-- is_made_of -/
def m_is_made_of : MFn := mDef 3 true <|
  (retS (mAndV (mCmp (fEq true) (mVar 0) (mC (.str ""))) (mB (fAll fun bs => bs.all id) (mCons (mLC false [2] (mSeqI (mVar 0)) (gN 2) tYesM (mCmp (fIn false) (mVar 2) (mVar 1))) mNil))))
instance : FrF m_is_made_of := by unfold m_is_made_of; infer_instance

/-- is_name -/
def m_is_name : MFn := mDef 1 true <|
  (retS (mAndV (mCall m_is_string [] (mCons (mVar 0) mNil)) (mAndV (mCmp (fCmp fun i j => decide (i ≤ j)) (mB fLen (mCons (mVar 0) mNil)) (mC (.int 8))) (mCall m_is_made_of [] (mCons (mVar 0) (mCons (mC (.str "abcdefghijklmnopqrstuvwxyz")) mNil))))))
instance : FrF m_is_name := by unfold m_is_name; infer_instance

/-- wrong_name -/
def m_wrong_name : MFn := mDef 1 true <|
  (retS (mFirst [] 2 (mAndV (mCall m_is_name [] (mCons (mVar 0) mNil)) (mOrV (mCmp (fEq false) (mVar 1) (mTup mNil)) (mCmp fLt (mIx (mVar 1) (mUn (fun i => -i) (mC (.int 1)))) (mVar 0)))) (mVar 0)))
instance : FrF m_wrong_name := by unfold m_wrong_name; infer_instance

/-- check_tools -/
def m_check_tools : MFn := mDef 2 true <|
  (seqS (setS 1 (mIf (asB (mCall m_is_row [] (mCons (mVar 0) (mCons (mC (.int 2)) (mCons (mC (.int 6)) mNil))))) (mCall m_wrong_name [] (mCons (mVar 0) mNil)) (mC .non))) (ifS (mOrT (mNotT (asB (mCall m_is_row [] (mCons (mVar 0) (mCons (mC (.int 2)) (mCons (mC (.int 6)) mNil)))))) (mCmpT (fIsN true) (mVar 1) (mC .non))) badS nilS))
instance : FrF m_check_tools := by unfold m_check_tools; infer_instance

/-- check_stuffs -/
def m_check_stuffs : MFn := mDef 2 true <|
  (seqS (setS 1 (mIf (asB (mCall m_is_row [] (mCons (mVar 0) (mCons (mC (.int 1)) (mCons (mC (.int 4)) mNil))))) (mCall m_wrong_name [] (mCons (mVar 0) mNil)) (mC .non))) (ifS (mOrT (mNotT (asB (mCall m_is_row [] (mCons (mVar 0) (mCons (mC (.int 1)) (mCons (mC (.int 4)) mNil)))))) (mCmpT (fIsN true) (mVar 1) (mC .non))) badS nilS))
instance : FrF m_check_stuffs := by unfold m_check_stuffs; infer_instance

/-- is_recipe -/
def m_is_recipe : MFn := mDef 4 true <|
  (seqS (ifS (mOrT (mNotT (asB (mCall m_is_tuple_of [] (mCons (mVar 2) (mCons (mC (.int 4)) mNil))))) (mOrT (mNotT (asB (mCall m_is_name [] (mCons (mIx (mVar 2) (mC (.int 0))) mNil)))) (mNotT (asB (mCall m_are_some [] (mCons (mVar 1) (mCons (mIx (mVar 2) (mC (.int 1))) mNil))))))) (retS (mC (.bl false))) nilS) (seqS (ifS (mOrT (mNotT (asB (mCall m_are_some [] (mCons (mVar 0) (mCons (mIx (mVar 2) (mC (.int 2))) mNil))))) (mOrT (mCmpT (fEq false) (mB fLen (mCons (mIx (mVar 2) (mC (.int 2))) mNil)) (mC (.int 0))) (mNotT (asB (mCall m_are_some [] (mCons (mVar 1) (mCons (mIx (mVar 2) (mC (.int 3))) mNil))))))) (retS (mC (.bl false))) nilS) (retS (mNotV (mB (fAll fun bs => bs.any id) (mCons (mLC false [3] (mSeqI (mIx (mVar 2) (mC (.int 3)))) (gN 3) tYesM (mCmp (fIn false) (mVar 3) (mIx (mVar 2) (mC (.int 1))))) mNil))))))
instance : FrF m_is_recipe := by unfold m_is_recipe; infer_instance

/-- is_recipe_behind -/
def m_is_recipe_behind : MFn := mDef 4 true <|
  (retS (mAndV (mCall m_is_recipe [] (mCons (mVar 0) (mCons (mVar 1) (mCons (mVar 2) mNil)))) (mOrV (mCmp (fEq false) (mB fLen (mCons (mVar 3) mNil)) (mC (.int 0))) (mCmp fLt (mIx (mIx (mVar 3) (mUn (fun i => -i) (mC (.int 1)))) (mC (.int 0))) (mIx (mVar 2) (mC (.int 0)))))))
instance : FrF m_is_recipe_behind := by unfold m_is_recipe_behind; infer_instance

/-- wrong_recipe -/
def m_wrong_recipe : MFn := mDef 3 true <|
  (retS (mFirst [0, 1] 4 (mCall m_is_recipe_behind [] (mCons (mVar 2) (mCons (mVar 3) (mCons (mVar 0) (mCons (mVar 1) mNil))))) (mVar 2)))
instance : FrF m_wrong_recipe := by unfold m_wrong_recipe; infer_instance

/-- check_recipes -/
def m_check_recipes : MFn := mDef 4 true <|
  (seqS (setS 3 (mIf (asB (mCall m_is_row [] (mCons (mVar 2) (mCons (mC (.int 1)) (mCons (mC (.int 6)) mNil))))) (mCall m_wrong_recipe [] (mCons (mVar 0) (mCons (mVar 1) (mCons (mVar 2) mNil)))) (mC .non))) (ifS (mOrT (mNotT (asB (mCall m_is_row [] (mCons (mVar 2) (mCons (mC (.int 1)) (mCons (mC (.int 6)) mNil)))))) (mCmpT (fIsN true) (mVar 3) (mC .non))) badS nilS))
instance : FrF m_check_recipes := by unfold m_check_recipes; infer_instance

/-- is_wash -/
def m_is_wash : MFn := mDef 3 true <|
  (seqS (ifS (mOrT (mNotT (asB (mCall m_is_tuple_of [] (mCons (mVar 2) (mCons (mC (.int 3)) mNil))))) (mOrT (mNotT (asB (mCall m_is_one_of [] (mCons (mVar 0) (mCons (mIx (mVar 2) (mC (.int 0))) mNil))))) (mNotT (asB (mCall m_are_some [] (mCons (mVar 1) (mCons (mIx (mVar 2) (mC (.int 1))) mNil))))))) (retS (mC (.bl false))) nilS) (retS (mAndV (mCmp (fCmp fun i j => decide (j < i)) (mB fLen (mCons (mIx (mVar 2) (mC (.int 1))) mNil)) (mC (.int 0))) (mCall m_is_between [] (mCons (mIx (mVar 2) (mC (.int 2))) (mCons (mC (.int 1)) (mCons (mC (.int 9)) mNil)))))))
instance : FrF m_is_wash := by unfold m_is_wash; infer_instance

/-- is_wash_behind -/
def m_is_wash_behind : MFn := mDef 5 true <|
  (retS (mAndV (mCall m_is_wash [] (mCons (mVar 0) (mCons (mVar 1) (mCons (mVar 2) mNil)))) (mCmp (fIn true) (mSl (mVar 2) mNoP (mPart (mC (.int 2)))) (mLC false [4] (mSeqI (mVar 3)) (gN 4) tYesM (mSl (mVar 4) mNoP (mPart (mC (.int 2))))))))
instance : FrF m_is_wash_behind := by unfold m_is_wash_behind; infer_instance

/-- wrong_wash -/
def m_wrong_wash : MFn := mDef 3 true <|
  (retS (mFirst [0, 1] 4 (mCall m_is_wash_behind [] (mCons (mVar 2) (mCons (mVar 3) (mCons (mVar 0) (mCons (mVar 1) mNil))))) (mVar 2)))
instance : FrF m_wrong_wash := by unfold m_wrong_wash; infer_instance

/-- check_washes -/
def m_check_washes : MFn := mDef 4 true <|
  (seqS (setS 3 (mIf (asB (mCall m_is_row [] (mCons (mVar 2) (mCons (mC (.int 0)) (mCons (mC (.int 6)) mNil))))) (mCall m_wrong_wash [] (mCons (mVar 0) (mCons (mVar 1) (mCons (mVar 2) mNil)))) (mC .non))) (ifS (mOrT (mNotT (asB (mCall m_is_row [] (mCons (mVar 2) (mCons (mC (.int 0)) (mCons (mC (.int 6)) mNil)))))) (mCmpT (fIsN true) (mVar 3) (mC .non))) badS nilS))
instance : FrF m_check_washes := by unfold m_check_washes; infer_instance

/-- Work.__init__ -/
def m_Work_init : MFn := mDef 5 true <|
  (seqS (dropS (mCall m_check_tools [] (mCons (mVar 1) mNil))) (seqS (dropS (mCall m_check_stuffs [] (mCons (mVar 2) mNil))) (seqS (dropS (mCall m_check_recipes [] (mCons (mVar 1) (mCons (mVar 2) (mCons (mVar 3) mNil))))) (seqS (dropS (mCall m_check_washes [] (mCons (mVar 1) (mCons (mVar 2) (mCons (mVar 4) mNil))))) (seqS (setFldS fl0 "tools" (mVar 0) (mVar 1)) (seqS (setFldS fl0 "stuffs" (mVar 0) (mVar 2)) (seqS (setFldS fl0 "recipes" (mVar 0) (mVar 3)) (setFldS fl0 "washes" (mVar 0) (mVar 4)))))))))
instance : FrF m_Work_init := by unfold m_Work_init; infer_instance

/-- _law_made -/
def m__law_made : MFn := mDef 1 true <|
  (retS (mMake 0 m_Work_init [] (mCons (mIx (mVar 0) (mC (.int 0))) (mCons (mIx (mVar 0) (mC (.int 1))) (mCons (mIx (mVar 0) (mC (.int 2))) (mCons (mIx (mVar 0) (mC (.int 3))) mNil))))))
instance : FrF m__law_made := by unfold m__law_made; infer_instance

/-- _law_marks -/
def m__law_marks : MFn := mDef 3 true <|
  (seqS (ifS (mCmpT (fEq false) (mCall m__law_take [] (mCons (mVar 0) (mCons (mC (.int 3)) mNil))) (mC (.int 0))) (retS (mB fTuple (mCons (mLC false [2] (mSeqI (mIx (mVar 1) (mC (.int 0)))) (gN 2) tYesM (mTup mNil)) mNil))) nilS) (retS (mB fTuple (mCons (mLC false [2] (mSeqI (mIx (mVar 1) (mC (.int 0)))) (gN 2) tYesM (mCall m__law_lot [] (mCons (mVar 0) (mCons (mIx (mVar 1) (mC (.int 1))) (mCons (mC (.int 4)) mNil))))) mNil))))
instance : FrF m__law_marks := by unfold m__law_marks; infer_instance

/-- stuffs_in -/
def m_stuffs_in : MFn := mDef 5 true <|
  (retS (mB fTuple (mCons (mLC false [3, 4] (mZip2 (mCons (mFld fl0 "stuffs" (mVar 0)) (mCons (mVar 1) mNil))) (gT 2 (gConsM (gN 3) (gConsM (gN 4) gNilM))) (asB (mCall m_is_in_made [] (mCons (mVar 0) (mCons (mVar 4) (mCons (mVar 2) (mCons (mVar 3) mNil)))))) (mVar 3)) mNil)))
instance : FrF m_stuffs_in := by unfold m_stuffs_in; infer_instance

/-- made_by -/
def m_made_by : MFn := mDef 6 true <|
  (seqS (setS 3 (mLstO mNil)) (seqS (forS (mZip2 (mCons (mCall m_lots_along [] (mCons (mVar 0) (mCons (mVar 1) (mCons (mVar 2) mNil)))) (mCons (mVar 2) mNil))) (gT 2 (gConsM (gN 4) (gConsM (gN 5) gNilM))) (ifS (mCmpT (fEq false) (mIx (mVar 5) (mC (.int 0))) (mC (.str "make"))) (dropS (mMeth 3 fAppend (mVar 3) (mCons (mCall m_stuffs_in [] (mCons (mVar 0) (mCons (mVar 4) (mCons (mVar 5) mNil)))) mNil))) nilS)) (retS (mB fTuple (mCons (mVar 3) mNil)))))
instance : FrF m_made_by := by unfold m_made_by; infer_instance

/-- made -/
def m_made : MFn := mDef 3 true <|
  (seqS (dropS (mCall m_check_asked [] (mCons (mVar 0) (mCons (mVar 1) (mCons (mVar 2) mNil))))) (retS (mCall m_made_by [] (mCons (mVar 0) (mCons (mVar 1) (mCons (mVar 2) mNil))))))
instance : FrF m_made := by unfold m_made; infer_instance

/-- bars_of -/
def m_bars_of : MFn := mDef 2 true <|
  (retS (mIf (mCmpT (fEq false) (mIx (mVar 1) (mC (.int 0))) (mC (.str "make"))) (mIx (mIx (mFld fl0 "recipes" (mVar 0)) (mIx (mVar 1) (mC (.int 1)))) (mC (.int 3))) (mTup mNil)))
instance : FrF m_bars_of := by unfold m_bars_of; infer_instance

/-- is_foul_by -/
def m_is_foul_by : MFn := mDef 4 true <|
  (retS (mAndV (mCmp (fIn false) (mVar 3) (mCall m_bars_of [] (mCons (mVar 0) (mCons (mVar 2) mNil)))) (mCall m_is_in_made [] (mCons (mVar 0) (mCons (mVar 1) (mCons (mVar 2) (mCons (mVar 3) mNil)))))))
instance : FrF m_is_foul_by := by unfold m_is_foul_by; infer_instance

/-- foul_stuffs -/
def m_foul_stuffs : MFn := mDef 5 true <|
  (retS (mLC false [3, 4] (mZip2 (mCons (mFld fl0 "stuffs" (mVar 0)) (mCons (mVar 1) mNil))) (gT 2 (gConsM (gN 3) (gConsM (gN 4) gNilM))) (asB (mCall m_is_foul_by [] (mCons (mVar 0) (mCons (mVar 4) (mCons (mVar 2) (mCons (mVar 3) mNil)))))) (mVar 3)))
instance : FrF m_foul_stuffs := by unfold m_foul_stuffs; infer_instance

/-- first_foul_by -/
def m_first_foul_by : MFn := mDef 6 true <|
  (seqS (forS (mEz (mCons (mCall m_lots_along [] (mCons (mVar 0) (mCons (mVar 1) (mCons (mVar 2) mNil)))) (mCons (mVar 2) mNil))) (gT 2 (gConsM (gN 3) (gConsM (gT 2 (gConsM (gN 4) (gConsM (gN 5) gNilM))) gNilM))) (ifS (mCmpT (fEq true) (mCall m_foul_stuffs [] (mCons (mVar 0) (mCons (mVar 4) (mCons (mVar 5) mNil)))) (mLst mNil)) (retS (mVar 3)) nilS)) (retS (mC .non)))
instance : FrF m_first_foul_by := by unfold m_first_foul_by; infer_instance

/-- is_clean -/
def m_is_clean : MFn := mDef 3 true <|
  (seqS (dropS (mCall m_check_asked [] (mCons (mVar 0) (mCons (mVar 1) (mCons (mVar 2) mNil))))) (retS (mCmp (fIsN false) (mCall m_first_foul_by [] (mCons (mVar 0) (mCons (mVar 1) (mCons (mVar 2) mNil)))) (mC .non))))
instance : FrF m_is_clean := by unfold m_is_clean; infer_instance

/-- _law_behind -/
def m__law_behind : MFn := mDef 14 true <|
  (seqS (setS 3 (mDZip (mCons (mIx (mVar 0) (mC (.int 0))) (mCons (mVar 1) mNil)))) (seqS (ifS (mCmpT (fEq false) (mIx (mVar 2) (mC (.int 0))) (mC (.str "wash"))) (seqS (asgS (mIx (mIx (mVar 0) (mC (.int 3))) (mIx (mVar 2) (mC (.int 1)))) (gT 3 (gConsM (gN 4) (gConsM (gN 5) (gConsM (gN 6) gNilM))))) (seqS (putDS (mVar 3) (mVar 4) (mB fTuple (mCons (mLC false [13] (mSeqI (mDGet (mVar 3) (mVar 4))) (gN 13) (mCmpT (fIn true) (mVar 13) (mVar 5)) (mVar 13)) mNil))) (retS (mTup (mCons (mB fTuple (mCons (mLC false [4] (mSeqI (mIx (mVar 0) (mC (.int 0)))) (gN 4) tYesM (mDGet (mVar 3) (mVar 4))) mNil)) (mCons (mC .non) mNil)))))) nilS) (seqS (asgS (mIx (mIx (mVar 0) (mC (.int 2))) (mIx (mVar 2) (mC (.int 1)))) (gT 4 (gConsM (gN 7) (gConsM (gN 8) (gConsM (gN 9) (gConsM (gN 10) gNilM)))))) (seqS (setS 11 (mVar 8)) (seqS (forS (mSeqI (mVar 9)) (gN 4) (setS 11 (mOp2 fAdd (mVar 11) (mDGet (mVar 3) (mVar 4))))) (seqS (setS 12 (mB fTuple (mCons (mLC false [13] (mSeqI (mIx (mVar 0) (mC (.int 1)))) (gN 13) (mCmpT (fIn false) (mVar 13) (mVar 11)) (mVar 13)) mNil))) (retS (mTup (mCons (mB fTuple (mCons (mLC false [4] (mSeqI (mIx (mVar 0) (mC (.int 0)))) (gN 4) tYesM (mIf (mCmpT (fIn false) (mVar 4) (mVar 9)) (mVar 12) (mDGet (mVar 3) (mVar 4)))) mNil)) (mCons (mVar 12) mNil))))))))))
instance : FrF m__law_behind := by unfold m__law_behind; infer_instance

/-- _law_gone -/
def m__law_gone : MFn := mDef 9 true <|
  (seqS (asgS (mTup (mCons (mTup mNil) (mCons (mC .non) mNil))) (gT 2 (gConsM (gN 3) (gConsM (gN 4) gNilM)))) (seqS (forS (mRng1 (mCons (mB fLen (mCons (mVar 2) mNil)) mNil)) (gN 5) (seqS (asgS (mCall m__law_behind [] (mCons (mVar 0) (mCons (mVar 1) (mCons (mIx (mVar 2) (mVar 5)) mNil)))) (gT 2 (gConsM (gN 1) (gConsM (gN 6) gNilM)))) (ifS (mCmpT (fIsN true) (mVar 6) (mC .non)) (seqS (setS 3 (mOp2 fAdd (mVar 3) (mTup (mCons (mVar 6) mNil)))) (seqS (setS 7 (mCmp (fEq true) (mLC false [8] (mSeqI (mVar 6)) (gN 8) (mCmpT (fIn false) (mVar 8) (mIx (mIx (mIx (mVar 0) (mC (.int 2))) (mIx (mIx (mVar 2) (mVar 5)) (mC (.int 1)))) (mC (.int 3)))) (mVar 8)) (mLst mNil))) (setS 4 (mIf (mAndT (asB (mVar 7)) (mCmpT (fIsN false) (mVar 4) (mC .non))) (mVar 5) (mVar 4))))) nilS))) (retS (mTup (mCons (mVar 1) (mCons (mVar 3) (mCons (mVar 4) mNil)))))))
instance : FrF m__law_gone := by unfold m__law_gone; infer_instance

/-- _law_same -/
def m__law_same : MFn := mDef 2 true <|
  (retS (mCmp (fEq false) (mB fRepr (mCons (mVar 0) mNil)) (mB fRepr (mCons (mVar 1) mNil))))
instance : FrF m__law_same := by unfold m__law_same; infer_instance

/-- first_foul -/
def m_first_foul : MFn := mDef 3 true <|
  (seqS (dropS (mCall m_check_asked [] (mCons (mVar 0) (mCons (mVar 1) (mCons (mVar 2) mNil))))) (retS (mCall m_first_foul_by [] (mCons (mVar 0) (mCons (mVar 1) (mCons (mVar 2) mNil))))))
instance : FrF m_first_foul := by unfold m_first_foul; infer_instance

/-- _law_purse -/
def m__law_purse : MFn := mDef 5 false <|
  (seqS (setS 2 (mIf (mCmpT fLt (mVar 1) (mB fLen (mCons (mVar 0) mNil))) (mIx (mVar 0) (mVar 1)) (mC (.int 0)))) (seqS (setS 3 (mOp2 (fIntC (fun _ j => decide (0 < j)) fun i j => i % j) (mB (fI1 id) (mCons (mOp2 fAdd (mOp2 fAdd (mOp2 (fIntC cMul fun i j => i * j) (mVar 2) (mC (.int 50051))) (mOp2 (fIntC cMul fun i j => i * j) (mVar 1) (mC (.int 31627)))) (mC (.int 60013))) mNil)) (mC (.int 2147483549)))) (seqS (forS (mSeqI (mIf (mCmpT (fCmp fun i j => decide (j ≤ i)) (mVar 1) (mB fLen (mCons (mVar 0) mNil))) (mSl (mVar 0) mNoP (mPart (mC (.int 4)))) (mLst mNil))) (gN 4) (setS 3 (mOp2 (fIntC (fun _ j => decide (0 < j)) fun i j => i % j) (mB (fI1 id) (mCons (mOp2 fAdd (mOp2 (fIntC cMul fun i j => i * j) (mVar 3) (mC (.int 62089))) (mVar 4)) mNil)) (mC (.int 2147483549))))) (retS (mLstO (mCons (mIf (mCmpT (fCmp fun i j => decide (j ≤ i)) (mB (fI1 fun i => if i < 0 then -i else i) (mCons (mVar 2) mNil)) (mOp2 (fIntC cPow fun i j => i ^ j.toNat) (mC (.int 10)) (mC (.int 18)))) (mB (fI1 fun i => if i < 0 then -i else i) (mCons (mVar 2) mNil)) (mC (.int 0))) (mCons (mVar 3) (mCons (mC (.int 0)) mNil))))))))
instance : FrF m__law_purse := by unfold m__law_purse; infer_instance

end Q
end

section
set_option Elab.async false
set_option linter.all false
set_option maxRecDepth 100000
set_option maxHeartbeats 4000000
set_option synthInstance.maxHeartbeats 4000000
set_option synthInstance.maxSize 100000
namespace Q
open PySem PySem.Spec PyProof.Rows L2 NdefX LamX Mm
/-! ## mirrors -/
/-- _law_joined -/
def m__law_joined : MFn := mDef 6 true <|
  (retS (mB fTuple (mCons (mLC false [3, 4] (mZip2 (mCons (mVar 1) (mCons (mVar 2) mNil))) (gT 2 (gConsM (gN 3) (gConsM (gN 4) gNilM))) tYesM (mB fTuple (mCons (mLC false [5] (mSeqI (mIx (mVar 0) (mC (.int 1)))) (gN 5) (mOrT (mCmpT (fIn false) (mVar 5) (mVar 3)) (mCmpT (fIn false) (mVar 5) (mVar 4))) (mVar 5)) mNil))) mNil)))
instance : FrF m__law_joined := by unfold m__law_joined; infer_instance

/-- empty_marks -/
def m_empty_marks : MFn := mDef 1 true <|
  (seqS (dropS (mCall m_check_work [] (mCons (mVar 0) mNil))) (retS (mOp2 fRep (mTup (mCons (mTup mNil) mNil)) (mB fLen (mCons (mFld fl0 "tools" (mVar 0)) mNil)))))
instance : FrF m_empty_marks := by unfold m_empty_marks; infer_instance

/-- all_pairs -/
def m_all_pairs : MFn := mDef 3 true <|
  (retS (mLC2 false [1, 2] [2] (mSeqI (mFld fl0 "tools" (mVar 0))) (gN 1) tYesM (mSeqI (mFld fl0 "stuffs" (mVar 0))) (gN 2) tYesM (mTup (mCons (mVar 1) (mCons (mVar 2) mNil)))))
instance : FrF m_all_pairs := by unfold m_all_pairs; infer_instance

/-- marks_of_pairs -/
def m_marks_of_pairs : MFn := mDef 4 true <|
  (retS (mB fTuple (mCons (mLC false [2] (mSeqI (mFld fl0 "tools" (mVar 0))) (gN 2) tYesM (mB fTuple (mCons (mLC false [3] (mSeqI (mFld fl0 "stuffs" (mVar 0))) (gN 3) (mCmpT (fIn false) (mTup (mCons (mVar 2) (mCons (mVar 3) mNil))) (mVar 1)) (mVar 3)) mNil))) mNil)))
instance : FrF m_marks_of_pairs := by unfold m_marks_of_pairs; infer_instance

/-- row_needs_by -/
def m_row_needs_by : MFn := mDef 5 true <|
  (seqS (setS 2 (mLC false [3] (mSeqI (mCall m_all_pairs [] (mCons (mVar 0) mNil))) (gN 3) tYesM (mTup (mCons (mVar 3) (mCons (mCall m_first_foul_by [] (mCons (mVar 0) (mCons (mCall m_marks_of_pairs [] (mCons (mVar 0) (mCons (mLst (mCons (mVar 3) mNil)) mNil))) (mCons (mVar 1) mNil)))) mNil))))) (retS (mB fTuple (mCons (mLC false [3, 4] (mSeqI (mVar 2)) (gT 2 (gConsM (gN 3) (gConsM (gN 4) gNilM))) (mCmpT (fIsN true) (mVar 4) (mC .non)) (mVar 3)) mNil))))
instance : FrF m_row_needs_by := by unfold m_row_needs_by; infer_instance

/-- row_needs -/
def m_row_needs : MFn := mDef 2 true <|
  (seqS (dropS (mCall m_check_work [] (mCons (mVar 0) mNil))) (seqS (dropS (mCall m_check_row [] (mCons (mVar 0) (mCons (mVar 1) mNil)))) (retS (mCall m_row_needs_by [] (mCons (mVar 0) (mCons (mVar 1) mNil))))))
instance : FrF m_row_needs := by unfold m_row_needs; infer_instance

end Q
end

section
set_option Elab.async false
set_option linter.all false
set_option maxRecDepth 100000
set_option maxHeartbeats 4000000
namespace Q
open PySem PySem.Spec PyProof.Rows L2 NdefX LamX Mm
theorem take_ok (S : Sto) (k : Nat) (f s t n : Int) (h : S[k]? = some (dr f s t)) (hs : 0 ≤ s ∧ s < 2147483549) (hn : 0 < n) (hn2 : n < 1000000) : ∃ r f' s' t', 0 ≤ r ∧ r < n ∧ (0 ≤ s' ∧ s' < 2147483549) ∧ m__law_take [.l k, .p (.int n)] S = .ok (.p (.int r)) (S.set k (dr f' s' t')) := by
  have hk : k < S.length := (List.getElem?_eq_some_iff.mp h).1
  have hm : cMul s (43019 + 6 * t) = true := by unfold cMul; simp; omega
  have hm2 : ∀ x, cMul 6 x = true := fun x => by unfold cMul; simp
  have hm3 : ∀ x, cMul 16273 x = true := fun x => by unfold cMul; simp
  have hd : cDiv f n = true := by unfold cDiv; simp; omega
  have hd2 : ∀ x, cDiv x 128 = true := fun x => by unfold cDiv; simp
  have hg : ∀ v, (S.set k v)[k]? = some v := fun v => by rw [List.getElem?_set_self hk]
  have h : S[k]? = some (.lst [.int f, .int s, .int t]) := h
  have l1 : ∀ v, (S.set k v).take S.length = S.set k v := fun v => List.take_of_length_le (by simp)
  clear hk
  unfold m__law_take
  by_cases hf : 0 < f
  · refine ⟨f % n, f / n, (s * (43019 + 6 * t) + 16273 * t + 5557) % 2147483549, t + 1, Int.emod_nonneg _ (by omega), Int.emod_lt_of_pos _ hn, by omega, ?_⟩
    simp [h, dr, hm, hm2, hm3, hd, hd2, hn, ixN, hg, List.set_set, atI, l1, hf]
  · refine ⟨(s * (43019 + 6 * t) + 16273 * t + 5557) % 2147483549 / 128 % n, f, (s * (43019 + 6 * t) + 16273 * t + 5557) % 2147483549, t + 1, Int.emod_nonneg _ (by omega), Int.emod_lt_of_pos _ hn, by omega, ?_⟩
    simp [h, dr, hm, hm2, hm3, hd, hd2, hn, ixN, hg, List.set_set, atI, l1, hf]
end Q
end

section
set_option Elab.async false
set_option linter.all false
set_option maxRecDepth 100000
set_option maxHeartbeats 4000000
namespace Q
open PySem PySem.Spec L2 Mm
theorem take_at {S : Sto} {k : Nat} {n : Int} (h : Dw k S) (hn : 0 < n) (hn2 : n < 1000000) : ∃ r S', 0 ≤ r ∧ r < n ∧ m__law_take [.l k, .p (.int n)] S = .ok (.p (.int r)) S' ∧ Dr k S S' := by
  obtain ⟨f, s, t, h1, h2⟩ := h
  obtain ⟨r, f', s', t', q1, q2, q3, q4⟩ := take_ok S k f s t n h1 h2 hn hn2
  exact ⟨r, _, q1, q2, q4, f', s', t', (List.getElem?_eq_some_iff.mp h1).1, rfl, q3⟩
theorem atI_in {xs : List PV} {r : Int} (h0 : 0 ≤ r) (h1 : r < xs.length) : ∃ x, atI xs r = some x ∧ x ∈ xs := by
  have hl : r.toNat < xs.length := by omega
  refine ⟨xs[r.toNat], ?_, List.getElem_mem _⟩
  unfold atI ixN
  simp [h0, h1, hl]
theorem pick_at {S : Sto} {k : Nat} {xs : List PV} (h : Dw k S) (hx : xs ≠ []) (hx2 : xs.length < 1000000) : ∃ x S', x ∈ xs ∧ m__law_pick [.l k, .p (.tup xs)] S = .ok (.p x) S' ∧ Dr k S S' := by
  have hp : 0 < xs.length := List.length_pos_iff.mpr hx
  obtain ⟨r, S', h0, h1, e, d⟩ := take_at (n := xs.length) h (by omega) (by omega)
  obtain ⟨x, e2, m⟩ := atI_in h0 h1
  refine ⟨x, S', m, ?_, d⟩
  unfold m__law_pick
  simp [e, e2, d.take]
theorem cutP_most {α : Type} {xs : List α} {n : Nat} : cutP xs none (some (n : Int)) = xs.take n := by
  unfold cutP
  rw [HT.sIx_nat, HT.sIx_none]
  simp
theorem lot_at {S : Sto} {k : Nat} {xs : List PV} {most : Nat} {w : RV} (h : Dw k S) (hw : srcR w = some xs) : ∃ ys S', List.Sublist ys xs ∧ ys.length ≤ most ∧ m__law_lot [.l k, w, .p (.int most)] S = .ok (.p (.tup ys)) S' ∧ Dr k S S' := by
  obtain ⟨zs, ys, S', e, d, s1, l1, r1⟩ := lcL_draw (k := k) (g := gN 4) (mt := mCmpT fLt (mCall m__law_take [] (mCons (mVar 0) (mCons (mC (.int 5)) mNil))) (mC (.int 2))) (me := mVar 4) (R := fun x y => y = x)
    (ew := [some (.l k), some w, some (.p (.int most)), none, none]) xs S [] h fun x _ => ⟨_, rfl, fun S1 h1 => by
      obtain ⟨r, S2, q0, q1, q2, q3⟩ := take_at (n := 5) h1 (by omega) (by omega)
      refine ⟨⟨decide (r < 2), S2, ?_, q3⟩, x, S1, ?_, .refl h1, rfl⟩
      · simp [q2, fLt]
      · simp⟩
  have hz : zs = ys := List.ext_getElem? fun i => by
    cases hi : zs[i]? with
    | none => rw [List.getElem?_eq_none (by rw [← l1]; exact List.getElem?_eq_none_iff.mp hi)]
    | some x =>
      have hlt : i < ys.length := by rw [← l1]; exact (List.getElem?_eq_some_iff.mp hi).1
      have := r1 i x ys[i] hi (List.getElem?_eq_getElem hlt)
      rw [List.getElem?_eq_getElem hlt, this]
  subst hz
  refine ⟨zs.take most, S', (List.take_sublist _ _).trans s1, by simp; omega, ?_, d⟩
  unfold m__law_lot
  simp [e, d.take, cutP_most, hw]
end Q
end

section
set_option Elab.async false
set_option linter.all false
set_option maxRecDepth 100000
set_option maxHeartbeats 1000000
namespace Q
open PySem PySem.Spec L2 Mm
theorem get0 {S : Sto} {a b : MO} {L : Nat} (h : S.length = L) : (S ++ [a, b])[L]? = some a := by subst h; simp
theorem get1 {S : Sto} {a b : MO} {L : Nat} (h : S.length = L) : (S ++ [a, b])[L + 1]? = some b := by subst h; simp
theorem set0 {S : Sto} {a b c : MO} {L : Nat} (h : S.length = L) : (S ++ [a, b]).set L c = S ++ [c, b] := by subst h; simp
theorem set1 {S : Sto} {a b c : MO} {L : Nat} (h : S.length = L) : (S ++ [a, b]).set (L + 1) c = S ++ [a, c] := by subst h; simp
theorem erase_perm {l : List Str} : ∀ {i : Nat} {x : Str}, l[i]? = some x → (x :: l.eraseIdx i).Perm l := by
  induction l with
  | nil => intro i x h; simp at h
  | cons y l ih =>
    intro i x h
    cases i with
    | zero => simp at h; subst h; exact .refl _
    | succ i => exact (List.Perm.swap _ _ _).trans (.cons _ (ih (by simpa using h)))
theorem erase_map : ∀ (l : List Str) (i : Nat), (l.map PV.str).eraseIdx i = (l.eraseIdx i).map PV.str
  | [], i => rfl
  | x :: l, 0 => rfl
  | x :: l, i + 1 => by simp [erase_map l i]
/-- the state of the loop that draws names -/
def NmSt (k L : Nat) (S : Sto) (base : List Str) (many : Int) (some_ : Str) (j : Nat) (e : MEnv) (S1 : Sto) : Prop :=
  ∃ (S2 : Sto) (found spare : List Str) (o : Option RV), Dr k S S2 ∧ S1 = S2 ++ [.lst (found.map PV.str), .lst (spare.map PV.str)] ∧ (found ++ spare).Perm base ∧ found.length = j ∧ e = [some (.l k), some (.p (.int many)), some (.p (.str some_)), some (.l L), some (.l (L + 1)), o]
theorem name_turn {k : Nat} {S : Sto} {base : List Str} {many j : Nat} {some_ : Str} {e : MEnv} {S1 : Sto} {v : RV} (hb : base.length < 1000) (hj : j < base.length) (h : NmSt k S.length S base many some_ j e S1) (hk : Dw k S) :
    ∃ e2 S2, (dropS (mMeth 3 fAppend (mVar 3) (mCons (mMeth 3 fPopAt (mVar 4) (mCons (mCall m__law_take [] (mCons (mVar 0) (mCons (mB fLen (mCons (mVar 4) mNil)) mNil))) mNil)) mNil))) (setE e 5 v) S1 = .next e2 S2 ∧ NmSt k S.length S base many some_ (j + 1) e2 S2 := by
  obtain ⟨S2, found, spare, o, d, rfl, pm, rfl, rfl⟩ := h
  have hl : found.length + spare.length = base.length := by rw [← List.length_append]; exact pm.length_eq
  obtain ⟨r, S3, r0, r1, ht, d3⟩ := take_at (k := k) (S := S2 ++ [.lst (found.map PV.str), .lst (spare.map PV.str)]) (n := spare.length) d.dw.app (by omega) (by omega)
  obtain ⟨S4, rfl, d4⟩ := d3.app d.dw.lt
  have hr : r.toNat < spare.length := by omega
  have l4 : S4.length = S.length := d4.len.trans d.len
  have l2 : S2.length = S.length := d.len
  have g1 := fun a b => get1 (a := a) (b := b) l2
  have g0 := fun a b => get0 (a := a) (b := b) l2
  have f1 := fun a b => get1 (a := a) (b := b) l4
  have f0 := fun a b => get0 (a := a) (b := b) l4
  have s1 := fun a b c => set1 (a := a) (b := b) (c := c) l4
  have s0 := fun a b c => set0 (a := a) (b := b) (c := c) l4
  have hsp : (spare.map PV.str)[r.toNat]? = some (.str spare[r.toNat]) := by simp [hr]
  have her : (spare.map PV.str).eraseIdx r.toNat = (spare.eraseIdx r.toNat).map PV.str := erase_map _ _
  have hap : found.map PV.str ++ [PV.str spare[r.toNat]] = (found ++ [spare[r.toNat]]).map PV.str := by simp
  have hsz : found.length < sizeLine := by have : 1000 < sizeLine := by decide
                                           omega
  have hrr : 0 ≤ r ∧ r < 2 ^ 63 := ⟨r0, by omega⟩
  clear hk d3
  refine ⟨_, S4 ++ [.lst ((found ++ [spare[r.toNat]]).map PV.str), .lst ((spare.eraseIdx r.toNat).map PV.str)], ?_, S4, found ++ [spare[r.toNat]], spare.eraseIdx r.toNat, some v, d.trans d4, rfl, ?_, by simp, rfl⟩
  · have k1 : ∀ (e : MEnv) (S1 : Sto), kindN (.l S.length) (S2 ++ [.lst (found.map PV.str), .lst (spare.map PV.str)]) = 3 := fun e S1 => by unfold kindN; simp only; rw [g0]
    have k2 : kindN (.l (S.length + 1)) (S2 ++ [.lst (found.map PV.str), .lst (spare.map PV.str)]) = 3 := by unfold kindN; simp only; rw [g1]
    have hlen : fLen [.l (S.length + 1)] (S2 ++ [.lst (found.map PV.str), .lst (spare.map PV.str)]) = some (.int spare.length) := by unfold fLen; simp only [at_seqOf]; rw [g1]; simp
    have hpop : fPopAt (.l (S.length + 1)) [.p (.int r)] (S4 ++ [.lst (found.map PV.str), .lst (spare.map PV.str)]) = some (.p (.str spare[r.toNat]), S4 ++ [.lst (found.map PV.str), .lst ((spare.eraseIdx r.toNat).map PV.str)]) := by
      unfold fPopAt
      simp only
      rw [f1]
      simp only
      rw [if_pos hrr, hsp, s1, her]
    have happ : fAppend (.l S.length) [.p (.str spare[r.toNat])] (S4 ++ [.lst (found.map PV.str), .lst ((spare.eraseIdx r.toNat).map PV.str)]) = some (.p .non, S4 ++ [.lst ((found ++ [spare[r.toNat]]).map PV.str), .lst ((spare.eraseIdx r.toNat).map PV.str)]) := by
      unfold fAppend
      simp only
      rw [f0]
      simp only
      rw [if_pos (by simpa using hsz), s0, hap]
    simp only [at_dropS, at_bindS, at_mMeth, at_bindM, at_mVar, at_setE, List.set_cons_succ, List.set_cons_zero, List.getElem?_cons_succ, List.getElem?_cons_zero, k1 [] [], k2, if_pos, at_mCons, at_mCall, at_mB, at_mNil, hlen, List.append_nil, ht, hpop, happ]
  · refine .trans ?_ pm
    rw [List.append_assoc]
    exact List.Perm.append_left _ (erase_perm (List.getElem?_eq_getElem hr))
end Q
end

section
set_option Elab.async false
set_option linter.all false
set_option maxRecDepth 100000
set_option maxHeartbeats 1000000
namespace Q
open PySem PySem.Spec L2 Mm
theorem upTo_len {lo : Int} {n : Nat} : (Mm.upTo lo n).length = n := by unfold Mm.upTo; simp
theorem strs_map : ∀ (l : List Str), strsOf (l.map PV.str) = some l
  | [] => rfl
  | x :: l => by
    show (strsOf (l.map PV.str)).map (x :: ·) = _
    rw [strs_map l]
    rfl
theorem names_at {S : Sto} {k many : Nat} {x : Str} {base : List Str} (h : Dw k S) (hs : Txt.split x " " = base) (hx : x.length + 2 ≤ sizeLine) (hm : many ≤ base.length) (hb : base.length < 60) :
    ∃ found S', m__law_names [.l k, .p (.int many), .p (.str x)] S = .ok (.p (.tup ((sortS found).map PV.str))) S' ∧ Dr k S S' ∧ found.length = many ∧ ∃ spare, (found ++ spare).Perm base := by
  have e0 : NmSt k S.length S base many x 0 [some (.l k), some (.p (.int many)), some (.p (.str x)), some (.l S.length), some (.l (S.length + 1)), none] (S ++ [.lst [], .lst (base.map PV.str)]) :=
    ⟨S, [], base, none, .refl h, rfl, .refl _, rfl, rfl⟩
  obtain ⟨e2, S2, hf, S3, found, spare, o, d, rfl, pm, hl, rfl⟩ := for_all (g := gN 5) (xs := Mm.upTo 0 many) (NmSt k S.length S base many x) e0 fun j v e S1 hv q => by
    have hj : j < base.length := by
      have := (List.getElem?_eq_some_iff.mp hv).1
      rw [upTo_len] at this
      omega
    obtain ⟨e2, S2, q1, q2⟩ := name_turn (v := .p v) (by omega) hj q h
    exact ⟨setE e 5 (.p v), e2, S2, rfl, q1, q2⟩
  rw [upTo_len] at hl
  refine ⟨found, S3, ?_, d, hl, spare, pm⟩
  have l3 : S3.length = S.length := d.len
  have hsplit : ∀ S' : Sto, fSplit (.p (.str x)) [.p (.str " ")] S' = some (.l S'.length, S' ++ [.lst (base.map PV.str)]) := fun S' => by
    unfold fSplit
    simp only
    rw [if_pos ⟨by decide, hx⟩, hs]
  have hsort : fSorted [.l S.length] (S3 ++ [.lst (found.map PV.str), .lst (spare.map PV.str)]) = some (.lst ((sortS found).map PV.str)) := by
    unfold fSorted
    simp only [at_lstOf]
    rw [get0 l3]
    simp only
    rw [strs_map]
    simp only
    have hlen : found.length < 64 := by omega
    rw [if_pos hlen]
  have hrange : (many : Int) ≤ 2 ^ 24 ∧ -(2 ^ 62) ≤ (many : Int) := by omega
  have hk1 : kindN (.p (.str x)) (S ++ [.lst []]) = 1 := rfl
  have hap : S ++ [MO.lst []] ++ [MO.lst (base.map PV.str)] = S ++ [.lst [], .lst (base.map PV.str)] := by simp
  have hl1 : (S ++ [MO.lst []]).length = S.length + 1 := by simp
  have ht : (S3 ++ [MO.lst (found.map PV.str), .lst (spare.map PV.str)]).take S.length = S3 := by rw [← l3]; simp
  unfold m__law_names
  simp only [at_mDef, List.map_cons, List.map_nil, List.length_cons, List.length_nil, List.replicate, List.cons_append, List.nil_append, at_seqS, at_parS, at_bindS, at_mCons, at_bindM, at_mLstO, at_mNil, at_p0, Nat.zero_le, if_pos, at_mMeth, at_mVar, List.getElem?_cons_succ, List.getElem?_cons_zero, hk1, at_mC, hsplit, hap, hl1, at_setE, List.set_cons_succ, List.set_cons_zero,
    at_forS, at_mRng1, hrange, and_self, Int.toNat_natCast, hf, at_retS, at_mB, hsort, at_fTuple, at_seqL, at_trim, ht]
end Q
end

section
set_option Elab.async false
set_option linter.all false
set_option maxRecDepth 100000
set_option maxHeartbeats 1000000
namespace Q
open PySem PySem.Spec L2 Mm
/-! ## drawn works, typed -/
abbrev Rec := Str × List Str × List Str × List Str
abbrev Wsh := Str × List Str × Int
structure Wk where
  ts : List Str
  ss : List Str
  rs : List Rec
  ws : List Wsh
def sP (l : List Str) : PV := .tup (l.map .str)
def recP (r : Rec) : PV := .tup [.str r.1, sP r.2.1, sP r.2.2.1, sP r.2.2.2]
def wshP (w : Wsh) : PV := .tup [.str w.1, sP w.2.1, .int w.2.2]
def Wk.partsP (d : Wk) : PV := .tup [sP d.ts, sP d.ss, .tup (d.rs.map recP), .tup (d.ws.map wshP)]
def Wk.objP (d : Wk) : PV := .ins 0 [sP d.ts, sP d.ss, .tup (d.rs.map recP), .tup (d.ws.map wshP)]
def ltS (a b : Str) : Prop := a.cps.toList < b.cps.toList
abbrev Up (l : List Str) : Prop := l.Pairwise ltS
/-- a name: one to eight small letters -/
def nameS (x : Str) : Bool := decide (0 < x.cps.size) && decide (x.cps.size ≤ 8) && x.cps.toList.all fun c => decide (97 ≤ c) && decide (c ≤ 122)
structure RecOk (ts ss : List Str) (r : Rec) : Prop where
  nm : nameS r.1 = true
  puts : List.Sublist r.2.1 ss
  uses : List.Sublist r.2.2.1 ts
  some_ : r.2.2.1 ≠ []
  bars : List.Sublist r.2.2.2 ss
  off : ∀ x ∈ r.2.2.2, x ∉ r.2.1
structure WshOk (ts ss : List Str) (w : Wsh) : Prop where
  tool : w.1 ∈ ts
  takes : List.Sublist w.2.1 ss
  some_ : w.2.1 ≠ []
  price : 1 ≤ w.2.2 ∧ w.2.2 ≤ 9
structure Wk.Ok (d : Wk) : Prop where
  ts : Up d.ts ∧ 2 ≤ d.ts.length ∧ d.ts.length ≤ 6 ∧ ∀ x ∈ d.ts, nameS x = true
  ss : Up d.ss ∧ 1 ≤ d.ss.length ∧ d.ss.length ≤ 4 ∧ ∀ x ∈ d.ss, nameS x = true
  rs : 1 ≤ d.rs.length ∧ d.rs.length ≤ 6 ∧ Up (d.rs.map (·.1)) ∧ ∀ r ∈ d.rs, RecOk d.ts d.ss r
  ws : d.ws.length ≤ 6 ∧ (d.ws.map fun w => (w.1, w.2.1)).Nodup ∧ ∀ w ∈ d.ws, WshOk d.ts d.ss w
def toolWords : List Str := ["bowl", "cup", "knife", "ladle", "pan", "pot", "sieve", "tray"]
def stuffWords : List Str := ["egg", "fish", "gluten", "milk", "nut", "soy"]
def makeWords : List Str := ["bread", "cake", "make", "pie", "salad", "soup", "stew", "wash"]
theorem split_tools : Txt.split ("bowl cup knife ladle pan pot sieve tray" : Str) " " = toolWords := by decide +kernel
theorem split_stuffs : Txt.split ("egg fish gluten milk nut soy" : Str) " " = stuffWords := by decide +kernel
theorem split_makes : Txt.split ("bread cake make pie salad soup stew wash" : Str) " " = makeWords := by decide +kernel
theorem words_nd : toolWords.Nodup ∧ stuffWords.Nodup ∧ makeWords.Nodup := by decide +kernel
theorem words_nm : (∀ x ∈ toolWords, nameS x = true) ∧ (∀ x ∈ stuffWords, nameS x = true) ∧ ∀ x ∈ makeWords, nameS x = true := by decide +kernel
theorem leS_ne {a b : Str} (h : leS a b = true) (hne : a ≠ b) : ltS a b := by
  unfold ltS
  rcases List.le_total b.cps.toList a.cps.toList with q | q
  · have : leS b a = true := by
      unfold leS
      have q : ¬ a.cps.toList < b.cps.toList := q
      simp [q]
    exact absurd (leS_anti h this) hne
  · refine Decidable.byContradiction fun hn => ?_
    have : leS b a = true := by unfold leS; simp [hn]
    exact hne (leS_anti h this)
theorem sort_up {l : List Str} (nd : l.Nodup) : Up (sortS l) := by
  have hs : (sortS l).Pairwise fun a b => leS a b = true := List.pairwise_mergeSort leS_trans leS_tot l
  have hn : (sortS l).Nodup := (List.mergeSort_perm l leS).nodup_iff.mpr nd
  exact List.Pairwise.imp₂ (fun a b h1 h2 => leS_ne h1 h2) hs hn
/-- drawn names: sorted, all of the words -/
theorem names_up {found spare base : List Str} (p : (found ++ spare).Perm base) (nd : base.Nodup) : Up (sortS found) ∧ (sortS found).length = found.length ∧ ∀ x ∈ sortS found, x ∈ base := by
  have pm := List.mergeSort_perm found leS
  have nd2 : (found ++ spare).Nodup := p.nodup_iff.mpr nd
  refine ⟨sort_up (List.nodup_append.mp nd2).1, pm.length_eq, fun x hx => p.subset (List.mem_append_left _ (pm.subset hx))⟩
end Q
end

section
set_option Elab.async false
set_option linter.all false
set_option maxRecDepth 100000
set_option maxHeartbeats 1000000
namespace Q
open PySem PySem.Spec L2 Mm
theorem lots_at {S : Sto} {k most : Nat} {l : List Str} {w : RV} (h : Dw k S) (hw : srcR w = some (l.map .str)) : ∃ ys S', List.Sublist ys l ∧ ys.length ≤ most ∧ m__law_lot [.l k, w, .p (.int most)] S = .ok (.p (sP ys)) S' ∧ Dr k S S' := by
  obtain ⟨ys, S', s, n, e, d⟩ := lot_at (most := most) h hw
  obtain ⟨zs, hz, rfl⟩ := List.sublist_map_iff.mp s
  exact ⟨zs, S', hz, by simpa using n, e, d⟩
theorem names_in {x : Str} {l : List Str} : fIn true (.str x) (sP l) = some (!decide (x ∈ l)) := by
  have hf : ∀ l : List Str, flats (l.map PV.str) = some (l.map V.str) := fun l => by
    induction l with
    | nil => rfl
    | cons y l ih => simp [flats, PV.flat, ih]
  unfold fIn sP
  simp only [PV.flat, hf]
  simp only [if_true]
  have : inV (.str x) (l.map V.str) = decide (x ∈ l) := by
    unfold inV
    induction l with
    | nil => rfl
    | cons y l ih =>
      rw [List.map_cons, List.any_cons, ih]
      have e : eqV (.str y) (.str x) = decide (x = y) := by
        show (y == x) = decide (x = y)
        by_cases q : x = y
        · subst q; simp
        · simp [q, Ne.symm q, beq_eq_false_iff_ne]
      rw [e]
      by_cases q : x = y
      · simp [q]
      · simp [q]
  rw [this]
/-- may be laid, and is not deep -/
def Lay (n : Nat) (x : PV) : Prop := x.D.canLay0 = true ∧ x.D.depth ≤ n
theorem Lay.shp {n : Nat} {x : PV} (h : Lay n x) (hn : n ≤ 64 := by decide) : shp x = true := by
  unfold Mm.shp SeqAt.shaped
  rw [h.1, Bool.true_and]
  exact decide_eq_true (Nat.le_trans h.2 hn)
theorem lays : ∀ {n : Nat} {xs : List PV}, (∀ x ∈ xs, Lay n x) → PyData.canLayAll0 (PV.Ds xs) = true ∧ PyData.depthAll (PV.Ds xs) ≤ n
  | n, [], _ => by unfold PV.Ds; exact ⟨by simp [PyData.canLayAll0], by simp [PyData.depthAll]⟩
  | n, x :: xs, h => by
    obtain ⟨a, b⟩ := lays fun y hy => h y (List.mem_cons_of_mem _ hy)
    obtain ⟨c, d⟩ := h x List.mem_cons_self
    unfold PV.Ds
    refine ⟨by simp [PyData.canLayAll0, a, c], ?_⟩
    simp only [PyData.depthAll]
    exact Nat.max_le.mpr ⟨d, b⟩
theorem Lay.tup {n : Nat} {xs : List PV} (h : ∀ x ∈ xs, Lay n x) : Lay (n + 1) (.tup xs) := by
  obtain ⟨a, b⟩ := lays h
  unfold Lay PV.D
  refine ⟨by simpa [PyData.canLay0] using a, ?_⟩
  simp only [PyData.depth]
  omega
theorem Lay.nil {n : Nat} : Lay (n + 1) (.tup []) := Lay.tup fun x h => by cases h
theorem Lay.str {n : Nat} {x : Str} (h : PyData.strOk x = true) : Lay n (.str x) := by
  unfold Lay PV.D
  exact ⟨by simpa [PyData.canLay0] using h, by simp [PyData.depth]⟩
theorem Lay.names {n : Nat} {l : List Str} (h : ∀ x ∈ l, PyData.strOk x = true) : Lay (n + 1) (sP l) := Lay.tup fun y hy => by
  obtain ⟨x, hx, rfl⟩ := List.mem_map.mp hy
  exact .str (h x hx)
theorem ne_nil {l : List Str} (h : ∀ x ∈ l, PyData.strOk x = true) : fEq true (sP l) (.tup []) = some (!l.isEmpty) := by
  have h1 : Mm.shp (sP l) = true := (Lay.names (n := 0) h).shp
  have h2 : Mm.shp (.tup []) = true := (Lay.nil (n := 0)).shp
  unfold fEq eqF
  unfold sP at h1 ⊢
  simp only [h1, h2, Bool.and_self, if_true]
  cases l with
  | nil => rfl
  | cons x l => rfl
end Q
end

section
set_option Elab.async false
set_option linter.all false
set_option maxRecDepth 100000
set_option maxHeartbeats 1000000
namespace Q
open PySem PySem.Spec L2 Mm
/-- stuffs that are not put -/
theorem off_at {S : Sto} {e : MEnv} {j : Nat} {ss puts : List Str} (h6 : e[6]? = some (some (.p (sP ss)))) (h10 : e[10]? = some (some (.p (sP puts)))) (hj : j < e.length) (h16 : j = 16) :
    mLC false [16] (mSeqI (mVar 6)) (gN 16) (mCmpT (fIn true) (mVar 16) (mVar 10)) (mVar 16) e S = .ok (.p (.lst ((ss.filter fun x => decide (x ∉ puts)).map .str))) S := by
  subst h16
  have st := lcL_pure (g := gN 16) (mt := mCmpT (fIn true) (mVar 16) (mVar 10)) (me := mVar 16) (ew := e.set 16 none) (c := fun x => match x with | .str y => decide (y ∉ puts) | _ => false) (f := id) (ss.map .str) S [] fun x hx => by
    obtain ⟨y, hy, rfl⟩ := List.mem_map.mp hx
    refine ⟨_, rfl, fun a => ?_⟩
    have e16 : (setE (e.set 16 none) 16 (.p (.str y)))[16]? = some (some (.p (.str y))) := by unfold setE; rw [List.getElem?_set_self (by simpa using hj)]
    have e10 : (setE (e.set 16 none) 16 (.p (.str y)))[10]? = some (some (.p (sP puts))) := by unfold setE; rw [List.getElem?_set_ne (by decide), List.getElem?_set_ne (by decide)]; exact h10
    constructor
    · simp only [at_mCmpT, at_bindM, at_mVar, e16, e10, names_in]
      simp
    · intro _
      simp only [at_mVar, e16, id]
  have hf : ∀ l : List Str, ((l.map PV.str).filter fun x => match x with | .str y => decide (y ∉ puts) | _ => false) = (l.filter fun x => decide (x ∉ puts)).map .str := fun l => by
    induction l with
    | nil => rfl
    | cons y l ih =>
      rw [List.map_cons, List.filter_cons, List.filter_cons, ih]
      dsimp only
      split <;> rfl
  rw [hf, List.map_id, List.nil_append] at st
  simp only [at_mLC, at_bindM, at_mSeqI, at_mVar, h6]
  unfold sP
  simp only [at_srcT, at_wipe1, at_wipe0, st, at_lcF0]
end Q
end

section
set_option Elab.async false
set_option linter.all false
set_option maxRecDepth 100000
set_option maxHeartbeats 1000000
namespace Q
open PySem PySem.Spec L2 Mm
/-- the frame of the def that draws a work: its first names, the rest as it may be -/
abbrev wkE (k : Nat) (a1 a2 a3 a4 : RV) (ts ss : List Str) (rs ws : PV) (o : List (Option RV)) : MEnv := some (.l k) :: some a1 :: some a2 :: some a3 :: some a4 :: some (.p (sP ts)) :: some (.p (sP ss)) :: some (.p rs) :: some (.p ws) :: o
abbrev recB : MStm := (seqS (asgS (mTup (mCons (mCall m__law_lot [] (mCons (mVar 0) (mCons (mVar 6) (mCons (mC (.int 3)) mNil)))) (mCons (mCall m__law_lot [] (mCons (mVar 0) (mCons (mVar 5) (mCons (mC (.int 3)) mNil)))) mNil))) (gT 2 (gConsM (gN 10) (gConsM (gN 11) gNilM)))) (seqS (setS 12 (mCall m__law_lot [] (mCons (mVar 0) (mCons (mLC false [16] (mSeqI (mVar 6)) (gN 16) (mCmpT (fIn true) (mVar 16) (mVar 10)) (mVar 16)) (mCons (mC (.int 2)) mNil))))) (setS 7 (mOp2 fAdd (mVar 7) (mTup (mCons (mTup (mCons (mVar 9) (mCons (mVar 10) (mCons (mIf (mCmpT (fEq true) (mVar 11) (mTup mNil)) (mVar 11) (mTup (mCons (mCall m__law_pick [] (mCons (mVar 0) (mCons (mVar 5) mNil))) mNil))) (mCons (mVar 12) mNil))))) mNil))))))
theorem rec_turn {k : Nat} {S : Sto} {a1 a2 a3 a4 : RV} {ts ss : List Str} {rs : List PV} {ws : PV} {o10 o11 o12 o13 o14 o15 o16 o17 : Option RV} {nm : Str} (h : Dw k S) (ht : ts ≠ []) (ht2 : ts.length < 1000) (hn : nameS nm = true) (hr : rs.length < 100) (hok : ∀ x ∈ ts, PyData.strOk x = true) :
    ∃ (r : Rec) (S' : Sto) (p10 p11 p12 p16 : Option RV), recB (wkE k a1 a2 a3 a4 ts ss (.tup rs) ws [some (.p (.str nm)), o10, o11, o12, o13, o14, o15, o16, o17]) S = .next (wkE k a1 a2 a3 a4 ts ss (.tup (rs ++ [recP r])) ws [some (.p (.str nm)), p10, p11, p12, o13, o14, o15, o16, o17]) S' ∧
      Dr k S S' ∧ r.1 = nm ∧ RecOk ts ss r := by
  obtain ⟨puts, S1, q1, n1, e1, d1⟩ := lots_at (most := 3) (w := .p (sP ss)) (l := ss) h rfl
  obtain ⟨uses, S2, q2, n2, e2, d2⟩ := lots_at (most := 3) (w := .p (sP ts)) (l := ts) d1.dw rfl
  obtain ⟨F, hF⟩ : ∃ F, F = ss.filter fun x => decide (x ∉ puts) := ⟨_, rfl⟩
  obtain ⟨bars, S3, q3, n3, e3, d3⟩ := lots_at (most := 2) (w := .p (.lst (F.map .str))) (l := F) d2.dw rfl
  have e1 : m__law_lot [.l k, .p (sP ss), .p (.int 3)] S = .ok (.p (sP puts)) S1 := e1
  have e2 : m__law_lot [.l k, .p (sP ts), .p (.int 3)] S1 = .ok (.p (sP uses)) S2 := e2
  have e3 : m__law_lot [.l k, .p (.lst (F.map .str)), .p (.int 2)] S2 = .ok (.p (sP bars)) S3 := e3
  have hoff := off_at (S := S2) (e := [some (.l k), some a1, some a2, some a3, some a4, some (.p (sP ts)), some (.p (sP ss)), some (.p (.tup rs)), some (.p ws), some (.p (.str nm)), some (.p (sP puts)), some (.p (sP uses)), o12, o13, o14, o15, o16, o17]) (j := 16) (ss := ss) (puts := puts) rfl rfl (by simp) rfl
  rw [← hF] at hoff
  have d := (d1.trans d2).trans d3
  have hz : rs.length + 1 ≤ sizeLine := by
    have : 1000 < sizeLine := by decide
    omega
  have ba : ∀ x ∈ bars, x ∉ puts := fun x hx => by
    have z := q3.subset hx
    rw [hF] at z
    simpa using (List.mem_filter.mp z).2
  have q3 : List.Sublist bars ss := q3.trans (by rw [hF]; exact List.filter_sublist)
  have hu := ne_nil (l := uses) fun x hx => hok x (q2.subset hx)
  cases hc : uses.isEmpty with
  | false =>
    have hne : uses ≠ [] := fun z => by rw [z] at hc; cases hc
    rw [hc] at hu
    refine ⟨(nm, puts, uses, bars), S3, some (.p (sP puts)), some (.p (sP uses)), some (.p (sP bars)), none, ?_, d, rfl, ⟨hn, q1, q2, hne, q3, ba⟩⟩
    simp [-at_mLC, e1, e2, hoff, e3, hu, hz, recP]
  | true =>
    have hemp : uses = [] := List.isEmpty_iff.mp hc
    rw [hc] at hu
    obtain ⟨x, S4, hx, e4, d4⟩ := pick_at (k := k) (S := S3) (xs := ts.map .str) d3.dw (by simpa using ht) (by simp; omega)
    obtain ⟨y, hy, rfl⟩ := List.mem_map.mp hx
    have e4 : m__law_pick [.l k, .p (sP ts)] S3 = .ok (.p (.str y)) S4 := e4
    refine ⟨(nm, puts, [y], bars), S4, some (.p (sP puts)), some (.p (sP uses)), some (.p (sP bars)), none, ?_, d.trans d4, rfl, ⟨hn, q1, List.singleton_sublist.mpr hy, by simp, q3, ba⟩⟩
    simp [-at_mLC, e1, e2, hoff, e3, hu, hz, recP, e4]
    try rfl
end Q
end

section
set_option Elab.async false
set_option linter.all false
set_option maxRecDepth 100000
set_option maxHeartbeats 1000000
namespace Q
open PySem PySem.Spec L2 Mm
theorem eqv_strs : ∀ {a b : List Str}, PyData.eqvAll (PV.Ds (a.map .str)) (PV.Ds (b.map .str)) = decide (a = b)
  | [], [] => by simp [PV.Ds, PyData.eqvAll]
  | [], y :: b => by simp [PV.Ds, PyData.eqvAll]
  | x :: a, [] => by simp [PV.Ds, PyData.eqvAll]
  | x :: a, y :: b => by
    have ih := eqv_strs (a := a) (b := b)
    rw [List.map_cons, List.map_cons]
    unfold PV.Ds
    unfold PyData.eqvAll
    rw [ih]
    unfold PV.D PyData.eqv
    by_cases h : x = y
    · subst h; simp
    · simp [h]
def pairP (w : Str × List Str) : PV := .tup [.str w.1, sP w.2]
theorem eqv_pair {a b : Str × List Str} : PyData.eqv (pairP a).D (pairP b).D = decide (a = b) := by
  obtain ⟨x, l⟩ := a
  obtain ⟨y, m⟩ := b
  have h : PyData.eqv (sP l).D (sP m).D = decide (l = m) := by
    unfold sP PV.D PyData.eqv
    exact eqv_strs
  unfold pairP
  simp only [PV.D, PV.Ds, PyData.eqv, PyData.eqvAll, h, Bool.and_true]
  by_cases e1 : x = y
  · subst e1; simp
  · simp [e1]
theorem pair_in {a : Str × List Str} {l : List (Str × List Str)} (h : ∀ p ∈ a :: l, PyData.strOk p.1 = true ∧ ∀ x ∈ p.2, PyData.strOk x = true) : fIn true (pairP a) (.lst (l.map pairP)) = some (!decide (a ∈ l)) := by
  have lay : ∀ p ∈ a :: l, Lay 2 (pairP p) := fun p hp => Lay.tup fun y hy => by
    simp only [List.mem_cons, List.not_mem_nil, or_false] at hy
    rcases hy with rfl | rfl
    · exact .str (h p hp).1
    · exact .names (h p hp).2
  have h1 : Mm.shp (pairP a) = true := (lay a List.mem_cons_self).shp
  have h2 : Mm.shp (.lst (l.map pairP)) = true := by
    have q := lays (n := 2) (xs := l.map pairP) fun y hy => by
      obtain ⟨p, hp, rfl⟩ := List.mem_map.mp hy
      exact lay p (List.mem_cons_of_mem _ hp)
    unfold Mm.shp SeqAt.shaped PV.D
    have q2 := q.2
    simp [PyData.canLay0, PyData.depth, q.1]
    omega
  have hflat : (pairP a).flat = none := rfl
  unfold fIn
  simp only [hflat, h1, h2, Bool.and_self, if_true]
  have hany : ((PV.Ds (l.map pairP)).any fun z => PyData.eqv z (pairP a).D) = decide (a ∈ l) := by
    clear h2 lay h
    rw [Ds_map]
    induction l with
    | nil => rfl
    | cons p l ih =>
      rw [List.map_cons, List.map_cons, List.any_cons, ih, eqv_pair]
      by_cases q : p = a
      · subst q; simp
      · simp [q, Ne.symm q]
  rw [hany]
end Q
end

section
set_option Elab.async false
set_option linter.all false
set_option maxRecDepth 100000
set_option maxHeartbeats 1000000
namespace Q
open PySem PySem.Spec L2 Mm
def Wsh.key (w : Wsh) : Str × List Str := (w.1, w.2.1)
theorem keys_at {S : Sto} {e : MEnv} {ws : List Wsh} (h8 : e[8]? = some (some (.p (.tup (ws.map wshP))))) (hl : 17 < e.length) :
    mLC false [17] (mSeqI (mVar 8)) (gN 17) tYesM (mSl (mVar 17) mNoP (mPart (mC (.int 2)))) e S = .ok (.p (.lst ((ws.map Wsh.key).map pairP))) S := by
  have st := lcL_pure (g := gN 17) (mt := tYesM) (me := mSl (mVar 17) mNoP (mPart (mC (.int 2)))) (ew := e.set 17 none) (c := fun _ => true) (f := fun x => match x with | .tup xs => .tup (cutP xs none (some 2)) | y => y) (ws.map wshP) S [] fun x hx => by
    obtain ⟨w, hw, rfl⟩ := List.mem_map.mp hx
    refine ⟨_, rfl, fun a => ⟨rfl, fun _ => ?_⟩⟩
    have e17 : (setE (e.set 17 none) 17 (.p (wshP w)))[17]? = some (some (.p (wshP w))) := by unfold setE; rw [List.getElem?_set_self (by simpa using hl)]
    simp only [at_mSl, at_bindM, at_mVar, e17, at_mNoP, at_mPart, at_mC]
    rfl
  have hm : (ws.map wshP).map (fun x => match x with | .tup xs => .tup (cutP xs none (some 2)) | y => y) = (ws.map Wsh.key).map pairP := by
    rw [List.map_map, List.map_map]
    refine List.map_congr_left fun w _ => ?_
    rfl
  rw [List.filter_eq_self.mpr fun _ _ => rfl, hm, List.nil_append] at st
  simp only [at_mLC, at_bindM, at_mSeqI, at_mVar, h8, at_srcT, at_wipe1, at_wipe0, st, at_lcF0]
end Q
end

section
set_option Elab.async false
set_option linter.all false
set_option maxRecDepth 100000
set_option maxHeartbeats 1000000
namespace Q
open PySem PySem.Spec L2 Mm
abbrev wshB : MStm := (seqS (setS 14 (mIf (mCmpT (fEq false) (mCall m__law_take [] (mCons (mVar 0) (mCons (mC (.int 2)) mNil))) (mC (.int 0))) (mCall m__law_lot [] (mCons (mVar 0) (mCons (mVar 6) (mCons (mC (.int 4)) mNil)))) (mVar 6))) (seqS (setS 15 (mTup (mCons (mCall m__law_pick [] (mCons (mVar 0) (mCons (mVar 5) mNil))) (mCons (mIf (mCmpT (fEq true) (mVar 14) (mTup mNil)) (mVar 14) (mSl (mVar 6) mNoP (mPart (mC (.int 1))))) (mCons (mOp2 fAdd (mC (.int 1)) (mCall m__law_take [] (mCons (mVar 0) (mCons (mC (.int 9)) mNil)))) mNil))))) (setS 8 (mOp2 fAdd (mVar 8) (mIf (mCmpT (fIn true) (mSl (mVar 15) mNoP (mPart (mC (.int 2)))) (mLC false [17] (mSeqI (mVar 8)) (gN 17) tYesM (mSl (mVar 17) mNoP (mPart (mC (.int 2)))))) (mTup (mCons (mVar 15) mNil)) (mTup mNil))))))
theorem eq_int {i j : Int} : fEq false (.int i) (.int j) = some (i == j) := rfl
theorem wsh_turn {k : Nat} {S : Sto} {a1 a2 a3 a4 : RV} {ts ss : List Str} {rs : PV} {ws : List Wsh} {o9 o10 o11 o12 o13 o14 o15 o16 o17 : Option RV} (h : Dw k S) (ht : ts ≠ []) (ht2 : ts.length < 1000) (hs : ss ≠ []) (hw : ws.length < 100) (ho : ∀ w ∈ ws, WshOk ts ss w)
    (hok : ∀ x ∈ ts, PyData.strOk x = true) (hok2 : ∀ x ∈ ss, PyData.strOk x = true) :
    ∃ (w : Wsh) (S' : Sto) (p14 p15 : Option RV), wshB (wkE k a1 a2 a3 a4 ts ss rs (.tup (ws.map wshP)) [o9, o10, o11, o12, o13, o14, o15, o16, o17]) S =
        .next (wkE k a1 a2 a3 a4 ts ss rs (.tup ((if w.key ∈ ws.map Wsh.key then ws else ws ++ [w]).map wshP)) [o9, o10, o11, o12, o13, p14, p15, o16, o17]) S' ∧ Dr k S S' ∧ WshOk ts ss w := by
  obtain ⟨r, S1, r0, r1, e1, d1⟩ := take_at (n := 2) h (by omega) (by omega)
  obtain ⟨tk, S2, q2, d2, hif⟩ : ∃ (tk : List Str) (S2 : Sto), List.Sublist tk ss ∧ Dr k S1 S2 ∧ (if r = 0 then m__law_lot [.l k, .p (sP ss), .p (.int 4)] S1 else .ok (.p (sP ss)) S1) = .ok (.p (sP tk)) S2 := by
    obtain ⟨ys, S2, q, _, e, d⟩ := lots_at (most := 4) (w := .p (sP ss)) (l := ss) d1.dw rfl
    by_cases hr : r = 0
    · exact ⟨ys, S2, q, d, by rw [if_pos hr]; exact e⟩
    · exact ⟨ss, S1, .refl _, .refl d1.dw, by rw [if_neg hr]⟩
  obtain ⟨x, S3, hx, e3, d3⟩ := pick_at (k := k) (S := S2) (xs := ts.map .str) d2.dw (by simpa using ht) (by simp; omega)
  obtain ⟨y, hy, rfl⟩ := List.mem_map.mp hx
  have e3 : m__law_pick [.l k, .p (sP ts)] S2 = .ok (.p (.str y)) S3 := e3
  obtain ⟨p, S4, p0, p1, e4, d4⟩ := take_at (n := 9) d3.dw (by omega) (by omega)
  have hu := ne_nil (l := tk) fun z hz => hok2 z (q2.subset hz)
  obtain ⟨us, hus, hus2, hus3⟩ : ∃ us : List Str, us ≠ [] ∧ List.Sublist us ss ∧ (if (!tk.isEmpty) = true then sP tk else .tup (cutP (ss.map PV.str) none (some 1))) = sP us := by
    cases hc : tk.isEmpty with
    | false => exact ⟨tk, fun z => by (rw [z] at hc; cases hc), q2, rfl⟩
    | true =>
      refine ⟨ss.take 1, fun z => ?_, List.take_sublist _ _, ?_⟩
      · cases ss with
        | nil => exact hs rfl
        | cons a l => simp at z
      · have e : cutP (ss.map PV.str) none (some 1) = (ss.map PV.str).take 1 := cutP_most (n := 1)
        simp [e, sP]
  have hk := pair_in (a := (y, us)) (l := ws.map Wsh.key) fun q hq => by
    rcases List.mem_cons.mp hq with rfl | hq
    · exact ⟨hok y hy, fun z hz => hok2 z (hus2.subset hz)⟩
    · obtain ⟨w, hw, rfl⟩ := List.mem_map.mp hq
      exact ⟨hok _ (ho w hw).tool, fun z hz => hok2 z ((ho w hw).takes.subset hz)⟩
  have s14 : setS 14 (mIf (mCmpT (fEq false) (mCall m__law_take [] (mCons (mVar 0) (mCons (mC (.int 2)) mNil))) (mC (.int 0))) (mCall m__law_lot [] (mCons (mVar 0) (mCons (mVar 6) (mCons (mC (.int 4)) mNil)))) (mVar 6))
      (wkE k a1 a2 a3 a4 ts ss rs (.tup (ws.map wshP)) [o9, o10, o11, o12, o13, o14, o15, o16, o17]) S = .next (wkE k a1 a2 a3 a4 ts ss rs (.tup (ws.map wshP)) [o9, o10, o11, o12, o13, some (.p (sP tk)), o15, o16, o17]) S2 := by
    by_cases hr : r = 0
    · rw [if_pos hr] at hif
      simp [e1, eq_int, hr, hif]
    · rw [if_neg hr] at hif
      obtain ⟨z1, z2⟩ : RV.p (sP ss) = .p (sP tk) ∧ S1 = S2 := by
        injection hif with a b
        exact ⟨a, b⟩
      have z1 : sP ss = sP tk := RV.p.inj z1
      simp [e1, eq_int, hr, z1, z2]
  have s15 : setS 15 (mTup (mCons (mCall m__law_pick [] (mCons (mVar 0) (mCons (mVar 5) mNil))) (mCons (mIf (mCmpT (fEq true) (mVar 14) (mTup mNil)) (mVar 14) (mSl (mVar 6) mNoP (mPart (mC (.int 1))))) (mCons (mOp2 fAdd (mC (.int 1)) (mCall m__law_take [] (mCons (mVar 0) (mCons (mC (.int 9)) mNil)))) mNil))))
      (wkE k a1 a2 a3 a4 ts ss rs (.tup (ws.map wshP)) [o9, o10, o11, o12, o13, some (.p (sP tk)), o15, o16, o17]) S2 = .next (wkE k a1 a2 a3 a4 ts ss rs (.tup (ws.map wshP)) [o9, o10, o11, o12, o13, some (.p (sP tk)), some (.p (wshP (y, us, 1 + p))), o16, o17]) S4 := by
    cases hc : tk.isEmpty with
    | false =>
      rw [hc] at hu hus3
      have hus3 : sP tk = sP us := hus3
      rw [hus3] at hu ⊢
      simp [e3, hu, e4, wshP]
    | true =>
      rw [hc] at hu hus3
      have hus3 : PV.tup (cutP (ss.map PV.str) none (some 1)) = sP us := hus3
      have e6 : sP ss = .tup (ss.map PV.str) := rfl
      simp [e3, hu, e4, wshP, e6, ← hus3]
  have hz : ∀ n : Nat, n < 200 → n ≤ sizeLine := fun n hn => by
    have : 1000 < sizeLine := by decide
    omega
  have s8 : setS 8 (mOp2 fAdd (mVar 8) (mIf (mCmpT (fIn true) (mSl (mVar 15) mNoP (mPart (mC (.int 2)))) (mLC false [17] (mSeqI (mVar 8)) (gN 17) tYesM (mSl (mVar 17) mNoP (mPart (mC (.int 2)))))) (mTup (mCons (mVar 15) mNil)) (mTup mNil)))
      (wkE k a1 a2 a3 a4 ts ss rs (.tup (ws.map wshP)) [o9, o10, o11, o12, o13, some (.p (sP tk)), some (.p (wshP (y, us, 1 + p))), o16, o17]) S4 =
      .next (wkE k a1 a2 a3 a4 ts ss rs (.tup ((if (y, us) ∈ ws.map Wsh.key then ws else ws ++ [(y, us, 1 + p)]).map wshP)) [o9, o10, o11, o12, o13, some (.p (sP tk)), some (.p (wshP (y, us, 1 + p))), o16, o17]) S4 := by
    have hkeys := keys_at (S := S4) (e := wkE k a1 a2 a3 a4 ts ss rs (.tup (ws.map wshP)) [o9, o10, o11, o12, o13, some (.p (sP tk)), some (.p (wshP (y, us, 1 + p))), o16, o17]) (ws := ws) rfl (by simp)
    have hcut : PV.tup (cutP [.str y, sP us, .int (1 + p)] none (some 2)) = pairP (y, us) := rfl
    have hw8 : wshP (y, us, 1 + p) = .tup [.str y, sP us, .int (1 + p)] := rfl
    have z1 := hz (ws.length + 1) (by omega)
    have z0 := hz ws.length (by omega)
    by_cases hm : (y, us) ∈ ws.map Wsh.key
    · rw [decide_eq_true hm] at hk
      rw [if_pos hm]
      rw [hw8] at hkeys ⊢
      simp [-at_mLC, -List.map_map, hkeys, hcut, hk, z0]
    · rw [decide_eq_false hm] at hk
      rw [if_neg hm]
      rw [hw8] at hkeys ⊢
      simp [-at_mLC, -List.map_map, hkeys, hcut, hk, z1, hw8]
  refine ⟨(y, us, 1 + p), S4, some (.p (sP tk)), some (.p (wshP (y, us, 1 + p))), ?_, ((d1.trans d2).trans d3).trans d4, ⟨hy, hus2, hus, by show 1 ≤ 1 + p ∧ 1 + p ≤ 9; omega⟩⟩
  show seqS _ _ _ _ = _
  rw [at_seqS, s14]
  show seqS _ _ _ _ = _
  rw [at_seqS, s15]
  exact s8
end Q
end

section
set_option Elab.async false
set_option linter.all false
set_option maxRecDepth 100000
set_option maxHeartbeats 1000000
namespace Q
open PySem PySem.Spec L2 Mm
theorem recs_loop {k : Nat} {S : Sto} {a1 a2 a3 a4 : RV} {ts ss : List Str} {ws : PV} {o9 o10 o11 o12 o13 o14 o15 o16 o17 : Option RV} {nms : List Str} (h : Dw k S) (ht : ts ≠ []) (ht2 : ts.length < 1000) (hn : ∀ x ∈ nms, nameS x = true) (hl : nms.length < 100) (hok : ∀ x ∈ ts, PyData.strOk x = true) :
    ∃ (rs : List Rec) (S' : Sto) (p9 p10 p11 p12 p16 : Option RV), forL (gN 9) recB (nms.map .str) (wkE k a1 a2 a3 a4 ts ss (.tup []) ws [o9, o10, o11, o12, o13, o14, o15, o16, o17]) S = .next (wkE k a1 a2 a3 a4 ts ss (.tup (rs.map recP)) ws [p9, p10, p11, p12, o13, o14, o15, p16, o17]) S' ∧
      Dr k S S' ∧ rs.map (·.1) = nms ∧ ∀ r ∈ rs, RecOk ts ss r := by
  obtain ⟨e2, S2, hf, rs, p9, p10, p11, p12, p16, rfl, d, hnm, hr⟩ := for_all (g := gN 9) (b := recB) (xs := nms.map .str) (e := wkE k a1 a2 a3 a4 ts ss (.tup []) ws [o9, o10, o11, o12, o13, o14, o15, o16, o17]) (S := S)
    (fun j e S1 => ∃ (rs : List Rec) (p9 p10 p11 p12 p16 : Option RV), e = wkE k a1 a2 a3 a4 ts ss (.tup (rs.map recP)) ws [p9, p10, p11, p12, o13, o14, o15, p16, o17] ∧ Dr k S S1 ∧ rs.map (·.1) = nms.take j ∧ ∀ r ∈ rs, RecOk ts ss r)
    ⟨[], o9, o10, o11, o12, o16, rfl, .refl h, by simp, fun r hr => by cases hr⟩ fun j x e S1 hx ⟨rs, p9, p10, p11, p12, p16, he, d, hnm, hr⟩ => by
      rw [List.getElem?_map] at hx
      obtain ⟨nm, hnm2, rfl⟩ := Option.map_eq_some_iff.mp hx
      subst he
      have hlen : rs.length ≤ nms.length := by
        have := congrArg List.length hnm
        simp at this
        omega
      obtain ⟨r, S', q10, q11, q12, q16, e1, d1, e2, ok⟩ := rec_turn (k := k) (S := S1) (a1 := a1) (a2 := a2) (a3 := a3) (a4 := a4) (ts := ts) (ss := ss) (rs := rs.map recP) (ws := ws) (o10 := p10) (o11 := p11) (o12 := p12) (o13 := o13) (o14 := o14) (o15 := o15) (o16 := p16) (o17 := o17) (nm := nm)
        d.dw ht ht2 (hn nm (List.mem_of_getElem? hnm2)) (by simp; omega) hok
      refine ⟨_, _, S', rfl, e1, rs ++ [r], some (.p (.str nm)), q10, q11, q12, p16, by simp, d.trans d1, ?_, fun r' hr' => ?_⟩
      · rw [List.map_append, hnm, List.take_succ, hnm2, List.map_cons, List.map_nil, e2]
        rfl
      · rcases List.mem_append.mp hr' with q | q
        · exact hr r' q
        · rw [List.mem_singleton.mp q]; exact ok
  refine ⟨rs, S2, p9, p10, p11, p12, p16, hf, d, ?_, hr⟩
  rw [hnm]
  simp
end Q
end

section
set_option Elab.async false
set_option linter.all false
set_option maxRecDepth 100000
set_option maxHeartbeats 1000000
namespace Q
open PySem PySem.Spec L2 Mm
theorem wshs_loop {k : Nat} {S : Sto} {a1 a2 a3 a4 : RV} {ts ss : List Str} {rs : PV} {o9 o10 o11 o12 o13 o14 o15 o16 o17 : Option RV} {n : Nat} (h : Dw k S) (ht : ts ≠ []) (ht2 : ts.length < 1000) (hs : ss ≠ []) (hn : n < 100)
    (hok : ∀ x ∈ ts, PyData.strOk x = true) (hok2 : ∀ x ∈ ss, PyData.strOk x = true) :
    ∃ (ws : List Wsh) (S' : Sto) (p13 p14 p15 : Option RV), forL (gN 13) wshB (Mm.upTo 0 n) (wkE k a1 a2 a3 a4 ts ss rs (.tup []) [o9, o10, o11, o12, o13, o14, o15, o16, o17]) S = .next (wkE k a1 a2 a3 a4 ts ss rs (.tup (ws.map wshP)) [o9, o10, o11, o12, p13, p14, p15, o16, o17]) S' ∧
      Dr k S S' ∧ ws.length ≤ n ∧ (ws.map Wsh.key).Nodup ∧ ∀ w ∈ ws, WshOk ts ss w := by
  obtain ⟨e2, S2, hf, ws, p13, p14, p15, rfl, d, hl, hnd, hr⟩ := for_all (g := gN 13) (b := wshB) (xs := Mm.upTo 0 n) (e := wkE k a1 a2 a3 a4 ts ss rs (.tup []) [o9, o10, o11, o12, o13, o14, o15, o16, o17]) (S := S)
    (fun j e S1 => ∃ (ws : List Wsh) (p13 p14 p15 : Option RV), e = wkE k a1 a2 a3 a4 ts ss rs (.tup (ws.map wshP)) [o9, o10, o11, o12, p13, p14, p15, o16, o17] ∧ Dr k S S1 ∧ ws.length ≤ j ∧ (ws.map Wsh.key).Nodup ∧ ∀ w ∈ ws, WshOk ts ss w)
    ⟨[], o13, o14, o15, rfl, .refl h, by simp, by simp, fun r hr => by cases hr⟩ fun j x e S1 hx ⟨ws, p13, p14, p15, he, d, hl, hnd, hr⟩ => by
      subst he
      have hj : j < n := by
        have := (List.getElem?_eq_some_iff.mp hx).1
        rwa [upTo_len] at this
      obtain ⟨w, S', q14, q15, e1, d1, ok⟩ := wsh_turn (k := k) (S := S1) (a1 := a1) (a2 := a2) (a3 := a3) (a4 := a4) (ts := ts) (ss := ss) (rs := rs) (ws := ws) (o9 := o9) (o10 := o10) (o11 := o11) (o12 := o12) (o13 := some (.p x)) (o14 := p14) (o15 := p15) (o16 := o16) (o17 := o17)
        d.dw ht ht2 hs (by omega) hr hok hok2
      refine ⟨_, _, S', rfl, e1, _, some (.p x), q14, q15, rfl, d.trans d1, ?_, ?_, ?_⟩
      · split
        · omega
        · simp; omega
      · split
        · exact hnd
        · rename_i hm
          rw [List.map_append, List.map_cons, List.map_nil]
          exact List.nodup_append.mpr ⟨hnd, by simp, fun a ha b hb => by rw [List.mem_singleton.mp hb]; exact fun z => hm (z ▸ ha)⟩
      · split
        · exact hr
        · intro w' hw'
          rcases List.mem_append.mp hw' with q | q
          · exact hr w' q
          · rw [List.mem_singleton.mp q]; exact ok
  rw [upTo_len] at hl
  exact ⟨ws, S2, p13, p14, p15, hf, d, hl, hnd, hr⟩
end Q
end

section
set_option Elab.async false
set_option linter.all false
set_option maxRecDepth 100000
set_option maxHeartbeats 1000000
namespace Q
open PySem PySem.Spec L2 Mm
theorem words_ok : (∀ x ∈ toolWords, PyData.strOk x = true) ∧ (∀ x ∈ stuffWords, PyData.strOk x = true) ∧ ∀ x ∈ makeWords, PyData.strOk x = true := by decide +kernel
theorem words_len : ("bowl cup knife ladle pan pot sieve tray" : Str).length + 2 ≤ sizeLine ∧ ("egg fish gluten milk nut soy" : Str).length + 2 ≤ sizeLine ∧ ("bread cake make pie salad soup stew wash" : Str).length + 2 ≤ sizeLine := by decide +kernel
theorem work_at {k : Nat} {S : Sto} {many kinds rh wh : Nat} (h : Dw k S) (h1 : 2 ≤ many ∧ many ≤ 6) (h2 : 1 ≤ kinds ∧ kinds ≤ 4) (h3 : 1 ≤ rh ∧ rh ≤ 6) (h4 : wh ≤ 6) :
    ∃ (d : Wk) (S' : Sto), m__law_work [.l k, .p (.int many), .p (.int kinds), .p (.int rh), .p (.int wh)] S = .ok (.p d.partsP) S' ∧ Dr k S S' ∧ d.Ok := by
  obtain ⟨f1, S1, e1, d1, l1, sp1, pm1⟩ := names_at (many := many) h split_tools words_len.1 (by show many ≤ 8; omega) (by show 8 < 60; omega)
  obtain ⟨f2, S2, e2, d2, l2, sp2, pm2⟩ := names_at (many := kinds) d1.dw split_stuffs words_len.2.1 (by show kinds ≤ 6; omega) (by show 6 < 60; omega)
  obtain ⟨f3, S3, e3, d3, l3, sp3, pm3⟩ := names_at (many := rh) d2.dw split_makes words_len.2.2 (by show rh ≤ 8; omega) (by show 8 < 60; omega)
  obtain ⟨u1, n1, m1⟩ := names_up pm1 words_nd.1
  obtain ⟨u2, n2, m2⟩ := names_up pm2 words_nd.2.1
  obtain ⟨u3, n3, m3⟩ := names_up pm3 words_nd.2.2
  obtain ⟨ts, ets⟩ : ∃ ts, ts = sortS f1 := ⟨_, rfl⟩
  obtain ⟨ss, ess⟩ : ∃ ss, ss = sortS f2 := ⟨_, rfl⟩
  obtain ⟨ns, ens⟩ : ∃ ns, ns = sortS f3 := ⟨_, rfl⟩
  rw [← ets] at e1 u1 n1 m1
  rw [← ess] at e2 u2 n2 m2
  rw [← ens] at e3 u3 n3 m3
  have ok1 : ∀ x ∈ ts, PyData.strOk x = true := fun x hx => words_ok.1 x (m1 x hx)
  have ok2 : ∀ x ∈ ss, PyData.strOk x = true := fun x hx => words_ok.2.1 x (m2 x hx)
  have t0 : ts ≠ [] := fun z => by rw [z] at n1; simp at n1; omega
  have s0 : ss ≠ [] := fun z => by rw [z] at n2; simp at n2; omega
  obtain ⟨rs, S4, p9, p10, p11, p12, p16, e4, d4, hn, hr⟩ := recs_loop (a1 := .p (.int many)) (a2 := .p (.int kinds)) (a3 := .p (.int rh)) (a4 := .p (.int wh)) (ts := ts) (ss := ss) (ws := .tup []) (o9 := none) (o10 := none) (o11 := none) (o12 := none) (o13 := none) (o14 := none) (o15 := none) (o16 := none) (o17 := none) (nms := ns) d3.dw t0 (by omega) (fun x hx => words_nm.2.2 x (m3 x hx)) (by omega) ok1
  obtain ⟨ws, S5, p13, p14, p15, e5, d5, lw, ndw, hw⟩ := wshs_loop (a1 := .p (.int many)) (a2 := .p (.int kinds)) (a3 := .p (.int rh)) (a4 := .p (.int wh)) (ts := ts) (ss := ss) (rs := .tup (rs.map recP)) (o9 := p9) (o10 := p10) (o11 := p11) (o12 := p12) (o13 := none) (o14 := none) (o15 := none) (o16 := p16) (o17 := none) (n := wh) d4.dw t0 (by omega) s0 (by omega) ok1 ok2
  have lrs : rs.length = ns.length := by rw [← hn]; simp
  have dd := (((d1.trans d2).trans d3).trans d4).trans d5
  refine ⟨⟨ts, ss, rs, ws⟩, S5, ?_, dd, ⟨⟨u1, by show 2 ≤ ts.length; omega, by show ts.length ≤ 6; omega, fun x hx => words_nm.1 x (m1 x hx)⟩, ⟨u2, by show 1 ≤ ss.length; omega, by show ss.length ≤ 4; omega, fun x hx => words_nm.2.1 x (m2 x hx)⟩, ⟨by show 1 ≤ rs.length; omega, by show rs.length ≤ 6; omega, by show Up (rs.map (·.1)); rw [hn]; exact u3, hr⟩, by show ws.length ≤ 6; omega, ndw, hw⟩⟩
  have e1 : m__law_names [.l k, .p (.int many), .p (.str "bowl cup knife ladle pan pot sieve tray")] S = .ok (.p (sP ts)) S1 := e1
  have e2 : m__law_names [.l k, .p (.int kinds), .p (.str "egg fish gluten milk nut soy")] S1 = .ok (.p (sP ss)) S2 := e2
  have hrange : (wh : Int) ≤ 2 ^ 24 ∧ -(2 ^ 62) ≤ (wh : Int) := by omega
  unfold m__law_work
  simp only [at_mDef, List.map_cons, List.map_nil, List.length_cons, List.length_nil, List.replicate, List.cons_append, List.nil_append, at_seqS, at_setS, at_bindS, at_mCall, at_mCons, at_bindM, at_mVar, at_mC, at_mNil, List.getElem?_cons_succ, List.getElem?_cons_zero, List.append_nil, e1, at_setE, List.set_cons_succ, List.set_cons_zero, at_par3S, e2, at_mTup, at_p0, Nat.zero_le, if_pos, at_forS, at_mSeqI, e3, at_srcT, e4, at_mRng1, hrange, and_self, Int.toNat_natCast, e5, at_retS, at_p1, at_trim, dd.take, Wk.partsP, Nat.reduceLeDiff, Nat.reduceAdd]
end Q
end

section
set_option Elab.async false
set_option linter.all false
set_option maxRecDepth 100000
set_option maxHeartbeats 1000000
namespace Q
open PySem PySem.Spec L2 Mm
/-- a draw, as a natural number -/
theorem take_nat {S : Sto} {k n : Nat} (h : Dw k S) (hn : 0 < n) (hn2 : n < 1000000) : ∃ (r : Nat) (S' : Sto), r < n ∧ m__law_take [.l k, .p (.int n)] S = .ok (.p (.int r)) S' ∧ Dr k S S' := by
  obtain ⟨r, S', h0, h1, e, d⟩ := take_at (n := n) h (by omega) (by omega)
  refine ⟨r.toNat, S', by omega, ?_, d⟩
  rw [Int.toNat_of_nonneg h0]
  exact e
theorem drawn_at {k : Nat} {S : Sto} (h : Dw k S) : ∃ (d : Wk) (S' : Sto), m__law_drawn [.l k] S = .ok (.p d.partsP) S' ∧ Dr k S S' ∧ d.Ok := by
  obtain ⟨r1, S1, b1, e1, d1⟩ := take_nat (n := 5) h (by omega) (by omega)
  obtain ⟨r2, S2, b2, e2, d2⟩ := take_nat (n := 4) d1.dw (by omega) (by omega)
  obtain ⟨r3, S3, b3, e3, d3⟩ := take_nat (n := 6) d2.dw (by omega) (by omega)
  obtain ⟨r4, S4, b4, e4, d4⟩ := take_nat (n := 7) d3.dw (by omega) (by omega)
  obtain ⟨d, S5, e5, d5, ok⟩ := work_at (many := 2 + r1) (kinds := 1 + r2) (rh := 1 + r3) (wh := r4) d4.dw (by omega) (by omega) (by omega) (by omega)
  have dd := (((d1.trans d2).trans d3).trans d4).trans d5
  refine ⟨d, S5, ?_, dd, ok⟩
  have e1 : m__law_take [.l k, .p (.int 5)] S = .ok (.p (.int r1)) S1 := e1
  have e2 : m__law_take [.l k, .p (.int 4)] S1 = .ok (.p (.int r2)) S2 := e2
  have e3 : m__law_take [.l k, .p (.int 6)] S2 = .ok (.p (.int r3)) S3 := e3
  have e4 : m__law_take [.l k, .p (.int 7)] S3 = .ok (.p (.int r4)) S4 := e4
  have e5 : m__law_work [.l k, .p (.int (2 + (r1 : Int))), .p (.int (1 + (r2 : Int))), .p (.int (1 + (r3 : Int))), .p (.int r4)] S4 = .ok (.p d.partsP) S5 := by
    rw [← e5]
    simp
  unfold m__law_drawn
  simp [e1, e2, e3, e4, e5, dd.take]
end Q
end

section
set_option Elab.async false
set_option linter.all false
set_option maxRecDepth 100000
set_option maxHeartbeats 1000000
namespace Q
open PySem PySem.Spec L2 Mm
/-- a comprehension without a test that draws -/
theorem lcL_each {k : Nat} {g : MG} {me : MExp} {ew : MEnv} {R : PV → PV → Prop} : ∀ (xs : List PV) (S : Sto) (acc : List PV), Dw k S →
    (∀ x ∈ xs, ∃ e1, g (.p x) ew = some e1 ∧ ∀ S1, Dw k S1 → ∃ y S3, me e1 S1 = .ok (.p y) S3 ∧ Dr k S1 S3 ∧ R x y) →
    ∃ ys S', lcL g tYesM me ew xs S acc = .ok (acc ++ ys) S' ∧ Dr k S S' ∧ ys.length = xs.length ∧ ∀ (i : Nat) x y, xs[i]? = some x → ys[i]? = some y → R x y
  | [], S, acc, h, _ => ⟨[], S, by unfold lcL; simp, .refl h, rfl, fun i x y hx => by simp at hx⟩
  | x :: xs, S, acc, h, st => by
    obtain ⟨e1, h1, h2⟩ := st x List.mem_cons_self
    obtain ⟨y, S4, h6, h7, hR⟩ := h2 (S ++ [.lst acc]) h.app
    obtain ⟨S5, rfl, h8⟩ := h7.app h.lt
    obtain ⟨ys, S', q1, q2, q4, q5⟩ := lcL_each (k := k) (g := g) (me := me) (ew := ew) (R := R) xs S5 (acc ++ [y]) h8.dw fun y hy => st y (List.mem_cons_of_mem _ hy)
    have hl : S5.length = S.length := h8.len
    refine ⟨y :: ys, S', ?_, h8.trans q2, by simp [q4], fun i a b ha hb => ?_⟩
    · unfold lcL
      rw [h1]
      dsimp only
      rw [at_tYes]
      dsimp only
      rw [h6]
      dsimp only
      rw [show (S5 ++ [MO.lst acc])[S.length]? = some (.lst acc) by rw [← hl]; simp]
      dsimp only
      rw [if_pos rfl, show (S5 ++ [MO.lst acc]).take S.length = S5 by rw [← hl]; simp, q1]
      simp
    · cases i with
      | zero => simp at ha hb; subst ha hb; exact hR
      | succ i => simp at ha hb; exact q5 i a b ha hb
end Q
end

section
set_option Elab.async false
set_option linter.all false
set_option maxRecDepth 100000
set_option maxHeartbeats 1000000
namespace Q
open PySem PySem.Spec L2 Mm
@[simp] theorem src_sP {l : List Str} : srcR (.p (sP l)) = some (l.map .str) := rfl
def marksP (m : List (List Str)) : PV := .tup (m.map sP)
structure MarksOk (d : Wk) (m : List (List Str)) : Prop where
  len : m.length = d.ts.length
  sub : ∀ c ∈ m, List.Sublist c d.ss
theorem marks_at {k : Nat} {S : Sto} {d : Wk} (h : Dw k S) : ∃ (m : List (List Str)) (S' : Sto), m__law_marks [.l k, .p d.partsP] S = .ok (.p (marksP m)) S' ∧ Dr k S S' ∧ MarksOk d m := by
  obtain ⟨r, S1, b1, e1, d1⟩ := take_nat (n := 3) h (by omega) (by omega)
  have e1 : m__law_take [.l k, .p (.int 3)] S = .ok (.p (.int r)) S1 := e1
  have i0 : ∀ S : Sto, atI [sP d.ts, sP d.ss, .tup (d.rs.map recP), .tup (d.ws.map wshP)] 0 = some (sP d.ts) := fun _ => rfl
  have i1 : ∀ S : Sto, atI [sP d.ts, sP d.ss, .tup (d.rs.map recP), .tup (d.ws.map wshP)] 1 = some (sP d.ss) := fun _ => rfl
  by_cases hr : r = 0
  · have st := lcL_pure (g := gN 2) (mt := tYesM) (me := mTup mNil) (ew := [some (.l k), some (.p d.partsP), none]) (c := fun _ => true) (f := fun _ => .tup []) (d.ts.map .str) S1 [] fun x hx => ⟨_, rfl, fun a => ⟨rfl, fun _ => rfl⟩⟩
    rw [List.filter_eq_self.mpr fun _ _ => rfl, List.nil_append] at st
    have hm : (d.ts.map PV.str).map (fun _ => PV.tup []) = (d.ts.map fun _ => ([] : List Str)).map sP := by simp [sP]
    rw [hm] at st
    refine ⟨d.ts.map fun _ => [], S1, ?_, d1, ⟨by simp, fun c hc => ?_⟩⟩
    · unfold m__law_marks
      subst hr
      have e1 : m__law_take [.l k, .p (.int 3)] S = .ok (.p (.int 0)) S1 := e1
      unfold Wk.partsP at st ⊢
      simp [e1, eq_int, i0 S1, st, marksP, d1.take, -List.map_map]
    · obtain ⟨_, _, rfl⟩ := List.mem_map.mp hc
      exact List.nil_sublist _
  · obtain ⟨ys, S2, st, d2, l2, r2⟩ := lcL_each (k := k) (g := gN 2) (me := mCall m__law_lot [] (mCons (mVar 0) (mCons (mIx (mVar 1) (mC (.int 1))) (mCons (mC (.int 4)) mNil)))) (ew := [some (.l k), some (.p d.partsP), none]) (R := fun _ y => ∃ c : List Str, List.Sublist c d.ss ∧ y = sP c) (d.ts.map .str) S1 [] d1.dw fun x hx => ⟨_, rfl, fun S3 h3 => by
      obtain ⟨c, S4, q1, _, q3, q4⟩ := lots_at (most := 4) (w := .p (sP d.ss)) (l := d.ss) h3 rfl
      have q3 : m__law_lot [.l k, .p (sP d.ss), .p (.int 4)] S3 = .ok (.p (sP c)) S4 := q3
      refine ⟨sP c, S4, ?_, q4, c, q1, rfl⟩
      unfold Wk.partsP
      simp [i1 S1, q3]⟩
    have hall : ∀ ys : List PV, (∀ y ∈ ys, ∃ c : List Str, List.Sublist c d.ss ∧ y = sP c) → ∃ m : List (List Str), ys = m.map sP ∧ ∀ c ∈ m, List.Sublist c d.ss := fun ys => by
      induction ys with
      | nil => exact fun _ => ⟨[], rfl, fun c hc => by cases hc⟩
      | cons y ys ih =>
        intro hy
        obtain ⟨c, q1, rfl⟩ := hy y List.mem_cons_self
        obtain ⟨m, rfl, q2⟩ := ih fun z hz => hy z (List.mem_cons_of_mem _ hz)
        exact ⟨c :: m, rfl, fun z hz => by
          rcases List.mem_cons.mp hz with e | e
          · rw [e]; exact q1
          · exact q2 z e⟩
    obtain ⟨m, rfl, hm⟩ := hall ys fun y hy => by
      obtain ⟨i, hi⟩ := List.mem_iff_getElem?.mp hy
      have hlt : i < (d.ts.map PV.str).length := by rw [← l2]; exact (List.getElem?_eq_some_iff.mp hi).1
      exact r2 i _ y (List.getElem?_eq_getElem hlt) hi
    refine ⟨m, S2, ?_, d1.trans d2, ⟨by simpa using l2, hm⟩⟩
    unfold m__law_marks
    unfold Wk.partsP at st ⊢
    have hr' : ¬ (r : Int) = 0 := by omega
    rw [List.nil_append] at st
    simp [e1, eq_int, hr, i0 S1, st, marksP, (d1.trans d2).take]
end Q
end

section
set_option Elab.async false
set_option linter.all false
set_option maxRecDepth 100000
set_option maxHeartbeats 1000000
namespace Q
open PySem PySem.Spec L2 Mm
inductive Stp where
  | mk (i : Nat)
  | wsh (i : Nat)
def Stp.P : Stp → PV
  | .mk i => .tup [.str "make", .int i]
  | .wsh i => .tup [.str "wash", .int i]
def Stp.Ok (d : Wk) : Stp → Prop
  | .mk i => i < d.rs.length
  | .wsh i => i < d.ws.length
def rowP (r : List Stp) : PV := .tup (r.map Stp.P)
abbrev rowB : MStm := (ifS (mAndT (mCmpT (fEq true) (mIx (mVar 1) (mC (.int 3))) (mTup mNil)) (mCmpT (fEq false) (mCall m__law_take [] (mCons (mVar 0) (mCons (mC (.int 3)) mNil))) (mC (.int 0)))) (setS 3 (mOp2 fAdd (mVar 3) (mTup (mCons (mTup (mCons (mC (.str "wash")) (mCons (mCall m__law_take [] (mCons (mVar 0) (mCons (mB fLen (mCons (mIx (mVar 1) (mC (.int 3))) mNil)) mNil))) mNil))) mNil)))) (setS 3 (mOp2 fAdd (mVar 3) (mTup (mCons (mTup (mCons (mC (.str "make")) (mCons (mCall m__law_take [] (mCons (mVar 0) (mCons (mB fLen (mCons (mIx (mVar 1) (mC (.int 2))) mNil)) mNil))) mNil))) mNil)))))
theorem Lay.int {n : Nat} {i : Int} : Lay n (.int i) := by
  unfold Lay PV.D
  exact ⟨by simp [PyData.canLay0], by simp [PyData.depth]⟩
theorem ne_nilT {n : Nat} {xs : List PV} (h : ∀ x ∈ xs, Lay n x) (hn : n + 1 ≤ 64) : fEq true (.tup xs) (.tup []) = some (!xs.isEmpty) := by
  have h1 : Mm.shp (.tup xs) = true := (Lay.tup h).shp hn
  have h2 : Mm.shp (.tup []) = true := (Lay.nil (n := 0)).shp
  unfold fEq eqF
  simp only [h1, h2, Bool.and_self, if_true]
  cases xs with
  | nil => rfl
  | cons x l =>
    unfold PV.D PV.Ds PyData.eqv PyData.eqvAll
    rfl
theorem Lay.wsh {w : Wsh} (h1 : PyData.strOk w.1 = true) (h2 : ∀ x ∈ w.2.1, PyData.strOk x = true) : Lay 2 (wshP w) := Lay.tup fun y hy => by
  simp only [List.mem_cons, List.not_mem_nil, or_false] at hy
  rcases hy with rfl | rfl | rfl
  · exact .str h1
  · exact .names h2
  · exact Lay.int
end Q
end

section
set_option Elab.async false
set_option linter.all false
set_option maxRecDepth 100000
set_option maxHeartbeats 1000000
namespace Q
open PySem PySem.Spec L2 Mm
theorem strok_wash : PyData.strOk "wash" = true ∧ PyData.strOk "make" = true := by decide +kernel
theorem row_turn {k : Nat} {S : Sto} {d : Wk} {row : List Stp} {a2 o4 : Option RV} (h : Dw k S) (hr : row.length < 100) (h1 : 1 ≤ d.rs.length ∧ d.rs.length ≤ 6) (h2 : d.ws.length ≤ 6) (hl : ∀ w ∈ d.ws, Lay 2 (wshP w)) :
    ∃ (t : Stp) (S' : Sto), rowB [some (.l k), some (.p d.partsP), a2, some (.p (rowP row)), o4] S = .next [some (.l k), some (.p d.partsP), a2, some (.p (rowP (row ++ [t]))), o4] S' ∧ Dr k S S' ∧ t.Ok d := by
  have i3 : atI [sP d.ts, sP d.ss, .tup (d.rs.map recP), .tup (d.ws.map wshP)] 3 = some (.tup (d.ws.map wshP)) := rfl
  have i2 : atI [sP d.ts, sP d.ss, .tup (d.rs.map recP), .tup (d.ws.map wshP)] 2 = some (.tup (d.rs.map recP)) := rfl
  have hne := ne_nilT (xs := d.ws.map wshP) (n := 2) (fun x hx => by obtain ⟨w, hw, rfl⟩ := List.mem_map.mp hx; exact hl w hw) (by omega)
  have hz : row.length + 1 ≤ sizeLine := by
    have : 1000 < sizeLine := by decide
    omega
  have mkc : ∀ S1, Dw k S1 → ∃ (i : Nat) (S2 : Sto), i < d.rs.length ∧ m__law_take [.l k, .p (.int d.rs.length)] S1 = .ok (.p (.int i)) S2 ∧ Dr k S1 S2 := fun S1 h1' => take_nat h1' (by omega) (by omega)
  cases hw : d.ws with
  | nil =>
    rw [hw] at hne i3
    obtain ⟨i, S2, hi, e, dd⟩ := mkc S h
    refine ⟨.mk i, S2, ?_, dd, hi⟩
    unfold Wk.partsP rowP
    rw [hw]
    rw [hw] at i2
    rw [List.map_nil] at i2 i3 hne
    have hne : fEq true (.tup []) (.tup []) = some false := hne
    rw [List.map_nil]
    simp [i3, i2, hne, e, hz, Stp.P]
  | cons w ws =>
    obtain ⟨r, S1, _, e1, d1⟩ := take_nat (n := 3) h (by omega) (by omega)
    have e1 : m__law_take [.l k, .p (.int 3)] S = .ok (.p (.int r)) S1 := e1
    have hemp : (d.ws.map wshP).isEmpty = false := by rw [hw]; rfl
    rw [hemp] at hne
    by_cases hr0 : r = 0
    · obtain ⟨i, S2, hi, e, dd⟩ := take_nat (n := d.ws.length) d1.dw (by rw [hw]; simp) (by omega)
      refine ⟨.wsh i, S2, ?_, d1.trans dd, hi⟩
      unfold Wk.partsP rowP
      simp [i3, i2, hne, e1, eq_int, hr0, e, hz, Stp.P]
    · obtain ⟨i, S2, hi, e, dd⟩ := mkc S1 d1.dw
      refine ⟨.mk i, S2, ?_, d1.trans dd, hi⟩
      unfold Wk.partsP rowP
      simp [i3, i2, hne, e1, eq_int, hr0, e, hz, Stp.P]
end Q
end

section
set_option Elab.async false
set_option linter.all false
set_option maxRecDepth 100000
set_option maxHeartbeats 1000000
namespace Q
open PySem PySem.Spec L2 Mm
theorem lay_wshs {d : Wk} (ok : d.Ok) (h1 : ∀ x ∈ d.ts, PyData.strOk x = true) (h2 : ∀ x ∈ d.ss, PyData.strOk x = true) : ∀ w ∈ d.ws, Lay 2 (wshP w) := fun w hw => by
  have q := ok.ws.2.2 w hw
  exact .wsh (h1 _ q.tool) fun x hx => h2 x (q.takes.subset hx)
theorem row_at {k most : Nat} {S : Sto} {d : Wk} (h : Dw k S) (hm : most ≤ 60) (ok : d.Ok) (hl : ∀ w ∈ d.ws, Lay 2 (wshP w)) : ∃ (row : List Stp) (S' : Sto), m__law_row [.l k, .p d.partsP, .p (.int most)] S = .ok (.p (rowP row)) S' ∧ Dr k S S' ∧ row.length ≤ most ∧ ∀ t ∈ row, t.Ok d := by
  obtain ⟨n, S1, hn, e1, d1⟩ := take_nat (n := most + 1) h (by omega) (by omega)
  have e1 : m__law_take [.l k, .p (.int ((most : Int) + 1))] S = .ok (.p (.int n)) S1 := by
    rw [← e1]
    simp
  obtain ⟨e2, S2, hf, row, o4, rfl, d2, hlen, hok⟩ := for_all (g := gN 4) (b := rowB) (xs := Mm.upTo 0 n) (e := [some (.l k), some (.p d.partsP), some (.p (.int most)), some (.p (.tup [])), none]) (S := S1)
    (fun j e S2 => ∃ (row : List Stp) (o4 : Option RV), e = [some (.l k), some (.p d.partsP), some (.p (.int most)), some (.p (rowP row)), o4] ∧ Dr k S1 S2 ∧ row.length = j ∧ ∀ t ∈ row, t.Ok d)
    ⟨[], none, rfl, .refl d1.dw, rfl, fun t ht => by cases ht⟩ fun j x e S2 hx ⟨row, o4, he, d2, hlen, hok⟩ => by
      subst he
      have hj : j < n := by
        have := (List.getElem?_eq_some_iff.mp hx).1
        rwa [upTo_len] at this
      obtain ⟨t, S3, e3, d3, ht⟩ := row_turn (row := row) (a2 := some (.p (.int most))) (o4 := some (.p x)) d2.dw (by omega) ⟨ok.rs.1, ok.rs.2.1⟩ ok.ws.1 hl
      refine ⟨_, _, S3, rfl, e3, row ++ [t], some (.p x), rfl, d2.trans d3, by simp [hlen], fun t' ht' => ?_⟩
      rcases List.mem_append.mp ht' with q | q
      · exact hok t' q
      · rw [List.mem_singleton.mp q]; exact ht
  rw [upTo_len] at hlen
  refine ⟨row, S2, ?_, d1.trans d2, by omega, hok⟩
  have hrange : (n : Int) ≤ 2 ^ 24 ∧ -(2 ^ 62) ≤ (n : Int) := by omega
  unfold m__law_row
  simp only [at_mDef, List.map_cons, List.map_nil, List.length_cons, List.length_nil, List.replicate, List.cons_append, List.nil_append, at_seqS, at_setS, at_bindS, at_mTup, at_bindM, at_mNil, at_p0, Nat.zero_le, if_pos, at_setE, List.set_cons_succ, List.set_cons_zero, at_forS, at_mRng1, at_mCons, at_mCall, at_mVar, List.getElem?_cons_succ, List.getElem?_cons_zero, at_mOp2, at_mC, at_fAdd, List.append_nil, e1, hrange, and_self, Int.toNat_natCast, hf, at_retS, at_trim, (d1.trans d2).take]
end Q
end

section
set_option Elab.async false
set_option linter.all false
set_option maxRecDepth 100000
set_option maxHeartbeats 1000000
namespace Q
open PySem PySem.Spec L2 Mm
/-! ## looks at values -/
theorem t_is_string {S : Sto} {x : Str} : m_is_string [.p (.str x)] S = .ok (.p (.bl true)) S := by simp [m_is_string]
theorem t_is_whole {S : Sto} {i : Int} : m_is_whole [.p (.int i)] S = .ok (.p (.bl true)) S := by simp [m_is_whole]
theorem t_is_between {S : Sto} {i a b : Int} : m_is_between [.p (.int i), .p (.int a), .p (.int b)] S = .ok (.p (.bl (decide (a ≤ i ∧ i ≤ b)))) S := by
  by_cases h : a ≤ i <;> simp [m_is_between, t_is_whole, h]
theorem t_is_tuple_of {S : Sto} {xs : List PV} {n : Int} : m_is_tuple_of [.p (.tup xs), .p (.int n)] S = .ok (.p (.bl (decide ((xs.length : Int) = n)))) S := by
  simp [m_is_tuple_of]
  by_cases h : (xs.length : Int) = n <;> simp [h]
theorem t_is_row {S : Sto} {xs : List PV} {a b : Int} : m_is_row [.p (.tup xs), .p (.int a), .p (.int b)] S = .ok (.p (.bl (decide (a ≤ xs.length ∧ (xs.length : Int) ≤ b)))) S := by
  by_cases h : a ≤ xs.length <;> simp [m_is_row, h]
abbrev letters : Str := "abcdefghijklmnopqrstuvwxyz"
theorem in_letters : ∀ c : _root_.Fin 26, (Builtin.Str.occurrences letters ⟨#[97 + c.val]⟩ 0 letters.length 1).isEmpty = false := by decide +kernel
theorem in_letters' {c : Nat} (h1 : 97 ≤ c) (h2 : c ≤ 122) : fIn false (.str ⟨#[c]⟩) (.str letters) = some true := by
  have q := in_letters ⟨c - 97, by omega⟩
  have e : 97 + (c - 97) = c := by omega
  dsimp only at q
  rw [e] at q
  unfold fIn
  dsimp only
  rw [q]
  rfl
theorem name_ok {x : Str} (h : nameS x = true) : 0 < x.cps.size ∧ x.cps.size ≤ 8 ∧ ∀ c ∈ x.cps.toList, 97 ≤ c ∧ c ≤ 122 := by
  unfold nameS at h
  simp only [Bool.and_eq_true, decide_eq_true_eq, List.all_eq_true] at h
  exact ⟨h.1.1, h.1.2, h.2⟩
theorem name_strOk {x : Str} (h : nameS x = true) : PyData.strOk x = true := by
  obtain ⟨_, _, q⟩ := name_ok h
  unfold PyData.strOk
  rw [← Array.all_toList, List.all_eq_true]
  intro c hc
  have := q c hc
  simp
  omega
theorem size_1000 : 1000 ≤ sizeLine := by decide
theorem t_is_made_of {S : Sto} {x : Str} (h : nameS x = true) : m_is_made_of [.p (.str x), .p (.str letters)] S = .ok (.p (.bl true)) S := by
  obtain ⟨h1, h2, h3⟩ := name_ok h
  refine pure_all ?_ (by intros; rfl) S
  have hne : (x == ("" : Str)) = false := by
    rw [beq_eq_false_iff_ne]
    intro e
    rw [e] at h1
    exact absurd h1 (by decide)
  have hs : x.cps.size ≤ sizeLine := Nat.le_trans (by omega) size_1000
  have st := lc_all (own := false) (g := gN 2) (me := mCmp (fIn false) (mVar 2) (mVar 1)) (ew := [some (.p (.str x)), some (.p (.str letters)), none]) (enc := fun c => PV.str ⟨#[c]⟩) (k := fun _ => PV.bl true) (l := x.cps.toList) (S := []) rfl fun c hc => by
    refine ⟨_, rfl, ?_⟩
    simp [in_letters' (h3 c hc).1 (h3 c hc).2]
  have hb := bools_map (k := fun _ => true) x.cps.toList
  simp [m_is_made_of, hne, hs, signs, -lcF_X, st, hb]
theorem t_is_name {S : Sto} {x : Str} (h : nameS x = true) : m_is_name [.p (.str x)] S = .ok (.p (.bl true)) S := by
  obtain ⟨h1, h2, h3⟩ := name_ok h
  have hl : x.length = x.cps.size := rfl
  have hf : fLen [.p (.str x)] S = some (.int x.cps.size) := by
    unfold fLen
    simp [seqOf, hl]
    omega
  have h8 : (x.cps.size : Int) ≤ 8 := by omega
  simp [m_is_name, t_is_string, hf, h8, t_is_made_of h]
theorem flats_strs : ∀ l : List Str, flats (l.map PV.str) = some (l.map V.str)
  | [] => rfl
  | y :: l => by simp [flats, PV.flat, flats_strs l]
theorem names_inF {x : Str} {l : List Str} : fIn false (.str x) (sP l) = some (decide (x ∈ l)) := by
  have q := names_in (x := x) (l := l)
  unfold fIn sP at q ⊢
  dsimp only at q ⊢
  rw [flats_strs] at q ⊢
  simp only [PV.flat, if_true, Option.some.injEq] at q ⊢
  simpa using q
theorem t_is_one_of {S : Sto} {x : Str} {l : List Str} : m_is_one_of [.p (sP l), .p (.str x)] S = .ok (.p (.bl (decide (x ∈ l)))) S := by
  simp [m_is_one_of, t_is_string, names_inF]
/-! ### ascending names -/
theorem atI_last {α : Type} {xs : List α} {i : Nat} {x : α} (h : xs.length = i + 1) (hx : xs[i]? = some x) : atI xs (-1) = some x := by
  unfold atI ixN
  rw [if_neg (by omega), if_pos (by omega), h]
  have : ((-1 : Int) + ((i + 1 : Nat) : Int)).toNat = i := by omega
  rw [this]
  exact hx
theorem eq_nilF {n : Nat} {xs : List PV} (h : ∀ x ∈ xs, Lay n x) (hn : n + 1 ≤ 64) : fEq false (.tup xs) (.tup []) = some xs.isEmpty := by
  have q := ne_nilT h hn
  unfold fEq at q ⊢
  cases he : eqF (.tup xs) (.tup []) with
  | none => rw [he] at q; cases q
  | some b =>
    rw [he] at q
    simpa using q
theorem up_at {l : List Str} (up : Up l) {i : Nat} {x y : Str} (h1 : l[i]? = some x) (h2 : l[i + 1]? = some y) : x.cps.toList < y.cps.toList := by
  obtain ⟨a, b⟩ := List.getElem?_eq_some_iff.mp h1
  obtain ⟨c, d⟩ := List.getElem?_eq_some_iff.mp h2
  have := List.pairwise_iff_getElem.mp up i (i + 1) a c (by omega)
  rw [b, d] at this
  exact this
/-- what stands ahead: nothing, or a lesser last one -/
theorem ahead_ok {l : List Str} (up : Up l) (hok : ∀ x ∈ l, PyData.strOk x = true) {i : Nat} {x : Str} (hx : l[i]? = some x) :
    fEq false (.tup ((l.take i).map PV.str)) (.tup []) = some (decide (i = 0)) ∧ (i ≠ 0 → ∃ y, atI ((l.take i).map PV.str) (-1) = some (.str y) ∧ y.cps.toList < x.cps.toList) := by
  have hi := (List.getElem?_eq_some_iff.mp hx).1
  constructor
  · rw [eq_nilF (n := 0) (fun z hz => by
      obtain ⟨y, hy, rfl⟩ := List.mem_map.mp hz
      exact .str (hok y (List.mem_of_mem_take hy))) (by omega)]
    congr 1
    cases i with
    | zero => rfl
    | succ i =>
      cases l with
      | nil => simp at hi
      | cons a l => rfl
  · intro hi0
    obtain ⟨j, rfl⟩ : ∃ j, i = j + 1 := ⟨i - 1, by omega⟩
    have hj : l[j]? = some l[j] := List.getElem?_eq_getElem (by omega)
    refine ⟨l[j], atI_last (i := j) (by simp; omega) ?_, up_at up hj hx⟩
    rw [List.getElem?_map, List.getElem?_take, if_pos (by omega), hj]
    rfl
theorem t_are_some {S : Sto} {c l : List Str} (h : ∀ x ∈ c, x ∈ l) (up : Up c) (hok : ∀ x ∈ c, PyData.strOk x = true) : m_are_some [.p (sP l), .p (sP c)] S = .ok (.p (.bl true)) S := by
  refine pure_all ?_ (by intros; rfl) S
  have st := first_all (l := c) (enc := PV.str) (S := []) (fn := lamMF [some (.p (sP l))] 3 (mAndV (mCall m_is_one_of [] (mCons (mVar 2) (mCons (mVar 0) mNil))) (mOrV (mCmp (fEq false) (mVar 1) (mTup mNil)) (mCmp fLt (mIx (mVar 1) (mUn (fun i => -i) (mC (.int 1)))) (mVar 0))))) fun i x hx => by
    obtain ⟨q1, q2⟩ := ahead_ok up hok hx
    have hm := h x (List.mem_of_getElem? hx)
    by_cases hi : i = 0
    · subst hi
      have q1 : fEq false (.tup []) (.tup []) = some true := by simpa using q1
      simp [at_lamMF, t_is_one_of, hm, q1]
    · obtain ⟨y, e1, e2⟩ := q2 hi
      simp only [hi, decide_false] at q1
      simp [-List.map_take, at_lamMF, t_is_one_of, hm, q1, e1, e2]
  have e1 : sP c = .tup (c.map PV.str) := rfl
  simp [m_are_some, e1, st]
theorem t_wrong_name {S : Sto} {c : List Str} (h : ∀ x ∈ c, nameS x = true) (up : Up c) : m_wrong_name [.p (sP c)] S = .ok (.p .non) S := by
  refine pure_all ?_ (by intros; rfl) S
  have st := first_all (l := c) (enc := PV.str) (S := []) (fn := lamMF [] 2 (mAndV (mCall m_is_name [] (mCons (mVar 0) mNil)) (mOrV (mCmp (fEq false) (mVar 1) (mTup mNil)) (mCmp fLt (mIx (mVar 1) (mUn (fun i => -i) (mC (.int 1)))) (mVar 0))))) fun i x hx => by
    obtain ⟨q1, q2⟩ := ahead_ok up (fun y hy => name_strOk (h y hy)) hx
    have hm := h x (List.mem_of_getElem? hx)
    by_cases hi : i = 0
    · subst hi
      have q1 : fEq false (.tup []) (.tup []) = some true := by simpa using q1
      simp [at_lamMF, t_is_name hm, q1]
    · obtain ⟨y, e1, e2⟩ := q2 hi
      simp only [hi, decide_false] at q1
      simp [-List.map_take, at_lamMF, t_is_name hm, q1, e1, e2]
  have e1 : sP c = .tup (c.map PV.str) := rfl
  simp [m_wrong_name, e1, st]
end Q
end

section
set_option Elab.async false
set_option linter.all false
set_option maxRecDepth 100000
set_option maxHeartbeats 1000000
namespace Q
open PySem PySem.Spec L2 Mm
/-! ## works are made -/
theorem up_sub {c l : List Str} (h : List.Sublist c l) (up : Up l) : Up c := up.sublist h
theorem sP_tup {l : List Str} : sP l = .tup (l.map PV.str) := rfl
theorem t_some {S : Sto} {c l : List Str} (h : List.Sublist c l) (up : Up l) (hok : ∀ x ∈ l, PyData.strOk x = true) : m_are_some [.p (sP l), .p (sP c)] S = .ok (.p (.bl true)) S :=
  t_are_some (fun x hx => h.subset hx) (up_sub h up) fun x hx => hok x (h.subset hx)
theorem t_is_recipe {S : Sto} {ts ss : List Str} {r : Rec} (h : RecOk ts ss r) (u1 : Up ts) (u2 : Up ss) (k1 : ∀ x ∈ ts, PyData.strOk x = true) (k2 : ∀ x ∈ ss, PyData.strOk x = true) :
    m_is_recipe [.p (sP ts), .p (sP ss), .p (recP r)] S = .ok (.p (.bl true)) S := by
  refine pure_all ?_ (by intros; rfl) S
  obtain ⟨nm, puts, uses, bars⟩ := r
  have e0 : atI [PV.str nm, sP puts, sP uses, sP bars] 0 = some (.str nm) := rfl
  have e1 : atI [PV.str nm, sP puts, sP uses, sP bars] 1 = some (sP puts) := rfl
  have e2 : atI [PV.str nm, sP puts, sP uses, sP bars] 2 = some (sP uses) := rfl
  have e3 : atI [PV.str nm, sP puts, sP uses, sP bars] 3 = some (sP bars) := rfl
  have q0 := fun S => t_is_name (S := S) h.nm
  have q1 := fun S => t_some (S := S) h.puts u2 k2
  have q2 := fun S => t_some (S := S) h.uses u1 k1
  have q3 := fun S => t_some (S := S) h.bars u2 k2
  dsimp only at q0 q1 q2 q3
  have hl : fLen [.p (sP uses)] ([] : Sto) = some (.int uses.length) := by simp [sP_tup]
  have hu : ((uses.length : Int) == 0) = false := by
    have := h.some_
    dsimp only at this
    rw [beq_eq_false_iff_ne]
    intro z
    exact this (List.length_eq_zero_iff.mp (by omega))
  have st := lc_all (own := false) (g := gN 3) (me := mCmp (fIn false) (mVar 3) (mIx (mVar 2) (mC (.int 1)))) (ew := [some (.p (sP ts)), some (.p (sP ss)), some (.p (recP (nm, puts, uses, bars))), none]) (enc := PV.str) (k := fun _ => PV.bl false) (l := bars) (S := []) rfl fun x hx => by
    have hx : x ∉ puts := h.off x hx
    refine ⟨_, rfl, ?_⟩
    simp [recP, e1, names_inF, hx]
  have hb := bools_map (k := fun _ => false) bars
  unfold recP at st ⊢
  simp [m_is_recipe, t_is_tuple_of, e0, e1, e2, e3, q0, q1, q2, q3, hl, hu, -lcF_X, st, hb]
theorem rec_lay {ts ss : List Str} {r : Rec} (h : RecOk ts ss r) (k1 : ∀ x ∈ ts, PyData.strOk x = true) (k2 : ∀ x ∈ ss, PyData.strOk x = true) : Lay 2 (recP r) := Lay.tup fun y hy => by
  simp only [List.mem_cons, List.not_mem_nil, or_false] at hy
  rcases hy with rfl | rfl | rfl | rfl
  · exact .str (name_strOk h.nm)
  · exact .names fun x hx => k2 x (h.puts.subset hx)
  · exact .names fun x hx => k1 x (h.uses.subset hx)
  · exact .names fun x hx => k2 x (h.bars.subset hx)
theorem rec_nm {r : Rec} : atI [PV.str r.1, sP r.2.1, sP r.2.2.1, sP r.2.2.2] 0 = some (.str r.1) := rfl
theorem t_wrong_recipe {S : Sto} {ts ss : List Str} {rs : List Rec} (h : ∀ r ∈ rs, RecOk ts ss r) (up : Up (rs.map (·.1))) (u1 : Up ts) (u2 : Up ss) (k1 : ∀ x ∈ ts, PyData.strOk x = true) (k2 : ∀ x ∈ ss, PyData.strOk x = true) :
    m_wrong_recipe [.p (sP ts), .p (sP ss), .p (.tup (rs.map recP))] S = .ok (.p .non) S := by
  refine pure_all ?_ (by intros; rfl) S
  have one : ∀ (i : Nat) (r : Rec) (S : Sto), rs[i]? = some r → m_is_recipe_behind [.p (sP ts), .p (sP ss), .p (recP r), .p (.tup ((rs.take i).map recP))] S = .ok (.p (.bl true)) S := fun i r S hr => by
    have hm := h r (List.mem_of_getElem? hr)
    have hi := (List.getElem?_eq_some_iff.mp hr).1
    have hl : ((rs.take i).map recP).length = i := by simp; omega
    by_cases h0 : i = 0
    · subst h0
      simp [m_is_recipe_behind, t_is_recipe hm u1 u2 k1 k2]
    · obtain ⟨j, rfl⟩ : ∃ j, i = j + 1 := ⟨i - 1, by omega⟩
      have hj : rs[j]? = some rs[j] := List.getElem?_eq_getElem (by omega)
      have e1 : atI ((rs.take (j + 1)).map recP) (-1) = some (recP rs[j]) := atI_last hl (by
        rw [List.getElem?_map, List.getElem?_take, if_pos (by omega), hj]
        rfl)
      have hlt := up_at up (i := j) (x := rs[j].1) (y := r.1) (by rw [List.getElem?_map, hj]; rfl) (by rw [List.getElem?_map, hr]; rfl)
      have hne : (((j : Int) + 1) == 0) = false := by rw [beq_eq_false_iff_ne]; omega
      have hl2 : fLen [.p (.tup ((rs.take (j + 1)).map recP))] S = some (.int ((j : Int) + 1)) := by simp [-List.map_take, hl]
      have e2 : atI [PV.str r.1, sP r.2.1, sP r.2.2.1, sP r.2.2.2] 0 = some (.str r.1) := rfl
      have e3 : atI [PV.str rs[j].1, sP rs[j].2.1, sP rs[j].2.2.1, sP rs[j].2.2.2] 0 = some (.str rs[j].1) := rfl
      have q := t_is_recipe (S := S) hm u1 u2 k1 k2
      unfold recP at q e1 hl2 ⊢
      simp [-List.map_take, -at_fLenT, m_is_recipe_behind, q, e1, hl2, hne, e2, e3, hlt]
  have st := first_all (l := rs) (enc := recP) (S := []) (fn := lamMF [some (.p (sP ts)), some (.p (sP ss))] 4 (mCall m_is_recipe_behind [] (mCons (mVar 2) (mCons (mVar 3) (mCons (mVar 0) (mCons (mVar 1) mNil)))))) fun i x hx => by
    simp [-List.map_take, at_lamMF, one i x _ hx]
  simp [m_wrong_recipe, st]
theorem t_is_wash {S : Sto} {ts ss : List Str} {w : Wsh} (h : WshOk ts ss w) (u2 : Up ss) (k2 : ∀ x ∈ ss, PyData.strOk x = true) :
    m_is_wash [.p (sP ts), .p (sP ss), .p (wshP w)] S = .ok (.p (.bl true)) S := by
  obtain ⟨t, tk, p⟩ := w
  have e0 : atI [PV.str t, sP tk, .int p] 0 = some (.str t) := rfl
  have e1 : atI [PV.str t, sP tk, .int p] 1 = some (sP tk) := rfl
  have e2 : atI [PV.str t, sP tk, .int p] 2 = some (.int p) := rfl
  have q1 := t_some (S := S) h.takes u2 k2
  have q2 : t ∈ ts := h.tool
  have q3 : 1 ≤ p ∧ p ≤ 9 := h.price
  dsimp only at q1
  have hl : fLen [.p (sP tk)] S = some (.int tk.length) := by simp [sP_tup]
  have hu : 0 < tk.length := List.length_pos_iff.mpr h.some_
  unfold wshP
  simp [m_is_wash, t_is_tuple_of, e0, e1, e2, t_is_one_of, q1, q2, q3, hl, hu, t_is_between]
theorem pair_inF {a : Str × List Str} {l : List (Str × List Str)} (h : ∀ p ∈ a :: l, PyData.strOk p.1 = true ∧ ∀ x ∈ p.2, PyData.strOk x = true) : fIn true (pairP a) (.lst (l.map pairP)) = some (!decide (a ∈ l)) := pair_in h
theorem wsh_strok {ts ss : List Str} {w : Wsh} (h : WshOk ts ss w) (k1 : ∀ x ∈ ts, PyData.strOk x = true) (k2 : ∀ x ∈ ss, PyData.strOk x = true) : PyData.strOk w.key.1 = true ∧ ∀ x ∈ w.key.2, PyData.strOk x = true :=
  ⟨k1 _ h.tool, fun x hx => k2 x (h.takes.subset hx)⟩
theorem t_wrong_wash {S : Sto} {ts ss : List Str} {ws : List Wsh} (h : ∀ w ∈ ws, WshOk ts ss w) (nd : (ws.map Wsh.key).Nodup) (u2 : Up ss) (k1 : ∀ x ∈ ts, PyData.strOk x = true) (k2 : ∀ x ∈ ss, PyData.strOk x = true) :
    m_wrong_wash [.p (sP ts), .p (sP ss), .p (.tup (ws.map wshP))] S = .ok (.p .non) S := by
  refine pure_all ?_ (by intros; rfl) S
  have one : ∀ (i : Nat) (w : Wsh) (S : Sto), ws[i]? = some w → m_is_wash_behind [.p (sP ts), .p (sP ss), .p (wshP w), .p (.tup ((ws.take i).map wshP))] S = .ok (.p (.bl true)) S := fun i w S hw => by
    refine pure_all ?_ (by intros; rfl) S
    have hm := h w (List.mem_of_getElem? hw)
    have st := lc_all (own := false) (g := gN 4) (me := mSl (mVar 4) mNoP (mPart (mC (.int 2)))) (ew := [some (.p (sP ts)), some (.p (sP ss)), some (.p (wshP w)), some (.p (.tup ((ws.take i).map wshP))), none]) (enc := wshP) (k := fun w => pairP w.key) (l := ws.take i) (S := []) rfl fun x hx => ⟨_, rfl, by simp [wshP]; rfl⟩
    have hk : ((ws.take i).map fun w => pairP w.key) = ((ws.take i).map Wsh.key).map pairP := by rw [List.map_map]; rfl
    have hn : w.key ∉ (ws.take i).map Wsh.key := fun z => by
      rw [List.map_take] at z
      obtain ⟨j, hj, e⟩ := List.mem_take_iff_getElem.mp z
      have h2 : (ws.map Wsh.key)[i]? = some w.key := by rw [List.getElem?_map, hw]; rfl
      obtain ⟨hi, e2⟩ := List.getElem?_eq_some_iff.mp h2
      exact List.pairwise_iff_getElem.mp nd j i (by omega) hi (by omega) (e.trans e2.symm)
    have hin := pair_in (a := w.key) (l := (ws.take i).map Wsh.key) fun p hp => by
      rcases List.mem_cons.mp hp with rfl | hp
      · exact wsh_strok hm k1 k2
      · obtain ⟨w', hw', rfl⟩ := List.mem_map.mp hp
        exact wsh_strok (h w' (List.mem_of_mem_take hw')) k1 k2
    rw [decide_eq_false hn] at hin
    rw [hk] at st
    have q := fun S => t_is_wash (S := S) hm u2 k2
    have hc : PV.tup (cutP [PV.str w.1, sP w.2.1, .int w.2.2] none (some 2)) = pairP w.key := rfl
    unfold wshP at q st ⊢
    simp [m_is_wash_behind, q, -List.map_take, -List.map_map, -lcF_X, st, hc, hin]
  have st := first_all (l := ws) (enc := wshP) (S := []) (fn := lamMF [some (.p (sP ts)), some (.p (sP ss))] 4 (mCall m_is_wash_behind [] (mCons (mVar 2) (mCons (mVar 3) (mCons (mVar 0) (mCons (mVar 1) mNil)))))) fun i x hx => by
    simp [-List.map_take, at_lamMF, one i x _ hx]
  simp [m_wrong_wash, st]
theorem Wk.Ok.k1 {d : Wk} (ok : d.Ok) : ∀ x ∈ d.ts, PyData.strOk x = true := fun x hx => name_strOk (ok.ts.2.2.2 x hx)
theorem Wk.Ok.k2 {d : Wk} (ok : d.Ok) : ∀ x ∈ d.ss, PyData.strOk x = true := fun x hx => name_strOk (ok.ss.2.2.2 x hx)
theorem t_check_tools {S : Sto} {d : Wk} (ok : d.Ok) : m_check_tools [.p (sP d.ts)] S = .ok (.p .non) S := by
  have q := fun S => t_wrong_name (S := S) ok.ts.2.2.2 ok.ts.1
  have h1 : (2 : Int) ≤ d.ts.length := by have := ok.ts.2.1; omega
  have h2 : (d.ts.length : Int) ≤ 6 := by have := ok.ts.2.2.1; omega
  simp only [sP_tup] at q ⊢
  simp [m_check_tools, t_is_row, h1, h2, q]
theorem t_check_stuffs {S : Sto} {d : Wk} (ok : d.Ok) : m_check_stuffs [.p (sP d.ss)] S = .ok (.p .non) S := by
  have q := fun S => t_wrong_name (S := S) ok.ss.2.2.2 ok.ss.1
  have h1 : (1 : Int) ≤ d.ss.length := by have := ok.ss.2.1; omega
  have h2 : (d.ss.length : Int) ≤ 4 := by have := ok.ss.2.2.1; omega
  simp only [sP_tup] at q ⊢
  simp [m_check_stuffs, t_is_row, h1, h2, q]
theorem t_check_recipes {S : Sto} {d : Wk} (ok : d.Ok) : m_check_recipes [.p (sP d.ts), .p (sP d.ss), .p (.tup (d.rs.map recP))] S = .ok (.p .non) S := by
  have q := fun S => t_wrong_recipe (S := S) ok.rs.2.2.2 ok.rs.2.2.1 ok.ts.1 ok.ss.1 ok.k1 ok.k2
  have h1 : (1 : Int) ≤ d.rs.length := by have := ok.rs.1; omega
  have h2 : (d.rs.length : Int) ≤ 6 := by have := ok.rs.2.1; omega
  simp [m_check_recipes, t_is_row, h1, h2, q]
theorem t_check_washes {S : Sto} {d : Wk} (ok : d.Ok) : m_check_washes [.p (sP d.ts), .p (sP d.ss), .p (.tup (d.ws.map wshP))] S = .ok (.p .non) S := by
  have q := fun S => t_wrong_wash (S := S) ok.ws.2.2 ok.ws.2.1 ok.ss.1 ok.k1 ok.k2
  have h2 : (d.ws.length : Int) ≤ 6 := by have := ok.ws.1; omega
  simp [m_check_washes, t_is_row, h2, q]
theorem t_Work {S : Sto} {d : Wk} (ok : d.Ok) : m_Work_init [.l S.length, .p (sP d.ts), .p (sP d.ss), .p (.tup (d.rs.map recP)), .p (.tup (d.ws.map wshP))] (S ++ [.ins 0 []]) = .ok (.p .non) (S ++ [.ins 0 [sP d.ts, sP d.ss, .tup (d.rs.map recP), .tup (d.ws.map wshP)]]) := by
  have f1 : fldIx "tools" (fl0 0) = some 0 := by decide
  have f2 : fldIx "stuffs" (fl0 0) = some 1 := by decide
  have f3 : fldIx "recipes" (fl0 0) = some 2 := by decide
  have f4 : fldIx "washes" (fl0 0) = some 3 := by decide
  simp [m_Work_init, t_check_tools ok, t_check_stuffs ok, t_check_recipes ok, t_check_washes ok, f1, f2, f3, f4, putP]
  exact List.take_of_length_le (by simp)
theorem t_made {S : Sto} {d : Wk} (ok : d.Ok) : m__law_made [.p d.partsP] S = .ok (.p d.objP) S := by
  have e0 : atI [sP d.ts, sP d.ss, .tup (d.rs.map recP), .tup (d.ws.map wshP)] 0 = some (sP d.ts) := rfl
  have e1 : atI [sP d.ts, sP d.ss, .tup (d.rs.map recP), .tup (d.ws.map wshP)] 1 = some (sP d.ss) := rfl
  have e2 : atI [sP d.ts, sP d.ss, .tup (d.rs.map recP), .tup (d.ws.map wshP)] 2 = some (.tup (d.rs.map recP)) := rfl
  have e3 : atI [sP d.ts, sP d.ss, .tup (d.rs.map recP), .tup (d.ws.map wshP)] 3 = some (.tup (d.ws.map wshP)) := rfl
  unfold Wk.partsP
  simp [m__law_made, e0, e1, e2, e3, t_Work ok]
  simp [trimR, MO.pv, Wk.objP]
end Q
end

section
set_option Elab.async false
set_option linter.all false
set_option maxRecDepth 100000
set_option maxHeartbeats 1000000
namespace Q
open PySem PySem.Spec L2 Mm
/-! ## looks at arguments -/
section
variable {d : Wk} {S : Sto} {e : MEnv} {m : MExp}
theorem t_check_work : m_check_work [.p d.objP] S = .ok (.p .non) S := by
  unfold Wk.objP
  simp [m_check_work]
theorem fl0_zip {a b c f : PV} : (fl0 0).zip [a, b, c, f] = ([("tools", a), ("stuffs", b), ("recipes", c), ("washes", f)] : List (Str × PV)) := rfl
theorem lk_tools {a b c f : PV} : ((fl0 0).zip [a, b, c, f]).lookup ("tools" : Str) = some a := by rw [fl0_zip]; rfl
theorem lk_stuffs {a b c f : PV} : ((fl0 0).zip [a, b, c, f]).lookup ("stuffs" : Str) = some b := by
  rw [fl0_zip, List.lookup_cons, show (("stuffs" : Str) == "tools") = false by decide]
  rfl
theorem lk_recipes {a b c f : PV} : ((fl0 0).zip [a, b, c, f]).lookup ("recipes" : Str) = some c := by
  rw [fl0_zip, List.lookup_cons, show (("recipes" : Str) == "tools") = false by decide, List.lookup_cons, show (("recipes" : Str) == "stuffs") = false by decide]
  rfl
theorem lk_washes {a b c f : PV} : ((fl0 0).zip [a, b, c, f]).lookup ("washes" : Str) = some f := by
  rw [fl0_zip, List.lookup_cons, show (("washes" : Str) == "tools") = false by decide, List.lookup_cons, show (("washes" : Str) == "stuffs") = false by decide, List.lookup_cons, show (("washes" : Str) == "recipes") = false by decide]
  rfl
end
section
variable {d : Wk} {S : Sto} {e : MEnv} {i : Nat}
theorem g_tools (h : e[i]? = some (some (.p d.objP))) : mFld fl0 "tools" (mVar i) e S = .ok (.p (sP d.ts)) S := by
  rw [at_mFldI, at_bindM, at_mVar, h]
  unfold Wk.objP
  dsimp only
  rw [if_pos (by decide), lk_tools]
theorem g_stuffs (h : e[i]? = some (some (.p d.objP))) : mFld fl0 "stuffs" (mVar i) e S = .ok (.p (sP d.ss)) S := by
  rw [at_mFldI, at_bindM, at_mVar, h]
  unfold Wk.objP
  dsimp only
  rw [if_pos (by decide), lk_stuffs]
theorem g_recipes (h : e[i]? = some (some (.p d.objP))) : mFld fl0 "recipes" (mVar i) e S = .ok (.p (.tup (d.rs.map recP))) S := by
  rw [at_mFldI, at_bindM, at_mVar, h]
  unfold Wk.objP
  dsimp only
  rw [if_pos (by decide), lk_recipes]
theorem g_washes (h : e[i]? = some (some (.p d.objP))) : mFld fl0 "washes" (mVar i) e S = .ok (.p (.tup (d.ws.map wshP))) S := by
  rw [at_mFldI, at_bindM, at_mVar, h]
  unfold Wk.objP
  dsimp only
  rw [if_pos (by decide), lk_washes]
end
section
variable {d : Wk} {S : Sto}
@[simp] theorem len_sP {l : List Str} : fLen [.p (sP l)] S = some (.int l.length) := by simp [sP_tup]
@[simp] theorem len_marks {m : List (List Str)} : fLen [.p (marksP m)] S = some (.int m.length) := by simp [marksP]
theorem t_is_marks {m : List (List Str)} (ok : d.Ok) (h : MarksOk d m) : m_is_marks [.p d.objP, .p (marksP m)] S = .ok (.p (.bl true)) S := by
  refine pure_all ?_ (by intros; rfl) S
  have st := lc_all (own := false) (g := gN 2) (me := mCall m_are_some [] (mCons (mFld fl0 "stuffs" (mVar 0)) (mCons (mVar 2) mNil))) (ew := [some (.p d.objP), some (.p (marksP m)), none]) (enc := sP) (k := fun _ => PV.bl true) (l := m) (S := []) rfl fun c hc => by
    refine ⟨_, rfl, ?_⟩
    have q := t_some (S := []) (h.sub c hc) ok.ss.1 ok.k2
    simp [-at_mFldI, g_stuffs (d := d), q]
  have hb := bools_map (k := fun _ => true) m
  have hl : (m.length : Int) = d.ts.length := by rw [h.len]
  have q : m_is_tuple_of [.p (marksP m), .p (.int d.ts.length)] [] = .ok (.p (.bl true)) [] := by
    unfold marksP
    rw [t_is_tuple_of]
    simp [hl]
  have hs : srcR (.p (marksP m)) = some (m.map sP) := rfl
  simp [m_is_marks, -at_mFldI, g_tools (d := d), q, hs, -lcF_X, st, hb]
theorem t_check_marks {m : List (List Str)} (ok : d.Ok) (h : MarksOk d m) : m_check_marks [.p d.objP, .p (marksP m)] S = .ok (.p .non) S := by
  simp [m_check_marks, t_is_marks ok h]
theorem t_check_marked {m : List (List Str)} (ok : d.Ok) (h : MarksOk d m) : m_check_marked [.p d.objP, .p (marksP m)] S = .ok (.p .non) S := by
  simp [m_check_marked, t_check_work, t_check_marks ok h]
theorem st_0 {t : Stp} : ∃ x i, t.P = .tup [.str x, .int i] ∧ atI [PV.str x, .int i] 0 = some (.str x) ∧ atI [PV.str x, .int i] 1 = some (.int i) := by
  cases t <;> exact ⟨_, _, rfl, rfl, rfl⟩
theorem make_wash : (("wash" : Str) == "make") = false ∧ (("make" : Str) == "make") = true ∧ (("wash" : Str) == "wash") = true ∧ (("make" : Str) == "wash") = false := by decide
theorem t_is_step {t : Stp} (h : t.Ok d) : m_is_step [.p d.objP, .p t.P] S = .ok (.p (.bl true)) S := by
  cases t with
  | mk i =>
    have h : i < d.rs.length := h
    have e0 : atI [PV.str "make", .int i] 0 = some (.str "make") := rfl
    have e1 : atI [PV.str "make", .int i] 1 = some (.int i) := rfl
    have h2 : (i : Int) ≤ d.rs.length - 1 := by omega
    unfold Stp.P
    simp [m_is_step, t_is_tuple_of, e0, e1, t_is_string, -at_mFldI, g_recipes (d := d), t_is_between, h2]
  | wsh i =>
    have h : i < d.ws.length := h
    have e0 : atI [PV.str "wash", .int i] 0 = some (.str "wash") := rfl
    have e1 : atI [PV.str "wash", .int i] 1 = some (.int i) := rfl
    have h2 : (i : Int) ≤ d.ws.length - 1 := by omega
    unfold Stp.P
    simp [m_is_step, t_is_tuple_of, e0, e1, t_is_string, -at_mFldI, g_washes (d := d), t_is_between, h2, make_wash.1]
theorem t_wrong_step {row : List Stp} (h : ∀ t ∈ row, t.Ok d) : m_wrong_step [.p d.objP, .p (rowP row)] S = .ok (.p .non) S := by
  have st := for_all (g := gT 2 (gConsM (gN 2) (gConsM (gN 3) gNilM))) (b := ifS (mNotT (asB (mCall m_is_step [] (mCons (mVar 0) (mCons (mVar 3) mNil))))) (retS (mVar 2)) nilS) (xs := (row.zipIdx 0).map fun p => PV.tup [.int (p.2 : Nat), p.1.P]) (e := [some (.p d.objP), some (.p (rowP row)), none, none]) (S := S)
    (fun j e S2 => S2 = S ∧ ∃ a b, e = [some (.p d.objP), some (.p (rowP row)), a, b]) ⟨rfl, _, _, rfl⟩ fun j x e S2 hx ⟨hS, a, b, he⟩ => by
      subst hS he
      rw [List.getElem?_map] at hx
      cases hz : (row.zipIdx 0)[j]? with
      | none => rw [hz] at hx; cases hx
      | some p =>
        rw [hz] at hx
        cases hx
        have hm : p.1 ∈ row := by
          have := List.mem_of_getElem? hz
          exact (List.mem_zipIdx this).2.2 ▸ List.getElem_mem _
        exact ⟨_, _, S2, rfl, by simp [t_is_step (h p.1 hm)]; exact ⟨rfl, rfl⟩, rfl, _, _, rfl⟩
  obtain ⟨e2, S2, hf, ⟨rfl, _⟩⟩ := st
  have he : (enumP 0 (row.map Stp.P)).map PV.tup = (row.zipIdx 0).map fun p => PV.tup [.int (p.2 : Nat), p.1.P] := by
    rw [enum_map, List.map_map]
    rfl
  have hs : srcR (.p (rowP row)) = some (row.map Stp.P) := rfl
  simp [m_wrong_step, hs, he, hf]
theorem t_check_row {row : List Stp} (h : ∀ t ∈ row, t.Ok d) (hl : row.length ≤ 60) : m_check_row [.p d.objP, .p (rowP row)] S = .ok (.p .non) S := by
  have q : m_is_row [.p (rowP row), .p (.int 0), .p (.int 60)] S = .ok (.p (.bl true)) S := by
    unfold rowP
    rw [t_is_row]
    have : (row.length : Int) ≤ 60 := by omega
    simp [this]
  simp [m_check_row, q, t_wrong_step h]
theorem t_check_asked {m : List (List Str)} {row : List Stp} (ok : d.Ok) (hm : MarksOk d m) (h : ∀ t ∈ row, t.Ok d) (hl : row.length ≤ 60) : m_check_asked [.p d.objP, .p (marksP m), .p (rowP row)] S = .ok (.p .non) S := by
  simp [m_check_asked, t_check_marked ok hm, t_check_row h hl]
end
end Q
end

section
set_option Elab.async false
set_option linter.all false
set_option maxRecDepth 100000
set_option maxHeartbeats 1000000
namespace Q
open PySem PySem.Spec L2 Mm
/-! ## lots of tools as numbers -/
def lotL : List Bool → Nat
  | [] => 0
  | b :: bs => b.toNat + 2 * lotL bs
theorem lot_bit : ∀ (bs : List Bool) (i : Nat), (lotL bs).testBit i = bs.getD i false
  | [], i => by simp [lotL]
  | b :: bs, 0 => by
    unfold lotL
    rw [Nat.testBit_zero]
    cases b <;> simp <;> omega
  | b :: bs, i + 1 => by
    unfold lotL
    rw [Nat.testBit_succ, show (b.toNat + 2 * lotL bs) / 2 = lotL bs by cases b <;> simp <;> omega, lot_bit bs i]
    rfl
theorem lot_inj {a b : List Bool} (h : a.length = b.length) (e : lotL a = lotL b) : a = b := by
  refine List.ext_getElem h fun i h1 h2 => ?_
  have q1 := lot_bit a i
  have q2 := lot_bit b i
  rw [e, q2] at q1
  simpa [List.getD_eq_getElem?_getD, h1, h2] using q1.symm
theorem lot_lt : ∀ (bs : List Bool), lotL bs < 2 ^ bs.length
  | [] => by simp [lotL]
  | b :: bs => by
    have := lot_lt bs
    unfold lotL
    rw [List.length_cons, Nat.pow_succ]
    cases b <;> simp <;> omega
theorem lot_or {a b : List Bool} (h : a.length = b.length) : lotL a ||| lotL b = lotL (List.zipWith (· || ·) a b) := by
  refine Nat.eq_of_testBit_eq fun i => ?_
  rw [Nat.testBit_or, lot_bit, lot_bit, lot_bit]
  simp only [List.getD_eq_getElem?_getD, List.getElem?_zipWith]
  by_cases hi : i < a.length
  · rw [List.getElem?_eq_getElem hi, List.getElem?_eq_getElem (by omega)]
    rfl
  · rw [List.getElem?_eq_none (by omega), List.getElem?_eq_none (by omega)]
    rfl
theorem lot_and {a b : List Bool} (h : a.length = b.length) : lotL a &&& lotL b = lotL (List.zipWith (· && ·) a b) := by
  refine Nat.eq_of_testBit_eq fun i => ?_
  rw [Nat.testBit_and, lot_bit, lot_bit, lot_bit]
  simp only [List.getD_eq_getElem?_getD, List.getElem?_zipWith]
  by_cases hi : i < a.length
  · rw [List.getElem?_eq_getElem hi, List.getElem?_eq_getElem (by omega)]
    rfl
  · rw [List.getElem?_eq_none (by omega), List.getElem?_eq_none (by omega)]
    rfl
theorem lot_zero : ∀ {bs : List Bool}, lotL bs = 0 ↔ bs.any id = false
  | [] => by simp [lotL]
  | b :: bs => by
    unfold lotL
    have := lot_zero (bs := bs)
    rw [List.any_cons]
    cases b with
    | true => simp
    | false =>
      simp only [Bool.toNat_false, id, Bool.false_or]
      rw [← this]
      omega
theorem lot_none : ∀ (n : Nat), lotL (List.replicate n false) = 0
  | 0 => rfl
  | n + 1 => by
    rw [List.replicate_succ]
    unfold lotL
    rw [lot_none n]
    rfl
theorem lot_drop : ∀ (bs : List Bool) (i : Nat), lotL bs = lotL (bs.set i false) + (if bs.getD i false then 2 ^ i else 0)
  | [], i => by simp [lotL]
  | b :: bs, 0 => by
    rw [List.set_cons_zero]
    unfold lotL
    cases b <;> simp <;> omega
  | b :: bs, i + 1 => by
    rw [List.set_cons_succ]
    unfold lotL
    rw [lot_drop bs i, show (b :: bs).getD (i + 1) false = bs.getD i false from rfl]
    split
    · rw [Nat.pow_succ]; omega
    · omega
theorem and_bit {n i : Nat} : n &&& 2 ^ i = if n.testBit i then 2 ^ i else 0 := by
  refine Nat.eq_of_testBit_eq fun j => ?_
  rw [Nat.testBit_and, Nat.testBit_two_pow]
  by_cases h : i = j
  · subst h
    cases hb : n.testBit i <;> simp [Nat.testBit_two_pow]
  · cases hb : n.testBit i <;> simp [h, Nat.testBit_two_pow]
theorem bits_or (a b : Nat) : Builtin.bitOr a b = ((a ||| b : Nat) : Int) := by
  have hn : ∀ x : Nat, decide ((0 : Int) ≤ Builtin.bitNot x) = false := fun x => by unfold Builtin.bitNot; simp; omega
  have hb : ∀ x : Int, Builtin.bitNot (Builtin.bitNot x) = x := fun x => by unfold Builtin.bitNot; omega
  unfold Builtin.bitOr Builtin.bitAnd
  rw [hn, hn]
  dsimp only
  rw [hb, hb, hb]
  simp
theorem bits_and (a b : Nat) : Builtin.bitAnd a b = ((a &&& b : Nat) : Int) := by
  have hp : ∀ x : Nat, decide ((0 : Int) ≤ x) = true := fun x => by simp
  unfold Builtin.bitAnd
  rw [hp, hp]
  dsimp only
  simp
theorem bits_off (a b : Nat) : Builtin.bitAnd a (Builtin.bitNot b) = (a : Int) - ((a &&& b : Nat) : Int) := by
  have hp : ∀ x : Nat, decide ((0 : Int) ≤ x) = true := fun x => by simp
  have hn : ∀ x : Nat, decide ((0 : Int) ≤ Builtin.bitNot x) = false := fun x => by unfold Builtin.bitNot; simp; omega
  have hb : ∀ x : Int, Builtin.bitNot (Builtin.bitNot x) = x := fun x => by unfold Builtin.bitNot; omega
  unfold Builtin.bitAnd
  rw [hp, hn]
  dsimp only
  rw [hb]
  simp
theorem lot_off (bs : List Bool) (i : Nat) : Builtin.bitAnd (lotL bs : Int) (Builtin.bitNot ((2 ^ i : Nat) : Int)) = (lotL (bs.set i false) : Int) := by
  rw [bits_off, and_bit, lot_bit]
  have := lot_drop bs i
  split at this
  · rename_i h
    rw [if_pos h]
    omega
  · rename_i h
    rw [if_neg h]
    omega
theorem lot_at_ (bs : List Bool) (i : Nat) : (Builtin.bitAnd ((lotL bs : Int) / 2 ^ i) 1 == 1) = bs.getD i false := by
  have e : ((lotL bs : Int) / 2 ^ i) = ((lotL bs / 2 ^ i : Nat) : Int) := by
    rw [Int.natCast_ediv]
    simp
  rw [e, show (1 : Int) = ((1 : Nat) : Int) from rfl, bits_and, ← lot_bit, Nat.and_one_is_mod]
  rw [Nat.testBit_eq_decide_div_mod_eq]
  by_cases h : lotL bs / 2 ^ i % 2 = 1
  · simp [h]
  · have h0 : lotL bs / 2 ^ i % 2 = 0 := by omega
    simp [h0]
theorem idx_off {t x : Str} {ts : List Str} (h : t ≠ x) : (t :: ts).idxOf x = ts.idxOf x + 1 := by
  rw [List.idxOf_cons, show (t == x) = false from beq_eq_false_iff_ne.mpr h]
  rfl
/-- the lot of some tools: the sum of their figures -/
theorem lot_sum : ∀ {us ts : List Str}, List.Sublist us ts → ts.Nodup → (us.map fun x => 2 ^ ts.idxOf x).sum = lotL (ts.map fun t => decide (t ∈ us))
  | _, _, .slnil, _ => rfl
  | us, t :: ts, .cons _ s, nd => by
    have nd := List.nodup_cons.mp nd
    have ih := lot_sum s nd.2
    have ht : t ∉ us := fun z => nd.1 (s.subset z)
    rw [List.map_cons]
    unfold lotL
    rw [← ih, decide_eq_false ht]
    have : (us.map fun x => 2 ^ (t :: ts).idxOf x) = us.map fun x => 2 * 2 ^ ts.idxOf x := List.map_congr_left fun x hx => by
      have hne : t ≠ x := fun z => ht (z ▸ hx)
      rw [idx_off hne, Nat.pow_succ, Nat.mul_comm]
    rw [this]
    clear this ih s ht
    induction us with
    | nil => rfl
    | cons x us ih => simp only [List.map_cons, List.sum_cons, ih]; simp; omega
  | _ :: us, t :: ts, .cons₂ _ s, nd => by
    have nd := List.nodup_cons.mp nd
    have ih := lot_sum s nd.2
    have ht : t ∉ us := fun z => nd.1 (s.subset z)
    rw [List.map_cons, List.map_cons, List.sum_cons, List.idxOf_cons_self]
    unfold lotL
    have e1 : (ts.map fun y => decide (y ∈ t :: us)) = ts.map fun y => decide (y ∈ us) := List.map_congr_left fun y hy => by
      have hne : y ≠ t := fun z => nd.1 (z ▸ hy)
      simp [hne]
    rw [e1, ← ih]
    have : (us.map fun x => 2 ^ (t :: ts).idxOf x) = us.map fun x => 2 * 2 ^ ts.idxOf x := List.map_congr_left fun x hx => by
      have hne : t ≠ x := fun z => ht (z ▸ hx)
      rw [idx_off hne, Nat.pow_succ, Nat.mul_comm]
    rw [this]
    have e2 : ∀ us : List Str, (us.map fun x => 2 * 2 ^ ts.idxOf x).sum = 2 * (us.map fun x => 2 ^ ts.idxOf x).sum := fun us => by
      induction us with
      | nil => rfl
      | cons x us ih => simp only [List.map_cons, List.sum_cons, ih]; omega
    rw [e2]
    simp
end Q
end

section
set_option Elab.async false
set_option linter.all false
set_option maxRecDepth 100000
set_option maxHeartbeats 1000000
namespace Q
open PySem PySem.Spec L2 Mm
/-! ## what steps do, typed -/
def hasL (m : List (List Str)) (s : Str) : List Bool := m.map fun c => decide (s ∈ c)
def lotP (bs : List Bool) : PV := .int (lotL bs)
def lotsP (d : Wk) (m : List (List Str)) : PV := .tup (d.ss.map fun s => lotP (hasL m s))
def Wk.puts (d : Wk) : Stp → List Str
  | .mk i => (match d.rs[i]? with | some r => r.2.1 | none => [])
  | .wsh _ => []
def Wk.uses (d : Wk) : Stp → List Str
  | .mk i => (match d.rs[i]? with | some r => r.2.2.1 | none => [])
  | .wsh _ => []
def Wk.bars (d : Wk) : Stp → List Str
  | .mk i => (match d.rs[i]? with | some r => r.2.2.2 | none => [])
  | .wsh _ => []
def Wk.takes (d : Wk) (t : Stp) (s : Str) : Option Str := match t with
  | .mk _ => none
  | .wsh i => (match d.ws[i]? with | some w => if s ∈ w.2.1 then some w.1 else none | none => none)
def inMade (d : Wk) (m : List (List Str)) (t : Stp) (s : Str) : Bool := decide (s ∈ d.puts t) || (d.ts.zip m).any fun p => decide (p.1 ∈ d.uses t) && decide (s ∈ p.2)
def stepM (d : Wk) (m : List (List Str)) (t : Stp) : List (List Str) := match t with
  | .mk i => (d.ts.zip m).map fun p => if p.1 ∈ d.uses (.mk i) then d.ss.filter (inMade d m (.mk i)) else p.2
  | .wsh i => (d.ts.zip m).map fun p => p.2.filter fun s => !decide (d.takes (.wsh i) s = some p.1)
def lastM (d : Wk) (m : List (List Str)) (row : List Stp) : List (List Str) := row.foldl (stepM d) m
def alongM (d : Wk) (m : List (List Str)) : List Stp → List (List (List Str))
  | [] => [m]
  | t :: r => m :: alongM d (stepM d m t) r
def madeM (d : Wk) (m : List (List Str)) : List Stp → List (List Str)
  | [] => []
  | .mk i :: r => d.ss.filter (inMade d m (.mk i)) :: madeM d (stepM d m (.mk i)) r
  | .wsh i :: r => madeM d (stepM d m (.wsh i)) r
def foulM (d : Wk) (m : List (List Str)) (t : Stp) : List Str := d.ss.filter fun s => decide (s ∈ d.bars t) && inMade d m t s
def firstM (d : Wk) (m : List (List Str)) : List Stp → Option Nat
  | [] => none
  | t :: r => if foulM d m t = [] then (firstM d (stepM d m t) r).map (· + 1) else some 0
section
variable {d : Wk} {m : List (List Str)} {t : Stp} {s : Str}
theorem Wk.Ok.nd1 (ok : d.Ok) : d.ts.Nodup := ok.ts.1.imp fun h e => by subst e; exact absurd h (List.lt_irrefl _)
theorem Wk.Ok.nd2 (ok : d.Ok) : d.ss.Nodup := ok.ss.1.imp fun h e => by subst e; exact absurd h (List.lt_irrefl _)
theorem uses_sub (ok : d.Ok) : List.Sublist (d.uses t) d.ts := by
  cases t with
  | wsh i => exact List.nil_sublist _
  | mk i =>
    unfold Wk.uses
    dsimp only
    split
    · rename_i r hr
      exact (ok.rs.2.2.2 r (List.mem_of_getElem? hr)).uses
    · exact List.nil_sublist _
theorem puts_sub (ok : d.Ok) : List.Sublist (d.puts t) d.ss := by
  cases t with
  | wsh i => exact List.nil_sublist _
  | mk i =>
    unfold Wk.puts
    dsimp only
    split
    · rename_i r hr
      exact (ok.rs.2.2.2 r (List.mem_of_getElem? hr)).puts
    · exact List.nil_sublist _
theorem step_ok (hm : MarksOk d m) : MarksOk d (stepM d m t) := by
  have hl := hm.len
  cases t with
  | mk i =>
    refine ⟨by simp [stepM, hl], fun c hc => ?_⟩
    obtain ⟨p, hp, rfl⟩ := List.mem_map.mp hc
    split
    · exact List.filter_sublist
    · exact hm.sub _ (List.of_mem_zip hp).2
  | wsh i =>
    refine ⟨by simp [stepM, hl], fun c hc => ?_⟩
    obtain ⟨p, hp, rfl⟩ := List.mem_map.mp hc
    exact List.filter_sublist.trans (hm.sub _ (List.of_mem_zip hp).2)
theorem last_ok : ∀ {row : List Stp} {m : List (List Str)}, MarksOk d m → MarksOk d (lastM d m row)
  | [], m, hm => hm
  | t :: r, m, hm => last_ok (row := r) (m := stepM d m t) (step_ok hm)
theorem sub_filter : ∀ {c l : List Str}, List.Sublist c l → l.Nodup → l.filter (fun x => decide (x ∈ c)) = c
  | _, _, .slnil, _ => rfl
  | c, x :: l, .cons _ h, nd => by
    have nd := List.nodup_cons.mp nd
    rw [List.filter_cons, if_neg (by simpa using fun z => nd.1 (h.subset z))]
    exact sub_filter h nd.2
  | _ :: c, x :: l, .cons₂ _ h, nd => by
    have nd := List.nodup_cons.mp nd
    rw [List.filter_cons, if_pos (by simp)]
    congr 1
    have : (l.filter fun y => decide (y ∈ x :: c)) = l.filter fun y => decide (y ∈ c) := List.filter_congr fun y hy => by
      have : y ≠ x := fun e => nd.1 (e ▸ hy)
      simp [this]
    rw [this]
    exact sub_filter h nd.2
/-- the tools that pass a test of what they carry -/
theorem tools_pass {c : List Str → Bool} : ∀ {ts : List Str} {m : List (List Str)}, ts.Nodup → m.length = ts.length →
    (ts.map fun t => decide (t ∈ ((ts.zip m).filter fun p => c p.2).map (·.1))) = m.map c ∧ List.Sublist (((ts.zip m).filter fun p => c p.2).map (·.1)) ts
  | [], [], _, _ => ⟨rfl, .slnil⟩
  | [], _ :: _, _, h => by cases h
  | _ :: _, [], _, h => by cases h
  | t :: ts, x :: m, nd, h => by
    have nd := List.nodup_cons.mp nd
    obtain ⟨ih, ih2⟩ := tools_pass (c := c) nd.2 (show m.length = ts.length by simpa using h)
    rw [List.zip_cons_cons, List.filter_cons]
    have hn : t ∉ ((ts.zip m).filter fun p => c p.2).map (·.1) := fun z => nd.1 (ih2.subset z)
    cases hc : c x with
    | false =>
      rw [if_neg (by simp [hc])]
      refine ⟨?_, .cons _ ih2⟩
      rw [List.map_cons, List.map_cons, ih, decide_eq_false hn, hc]
    | true =>
      rw [if_pos (by simp [hc])]
      rw [List.map_cons (f := fun p : Str × List Str => p.1)]
      refine ⟨?_, .cons₂ _ ih2⟩
      rw [List.map_cons, List.map_cons, hc]
      congr 1
      · simp
      · rw [← ih]
        refine List.map_congr_left fun y hy => ?_
        have : y ≠ t := fun e => nd.1 (e ▸ hy)
        simp [this]
theorem zip_any {f : Str → Bool} {g : List Str → Bool} : ∀ {ts : List Str} {m : List (List Str)}, (List.zipWith (· && ·) (m.map g) (ts.map f)).any id = (ts.zip m).any fun p => f p.1 && g p.2
  | [], m => by cases m <;> rfl
  | t :: ts, [] => rfl
  | t :: ts, x :: m => by
    have := zip_any (f := f) (g := g) (ts := ts) (m := m)
    rw [List.map_cons, List.map_cons, List.zipWith_cons_cons, List.any_cons, this, List.zip_cons_cons, List.any_cons, Bool.and_comm]
    rfl
end
end Q
end

section
set_option Elab.async false
set_option linter.all false
set_option maxRecDepth 100000
set_option maxHeartbeats 1000000
namespace Q
open PySem PySem.Spec L2 Mm
/-! ## what the package reckons -/
section
variable {d : Wk} {m : List (List Str)} {t : Stp} {s : Str} {S : Sto}
theorem idx_get {l : List Str} {x : Str} (h : x ∈ l) (nd : l.Nodup) : idxS x l = some (l.idxOf x) := by
  have hlt : l.idxOf x < l.length := List.idxOf_lt_length_of_mem h
  refine idx_map (i := l.idxOf x) ?_ nd
  rw [List.getElem?_eq_getElem hlt, List.getElem_idxOf hlt]
theorem t_bit_of {x : Str} (ok : d.Ok) (hx : x ∈ d.ts) : m_bit_of [.p d.objP, .p (.str x)] S = .ok (.p (.int ((2 ^ d.ts.idxOf x : Nat) : Int))) S := by
  have hlt : d.ts.idxOf x < d.ts.length := List.idxOf_lt_length_of_mem hx
  have hl := ok.ts.2.2.1
  have hk : kindN (.p (sP d.ts)) S = 4 := rfl
  have hi : fTIdx (.p (sP d.ts)) [.p (.str x)] S = some (.p (.int (d.ts.idxOf x : Nat)), S) := by
    unfold fTIdx sP
    dsimp only
    rw [strs_all]
    dsimp only
    rw [idx_get hx ok.nd1]
  have hp : cPow 1 ((d.ts.idxOf x : Nat) : Int) = true := by
    unfold cPow
    simp
    omega
  simp [m_bit_of, -at_mFldI, g_tools (d := d), hk, hi, hp]
theorem sum_cast {α : Type} {f : α → Nat} : ∀ {l : List α}, (l.map fun x => ((f x : Nat) : Int)).sum = ((l.map f).sum : Nat)
  | [] => rfl
  | x :: l => by
    rw [List.map_cons, List.sum_cons, sum_cast, List.map_cons, List.sum_cons]
    simp
theorem t_lot_with {us : List Str} {x : PV} (ok : d.Ok) (hu : List.Sublist us d.ts) (hx : srcP x = some (us.map .str)) : m_lot_with [.p d.objP, .p x] S = .ok (.p (lotP (d.ts.map fun t => decide (t ∈ us)))) S := by
  refine pure_all ?_ (by intros; rfl) S
  have st := lc_all (own := false) (g := gN 2) (me := mCall m_bit_of [] (mCons (mVar 0) (mCons (mVar 2) mNil))) (ew := [some (.p d.objP), some (.p x), none]) (enc := PV.str) (k := fun x => PV.int ((2 ^ d.ts.idxOf x : Nat) : Int)) (l := us) (S := []) rfl fun y hy => by
    refine ⟨_, rfl, ?_⟩
    simp [t_bit_of ok (hu.subset hy)]
  have hi := ints_map (k := fun x => ((2 ^ d.ts.idxOf x : Nat) : Int)) us
  have hs := lot_sum hu ok.nd1
  have hs2 : (us.map fun x => ((2 ^ d.ts.idxOf x : Nat) : Int)).sum = (lotL (d.ts.map fun t => decide (t ∈ us)) : Int) := by rw [sum_cast, hs]
  have hx : srcR (.p x) = some (us.map .str) := hx
  unfold lotP
  rw [← hs2]
  simp only [m_lot_with, at_mDef, at_retS, at_bindS, at_mB, at_bindM, at_mCons, at_mLC, at_mSeqI, at_mVar, List.map_cons, List.map_nil, List.length_cons, List.length_nil, List.cons_append, List.nil_append, List.replicate, List.getElem?_cons_succ, List.getElem?_cons_zero, hx, at_wipe1, at_wipe0, List.set_cons_succ, List.set_cons_zero, st, at_lcF0, at_mNil, at_fSumL, hi, at_trim, List.take_nil]
theorem zip2_marks {ts : List Str} {m : List (List Str)} : (zip2P (ts.map PV.str) (m.map sP)).map PV.tup = (ts.zip m).map fun p => PV.tup [.str p.1, sP p.2] := by
  rw [zip2_map, List.map_map]
  rfl
theorem t_lot_of (ok : d.Ok) (hm : MarksOk d m) : m_lot_of [.p d.objP, .p (marksP m), .p (.str s)] S = .ok (.p (lotP (hasL m s))) S := by
  refine pure_all ?_ (by intros; rfl) S
  obtain ⟨q1, q2⟩ := tools_pass (c := fun c => decide (s ∈ c)) ok.nd1 hm.len
  have st := lc_if (own := false) (g := gT 2 (gConsM (gN 3) (gConsM (gN 4) gNilM))) (mt := mCmpT (fIn false) (mVar 2) (mVar 4)) (me := mVar 3) (ew := [some (.p d.objP), some (.p (marksP m)), some (.p (.str s)), none, none])
    (enc := fun p : Str × List Str => PV.tup [.str p.1, sP p.2]) (c := fun p => decide (s ∈ p.2)) (k := fun p => .str p.1) (l := d.ts.zip m) (S := []) rfl fun p hp => ⟨_, rfl, by simp [names_inF], fun _ => by simp⟩
  have hl := t_lot_with (S := []) (x := .lst ((((d.ts.zip m).filter fun p => decide (s ∈ p.2)).map (·.1)).map PV.str)) ok q2 rfl
  rw [q1] at hl
  have hk : (((d.ts.zip m).filter fun p => decide (s ∈ p.2)).map fun p => PV.str p.1) = (((d.ts.zip m).filter fun p => decide (s ∈ p.2)).map (·.1)).map PV.str := by rw [List.map_map]; rfl
  rw [hk] at st
  have hs : srcR (.p (marksP m)) = some (m.map sP) := rfl
  simp [m_lot_of, -at_mFldI, g_tools (d := d), hs, zip2_marks, -lcF_X, st, -List.map_map, hl]
  rfl
theorem t_lots_of (ok : d.Ok) (hm : MarksOk d m) : m_lots_of [.p d.objP, .p (marksP m)] S = .ok (.p (lotsP d m)) S := by
  refine pure_all ?_ (by intros; rfl) S
  have st := lc_all (own := false) (g := gN 2) (me := mCall m_lot_of [] (mCons (mVar 0) (mCons (mVar 1) (mCons (mVar 2) mNil)))) (ew := [some (.p d.objP), some (.p (marksP m)), none]) (enc := PV.str) (k := fun s => lotP (hasL m s)) (l := d.ss) (S := []) rfl fun y hy => ⟨_, rfl, by simp [t_lot_of ok hm]⟩
  simp [m_lots_of, -at_mFldI, g_stuffs (d := d), -lcF_X, st, lotsP]
/-! ### parts of steps -/
theorem at_rs {i : Nat} {r : Rec} (h : d.rs[i]? = some r) : atI (d.rs.map recP) (i : Int) = some (recP r) := by
  obtain ⟨hi, e⟩ := List.getElem?_eq_some_iff.mp h
  unfold atI ixN
  rw [if_pos (by omega), if_pos (by rw [List.length_map]; omega)]
  simp [h]
theorem at_ws {i : Nat} {w : Wsh} (h : d.ws[i]? = some w) : atI (d.ws.map wshP) (i : Int) = some (wshP w) := by
  obtain ⟨hi, e⟩ := List.getElem?_eq_some_iff.mp h
  unfold atI ixN
  rw [if_pos (by omega), if_pos (by rw [List.length_map]; omega)]
  simp [h]
theorem mk_get {i : Nat} (h : (Stp.mk i).Ok d) : ∃ r, d.rs[i]? = some r := ⟨_, List.getElem?_eq_getElem h⟩
theorem wsh_get {i : Nat} (h : (Stp.wsh i).Ok d) : ∃ w, d.ws[i]? = some w := ⟨_, List.getElem?_eq_getElem h⟩
theorem t_puts_of (h : t.Ok d) : m_puts_of [.p d.objP, .p t.P] S = .ok (.p (sP (d.puts t))) S := by
  cases t with
  | wsh i =>
    have e0 : atI [PV.str "wash", .int i] 0 = some (.str "wash") := rfl
    have e1 : sP (d.puts (.wsh i)) = .tup [] := rfl
    unfold Stp.P
    simp [m_puts_of, e0, make_wash.1, e1]
  | mk i =>
    obtain ⟨r, hr⟩ := mk_get h
    have e0 : atI [PV.str "make", .int i] 0 = some (.str "make") := rfl
    have e1 : atI [PV.str "make", .int i] 1 = some (.int i) := rfl
    have e2 : sP (d.puts (.mk i)) = sP r.2.1 := by unfold Wk.puts; dsimp only; rw [hr]
    have e3 : atI [PV.str r.1, sP r.2.1, sP r.2.2.1, sP r.2.2.2] 1 = some (sP r.2.1) := rfl
    have e4 := at_rs hr
    unfold recP at e4
    unfold Stp.P
    simp [m_puts_of, e0, e1, e2, e3, -at_mFldI, g_recipes (d := d), at_rs hr]
    unfold recP
    simp [e3]
theorem t_uses_of (h : t.Ok d) : m_uses_of [.p d.objP, .p t.P] S = .ok (.p (sP (d.uses t))) S := by
  cases t with
  | wsh i =>
    have e0 : atI [PV.str "wash", .int i] 0 = some (.str "wash") := rfl
    have e1 : sP (d.uses (.wsh i)) = .tup [] := rfl
    unfold Stp.P
    simp [m_uses_of, e0, make_wash.1, e1]
  | mk i =>
    obtain ⟨r, hr⟩ := mk_get h
    have e0 : atI [PV.str "make", .int i] 0 = some (.str "make") := rfl
    have e1 : atI [PV.str "make", .int i] 1 = some (.int i) := rfl
    have e2 : sP (d.uses (.mk i)) = sP r.2.2.1 := by unfold Wk.uses; dsimp only; rw [hr]
    have e3 : atI [PV.str r.1, sP r.2.1, sP r.2.2.1, sP r.2.2.2] 2 = some (sP r.2.2.1) := rfl
    unfold Stp.P
    simp [m_uses_of, e0, e1, e2, e3, -at_mFldI, g_recipes (d := d), at_rs hr]
    unfold recP
    simp [e3]
theorem t_bars_of (h : t.Ok d) : m_bars_of [.p d.objP, .p t.P] S = .ok (.p (sP (d.bars t))) S := by
  cases t with
  | wsh i =>
    have e0 : atI [PV.str "wash", .int i] 0 = some (.str "wash") := rfl
    have e1 : sP (d.bars (.wsh i)) = .tup [] := rfl
    unfold Stp.P
    simp [m_bars_of, e0, make_wash.1, e1]
  | mk i =>
    obtain ⟨r, hr⟩ := mk_get h
    have e0 : atI [PV.str "make", .int i] 0 = some (.str "make") := rfl
    have e1 : atI [PV.str "make", .int i] 1 = some (.int i) := rfl
    have e2 : sP (d.bars (.mk i)) = sP r.2.2.2 := by unfold Wk.bars; dsimp only; rw [hr]
    have e3 : atI [PV.str r.1, sP r.2.1, sP r.2.2.1, sP r.2.2.2] 3 = some (sP r.2.2.2) := rfl
    unfold Stp.P
    simp [m_bars_of, e0, e1, e2, e3, -at_mFldI, g_recipes (d := d), at_rs hr]
    unfold recP
    simp [e3]
def optP : Option Str → PV
  | none => .non
  | some x => .str x
theorem t_takes_from (h : t.Ok d) : m_takes_from [.p d.objP, .p t.P, .p (.str s)] S = .ok (.p (optP (d.takes t s))) S := by
  cases t with
  | mk i =>
    have e0 : atI [PV.str "make", .int i] 0 = some (.str "make") := rfl
    have e1 : optP (d.takes (.mk i) s) = .non := rfl
    unfold Stp.P
    simp [m_takes_from, e0, e1]
  | wsh i =>
    obtain ⟨w, hw⟩ := wsh_get h
    have e0 : atI [PV.str "wash", .int i] 0 = some (.str "wash") := rfl
    have e1 : atI [PV.str "wash", .int i] 1 = some (.int i) := rfl
    have e2 : optP (d.takes (.wsh i) s) = if s ∈ w.2.1 then .str w.1 else .non := by
      unfold Wk.takes
      dsimp only
      rw [hw]
      dsimp only
      split <;> rfl
    unfold Stp.P
    simp [m_takes_from, e0, e1, e2, make_wash.1, -at_mFldI, g_washes (d := d), at_ws hw]
    unfold wshP
    by_cases hs : s ∈ w.2.1 <;> simp [names_inF, hs]
end
end Q
end

section
set_option Elab.async false
set_option linter.all false
set_option maxRecDepth 100000
set_option maxHeartbeats 1000000
namespace Q
open PySem PySem.Spec L2 Mm
section
variable {d : Wk} {m : List (List Str)} {t : Stp} {s : Str} {S : Sto}
theorem t_is_in_made (ok : d.Ok) (hm : MarksOk d m) (h : t.Ok d) : m_is_in_made [.p d.objP, .p (lotP (hasL m s)), .p t.P, .p (.str s)] S = .ok (.p (.bl (inMade d m t s))) S := by
  have q1 := t_puts_of (S := S) h
  have q2 := t_uses_of (S := S) h
  have q3 := t_lot_with (S := S) (x := sP (d.uses t)) ok (uses_sub (t := t) ok) rfl
  have hand : fInt Builtin.bitAnd (lotP (hasL m s)) (lotP (d.ts.map fun x => decide (x ∈ d.uses t))) = some (lotP (List.zipWith (· && ·) (hasL m s) (d.ts.map fun x => decide (x ∈ d.uses t)))) := by
    show some (PV.int _) = some (PV.int _)
    rw [bits_and, lot_and (by simp [hasL, hm.len])]
  have hne : fEq true (lotP (List.zipWith (· && ·) (hasL m s) (d.ts.map fun x => decide (x ∈ d.uses t)))) (.int 0) = some ((d.ts.zip m).any fun p => decide (p.1 ∈ d.uses t) && decide (s ∈ p.2)) := by
    rw [← zip_any (f := fun x => decide (x ∈ d.uses t)) (g := fun c => decide (s ∈ c))]
    show some (!(((lotL _ : Nat) : Int) == 0)) = _
    have := lot_zero (bs := List.zipWith (· && ·) (hasL m s) (d.ts.map fun x => decide (x ∈ d.uses t)))
    unfold hasL at this ⊢
    cases ha : (List.zipWith (· && ·) (m.map fun c => decide (s ∈ c)) (d.ts.map fun x => decide (x ∈ d.uses t))).any id with
    | false => rw [this.mpr ha]; rfl
    | true =>
      have hn : lotL (List.zipWith (· && ·) (m.map fun c => decide (s ∈ c)) (d.ts.map fun x => decide (x ∈ d.uses t))) ≠ 0 := fun e => by rw [this.mp e] at ha; cases ha
      congr 1
      rw [Bool.not_eq_true', beq_eq_false_iff_ne]
      omega
  unfold inMade
  by_cases hp : s ∈ d.puts t
  · simp [m_is_in_made, q1, names_inF, hp]
  · simp [m_is_in_made, q1, names_inF, hp, q2, q3, hand, hne]
theorem has_step_mk {i : Nat} (ok : d.Ok) (hm : MarksOk d m) (hs : s ∈ d.ss) : hasL (stepM d m (.mk i)) s = if inMade d m (.mk i) s then List.zipWith (· || ·) (hasL m s) (d.ts.map fun x => decide (x ∈ d.uses (.mk i))) else hasL m s := by
  have key : ∀ (ts : List Str) (ms : List (List Str)), ms.length = ts.length → (inMade d m (.mk i) s = false → ∀ p ∈ ts.zip ms, p.1 ∈ d.uses (.mk i) → s ∉ p.2) →
      (((ts.zip ms).map fun p => if p.1 ∈ d.uses (.mk i) then d.ss.filter (inMade d m (.mk i)) else p.2).map fun c => decide (s ∈ c)) = if inMade d m (.mk i) s then List.zipWith (· || ·) (ms.map fun c => decide (s ∈ c)) (ts.map fun x => decide (x ∈ d.uses (.mk i))) else ms.map fun c => decide (s ∈ c) := by
    intro ts
    induction ts with
    | nil => intro ms h _; cases ms <;> simp_all
    | cons x ts ih =>
      intro ms h hf
      cases ms with
      | nil => cases h
      | cons c ms =>
        have := ih ms (by simpa using h) fun e p hp => hf e p (List.mem_cons_of_mem _ hp)
        rw [List.zip_cons_cons, List.map_cons, List.map_cons, this]
        cases hi : inMade d m (.mk i) s with
        | true =>
          simp only [if_true, List.map_cons, List.zipWith_cons_cons, List.cons.injEq, and_true]
          by_cases hx : x ∈ d.uses (.mk i)
          · simp [hx, hs, hi]
          · simp [hx]
        | false =>
          simp only [Bool.false_eq_true, if_false, List.map_cons, List.cons.injEq, and_true]
          by_cases hx : x ∈ d.uses (.mk i)
          · have := hf hi (x, c) List.mem_cons_self hx
            simp [hx, hs, hi, this]
          · simp [hx]
  refine key d.ts m hm.len fun e p hp hu => ?_
  unfold inMade at e
  simp only [Bool.or_eq_false_iff, List.any_eq_false, Bool.and_eq_true, decide_eq_true_eq, not_and] at e
  exact e.2 p hp hu
theorem has_step_wsh {i : Nat} (ok : d.Ok) (hm : MarksOk d m) : hasL (stepM d m (.wsh i)) s = match d.takes (.wsh i) s with | none => hasL m s | some x => (hasL m s).set (d.ts.idxOf x) false := by
  have key : ∀ (ts : List Str) (ms : List (List Str)), ts.Nodup → ms.length = ts.length →
      (((ts.zip ms).map fun p => p.2.filter fun y => !decide (d.takes (.wsh i) y = some p.1)).map fun c => decide (s ∈ c)) = match d.takes (.wsh i) s with | none => ms.map fun c => decide (s ∈ c) | some x => (ms.map fun c => decide (s ∈ c)).set (ts.idxOf x) false := by
    intro ts
    induction ts with
    | nil =>
      intro ms _ h
      cases ms with
      | nil => cases d.takes (.wsh i) s <;> rfl
      | cons c ms => cases h
    | cons x ts ih =>
      intro ms nd h
      have nd := List.nodup_cons.mp nd
      cases ms with
      | nil => cases h
      | cons c ms =>
        have := ih ms nd.2 (by simpa using h)
        rw [List.zip_cons_cons, List.map_cons, List.map_cons, this]
        cases ht : d.takes (.wsh i) s with
        | none => simp [ht]
        | some y =>
          dsimp only
          by_cases hxy : x = y
          · subst hxy
            rw [List.idxOf_cons_self, List.map_cons, List.set_cons_zero]
            congr 1
            · simp [ht]
            · rw [List.set_eq_of_length_le]
              have : ts.idxOf x = ts.length := List.idxOf_eq_length nd.1
              have h : ms.length = ts.length := by simpa using h
              simp [this, h]
          · rw [idx_off hxy, List.map_cons, List.set_cons_succ]
            congr 1
            simp [ht, Ne.symm hxy]
  exact key d.ts m ok.nd1 hm.len
theorem takes_in {x : Str} (ok : d.Ok) (h : d.takes t s = some x) : x ∈ d.ts := by
  cases t with
  | mk i => cases h
  | wsh i =>
    unfold Wk.takes at h
    dsimp only at h
    split at h
    · rename_i w hw
      split at h
      · cases h
        exact (ok.ws.2.2 w (List.mem_of_getElem? hw)).tool
      · cases h
    · cases h
theorem t_lot_behind (ok : d.Ok) (hm : MarksOk d m) (h : t.Ok d) (hs : s ∈ d.ss) : m_lot_behind [.p d.objP, .p (lotP (hasL m s)), .p t.P, .p (.str s)] S = .ok (.p (lotP (hasL (stepM d m t) s))) S := by
  have q1 := fun S => t_is_in_made (S := S) (s := s) ok hm h
  have q2 := fun S => t_uses_of (S := S) h
  have q3 := fun S => t_lot_with (S := S) (x := sP (d.uses t)) ok (uses_sub (t := t) ok) rfl
  have q4 := fun S => t_takes_from (S := S) (s := s) h
  cases t with
  | mk i =>
    have e0 : atI [PV.str "make", .int i] 0 = some (.str "make") := rfl
    have hor : fInt Builtin.bitOr (lotP (hasL m s)) (lotP (d.ts.map fun x => decide (x ∈ d.uses (.mk i)))) = some (lotP (List.zipWith (· || ·) (hasL m s) (d.ts.map fun x => decide (x ∈ d.uses (.mk i))))) := by
      show some (PV.int _) = some (PV.int _)
      rw [bits_or, lot_or (by simp [hasL, hm.len])]
    rw [has_step_mk ok hm hs]
    unfold Stp.P at q1 q2 ⊢
    cases hi : inMade d m (.mk i) s with
    | true => simp [m_lot_behind, e0, q1, hi, q2, q3, hor]
    | false => simp [m_lot_behind, e0, q1, hi]
  | wsh i =>
    have e0 : atI [PV.str "wash", .int i] 0 = some (.str "wash") := rfl
    rw [has_step_wsh ok hm]
    unfold Stp.P at q4 ⊢
    cases ht : d.takes (.wsh i) s with
    | none =>
      rw [ht] at q4
      simp [m_lot_behind, e0, make_wash.1, q4, optP]
    | some x =>
      rw [ht] at q4
      have hb := fun S => t_bit_of (S := S) ok (takes_in ok ht)
      have hoff : fInt Builtin.bitAnd (lotP (hasL m s)) (.int (Builtin.bitNot ((2 ^ d.ts.idxOf x : Nat) : Int))) = some (lotP ((hasL m s).set (d.ts.idxOf x) false)) := by
        show some (PV.int _) = some (PV.int _)
        rw [lot_off]
      simp [-Int.natCast_pow, m_lot_behind, e0, make_wash.1, q4, optP, hb, hoff]
theorem zip2_self {α : Type} {f g : α → PV} : ∀ {l : List α}, (zip2P (l.map f) (l.map g)).map PV.tup = l.map fun t => PV.tup [f t, g t]
  | [] => rfl
  | x :: l => by
    show PV.tup [f x, g x] :: (zip2P (l.map f) (l.map g)).map PV.tup = _
    rw [zip2_self]
    rfl
theorem src_lots : srcR (.p (lotsP d m)) = some (d.ss.map fun s => lotP (hasL m s)) := rfl
theorem t_lots_behind (ok : d.Ok) (hm : MarksOk d m) (h : t.Ok d) : m_lots_behind [.p d.objP, .p (lotsP d m), .p t.P] S = .ok (.p (lotsP d (stepM d m t))) S := by
  refine pure_all ?_ (by intros; rfl) S
  have st := lc_all (own := false) (g := gT 2 (gConsM (gN 3) (gConsM (gN 4) gNilM))) (me := mCall m_lot_behind [] (mCons (mVar 0) (mCons (mVar 4) (mCons (mVar 2) (mCons (mVar 3) mNil))))) (ew := [some (.p d.objP), some (.p (lotsP d m)), some (.p t.P), none, none])
    (enc := fun s => PV.tup [.str s, lotP (hasL m s)]) (k := fun s => lotP (hasL (stepM d m t) s)) (l := d.ss) (S := []) rfl fun y hy => ⟨_, rfl, by simp [t_lot_behind ok hm h hy]⟩
  simp [m_lots_behind, -at_mFldI, g_stuffs (d := d), src_lots, zip2_self, -lcF_X, st]
  rfl
theorem t_stuffs_in (ok : d.Ok) (hm : MarksOk d m) (h : t.Ok d) : m_stuffs_in [.p d.objP, .p (lotsP d m), .p t.P] S = .ok (.p (sP (d.ss.filter (inMade d m t)))) S := by
  refine pure_all ?_ (by intros; rfl) S
  have st := lc_if (own := false) (g := gT 2 (gConsM (gN 3) (gConsM (gN 4) gNilM))) (mt := asB (mCall m_is_in_made [] (mCons (mVar 0) (mCons (mVar 4) (mCons (mVar 2) (mCons (mVar 3) mNil)))))) (me := mVar 3) (ew := [some (.p d.objP), some (.p (lotsP d m)), some (.p t.P), none, none])
    (enc := fun s => PV.tup [.str s, lotP (hasL m s)]) (c := inMade d m t) (k := PV.str) (l := d.ss) (S := []) rfl fun y hy => ⟨_, rfl, by simp [t_is_in_made ok hm h], fun _ => by simp⟩
  simp [m_stuffs_in, -at_mFldI, g_stuffs (d := d), src_lots, zip2_self, -lcF_X, st]
  rfl
theorem t_is_foul_by (ok : d.Ok) (hm : MarksOk d m) (h : t.Ok d) : m_is_foul_by [.p d.objP, .p (lotP (hasL m s)), .p t.P, .p (.str s)] S = .ok (.p (.bl (decide (s ∈ d.bars t) && inMade d m t s))) S := by
  by_cases hb : s ∈ d.bars t <;> simp [m_is_foul_by, t_bars_of h, names_inF, hb, t_is_in_made ok hm h]
theorem t_foul_stuffs (ok : d.Ok) (hm : MarksOk d m) (h : t.Ok d) : m_foul_stuffs [.p d.objP, .p (lotsP d m), .p t.P] S = .ok (.p (.lst ((foulM d m t).map .str))) S := by
  refine pure_all ?_ (by intros; rfl) S
  have st := lc_if (own := false) (g := gT 2 (gConsM (gN 3) (gConsM (gN 4) gNilM))) (mt := asB (mCall m_is_foul_by [] (mCons (mVar 0) (mCons (mVar 4) (mCons (mVar 2) (mCons (mVar 3) mNil)))))) (me := mVar 3) (ew := [some (.p d.objP), some (.p (lotsP d m)), some (.p t.P), none, none])
    (enc := fun s => PV.tup [.str s, lotP (hasL m s)]) (c := fun s => decide (s ∈ d.bars t) && inMade d m t s) (k := PV.str) (l := d.ss) (S := []) rfl fun y hy => ⟨_, rfl, by simp [t_is_foul_by ok hm h], fun _ => by simp⟩
  simp [m_foul_stuffs, -at_mFldI, g_stuffs (d := d), src_lots, zip2_self, -lcF_X, st]
  rfl
end
end Q
end

section
set_option Elab.async false
set_option linter.all false
set_option maxRecDepth 100000
set_option maxHeartbeats 1000000
namespace Q
open PySem PySem.Spec L2 Mm
/-! ## rows -/
section
variable {d : Wk} {S : Sto}
theorem along_snoc {t : Stp} : ∀ {row : List Stp} {m : List (List Str)}, alongM d m (row ++ [t]) = alongM d m row ++ [stepM d (lastM d m row) t]
  | [], m => rfl
  | u :: r, m => by
    show m :: alongM d (stepM d m u) (r ++ [t]) = _
    rw [along_snoc]
    rfl
theorem last_snoc {t : Stp} {row : List Stp} {m : List (List Str)} : lastM d m (row ++ [t]) = stepM d (lastM d m row) t := by
  unfold lastM
  rw [List.foldl_append]
  rfl
theorem along_len : ∀ {row : List Stp} {m : List (List Str)}, (alongM d m row).length = row.length + 1
  | [], m => rfl
  | u :: r, m => by
    show (alongM d (stepM d m u) r).length + 1 = _
    rw [along_len]
    rfl
theorem along_last : ∀ {row : List Stp} {m : List (List Str)}, (alongM d m row)[row.length]? = some (lastM d m row)
  | [], m => rfl
  | u :: r, m => by
    show (alongM d (stepM d m u) r)[r.length]? = _
    rw [along_last]
    rfl
theorem t_lots_along {m : List (List Str)} {row : List Stp} (ok : d.Ok) (hm : MarksOk d m) (h : ∀ t ∈ row, t.Ok d) (hl : row.length ≤ 100) : m_lots_along [.p d.objP, .p (marksP m), .p (rowP row)] S = .ok (.p (.lst ((alongM d m row).map (lotsP d)))) S := by
  refine pure_all ?_ (by intros; rfl) S
  have hsz := size_1000
  obtain ⟨e2, S2, hf, a, rfl, rfl⟩ := for_all (g := gN 4) (b := dropS (mMeth 3 fAppend (mVar 3) (mCons (mCall m_lots_behind [] (mCons (mVar 0) (mCons (mIx (mVar 3) (mUn (fun i => -i) (mC (.int 1)))) (mCons (mVar 4) mNil)))) mNil))) (xs := row.map Stp.P)
    (e := [some (.p d.objP), some (.p (marksP m)), some (.p (rowP row)), some (.l 0), none]) (S := [.lst [lotsP d m]])
    (fun j e S2 => ∃ a, e = [some (.p d.objP), some (.p (marksP m)), some (.p (rowP row)), some (.l 0), a] ∧ S2 = [.lst ((alongM d m (row.take j)).map (lotsP d))])
    ⟨none, rfl, rfl⟩ fun j x e S2 hx ⟨a, he, hS⟩ => by
      subst he hS
      rw [List.getElem?_map] at hx
      cases hr : row[j]? with
      | none => rw [hr] at hx; cases hx
      | some t =>
        rw [hr] at hx
        cases hx
        have hj := (List.getElem?_eq_some_iff.mp hr).1
        have ht : t.Ok d := h t (List.mem_of_getElem? hr)
        have htk : row.take (j + 1) = row.take j ++ [t] := by rw [List.take_add_one, hr]; rfl
        have hlen : (row.take j).length = j := by rw [List.length_take]; omega
        have hk : kindN (.l 0) [MO.lst ((alongM d m (row.take j)).map (lotsP d))] = 3 := rfl
        have hat : atI ((alongM d m (row.take j)).map (lotsP d)) (-1) = some (lotsP d (lastM d m (row.take j))) := atI_last (i := j) (by rw [List.length_map, along_len, hlen]) (by
          have := along_last (d := d) (row := row.take j) (m := m)
          rw [hlen] at this
          rw [List.getElem?_map, this]
          rfl)
        have hb := fun S => t_lots_behind (S := S) ok (last_ok (row := row.take j) hm) ht
        have happ : fAppend (.l 0) [.p (lotsP d (stepM d (lastM d m (row.take j)) t))] [MO.lst ((alongM d m (row.take j)).map (lotsP d))] = some (.p .non, [MO.lst ((alongM d m (row.take (j + 1))).map (lotsP d))]) := by
          unfold fAppend
          dsimp only
          show (if _ then _ else _) = _
          rw [if_pos (by rw [List.length_map, along_len, hlen]; omega), htk, along_snoc, List.map_append]
          rfl
        refine ⟨_, _, _, rfl, ?_, some (.p t.P), rfl, rfl⟩
        simp [-List.map_take, hk, hat, hb, happ]
  have hs : srcR (.p (rowP row)) = some (row.map Stp.P) := rfl
  have htl : row.take (row.map Stp.P).length = row := by rw [List.length_map, List.take_length]
  rw [htl] at hf
  simp [m_lots_along, t_lots_of ok hm, hs, hf]
  simp [trimR, MO.pv]
theorem t_marks_with {m : List (List Str)} (ok : d.Ok) (hm : MarksOk d m) : m_marks_with [.p d.objP, .p (lotsP d m)] S = .ok (.p (marksP m)) S := by
  refine pure_all ?_ (by intros; rfl) S
  have hsz := size_1000
  have hts := ok.ts.2.2.1
  obtain ⟨e2, S2, hf, a, b, c, f, rfl, rfl⟩ := for_all (g := gT 2 (gConsM (gN 3) (gConsM (gN 4) gNilM))) (b := (dropS (mMeth 3 fAppend (mVar 2) (mCons (mB fTuple (mCons (mLC false [5, 6] (mZip2 (mCons (mFld fl0 "stuffs" (mVar 0)) (mCons (mVar 1) mNil))) (gT 2 (gConsM (gN 5) (gConsM (gN 6) gNilM))) (mCmpT (fEq false) (mOp2 (fInt Builtin.bitAnd) (mOp2 (fIntC (fun _ j => decide (0 ≤ j)) fun i j => i / 2 ^ j.toNat) (mVar 6) (mVar 3)) (mC (.int 1))) (mC (.int 1))) (mVar 5)) mNil)) mNil))))
    (xs := (d.ts.zipIdx 0).map fun p => PV.tup [.int (p.2 : Nat), .str p.1])
    (e := [some (.p d.objP), some (.p (lotsP d m)), some (.l 0), none, none, none, none]) (S := [.lst []])
    (fun j e S2 => ∃ a b c f, e = [some (.p d.objP), some (.p (lotsP d m)), some (.l 0), a, b, c, f] ∧ S2 = [.lst ((m.take j).map sP)])
    ⟨none, none, none, none, rfl, rfl⟩ fun j x e S2 hx ⟨a, b, c, f, he, hS⟩ => by
      subst he hS
      rw [List.getElem?_map] at hx
      cases hz : (d.ts.zipIdx 0)[j]? with
      | none => rw [hz] at hx; cases hx
      | some p =>
        rw [hz] at hx
        cases hx
        have hj : j < d.ts.length := by
          have := (List.getElem?_eq_some_iff.mp hz).1
          simpa using this
        have hp2 : p.2 = j := by
          rw [List.getElem?_zipIdx, List.getElem?_eq_getElem hj] at hz
          cases hz
          simp
        have hjm : j < m.length := by rw [hm.len]; exact hj
        have hmj : m[j]? = some m[j] := List.getElem?_eq_getElem hjm
        have htk : m.take (j + 1) = m.take j ++ [m[j]] := by rw [List.take_add_one, hmj]; rfl
        have hk : kindN (.l 0) [MO.lst ((m.take j).map sP)] = 3 := rfl
        have hc : m[j] = d.ss.filter fun s => (hasL m s).getD j false := by
          rw [← sub_filter (hm.sub m[j] (List.getElem_mem _)) ok.nd2]
          refine List.filter_congr fun s _ => ?_
          unfold hasL
          simp [List.getD_eq_getElem?_getD, hmj]
        have st := lc_if (own := false) (g := gT 2 (gConsM (gN 5) (gConsM (gN 6) gNilM))) (mt := mCmpT (fEq false) (mOp2 (fInt Builtin.bitAnd) (mOp2 (fIntC (fun _ j => decide (0 ≤ j)) fun i j => i / 2 ^ j.toNat) (mVar 6) (mVar 3)) (mC (.int 1))) (mC (.int 1))) (me := mVar 5)
          (ew := [some (.p d.objP), some (.p (lotsP d m)), some (.l 0), some (.p (.int (j : Nat))), some (.p (.str p.1)), none, none])
          (enc := fun s => PV.tup [.str s, lotP (hasL m s)]) (c := fun s => (hasL m s).getD j false) (k := PV.str) (l := d.ss) (S := [MO.lst ((m.take j).map sP)]) rfl fun y hy => ⟨_, rfl, by
            have := lot_at_ (hasL m y) j
            simp [lotP, this], fun _ => by simp⟩
        have happ : fAppend (.l 0) [.p (.tup (m[j].map .str))] [MO.lst ((m.take j).map sP)] = some (.p .non, [MO.lst ((m.take (j + 1)).map sP)]) := by
          unfold fAppend
          dsimp only
          show (if _ then _ else _) = _
          rw [if_pos (by rw [List.length_map, List.length_take]; omega), htk, List.map_append]
          rfl
        rw [← hc] at st
        refine ⟨_, _, _, rfl, ?_, some (.p (.int (j : Nat))), some (.p (.str p.1)), c, f, rfl, rfl⟩
        simp [-List.map_take, hk, -at_mFldI, g_stuffs (d := d), src_lots, zip2_self, -lcF_X, hp2, st, happ]
  have he : (enumP 0 (d.ts.map PV.str)).map PV.tup = (d.ts.zipIdx 0).map fun p => PV.tup [.int (p.2 : Nat), .str p.1] := by
    rw [enum_map, List.map_map]
    rfl
  have htl : m.take ((d.ts.zipIdx 0).map fun p => PV.tup [.int (p.2 : Nat), .str p.1]).length = m := by rw [List.length_map, List.length_zipIdx, ← hm.len, List.take_length]
  rw [htl] at hf
  simp [m_marks_with, -at_mFldI, g_tools (d := d), he, hf]
  rfl
theorem t_marks_behind {m : List (List Str)} {row : List Stp} (ok : d.Ok) (hm : MarksOk d m) (h : ∀ t ∈ row, t.Ok d) (hl : row.length ≤ 100) : m_marks_behind [.p d.objP, .p (marksP m), .p (rowP row)] S = .ok (.p (marksP (lastM d m row))) S := by
  have hat : atI ((alongM d m row).map (lotsP d)) (-1) = some (lotsP d (lastM d m row)) := atI_last (i := row.length) (by rw [List.length_map, along_len]) (by
    rw [List.getElem?_map, along_last]
    rfl)
  simp [m_marks_behind, t_lots_along ok hm h hl, hat, t_marks_with ok (last_ok hm)]
theorem t_behind {m : List (List Str)} {row : List Stp} (ok : d.Ok) (hm : MarksOk d m) (h : ∀ t ∈ row, t.Ok d) (hl : row.length ≤ 60) : m_behind [.p d.objP, .p (marksP m), .p (rowP row)] S = .ok (.p (marksP (lastM d m row))) S := by
  simp [m_behind, t_check_asked ok hm h hl, t_marks_behind ok hm h (by omega)]
/-- steps beside what stands ahead of them -/
def besideM (d : Wk) (m : List (List Str)) : List Stp → List (List (List Str) × Stp)
  | [] => []
  | t :: r => (m, t) :: besideM d (stepM d m t) r
theorem zip_beside : ∀ {row : List Stp} {m : List (List Str)}, zip2P ((alongM d m row).map (lotsP d)) (row.map Stp.P) = (besideM d m row).map fun p => [lotsP d p.1, p.2.P]
  | [], m => rfl
  | t :: r, m => by
    show [lotsP d m, t.P] :: zip2P ((alongM d (stepM d m t) r).map (lotsP d)) (r.map Stp.P) = _
    rw [zip_beside]
    rfl
theorem beside_ok : ∀ {row : List Stp} {m : List (List Str)}, MarksOk d m → (∀ t ∈ row, t.Ok d) → ∀ p ∈ besideM d m row, MarksOk d p.1 ∧ p.2.Ok d
  | [], m, hm, h, p, hp => by cases hp
  | t :: r, m, hm, h, p, hp => by
    rcases List.mem_cons.mp hp with rfl | hp
    · exact ⟨hm, h t List.mem_cons_self⟩
    · exact beside_ok (step_ok hm) (fun u hu => h u (List.mem_cons_of_mem _ hu)) p hp
theorem beside_len : ∀ {row : List Stp} {m : List (List Str)}, (besideM d m row).length = row.length
  | [], m => rfl
  | t :: r, m => by show (besideM d (stepM d m t) r).length + 1 = _; rw [beside_len]; rfl
def madeB (d : Wk) (ps : List (List (List Str) × Stp)) : List (List Str) := ps.filterMap fun p => match p.2 with | .mk i => some (d.ss.filter (inMade d p.1 (.mk i))) | .wsh _ => none
theorem made_beside : ∀ {row : List Stp} {m : List (List Str)}, madeB d (besideM d m row) = madeM d m row
  | [], m => rfl
  | .mk i :: r, m => by
    show _ :: madeB d (besideM d (stepM d m (.mk i)) r) = _
    rw [made_beside]
    rfl
  | .wsh i :: r, m => by
    show madeB d (besideM d (stepM d m (.wsh i)) r) = _
    rw [made_beside]
    rfl
theorem t_made_by {m : List (List Str)} {row : List Stp} (ok : d.Ok) (hm : MarksOk d m) (h : ∀ t ∈ row, t.Ok d) (hl : row.length ≤ 100) : m_made_by [.p d.objP, .p (marksP m), .p (rowP row)] S = .ok (.p (marksP (madeM d m row))) S := by
  refine pure_all ?_ (by intros; rfl) S
  have hsz := size_1000
  obtain ⟨e2, S2, hf, a, b, rfl, rfl⟩ := for_all (g := gT 2 (gConsM (gN 4) (gConsM (gN 5) gNilM))) (b := (ifS (mCmpT (fEq false) (mIx (mVar 5) (mC (.int 0))) (mC (.str "make"))) (dropS (mMeth 3 fAppend (mVar 3) (mCons (mCall m_stuffs_in [] (mCons (mVar 0) (mCons (mVar 4) (mCons (mVar 5) mNil)))) mNil))) nilS)) (xs := (besideM d m row).map fun p => PV.tup [lotsP d p.1, p.2.P])
    (e := [some (.p d.objP), some (.p (marksP m)), some (.p (rowP row)), some (.l 0), none, none]) (S := [.lst []])
    (fun j e S2 => ∃ a b, e = [some (.p d.objP), some (.p (marksP m)), some (.p (rowP row)), some (.l 0), a, b] ∧ S2 = [.lst ((madeB d ((besideM d m row).take j)).map sP)])
    ⟨none, none, rfl, rfl⟩ fun j x e S2 hx ⟨a, b, he, hS⟩ => by
      subst he hS
      rw [List.getElem?_map] at hx
      cases hr : (besideM d m row)[j]? with
      | none => rw [hr] at hx; cases hx
      | some p =>
        rw [hr] at hx
        cases hx
        have hj := (List.getElem?_eq_some_iff.mp hr).1
        rw [beside_len] at hj
        obtain ⟨pm, pt⟩ := beside_ok hm h p (List.mem_of_getElem? hr)
        have htk : (besideM d m row).take (j + 1) = (besideM d m row).take j ++ [p] := by rw [List.take_add_one, hr]; rfl
        have hk : kindN (.l 0) [MO.lst ((madeB d ((besideM d m row).take j)).map sP)] = 3 := rfl
        have hless : (madeB d ((besideM d m row).take j)).length ≤ j := by
          refine Nat.le_trans (List.length_filterMap_le _ _) ?_
          rw [List.length_take]
          omega
        have q := fun S => t_stuffs_in (S := S) ok pm pt
        obtain ⟨pm', pt'⟩ := p
        dsimp only at q ⊢
        cases pt' with
        | wsh i =>
          have e0 : atI [PV.str "wash", .int i] 0 = some (.str "wash") := rfl
          refine ⟨_, _, _, rfl, ?_, some (.p (lotsP d pm')), some (.p (Stp.wsh i).P), rfl, rfl⟩
          have hsame : madeB d ((besideM d m row).take (j + 1)) = madeB d ((besideM d m row).take j) := by
            rw [htk]
            unfold madeB
            rw [List.filterMap_append]
            simp
          rw [hsame]
          unfold Stp.P
          simp [e0, make_wash.1]
        | mk i =>
          have e0 : atI [PV.str "make", .int i] 0 = some (.str "make") := rfl
          have hmore : madeB d ((besideM d m row).take (j + 1)) = madeB d ((besideM d m row).take j) ++ [d.ss.filter (inMade d pm' (.mk i))] := by
            rw [htk]
            unfold madeB
            rw [List.filterMap_append]
            simp
          have happ : fAppend (.l 0) [.p (sP (d.ss.filter (inMade d pm' (.mk i))))] [MO.lst ((madeB d ((besideM d m row).take j)).map sP)] = some (.p .non, [MO.lst ((madeB d ((besideM d m row).take (j + 1))).map sP)]) := by
            unfold fAppend
            dsimp only
            show (if _ then _ else _) = _
            rw [if_pos (by rw [List.length_map]; omega), hmore, List.map_append]
            rfl
          refine ⟨_, _, _, rfl, ?_, some (.p (lotsP d pm')), some (.p (Stp.mk i).P), rfl, rfl⟩
          unfold Stp.P at q ⊢
          simp [-List.map_take, e0, hk, q, happ]
  have he : (zip2P ((alongM d m row).map (lotsP d)) (row.map Stp.P)).map PV.tup = (besideM d m row).map fun p => PV.tup [lotsP d p.1, p.2.P] := by
    rw [zip_beside, List.map_map]
    rfl
  have hs : srcR (.p (rowP row)) = some (row.map Stp.P) := rfl
  rw [List.length_map, List.take_length, made_beside] at hf
  simp [m_made_by, t_lots_along ok hm h hl, hs, he, hf]
  rfl
theorem t_made_row {m : List (List Str)} {row : List Stp} (ok : d.Ok) (hm : MarksOk d m) (h : ∀ t ∈ row, t.Ok d) (hl : row.length ≤ 60) : m_made [.p d.objP, .p (marksP m), .p (rowP row)] S = .ok (.p (marksP (madeM d m row))) S := by
  simp [m_made, t_check_asked ok hm h hl, t_made_by ok hm h (by omega)]
end
end Q
end

section
set_option Elab.async false
set_option linter.all false
set_option maxRecDepth 100000
set_option maxHeartbeats 1000000
namespace Q
open PySem PySem.Spec L2 Mm
/-! ## foul steps -/
section
variable {d : Wk} {S : Sto}
theorem ez_map {α : Type} {f : α → List PV} : ∀ {l : List α} {i : Nat}, ezP i (l.map f) = (l.zipIdx i).map fun p => PV.tup [.int (p.2 : Nat), .tup (f p.1)]
  | [], i => rfl
  | x :: l, i => by
    show PV.tup [.int (i : Nat), .tup (f x)] :: ezP (i + 1) (l.map f) = _
    rw [ez_map]
    rfl
def optI : Option Nat → PV
  | none => .non
  | some i => .int i
theorem lay_strs {l : List Str} (h : ∀ x ∈ l, PyData.strOk x = true) : Mm.shp (.lst (l.map .str)) = true := by
  have q := lays (n := 0) (xs := l.map PV.str) fun y hy => by
    obtain ⟨x, hx, rfl⟩ := List.mem_map.mp hy
    exact .str (h x hx)
  unfold Mm.shp SeqAt.shaped PV.D
  have q2 := q.2
  simp [PyData.canLay0, PyData.depth, q.1]
  omega
theorem ne_lst {l : List Str} (h : ∀ x ∈ l, PyData.strOk x = true) : fEq true (.lst (l.map .str)) (.lst []) = some (!l.isEmpty) := by
  have h1 := lay_strs h
  have h2 : Mm.shp (.lst []) = true := lay_strs (l := []) (by simp)
  unfold fEq eqF
  simp only [h1, h2, Bool.and_self, if_true]
  cases l with
  | nil => rfl
  | cons x l => rfl
theorem first_beside : ∀ {row : List Stp} {m : List (List Str)}, firstM d m row = (besideM d m row).findIdx? fun p => !(foulM d p.1 p.2).isEmpty
  | [], m => rfl
  | t :: r, m => by
    show (if foulM d m t = [] then _ else _) = ((m, t) :: besideM d (stepM d m t) r).findIdx? _
    rw [List.findIdx?_cons, ← first_beside]
    cases h : foulM d m t with
    | nil => simp [h]
    | cons x l => simp [h]
theorem t_first_foul_by {m : List (List Str)} {row : List Stp} (ok : d.Ok) (hm : MarksOk d m) (h : ∀ t ∈ row, t.Ok d) (hl : row.length ≤ 100) : m_first_foul_by [.p d.objP, .p (marksP m), .p (rowP row)] S = .ok (.p (optI (firstM d m row))) S := by
  have hs : srcR (.p (rowP row)) = some (row.map Stp.P) := rfl
  have he : ezP 0 (zip2P ((alongM d m row).map (lotsP d)) (row.map Stp.P)) = ((besideM d m row).zipIdx 0).map fun p => PV.tup [.int (p.2 : Nat), .tup [lotsP d p.1.1, p.1.2.P]] := by
    rw [zip_beside, ez_map]
  have st := for_find (g := gT 2 (gConsM (gN 3) (gConsM (gT 2 (gConsM (gN 4) (gConsM (gN 5) gNilM))) gNilM))) (b := (ifS (mCmpT (fEq true) (mCall m_foul_stuffs [] (mCons (mVar 0) (mCons (mVar 4) (mCons (mVar 5) mNil)))) (mLst mNil)) (retS (mVar 3)) nilS)) (S := S)
    (e0 := []) (res := fun j => match (besideM d m row)[j]? with | some p => if (foulM d p.1 p.2).isEmpty then none else some (.p (.int (j : Nat))) | none => none)
    (((besideM d m row).zipIdx 0).map fun p => PV.tup [.int (p.2 : Nat), .tup [lotsP d p.1.1, p.1.2.P]]) 0 (fun _ e => ∃ a b c, e = [some (.p d.objP), some (.p (marksP m)), some (.p (rowP row)), a, b, c])
    (e := [some (.p d.objP), some (.p (marksP m)), some (.p (rowP row)), none, none, none]) ⟨_, _, _, rfl⟩ fun j x e hx ⟨a, b, c, he⟩ => by
      subst he
      rw [List.getElem?_map, List.getElem?_zipIdx] at hx
      cases hr : (besideM d m row)[j]? with
      | none => rw [hr] at hx; cases hx
      | some p =>
        rw [hr] at hx
        have hx : x = .tup [.int ((0 + j : Nat) : Int), .tup [lotsP d p.1, p.2.P]] := (Option.some.inj hx).symm
        subst hx
        obtain ⟨pm, pt⟩ := beside_ok hm h p (List.mem_of_getElem? hr)
        refine ⟨_, rfl, ?_⟩
        rw [Nat.zero_add, hr]
        dsimp only
        have q := fun S => t_foul_stuffs (S := S) ok pm pt
        have hne := ne_lst (l := foulM d p.1 p.2) fun y hy => ok.k2 y (List.mem_filter.mp hy).1
        cases hf : (foulM d p.1 p.2).isEmpty with
        | true =>
          rw [hf] at hne
          simp [q, hne]
        | false =>
          rw [hf] at hne
          simp [q, hne]
  have hlen : (((besideM d m row).zipIdx 0).map fun p => PV.tup [.int (p.2 : Nat), .tup [lotsP d p.1.1, p.1.2.P]]).length = (besideM d m row).length := by simp
  rcases st with ⟨j, v, hj, h1, h2, h3⟩ | ⟨h1, e2, h2, _⟩
  · rw [hlen] at hj
    rw [Nat.zero_add, List.getElem?_eq_getElem hj] at h1
    dsimp only at h1
    have hfirst : firstM d m row = some j := by
      rw [first_beside, List.findIdx?_eq_some_iff_getElem]
      refine ⟨hj, ?_, fun k hk => ?_⟩
      · split at h1
        · cases h1
        · rename_i hn; simpa using hn
      · have := h2 k hk
        rw [Nat.zero_add, List.getElem?_eq_getElem (by omega)] at this
        dsimp only at this
        split at this
        · rename_i hn; simpa using hn
        · cases this
    have hv : v = .p (.int (j : Nat)) := by
      split at h1
      · cases h1
      · exact (Option.some.inj h1).symm
    subst hv
    rw [hfirst]
    simp [m_first_foul_by, t_lots_along ok hm h hl, hs, he, h3, optI]
  · have hfirst : firstM d m row = none := by
      rw [first_beside, List.findIdx?_eq_none_iff]
      intro p hp
      obtain ⟨k, hk⟩ := List.mem_iff_getElem?.mp hp
      have := h1 k (by rw [hlen]; exact (List.getElem?_eq_some_iff.mp hk).1)
      rw [Nat.zero_add, hk] at this
      dsimp only at this
      split at this
      · rename_i hn; simpa using hn
      · cases this
    rw [hfirst]
    simp [m_first_foul_by, t_lots_along ok hm h hl, hs, he, h2, optI]
theorem t_first_foul {m : List (List Str)} {row : List Stp} (ok : d.Ok) (hm : MarksOk d m) (h : ∀ t ∈ row, t.Ok d) (hl : row.length ≤ 60) : m_first_foul [.p d.objP, .p (marksP m), .p (rowP row)] S = .ok (.p (optI (firstM d m row))) S := by
  simp [m_first_foul, t_check_asked ok hm h hl, t_first_foul_by ok hm h (show row.length ≤ 100 by omega)]
theorem t_is_clean {m : List (List Str)} {row : List Stp} (ok : d.Ok) (hm : MarksOk d m) (h : ∀ t ∈ row, t.Ok d) (hl : row.length ≤ 60) : m_is_clean [.p d.objP, .p (marksP m), .p (rowP row)] S = .ok (.p (.bl (firstM d m row).isNone)) S := by
  cases hf : firstM d m row <;> simp [m_is_clean, t_check_asked ok hm h hl, t_first_foul_by ok hm h (show row.length ≤ 100 by omega), hf, optI]
end
end Q
end

section
set_option Elab.async false
set_option linter.all false
set_option maxRecDepth 100000
set_option maxHeartbeats 1000000
namespace Q
open PySem PySem.Spec L2 Mm
/-! ## the law's own steps -/
def cOf : List Str → List (List Str) → Str → List Str
  | t :: ts, c :: m, x => if t = x then c else cOf ts m x
  | _, _, _ => []
theorem zip_cOf : ∀ {ts : List Str} {m : List (List Str)}, ts.Nodup → m.length = ts.length → ts.zip m = ts.map fun x => (x, cOf ts m x)
  | [], m, _, h => rfl
  | t :: ts, [], _, h => by cases h
  | t :: ts, c :: m, nd, h => by
    have nd := List.nodup_cons.mp nd
    rw [List.zip_cons_cons, zip_cOf nd.2 (by simpa using h), List.map_cons]
    congr 1
    · unfold cOf; simp
    · refine List.map_congr_left fun x hx => ?_
      have : t ≠ x := fun e => nd.1 (e ▸ hx)
      conv => rhs; unfold cOf
      rw [if_neg this]
def kvs (ts : List Str) (f : Str → List Str) : List (Key × PV) := ts.map fun x => (.inr x, sP (f x))
theorem keys_zip : ∀ {ts : List Str} {m : List (List Str)}, ts.Nodup → m.length = ts.length → keysP (ts.map PV.str) (m.map sP) = some (kvs ts (cOf ts m))
  | [], m, _, h => rfl
  | t :: ts, [], _, h => by cases h
  | t :: ts, c :: m, nd, h => by
    have nd := List.nodup_cons.mp nd
    have ih := keys_zip (ts := ts) (m := m) nd.2 (by simpa using h)
    rw [List.map_cons, List.map_cons]
    unfold keysP
    rw [ih]
    show some ((Sum.inr t, sP c) :: kvs ts (cOf ts m)) = _
    congr 1
    unfold kvs
    rw [List.map_cons]
    congr 1
    · unfold cOf; simp
    · refine List.map_congr_left fun x hx => ?_
      have : t ≠ x := fun e => nd.1 (e ▸ hx)
      conv => rhs; unfold cOf
      rw [if_neg this]
theorem has_kvs {f : Str → List Str} {x : Str} : ∀ {ts : List Str}, hasP (kvs ts f) (.inr x) = decide (x ∈ ts)
  | [] => rfl
  | t :: ts => by
    show (if (Sum.inr t : Key) = .inr x then true else hasP (kvs ts f) (.inr x)) = _
    rw [has_kvs]
    by_cases h : t = x
    · subst h; simp
    · rw [if_neg (fun e => h (by injection e))]
      simp [Ne.symm h]
theorem look_kvs {f : Str → List Str} {x : Str} : ∀ {ts : List Str}, x ∈ ts → lookP (kvs ts f) (.inr x) = some (sP (f x))
  | t :: ts, hx => by
    show (if (Sum.inr t : Key) = .inr x then some (sP (f t)) else lookP (kvs ts f) (.inr x)) = _
    by_cases h : t = x
    · subst h; simp
    · rw [if_neg (fun e => h (by injection e))]
      exact look_kvs ((List.mem_cons.mp hx).resolve_left (Ne.symm h))
theorem put_new {k : Key} {v : PV} {xs : List (Key × PV)} (h : hasP xs k = false) : putD xs k v = xs ++ [(k, v)] := by
  unfold putD
  rw [h]
  rfl
theorem merge_kvs {f : Str → List Str} : ∀ {us ts : List Str}, (ts ++ us).Nodup → mergeP (kvs ts f) (kvs us f) = kvs (ts ++ us) f
  | [], ts, _ => by rw [List.append_nil]; rfl
  | u :: us, ts, nd => by
    show mergeP (putD (kvs ts f) (.inr u) (sP (f u))) (kvs us f) = _
    have hu : u ∉ ts := fun z => (List.nodup_append.mp nd).2.2 u z u List.mem_cons_self rfl
    rw [put_new (by rw [has_kvs]; simpa using hu)]
    have e : kvs ts f ++ [(.inr u, sP (f u))] = kvs (ts ++ [u]) f := by unfold kvs; rw [List.map_append]; rfl
    rw [e, merge_kvs (by simpa using nd)]
    simp
theorem set_kvs {f : Str → List Str} {x : Str} {c : List Str} : ∀ {ts : List Str}, setP (kvs ts f) (.inr x) (sP c) = kvs ts fun y => if y = x then c else f y
  | [] => rfl
  | t :: ts => by
    show (Sum.inr t, if (Sum.inr t : Key) = .inr x then sP c else sP (f t)) :: setP (kvs ts f) (.inr x) (sP c) = _
    rw [set_kvs]
    unfold kvs
    rw [List.map_cons]
    congr 1
    by_cases h : t = x
    · subst h; simp
    · rw [if_neg (fun e => h (by injection e))]
      simp [h]
theorem put_kvs {f : Str → List Str} {x : Str} {c : List Str} {ts : List Str} (h : x ∈ ts) : putD (kvs ts f) (.inr x) (sP c) = kvs ts fun y => if y = x then c else f y := by
  unfold putD
  rw [has_kvs, decide_eq_true h]
  exact set_kvs
section
variable {d : Wk} {m : List (List Str)} {t : Stp} {S : Sto}
theorem mkP {i : Nat} : (Stp.mk i).P = .tup [.str "make", .int i] := rfl
theorem wsP {i : Nat} : (Stp.wsh i).P = .tup [.str "wash", .int i] := rfl
theorem takes_eq {i : Nat} {w : Wsh} {s : Str} (hw : d.ws[i]? = some w) : d.takes (.wsh i) s = if s ∈ w.2.1 then some w.1 else none := by
  unfold Wk.takes
  dsimp only
  rw [hw]
def within (d : Wk) (m : List (List Str)) : Stp → PV
  | .mk i => sP (d.ss.filter (inMade d m (.mk i)))
  | .wsh _ => .non
theorem t_law_behind (ok : d.Ok) (hm : MarksOk d m) (h : t.Ok d) : m__law_behind [.p d.partsP, .p (marksP m), .p t.P] S = .ok (.p (.tup [marksP (stepM d m t), within d m t])) S := by
  refine pure_all ?_ (by intros; rfl) S
  have hz := zip_cOf ok.nd1 hm.len
  have hsz := size_1000
  have i0 : atI [sP d.ts, sP d.ss, .tup (d.rs.map recP), .tup (d.ws.map wshP)] 0 = some (sP d.ts) := rfl
  have i1 : atI [sP d.ts, sP d.ss, .tup (d.rs.map recP), .tup (d.ws.map wshP)] 1 = some (sP d.ss) := rfl
  have i2 : atI [sP d.ts, sP d.ss, .tup (d.rs.map recP), .tup (d.ws.map wshP)] 2 = some (.tup (d.rs.map recP)) := rfl
  have i3 : atI [sP d.ts, sP d.ss, .tup (d.rs.map recP), .tup (d.ws.map wshP)] 3 = some (.tup (d.ws.map wshP)) := rfl
  have hs : ∀ m : List (List Str), srcR (.p (marksP m)) = some (m.map sP) := fun m => rfl
  have hq : ∀ m : List (List Str), mDZip.isSeqR (.p (marksP m)) = true := fun m => rfl
  have hq2 : ∀ l : List Str, mDZip.isSeqR (.p (sP l)) = true := fun m => rfl
  have hmg : mergeP [] (kvs d.ts (cOf d.ts m)) = kvs d.ts (cOf d.ts m) := merge_kvs (ts := []) (us := d.ts) ok.nd1
  have dz : mDZip (mCons (mIx (mVar 0) (mC (.int 0))) (mCons (mVar 1) mNil)) [some (.p d.partsP), some (.p (marksP m)), some (.p t.P), none, none, none, none, none, none, none, none, none, none, none] [] = .ok (.l 0) [.dic (kvs d.ts (cOf d.ts m))] := by
    unfold mDZip Wk.partsP
    simp [i0, hs, keys_zip ok.nd1 hm.len, hq, hq2, hmg]
  cases t with
  | wsh i =>
    obtain ⟨w, hw⟩ := wsh_get h
    have hwo := ok.ws.2.2 w (List.mem_of_getElem? hw)
    have e0 : atI [PV.str "wash", .int i] 0 = some (.str "wash") := rfl
    have e1 : atI [PV.str "wash", .int i] 1 = some (.int i) := rfl
    have st1 := lc_if (own := false) (g := gN 13) (mt := mCmpT (fIn true) (mVar 13) (mVar 5)) (me := mVar 13)
      (ew := [some (.p d.partsP), some (.p (marksP m)), some (.p (Stp.wsh i).P), some (.l 0), some (.p (.str w.1)), some (.p (sP w.2.1)), some (.p (.int w.2.2)), none, none, none, none, none, none, none])
      (enc := PV.str) (c := fun y => decide (y ∉ w.2.1)) (k := PV.str) (l := cOf d.ts m w.1) (S := [.dic (kvs d.ts (cOf d.ts m))]) rfl fun y hy => ⟨_, rfl, by simp [names_in], fun _ => by simp⟩
    obtain ⟨F, hF⟩ : ∃ F, F = (cOf d.ts m w.1).filter fun y => decide (y ∉ w.2.1) := ⟨_, rfl⟩
    rw [← hF] at st1
    have st2 := lc_all (own := false) (g := gN 4) (me := mDGet (mVar 3) (mVar 4))
      (ew := [some (.p d.partsP), some (.p (marksP m)), some (.p (Stp.wsh i).P), some (.l 0), none, some (.p (sP w.2.1)), some (.p (.int w.2.2)), none, none, none, none, none, none, none])
      (enc := PV.str) (k := fun x => sP (if x = w.1 then F else cOf d.ts m x)) (l := d.ts) (S := [.dic (kvs d.ts fun x => if x = w.1 then F else cOf d.ts m x)]) rfl fun y hy => ⟨_, rfl, by simp [dicOf, look_kvs hy]⟩
    have hlook : lookP (kvs d.ts (cOf d.ts m)) (.inr w.1) = some (sP (cOf d.ts m w.1)) := look_kvs hwo.tool
    have hput : putD (kvs d.ts (cOf d.ts m)) (.inr w.1) (.tup (F.map .str)) = kvs d.ts fun x => if x = w.1 then F else cOf d.ts m x := put_kvs hwo.tool
    have hkl : (kvs d.ts (cOf d.ts m)).length < sizeLine := by
      unfold kvs
      have := ok.ts.2.2.1
      rw [List.length_map]
      omega
    have hres : marksP (stepM d m (.wsh i)) = .tup (d.ts.map fun x => sP (if x = w.1 then F else cOf d.ts m x)) := by
      unfold stepM marksP
      dsimp only
      rw [hz, List.map_map, List.map_map]
      congr 1
      refine List.map_congr_left fun x hx => ?_
      dsimp only [Function.comp]
      congr 1
      by_cases hxw : x = w.1
      · rw [if_pos hxw, hF, hxw]
        refine List.filter_congr fun s _ => ?_
        rw [takes_eq hw]
        by_cases hsw : s ∈ w.2.1 <;> simp [hsw]
      · rw [if_neg hxw, List.filter_eq_self]
        intro s _
        rw [takes_eq hw]
        by_cases hsw : s ∈ w.2.1
        · simp [hsw, Ne.symm hxw]
        · simp [hsw]
    rw [hres]
    have hw3 : wshP w = .tup [.str w.1, sP w.2.1, .int w.2.2] := rfl
    unfold m__law_behind
    simp only [at_mDef, at_seqS, at_setS, at_bindS, List.map_cons, List.map_nil, List.length_cons, List.length_nil, List.replicate, List.cons_append, List.nil_append, dz]
    unfold Wk.partsP Stp.P at st1 st2 ⊢
    simp [i0, i3, e0, e1, at_ws hw, hw3, dicOf, hlook, -lcF_X, st1, hput, hkl, st2, within]
  | mk i =>
    obtain ⟨r, hr⟩ := mk_get h
    have hro := ok.rs.2.2.2 r (List.mem_of_getElem? hr)
    have e0 : atI [PV.str "make", .int i] 0 = some (.str "make") := rfl
    have e1 : atI [PV.str "make", .int i] 1 = some (.int i) := rfl
    have hr4 : recP r = .tup [.str r.1, sP r.2.1, sP r.2.2.1, sP r.2.2.2] := rfl
    have hu : d.uses (.mk i) = r.2.2.1 := by unfold Wk.uses; dsimp only; rw [hr]
    have hp : d.puts (.mk i) = r.2.1 := by unfold Wk.puts; dsimp only; rw [hr]
    have hulen : r.2.2.1.length ≤ 6 := Nat.le_trans hro.uses.length_le ok.ts.2.2.1
    have hplen : r.2.1.length ≤ 4 := Nat.le_trans hro.puts.length_le ok.ss.2.2.1
    have hclen : ∀ x ∈ d.ts, (cOf d.ts m x).length ≤ 4 := fun x hx => by
      have hin : (x, cOf d.ts m x) ∈ d.ts.zip m := by rw [hz]; exact List.mem_map.mpr ⟨x, hx, rfl⟩
      exact Nat.le_trans (hm.sub _ (List.of_mem_zip hin).2).length_le ok.ss.2.2.1
    have hflen : ∀ j, ((r.2.2.1.take j).flatMap (cOf d.ts m)).length ≤ 4 * 6 := fun j => by
      have : ∀ us : List Str, (∀ x ∈ us, x ∈ d.ts) → (us.flatMap (cOf d.ts m)).length ≤ 4 * us.length := fun us => by
        induction us with
        | nil => simp
        | cons x us ih =>
          intro hin
          have h1 := ih fun y hy => hin y (List.mem_cons_of_mem _ hy)
          have h2 := hclen x (hin x List.mem_cons_self)
          rw [List.flatMap_cons, List.length_append, List.length_cons]
          omega
      have q := this (r.2.2.1.take j) fun x hx => hro.uses.subset (List.mem_of_mem_take hx)
      have : (r.2.2.1.take j).length ≤ 6 := by rw [List.length_take]; omega
      omega
    obtain ⟨e2, S2, hf, a4, rfl, rfl⟩ := for_all (g := gN 4) (b := (setS 11 (mOp2 fAdd (mVar 11) (mDGet (mVar 3) (mVar 4))))) (xs := r.2.2.1.map PV.str)
      (e := [some (.p d.partsP), some (.p (marksP m)), some (.p (Stp.mk i).P), some (.l 0), none, none, none, some (.p (.str r.1)), some (.p (sP r.2.1)), some (.p (sP r.2.2.1)), some (.p (sP r.2.2.2)), some (.p (sP r.2.1)), none, none]) (S := [.dic (kvs d.ts (cOf d.ts m))])
      (fun j e S2 => ∃ a4 : Option PV, e = [some (.p d.partsP), some (.p (marksP m)), some (.p (Stp.mk i).P), some (.l 0), a4.map RV.p, none, none, some (.p (.str r.1)), some (.p (sP r.2.1)), some (.p (sP r.2.2.1)), some (.p (sP r.2.2.2)), some (.p (sP (r.2.1 ++ (r.2.2.1.take j).flatMap (cOf d.ts m)))), none, none] ∧ S2 = [.dic (kvs d.ts (cOf d.ts m))])
      ⟨none, by simp, rfl⟩ fun j x e S2 hx ⟨a4, he, hS⟩ => by
        subst he hS
        rw [List.getElem?_map] at hx
        cases hu : r.2.2.1[j]? with
        | none => rw [hu] at hx; cases hx
        | some u =>
          rw [hu] at hx
          cases hx
          have hut : u ∈ d.ts := hro.uses.subset (List.mem_of_getElem? hu)
          have htk : r.2.2.1.take (j + 1) = r.2.2.1.take j ++ [u] := by rw [List.take_add_one, hu]; rfl
          have hl1 := hflen j
          have hl2 := hclen u hut
          have hadd : fAdd (sP (r.2.1 ++ (r.2.2.1.take j).flatMap (cOf d.ts m))) (sP (cOf d.ts m u)) = some (sP (r.2.1 ++ (r.2.2.1.take (j + 1)).flatMap (cOf d.ts m))) := by
            unfold sP
            rw [at_fAddT, if_pos (by rw [List.length_map, List.length_map, List.length_append]; omega), htk, List.flatMap_append, ← List.map_append]
            simp
          refine ⟨_, _, _, rfl, ?_, some (.str u), rfl, rfl⟩
          simp [dicOf, look_kvs hut, hadd]
    rw [List.length_map, List.take_length] at hf
    obtain ⟨C, hC⟩ : ∃ C, C = r.2.1 ++ r.2.2.1.flatMap (cOf d.ts m) := ⟨_, rfl⟩
    rw [← hC] at hf
    have hin : ∀ s, decide (s ∈ C) = inMade d m (.mk i) s := fun s => by
      unfold inMade
      rw [hp, hu, hz, List.any_map, hC]
      rw [Bool.eq_iff_iff]
      simp only [decide_eq_true_eq, List.mem_append, List.mem_flatMap, Bool.or_eq_true, List.any_eq_true, Function.comp, Bool.and_eq_true]
      constructor
      · rintro (q | ⟨u, q1, q2⟩)
        · exact .inl q
        · exact .inr ⟨u, hro.uses.subset q1, q1, q2⟩
      · rintro (q | ⟨u, q0, q1, q2⟩)
        · exact .inl q
        · exact .inr ⟨u, q1, q2⟩
    have st1 := lc_if (own := false) (g := gN 13) (mt := mCmpT (fIn false) (mVar 13) (mVar 11)) (me := mVar 13)
      (ew := [some (.p d.partsP), some (.p (marksP m)), some (.p (Stp.mk i).P), some (.l 0), a4.map RV.p, none, none, some (.p (.str r.1)), some (.p (sP r.2.1)), some (.p (sP r.2.2.1)), some (.p (sP r.2.2.2)), some (.p (sP C)), none, none])
      (enc := PV.str) (c := inMade d m (.mk i)) (k := PV.str) (l := d.ss) (S := [.dic (kvs d.ts (cOf d.ts m))]) (by cases a4 <;> rfl) fun y hy => ⟨_, rfl, by simp [names_inF, hin], fun _ => by simp⟩
    obtain ⟨F, hF⟩ : ∃ F, F = d.ss.filter (inMade d m (.mk i)) := ⟨_, rfl⟩
    rw [← hF] at st1
    have st2 := lc_all (own := false) (g := gN 4) (me := mIf (mCmpT (fIn false) (mVar 4) (mVar 9)) (mVar 12) (mDGet (mVar 3) (mVar 4)))
      (ew := [some (.p d.partsP), some (.p (marksP m)), some (.p (Stp.mk i).P), some (.l 0), none, none, none, some (.p (.str r.1)), some (.p (sP r.2.1)), some (.p (sP r.2.2.1)), some (.p (sP r.2.2.2)), some (.p (sP C)), some (.p (.tup (F.map .str))), none])
      (enc := PV.str) (k := fun x => sP (if x ∈ r.2.2.1 then F else cOf d.ts m x)) (l := d.ts) (S := [.dic (kvs d.ts (cOf d.ts m))]) rfl fun y hy => ⟨_, rfl, by
        by_cases hyu : y ∈ r.2.2.1
        · simp [names_inF, hyu]; rfl
        · simp [names_inF, hyu, dicOf, look_kvs hy]⟩
    have hres : marksP (stepM d m (.mk i)) = .tup (d.ts.map fun x => sP (if x ∈ r.2.2.1 then F else cOf d.ts m x)) := by
      unfold stepM marksP
      dsimp only
      rw [hz, List.map_map, List.map_map, ← hF, hu]
      rfl
    have hw2 : within d m (.mk i) = .tup (F.map .str) := by rw [hF]; rfl
    rw [hres, hw2]
    unfold m__law_behind
    simp only [at_mDef, at_seqS, at_setS, at_bindS, List.map_cons, List.map_nil, List.length_cons, List.length_nil, List.replicate, List.cons_append, List.nil_append, dz]
    rw [mkP] at st1 st2 hf ⊢
    unfold Wk.partsP at st1 st2 hf ⊢
    simp [i0, i1, i2, e0, e1, make_wash.2.2.2, at_rs hr, hr4, hf, -lcF_X, st1, st2]
end
end Q
end

section
set_option Elab.async false
set_option linter.all false
set_option maxRecDepth 100000
set_option maxHeartbeats 1000000
namespace Q
open PySem PySem.Spec L2 Mm
section
variable {d : Wk} {m : List (List Str)} {t : Stp} {S : Sto}
theorem made_snoc : ∀ {row : List Stp} {m : List (List Str)}, madeM d m (row ++ [t]) = madeM d m row ++ (match t with | .mk i => [d.ss.filter (inMade d (lastM d m row) (.mk i))] | .wsh _ => [])
  | [], m => by cases t <;> rfl
  | .mk i :: r, m => by
    show _ :: madeM d (stepM d m (.mk i)) (r ++ [t]) = _
    rw [made_snoc]
    rfl
  | .wsh i :: r, m => by
    show madeM d (stepM d m (.wsh i)) (r ++ [t]) = _
    rw [made_snoc]
    rfl
theorem first_snoc : ∀ {row : List Stp} {m : List (List Str)}, firstM d m (row ++ [t]) = match firstM d m row with | some i => some i | none => if foulM d (lastM d m row) t = [] then none else some row.length
  | [], m => by
    show (if foulM d m t = [] then _ else _) = if foulM d m t = [] then _ else _
    split <;> rfl
  | u :: r, m => by
    show (if foulM d m u = [] then (firstM d (stepM d m u) (r ++ [t])).map (· + 1) else some 0) = _
    rw [first_snoc]
    show _ = match (if foulM d m u = [] then (firstM d (stepM d m u) r).map (· + 1) else some 0) with | some i => some i | none => _
    by_cases hu : foulM d m u = []
    · rw [if_pos hu, if_pos hu]
      cases firstM d (stepM d m u) r with
      | some i => rfl
      | none =>
        show Option.map _ (if foulM d (lastM d (stepM d m u) r) t = [] then none else some r.length) = if foulM d (lastM d (stepM d m u) r) t = [] then none else some (r.length + 1)
        split <;> rfl
    · rw [if_neg hu, if_neg hu]
theorem foul_mk {i : Nat} {r : Rec} (hr : d.rs[i]? = some r) : (d.ss.filter (inMade d m (.mk i))).filter (fun s => decide (s ∈ r.2.2.2)) = foulM d m (.mk i) := by
  rw [List.filter_filter]
  unfold foulM
  have : d.bars (.mk i) = r.2.2.2 := by unfold Wk.bars; dsimp only; rw [hr]
  rw [this]
theorem foul_wsh {i : Nat} : foulM d m (.wsh i) = [] := by
  unfold foulM
  rw [List.filter_eq_nil_iff]
  intro s _
  simp [Wk.bars]
theorem made_len {row : List Stp} {m : List (List Str)} : (madeM d m row).length ≤ row.length := by
  rw [← made_beside]
  refine Nat.le_trans (List.length_filterMap_le _ _) ?_
  rw [beside_len]
  omega
theorem isN_opt {neg : Bool} {o : Option Nat} : fIsN neg (optI o) .non = some (if neg then o.isSome else o.isNone) := by
  cases o <;> cases neg <;> rfl
theorem t_law_gone {row : List Stp} (ok : d.Ok) (hm : MarksOk d m) (h : ∀ t ∈ row, t.Ok d) (hl : row.length ≤ 100) : m__law_gone [.p d.partsP, .p (marksP m), .p (rowP row)] S = .ok (.p (.tup [marksP (lastM d m row), marksP (madeM d m row), optI (firstM d m row)])) S := by
  refine pure_all ?_ (by intros; rfl) S
  have hsz := size_1000
  have i2 : atI [sP d.ts, sP d.ss, .tup (d.rs.map recP), .tup (d.ws.map wshP)] 2 = some (.tup (d.rs.map recP)) := rfl
  obtain ⟨e2, S2, hf, a5, a6, a7, rfl, rfl⟩ := for_all (g := gN 5) (b := (seqS (asgS (mCall m__law_behind [] (mCons (mVar 0) (mCons (mVar 1) (mCons (mIx (mVar 2) (mVar 5)) mNil)))) (gT 2 (gConsM (gN 1) (gConsM (gN 6) gNilM)))) (ifS (mCmpT (fIsN true) (mVar 6) (mC .non)) (seqS (setS 3 (mOp2 fAdd (mVar 3) (mTup (mCons (mVar 6) mNil)))) (seqS (setS 7 (mCmp (fEq true) (mLC false [8] (mSeqI (mVar 6)) (gN 8) (mCmpT (fIn false) (mVar 8) (mIx (mIx (mIx (mVar 0) (mC (.int 2))) (mIx (mIx (mVar 2) (mVar 5)) (mC (.int 1)))) (mC (.int 3)))) (mVar 8)) (mLst mNil))) (setS 4 (mIf (mAndT (asB (mVar 7)) (mCmpT (fIsN false) (mVar 4) (mC .non))) (mVar 5) (mVar 4))))) nilS))) (xs := Mm.upTo 0 row.length)
    (e := [some (.p d.partsP), some (.p (marksP m)), some (.p (rowP row)), some (.p (marksP [])), some (.p .non), none, none, none, none]) (S := [])
    (fun j e S2 => ∃ a5 a6 a7 : Option PV, e = [some (.p d.partsP), some (.p (marksP (lastM d m (row.take j)))), some (.p (rowP row)), some (.p (marksP (madeM d m (row.take j)))), some (.p (optI (firstM d m (row.take j)))), a5.map RV.p, a6.map RV.p, a7.map RV.p, none] ∧ S2 = [])
    ⟨none, none, none, rfl, rfl⟩ fun j x e S2 hx ⟨a5, a6, a7, he, hS⟩ => by
      subst he hS
      have hj : j < row.length := by
        have := (List.getElem?_eq_some_iff.mp hx).1
        rwa [upTo_len] at this
      have hxj : x = .int (j : Nat) := by
        unfold Mm.upTo at hx
        rw [List.getElem?_map, List.getElem?_range hj] at hx
        have := (Option.some.inj hx).symm
        simpa using this
      subst hxj
      obtain ⟨t, ht⟩ : ∃ t, row[j]? = some t := ⟨_, List.getElem?_eq_getElem hj⟩
      have hto : t.Ok d := h t (List.mem_of_getElem? ht)
      have htk : row.take (j + 1) = row.take j ++ [t] := by rw [List.take_add_one, ht]; rfl
      have hlen : (row.take j).length = j := by rw [List.length_take]; omega
      have hmo := last_ok (row := row.take j) hm
      have hix : atI (row.map Stp.P) (j : Int) = some t.P := by
        unfold atI ixN
        rw [if_pos (by omega), if_pos (by rw [List.length_map]; omega)]
        simp [ht]
      have hrow : seqOf (.p (rowP row)) ([] : Sto) = some (row.map Stp.P) := rfl
      have q := fun S => t_law_behind (S := S) ok hmo hto
      have hml : (madeM d m (row.take j)).length ≤ j := by
        have := made_len (d := d) (row := row.take j) (m := m)
        omega
      rw [htk, last_snoc, made_snoc, first_snoc, hlen]
      cases t with
      | wsh i =>
        refine ⟨_, _, _, rfl, ?_, some (.int (j : Nat)), some .non, a7, rfl, rfl⟩
        have hw : within d (lastM d m (row.take j)) (.wsh i) = .non := rfl
        rw [hw] at q
        have hfst : (match firstM d m (row.take j) with | some i => some i | none => if foulM d (lastM d m (row.take j)) (.wsh i) = [] then none else some j) = firstM d m (row.take j) := by
          rw [if_pos foul_wsh]
          cases firstM d m (row.take j) <;> rfl
        rw [hfst]
        simp [hrow, hix, q]
      | mk i =>
        obtain ⟨r, hr⟩ := mk_get hto
        have e1 : atI [PV.str "make", .int i] 1 = some (.int i) := rfl
        have hr3 : atI [PV.str r.1, sP r.2.1, sP r.2.2.1, sP r.2.2.2] 3 = some (sP r.2.2.2) := rfl
        have hr4 : recP r = .tup [.str r.1, sP r.2.1, sP r.2.2.1, sP r.2.2.2] := rfl
        obtain ⟨F, hF⟩ : ∃ F, F = d.ss.filter (inMade d (lastM d m (row.take j)) (.mk i)) := ⟨_, rfl⟩
        have hw : within d (lastM d m (row.take j)) (.mk i) = sP F := by rw [hF]; rfl
        rw [hw] at q
        have hfoul := foul_mk (m := lastM d m (row.take j)) hr
        rw [← hF] at hfoul
        rw [mkP] at q hix
        have st := lc_if (own := false) (g := gN 8) (mt := mCmpT (fIn false) (mVar 8) (mIx (mIx (mIx (mVar 0) (mC (.int 2))) (mIx (mIx (mVar 2) (mVar 5)) (mC (.int 1)))) (mC (.int 3)))) (me := mVar 8)
          (ew := [some (.p d.partsP), some (.p (marksP (stepM d (lastM d m (row.take j)) (.mk i)))), some (.p (rowP row)), some (.p (marksP (madeM d m (row.take j) ++ [F]))), some (.p (optI (firstM d m (row.take j)))), some (.p (.int (j : Nat))), some (.p (sP F)), a7.map RV.p, none])
          (enc := PV.str) (c := fun s => decide (s ∈ r.2.2.2)) (k := PV.str) (l := F) (S := []) (by cases a7 <;> rfl) fun y hy => ⟨_, rfl, by
            unfold Wk.partsP
            simp [i2, hrow, hix, e1, at_rs hr, hr4, hr3, names_inF], fun _ => by simp⟩
        rw [hfoul] at st
        have hne := ne_lst (l := foulM d (lastM d m (row.take j)) (.mk i)) fun y hy => ok.k2 y (List.mem_filter.mp hy).1
        have hadd : fAdd (marksP (madeM d m (row.take j))) (.tup [sP F]) = some (marksP (madeM d m (row.take j) ++ [F])) := by
          unfold marksP
          rw [at_fAddT, if_pos (by rw [List.length_map]; simp; omega), List.map_append]
          rfl
        have hsrc : srcR (.p (sP F)) = some (F.map .str) := rfl
        have hnn : ∀ neg, fIsN neg (sP F) .non = some neg := fun neg => by cases neg <;> rfl
        refine ⟨_, _, _, rfl, ?_, some (.int (j : Nat)), some (sP F), some (.bl (!(foulM d (lastM d m (row.take j)) (.mk i)).isEmpty)), rfl, rfl⟩
        dsimp only
        rw [← hF]
        cases hfe : (foulM d (lastM d m (row.take j)) (.mk i)).isEmpty with
        | true =>
          rw [hfe] at hne
          have hnil : foulM d (lastM d m (row.take j)) (.mk i) = [] := List.isEmpty_iff.mp hfe
          have hfst : (match firstM d m (row.take j) with | some i => some i | none => if foulM d (lastM d m (row.take j)) (.mk i) = [] then none else some j) = firstM d m (row.take j) := by
            rw [if_pos hnil]
            cases firstM d m (row.take j) <;> rfl
          rw [hfst]
          simp [hrow, hix, q, hnn, hadd, hsrc, -lcF_X, st, hne]
        | false =>
          rw [hfe] at hne
          have hnil : ¬ foulM d (lastM d m (row.take j)) (.mk i) = [] := fun z => by rw [z] at hfe; cases hfe
          rw [if_neg hnil]
          simp [hrow, hix, q, hnn, hadd, hsrc, -lcF_X, st, hne, isN_opt]
          cases firstM d m (row.take j) <;> rfl
  rw [upTo_len, List.take_length] at hf
  have hl2 : (row.length : Int) ≤ 2 ^ 24 ∧ -(2 ^ 62) ≤ (row.length : Int) := by omega
  have hlr : fLen [.p (rowP row)] ([] : Sto) = some (.int row.length) := by unfold rowP; simp
  have hm0 : (PV.tup [] : PV) = marksP [] := rfl
  unfold m__law_gone
  simp only [at_mDef, at_seqS, at_asgS, at_bindS, at_mTup, at_bindM, at_mCons, at_mNil, at_mC, at_p1, at_p0, List.map_cons, List.map_nil, List.length_cons, List.length_nil, List.replicate, List.cons_append, List.nil_append, Nat.reduceLeDiff, if_pos, at_gT, at_gCons, at_gN, at_gNil, at_setE, List.set_cons_succ, List.set_cons_zero, at_forS, at_mRng1, at_mB, at_mVar, List.getElem?_cons_succ, List.getElem?_cons_zero, hlr, hl2, and_self, Int.toNat_natCast, hm0, hf, at_retS, at_trim, List.take_nil, Nat.zero_le, Nat.reduceAdd]
end
end Q
end

section
set_option Elab.async false
set_option linter.all false
set_option maxRecDepth 100000
set_option maxHeartbeats 1000000
namespace Q
open PySem PySem.Spec L2 Mm
/-! ## what may be written -/
structure Rp (n b : Nat) (x : PV) : Prop where
  lay : x.D.canLay0 = true
  sh : x.D.showable = true
  dp : x.D.depth ≤ n
  ln : x.D.shown.length ≤ b
theorem text_up : ∀ (ts : List Str) (k : Nat) (acc : Str), (textFrom k acc ts).length ≤ acc.length + piled ts
  | [], k, acc => by show acc.length ≤ _; omega
  | t :: r, k, acc => by
    have ih := text_up r (k + 1) (acc ++ (if k > 0 then ", " else "" : String) ++ t)
    rw [piled_cons]
    have e : (acc ++ (if k > 0 then ", " else "" : String) ++ t).length = acc.length + (if k > 0 then 2 else 0) + t.length := by
      rw [strLen_append, strLen_append]
      split <;> rfl
    rw [e] at ih
    have hc : (if k > 0 then 2 else 0) ≤ 2 := by split <;> omega
    refine Nat.le_trans ih ?_
    omega
theorem list_up (ts : List Str) : (listText ts).length ≤ piled ts + 2 := by
  unfold listText
  rw [strLen_append]
  have := text_up ts 0 "["
  have e1 : (("[" : String) : Str).length = 1 := rfl
  have e2 : (("]" : String) : Str).length = 1 := rfl
  omega
theorem tup_up (ts : List Str) : (tupleText ts).length ≤ piled ts + 3 := by
  unfold tupleText
  rw [strLen_append, strLen_append]
  have e1 : (("(" : String) : Str).length = 1 := rfl
  have e2 : ((if ts.length == 1 then ",)" else ")" : String) : Str).length ≤ 2 := by split <;> decide
  cases ts with
  | nil =>
    have e3 : (Str.join ", " ([] : List Str)).length = 0 := rfl
    omega
  | cons t r =>
    have := join_length_add (t :: r) (by simp)
    omega
theorem piled_le {b : Nat} : ∀ {ts : List Str}, (∀ t ∈ ts, t.length ≤ b) → piled ts ≤ ts.length * (b + 2)
  | [], _ => by rw [piled_nil]; omega
  | t :: r, h => by
    have := piled_le (ts := r) fun u hu => h u (List.mem_cons_of_mem _ hu)
    have := h t List.mem_cons_self
    rw [piled_cons, List.length_cons, Nat.add_mul]
    omega
theorem rps {n b : Nat} : ∀ {xs : List PV}, (∀ x ∈ xs, Rp n b x) → PyData.canLayAll0 (PV.Ds xs) = true ∧ PyData.showableAll (PV.Ds xs) = true ∧ PyData.depthAll (PV.Ds xs) ≤ n ∧ (PyData.shownAll (PV.Ds xs)).length = xs.length ∧ ∀ t ∈ PyData.shownAll (PV.Ds xs), t.length ≤ b
  | [], _ => by unfold PV.Ds; refine ⟨by simp [PyData.canLayAll0], by simp [PyData.showableAll], by simp [PyData.depthAll], by simp [PyData.shownAll], by simp [PyData.shownAll]⟩
  | x :: xs, h => by
    obtain ⟨a1, a2, a3, a4, a5⟩ := rps (xs := xs) fun y hy => h y (List.mem_cons_of_mem _ hy)
    have hx := h x List.mem_cons_self
    unfold PV.Ds
    refine ⟨by simp [PyData.canLayAll0, hx.lay, a1], by simp [PyData.showableAll, hx.sh, a2], ?_, by simp [PyData.shownAll, a4], ?_⟩
    · simp only [PyData.depthAll]
      exact Nat.max_le.mpr ⟨hx.dp, a3⟩
    · simp only [PyData.shownAll, List.mem_cons]
      rintro t (rfl | ht)
      · exact hx.ln
      · exact a5 t ht
theorem Rp.tup {n b k : Nat} {xs : List PV} (h : ∀ x ∈ xs, Rp n b x) (hl : xs.length ≤ k) : Rp (n + 1) (k * (b + 2) + 3) (.tup xs) := by
  obtain ⟨a1, a2, a3, a4, a5⟩ := rps h
  refine ⟨by unfold PV.D; simpa [PyData.canLay0] using a1, by unfold PV.D; simpa [PyData.showable] using a2, by unfold PV.D; simp only [PyData.depth]; omega, ?_⟩
  unfold PV.D
  simp only [PyData.shown]
  have h1 := tup_up (PyData.shownAll (PV.Ds xs))
  have h2 := piled_le a5
  rw [a4] at h2
  have h3 : xs.length * (b + 2) ≤ k * (b + 2) := Nat.mul_le_mul_right _ hl
  omega
theorem Rp.lst {n b k : Nat} {xs : List PV} (h : ∀ x ∈ xs, Rp n b x) (hl : xs.length ≤ k) : Rp (n + 1) (k * (b + 2) + 3) (.lst xs) := by
  obtain ⟨a1, a2, a3, a4, a5⟩ := rps h
  refine ⟨by unfold PV.D; simpa [PyData.canLay0] using a1, by unfold PV.D; simpa [PyData.showable] using a2, by unfold PV.D; simp only [PyData.depth]; omega, ?_⟩
  unfold PV.D
  simp only [PyData.shown]
  have h1 := list_up (PyData.shownAll (PV.Ds xs))
  have h2 := piled_le a5
  rw [a4] at h2
  have h3 : xs.length * (b + 2) ≤ k * (b + 2) := Nat.mul_le_mul_right _ hl
  omega
theorem Rp.mono {n b n' b' : Nat} {x : PV} (h : Rp n b x) (hn : n ≤ n') (hb : b ≤ b') : Rp n' b' x := ⟨h.lay, h.sh, Nat.le_trans h.dp hn, Nat.le_trans h.ln hb⟩
theorem Rp.non {n : Nat} : Rp n 4 .non := ⟨by simp [PV.D, PyData.canLay0], by simp [PV.D, PyData.showable], by simp [PV.D, PyData.depth], by unfold PV.D PyData.shown; decide⟩
theorem Rp.bl {n : Nat} {b : Bool} : Rp n 5 (.bl b) := ⟨by simp [PV.D, PyData.canLay0], by simp [PV.D, PyData.showable], by simp [PV.D, PyData.depth], by cases b <;> (unfold PV.D PyData.shown; decide)⟩
theorem int_short : ∀ i : _root_.Fin 128, ((toString ((i.val : Nat) : Int) : String) : Str).length ≤ 5 := by decide +kernel
theorem Rp.int {n : Nat} {i : Nat} (h : i < 128) : Rp n 5 (.int (i : Nat)) := by
  refine ⟨by simp [PV.D, PyData.canLay0], ?_, by simp [PV.D, PyData.depth], ?_⟩
  · simp only [PV.D, PyData.showable, decide_eq_true_eq, Int.natAbs_natCast]
    have : i.log2 ≤ i := Nat.log2_le_self i
    omega
  · unfold PV.D PyData.shown
    exact int_short ⟨i, h⟩
theorem Rp.str {n : Nat} {x : Str} (h : nameS x = true) : Rp n 82 (.str x) := by
  refine ⟨by simpa [PV.D, PyData.canLay0] using name_strOk h, by simp [PV.D, PyData.showable], by simp [PV.D, PyData.depth], ?_⟩
  unfold PV.D PyData.shown
  obtain ⟨_, h2, h3⟩ := name_ok h
  have q := StrLaws.reprText_len x fun c hc => by have := h3 c hc; omega
  have : x.length = x.cps.size := rfl
  omega
theorem Rp.names {n k : Nat} {l : List Str} (h : ∀ x ∈ l, nameS x = true) (hl : l.length ≤ k) : Rp (n + 1) (k * 84 + 3) (sP l) :=
  Rp.tup (b := 82) (fun y hy => by obtain ⟨x, hx, rfl⟩ := List.mem_map.mp hy; exact .str (h x hx)) (by simpa using hl)
theorem Rp.opt {n : Nat} {o : Option Nat} (h : ∀ i, o = some i → i < 128) : Rp n 5 (optI o) := by
  cases o with
  | none => exact Rp.non.mono (Nat.le_refl _) (by omega)
  | some i => exact .int (h i rfl)
theorem Rp.ok {b : Nat} {x : PV} (h : Rp 64 b x) (hb : b ≤ 10000000) (hs : isSeq x = true) : reprOk x = true := by
  unfold reprOk
  rw [hs, h.lay, h.sh]
  have h1 : decide (x.D.depth ≤ 64) = true := decide_eq_true h.dp
  have h2 : decide (x.D.shown.length ≤ sizeLine) = true := decide_eq_true (Nat.le_trans h.ln (Nat.le_trans hb (by decide)))
  rw [h1, h2]
  rfl
/-- a thing is the same as itself -/
theorem t_same {S : Sto} {x : PV} (h : reprOk x = true) : m__law_same [.p x, .p x] S = .ok (.p (.bl true)) S := by
  have q : fRepr [.p x] S = some (.str x.D.shown) := by
    unfold fRepr
    dsimp only
    rw [at_pvOf]
    dsimp only
    rw [if_pos h]
  simp [m__law_same, q]
section
variable {d : Wk} {m : List (List Str)} {row : List Stp} {S : Sto}
theorem marks_rp {n k : Nat} {ms : List (List Str)} (ok : d.Ok) (h : ∀ c ∈ ms, List.Sublist c d.ss) (hk : ms.length ≤ k) : Rp (n + 2) (k * 341 + 3) (marksP ms) :=
  Rp.tup (b := 339) (fun y hy => by
    obtain ⟨c, hc, rfl⟩ := List.mem_map.mp hy
    exact Rp.names (k := 4) (fun x hx => ok.ss.2.2.2 x ((h c hc).subset hx)) (Nat.le_trans (h c hc).length_le ok.ss.2.2.1)) (by simpa using hk)
theorem made_sub : ∀ {row : List Stp} {m : List (List Str)}, ∀ c ∈ madeM d m row, List.Sublist c d.ss
  | [], m, c, h => by cases h
  | .mk i :: r, m, c, h => by
    rcases List.mem_cons.mp h with rfl | h
    · exact List.filter_sublist
    · exact made_sub (row := r) (m := stepM d m (.mk i)) c h
  | .wsh i :: r, m, c, h => made_sub (row := r) (m := stepM d m (.wsh i)) c h
theorem first_lt : ∀ {row : List Stp} {m : List (List Str)} {i : Nat}, firstM d m row = some i → i < row.length
  | [], m, i, h => by cases h
  | t :: r, m, i, h => by
    unfold firstM at h
    split at h
    · cases hf : firstM d (stepM d m t) r with
      | none => rw [hf] at h; cases h
      | some j =>
        rw [hf] at h
        have := first_lt hf
        have : j + 1 = i := Option.some.inj h
        rw [List.length_cons]
        omega
    · cases h
      simp
def toldP (d : Wk) (m : List (List Str)) (row : List Stp) : PV := .lst [marksP (lastM d m row), marksP (madeM d m row), optI (firstM d m row), .bl (firstM d m row).isNone]
theorem told_ok (ok : d.Ok) (hm : MarksOk d m) (hl : row.length ≤ 60) : reprOk (toldP d m row) = true := by
  have h1 : Rp 2 21000 (marksP (lastM d m row)) := (marks_rp (n := 0) (k := 6) ok (last_ok (row := row) hm).sub (by rw [(last_ok (row := row) hm).len]; exact ok.ts.2.2.1)).mono (Nat.le_refl _) (by omega)
  have h2 : Rp 2 21000 (marksP (madeM d m row)) := (marks_rp (n := 0) (k := 60) ok made_sub (Nat.le_trans made_len hl)).mono (Nat.le_refl _) (by omega)
  have h3 : Rp 2 21000 (optI (firstM d m row)) := (Rp.opt fun i hi => by have := first_lt hi; omega).mono (Nat.le_refl _) (by omega)
  have h4 : Rp 2 21000 (.bl (firstM d m row).isNone) := Rp.bl.mono (Nat.le_refl _) (by omega)
  have h := Rp.lst (n := 2) (b := 21000) (k := 4) (xs := [marksP (lastM d m row), marksP (madeM d m row), optI (firstM d m row), .bl (firstM d m row).isNone]) (fun x hx => by
    simp only [List.mem_cons, List.not_mem_nil, or_false] at hx
    rcases hx with rfl | rfl | rfl | rfl
    · exact h1
    · exact h2
    · exact h3
    · exact h4) (by simp)
  exact (h.mono (n' := 64) (by omega) (Nat.le_refl _)).ok (by omega) rfl
end
end Q
end

section
set_option Elab.async false
set_option linter.all false
set_option maxRecDepth 100000
set_option maxHeartbeats 1000000
namespace Q
open PySem PySem.Spec L2 Mm
/-! ## the same data, rows in two -/
mutual
theorem eqv_refl : ∀ x : PV, x.D.canLay0 = true → PyData.eqv x.D x.D = true
  | .non, h => by simp [PV.D, PyData.eqv]
  | .bl b, h => by simp [PV.D, PyData.eqv]
  | .int i, h => by simp [PV.D, PyData.eqv]
  | .str x, h => by simp [PV.D, PyData.eqv]
  | .tup xs, h => by
    simp only [PV.D, PyData.eqv, PyData.canLay0] at h ⊢
    exact eqv_refls xs h
  | .lst xs, h => by
    simp only [PV.D, PyData.eqv, PyData.canLay0] at h ⊢
    exact eqv_refls xs h
  | .scr xs, h => by
    simp only [PV.D, PyData.eqv, PyData.canLay0] at h ⊢
    exact eqv_refls xs h
  | .dic _, h => by simp [PV.D, PyData.canLay0] at h
  | .ins _ _, h => by simp [PV.D, PyData.canLay0] at h
theorem eqv_refls : ∀ xs : List PV, PyData.canLayAll0 (PV.Ds xs) = true → PyData.eqvAll (PV.Ds xs) (PV.Ds xs) = true
  | [], h => by simp [PV.Ds, PyData.eqvAll]
  | x :: xs, h => by
    simp only [PV.Ds, PyData.eqvAll, PyData.canLayAll0, Bool.and_eq_true] at h ⊢
    exact ⟨eqv_refl x h.1, eqv_refls xs h.2⟩
end
theorem ne_self {n b : Nat} {xs : List PV} (h : Rp n b (.tup xs)) (hn : n ≤ 64) : fEq true (.tup xs) (.tup xs) = some false := by
  have h1 : Mm.shp (.tup xs) = true := by
    unfold Mm.shp SeqAt.shaped
    rw [h.lay, Bool.true_and]
    exact decide_eq_true (Nat.le_trans h.dp hn)
  unfold fEq eqF
  simp only [h1, Bool.and_self, if_true, eqv_refl _ h.lay]
  rfl
section
variable {d : Wk} {m : List (List Str)} {S : Sto}
theorem last_app {a b : List Stp} {m : List (List Str)} : lastM d m (a ++ b) = lastM d (lastM d m a) b := List.foldl_append
theorem made_app : ∀ {a b : List Stp} {m : List (List Str)}, madeM d m (a ++ b) = madeM d m a ++ madeM d (lastM d m a) b
  | [], b, m => rfl
  | .mk i :: a, b, m => by
    show _ :: madeM d (stepM d m (.mk i)) (a ++ b) = _
    rw [made_app]
    rfl
  | .wsh i :: a, b, m => by
    show madeM d (stepM d m (.wsh i)) (a ++ b) = _
    rw [made_app]
    rfl
theorem first_app : ∀ {a b : List Stp} {m : List (List Str)}, (firstM d m (a ++ b)).isNone = ((firstM d m a).isNone && (firstM d (lastM d m a) b).isNone)
  | [], b, m => rfl
  | t :: a, b, m => by
    have ih := first_app (a := a) (b := b) (m := stepM d m t)
    show (if foulM d m t = [] then (firstM d (stepM d m t) (a ++ b)).map (· + 1) else some 0).isNone = ((if foulM d m t = [] then (firstM d (stepM d m t) a).map (· + 1) else some 0).isNone && (firstM d (lastM d (stepM d m t) a) b).isNone)
    split
    · rw [Option.isNone_map, Option.isNone_map]
      exact ih
    · rfl
theorem cut_lo {α : Type} {xs : List α} {j : Nat} (h : j ≤ xs.length) : cutP xs (some (j : Int)) none = xs.drop j := by
  unfold cutP
  rw [HT.sIx_nat, HT.sIx_none, Nat.min_eq_left h]
  exact List.take_of_length_le (by rw [List.length_drop]; omega)
theorem pick_lst {k : Nat} {xs : List PV} (h : Dw k S) (hx : xs ≠ []) (hx2 : xs.length < 1000000) : ∃ x S', x ∈ xs ∧ m__law_pick [.l k, .p (.lst xs)] S = .ok (.p x) S' ∧ Dr k S S' := by
  have hp : 0 < xs.length := List.length_pos_iff.mpr hx
  obtain ⟨r, S', h0, h1, e, d⟩ := take_at (n := xs.length) h (by omega) (by omega)
  obtain ⟨x, e2, m⟩ := atI_in h0 h1
  refine ⟨x, S', m, ?_, d⟩
  unfold m__law_pick
  simp [e, e2, d.take]
end
/-! ## purses -/
theorem seed_loop : ∀ (zs : List Int) (e0 : RV) (a1 a2 : RV) (s : Int) (o : Option RV) (S : Sto), 0 ≤ s ∧ s < 2147483549 →
    ∃ s' o', forL (gN 4) (setS 3 (mOp2 (fIntC (fun _ j => decide (0 < j)) fun i j => i % j) (mB (fI1 id) (mCons (mOp2 fAdd (mOp2 (fIntC cMul fun i j => i * j) (mVar 3) (mC (.int 62089))) (mVar 4)) mNil)) (mC (.int 2147483549)))) (zs.map .int) [some e0, some a1, some a2, some (.p (.int s)), o] S = .next [some e0, some a1, some a2, some (.p (.int s')), o'] S ∧ 0 ≤ s' ∧ s' < 2147483549
  | [], e0, a1, a2, s, o, S, h => ⟨s, o, rfl, h⟩
  | z :: zs, e0, a1, a2, s, o, S, h => by
    have hm : cMul s 62089 = true := by unfold cMul; simp
    obtain ⟨s', o', q1, q2⟩ := seed_loop zs e0 a1 a2 ((s * 62089 + z) % 2147483549) (some (.p (.int z))) S (by omega)
    refine ⟨s', o', ?_, q2⟩
    rw [← q1]
    conv => lhs; unfold forL
    simp [hm]
theorem great_pow : fIntC cPow (fun i j => i ^ j.toNat) (.int 10) (.int 18) = some (.int 1000000000000000000) := by
  have h : cPow 10 18 = true := by decide
  have h2 : (10 : Int) ^ (18 : Int).toNat = 1000000000000000000 := by decide
  rw [at_fIntC, if_pos h, h2]
theorem e5_great {c : Int} {S : Sto} {e : MEnv} (he : e[2]? = some (some (.p (.int c)))) : mIf (mCmpT (fCmp fun i j => decide (j ≤ i)) (mB (fI1 fun i => if i < 0 then -i else i) (mCons (mVar 2) mNil)) (mOp2 (fIntC cPow fun i j => i ^ j.toNat) (mC (.int 10)) (mC (.int 18)))) (mB (fI1 fun i => if i < 0 then -i else i) (mCons (mVar 2) mNil)) (mC (.int 0)) e S = .ok (.p (.int (if 1000000000000000000 ≤ (if c < 0 then -c else c) then (if c < 0 then -c else c) else 0))) S := by
  have hp : fIntC cPow (fun i j => i ^ j.toNat) (.int 10) (.int 18) = some (.int 1000000000000000000) := great_pow
  have hb : mB (fI1 fun i => if i < 0 then -i else i) (mCons (mVar 2) mNil) e S = .ok (.p (.int (if c < 0 then -c else c))) S := by simp [he]
  obtain ⟨A, hA⟩ : ∃ A, A = if c < 0 then -c else c := ⟨_, rfl⟩
  rw [← hA] at hb ⊢
  rw [at_mIf, at_bindM, at_mCmpT, at_bindM, hb]
  dsimp only
  rw [at_bindM, at_mOp2, at_bindM, at_mC]
  dsimp only
  rw [at_bindM, at_mC]
  dsimp only
  rw [hp]
  dsimp only
  rw [at_fCmp]
  dsimp only
  by_cases h : (1000000000000000000 : Int) ≤ A
  · simp only [h, decide_true, if_true, hb]
  · simp only [h, decide_false, Bool.false_eq_true, if_false, at_mC]
theorem great_ex {c : Int} {S : Sto} {e : MEnv} (he : e[2]? = some (some (.p (.int c)))) : ∃ X, mIf (mCmpT (fCmp fun i j => decide (j ≤ i)) (mB (fI1 fun i => if i < 0 then -i else i) (mCons (mVar 2) mNil)) (mOp2 (fIntC cPow fun i j => i ^ j.toNat) (mC (.int 10)) (mC (.int 18)))) (mB (fI1 fun i => if i < 0 then -i else i) (mCons (mVar 2) mNil)) (mC (.int 0)) e S = .ok (.p (.int X)) S := ⟨_, e5_great he⟩
theorem purse_sum {c a : Int} {e : MEnv} {S : Sto} (h1 : e[1]? = some (some (.p (.int a)))) (h2 : e[2]? = some (some (.p (.int c)))) (m1 : cMul c 50051 = true) (m2 : cMul a 31627 = true) : (mB (fI1 id) (mCons (mOp2 fAdd (mOp2 fAdd (mOp2 (fIntC cMul fun i j => i * j) (mVar 2) (mC (.int 50051))) (mOp2 (fIntC cMul fun i j => i * j) (mVar 1) (mC (.int 31627)))) (mC (.int 60013))) mNil)) e S = .ok (.p (.int (c * 50051 + a * 31627 + 60013))) S := by
  simp only [at_mB, at_bindM, at_mCons, at_mNil, at_mOp2, at_mVar, at_mC, h1, h2, at_fIntC, m1, m2, if_pos, at_fAdd, at_fI1, id]
theorem purse_mod {m : MExp} {x : Int} {e : MEnv} {S : Sto} (h1 : m e S = .ok (.p (.int x)) S) : mOp2 (fIntC (fun _ j => decide (0 < j)) fun i j => i % j) m (mC (.int 2147483549)) e S = .ok (.p (.int (x % 2147483549))) S := by
  have hd : decide ((0 : Int) < 2147483549) = true := by decide
  simp only [at_mOp2, at_bindM, h1, at_mC, at_fIntC, hd, if_pos]
theorem t_purse {cells : List Int} {at_ : Nat} {S : Sto} (hl : cells.length ≤ 63) (ha : at_ < 3) : ∃ f s, m__law_purse [.p (.scr (cells.map .int)), .p (.int (at_ : Nat))] S = .ok (.l S.length) (S ++ [dr f s 0]) ∧ 0 ≤ s ∧ s < 2147483549 := by
  have m1 : ∀ c, cMul c 50051 = true := fun c => by unfold cMul; simp
  have m2 : ∀ c, cMul c 31627 = true := fun c => by unfold cMul; simp
  obtain ⟨c, hc⟩ : ∃ c : Int, (if (at_ : Int) < cells.length then (match atI (cells.map PV.int) (at_ : Int) with | some v => (Res.ok (RV.p v) S : Res RV) | none => .bad) else .ok (.p (.int 0)) S) = .ok (.p (.int c)) S := by
    by_cases h : (at_ : Int) < cells.length
    · rw [if_pos h]
      have hlt : at_ < cells.length := by omega
      refine ⟨cells[at_], ?_⟩
      unfold atI ixN
      rw [if_pos (by omega), if_pos (by rw [List.length_map]; omega)]
      simp [hlt]
    · rw [if_neg h]
      exact ⟨0, rfl⟩
  obtain ⟨zs, hzs⟩ : ∃ zs : List Int, (if (cells.length : Int) ≤ at_ then PV.lst (cutP (cells.map PV.int) none (some 4)) else .lst []) = .lst (zs.map PV.int) := by
    by_cases h : (cells.length : Int) ≤ at_
    · rw [if_pos h]
      refine ⟨cells.take 4, ?_⟩
      rw [List.map_take]
      congr 1
      exact cutP_most (n := 4)
    · rw [if_neg h]
      exact ⟨[], rfl⟩
  obtain ⟨s', o', q1, q2⟩ := seed_loop zs (.p (.scr (cells.map .int))) (.p (.int (at_ : Nat))) (.p (.int c)) ((c * 50051 + at_ * 31627 + 60013) % 2147483549) none S (by omega)
  obtain ⟨X, e5⟩ := great_ex (c := c) (S := S) (e := [some (.p (.scr (cells.map .int))), some (.p (.int (at_ : Nat))), some (.p (.int c)), some (.p (.int s')), o']) rfl
  refine ⟨X, s', ?_, q2⟩
  have e2 : setS 2 (mIf (mCmpT fLt (mVar 1) (mB fLen (mCons (mVar 0) mNil))) (mIx (mVar 0) (mVar 1)) (mC (.int 0))) [some (.p (.scr (cells.map .int))), some (.p (.int (at_ : Nat))), none, none, none] S = .next [some (.p (.scr (cells.map .int))), some (.p (.int (at_ : Nat))), some (.p (.int c)), none, none] S := by
    by_cases h : (at_ : Int) < cells.length
    · rw [if_pos h] at hc
      simp [h, seqOf]
      cases hx : atI (cells.map PV.int) (at_ : Int) with
      | none => rw [hx] at hc; cases hc
      | some v =>
        rw [hx] at hc
        have : v = .int c := by
          have := (Res.ok.inj hc).1
          exact RV.p.inj this
        simp [this]
    · rw [if_neg h] at hc
      have hc : (0 : Int) = c := by
        have := (Res.ok.inj hc).1
        exact PV.int.inj (RV.p.inj this)
      simp [h, hc]
  have e4 : forS (mSeqI (mIf (mCmpT (fCmp fun i j => decide (j ≤ i)) (mVar 1) (mB fLen (mCons (mVar 0) mNil))) (mSl (mVar 0) mNoP (mPart (mC (.int 4)))) (mLst mNil))) (gN 4) (setS 3 (mOp2 (fIntC (fun _ j => decide (0 < j)) fun i j => i % j) (mB (fI1 id) (mCons (mOp2 fAdd (mOp2 (fIntC cMul fun i j => i * j) (mVar 3) (mC (.int 62089))) (mVar 4)) mNil)) (mC (.int 2147483549))))
      [some (.p (.scr (cells.map .int))), some (.p (.int (at_ : Nat))), some (.p (.int c)), some (.p (.int ((c * 50051 + at_ * 31627 + 60013) % 2147483549))), none] S = .next [some (.p (.scr (cells.map .int))), some (.p (.int (at_ : Nat))), some (.p (.int c)), some (.p (.int s')), o'] S := by
    rw [← q1]
    by_cases h : (cells.length : Int) ≤ at_
    · rw [if_pos h] at hzs
      simp [h, hzs]
    · rw [if_neg h] at hzs
      simp [h, hzs]
  unfold m__law_purse
  simp only [at_mDef, at_seqS, List.map_cons, List.map_nil, List.length_cons, List.length_nil, List.replicate, List.cons_append, List.nil_append, e2]
  have e3 : setS 3 (mOp2 (fIntC (fun _ j => decide (0 < j)) fun i j => i % j) (mB (fI1 id) (mCons (mOp2 fAdd (mOp2 fAdd (mOp2 (fIntC cMul fun i j => i * j) (mVar 2) (mC (.int 50051))) (mOp2 (fIntC cMul fun i j => i * j) (mVar 1) (mC (.int 31627)))) (mC (.int 60013))) mNil)) (mC (.int 2147483549))) [some (.p (.scr (cells.map .int))), some (.p (.int (at_ : Nat))), some (.p (.int c)), none, none] S = .next [some (.p (.scr (cells.map .int))), some (.p (.int (at_ : Nat))), some (.p (.int c)), some (.p (.int ((c * 50051 + at_ * 31627 + 60013) % 2147483549))), none] S := by
    rw [at_setS, at_bindS, purse_mod (purse_sum rfl rfl (m1 c) (m2 _))]
    dsimp only [at_setE, List.set_cons_succ, List.set_cons_zero]
  rw [e3]
  dsimp only
  rw [e4]
  dsimp only
  rw [at_retS, at_bindS, at_mLstO, at_bindM, at_mCons, at_bindM, e5]
  simp [trimR, dr]
end Q
end

section
set_option Elab.async false
set_option linter.all false
set_option maxRecDepth 100000
set_option synthInstance.maxHeartbeats 4000000
set_option synthInstance.maxSize 100000
set_option maxHeartbeats 4000000
namespace K05
open PySem PySem.Spec PyProof.Rows L2 NdefX LamX Mm Q
/-! ## mirrors -/
/-- _law_is_told -/
def m__law_is_told : MFn := mDef 8 true <|
  (seqS (asgS (mCall m__law_gone [] (mCons (mVar 1) (mCons (mVar 2) (mCons (mVar 3) mNil)))) (gT 3 (gConsM (gN 4) (gConsM (gN 5) (gConsM (gN 6) gNilM))))) (seqS (setS 7 (mLst (mCons (mCall m_behind [] (mCons (mVar 0) (mCons (mVar 2) (mCons (mVar 3) mNil)))) (mCons (mCall m_made [] (mCons (mVar 0) (mCons (mVar 2) (mCons (mVar 3) mNil)))) (mCons (mCall m_first_foul [] (mCons (mVar 0) (mCons (mVar 2) (mCons (mVar 3) mNil)))) (mCons (mCall m_is_clean [] (mCons (mVar 0) (mCons (mVar 2) (mCons (mVar 3) mNil)))) mNil)))))) (seqS (ifS (mNotT (asB (mCall m__law_same [] (mCons (mVar 7) (mCons (mLst (mCons (mVar 4) (mCons (mVar 5) (mCons (mVar 6) (mCons (mCmp (fIsN false) (mVar 6) (mC .non)) mNil))))) mNil))))) (retS (mC (.bl false))) nilS) (seqS (setS 7 (mLst (mCons (mCallK m_behind [2, 1, 0] (mCons (mVar 3) (mCons (mVar 2) (mCons (mVar 0) mNil)))) (mCons (mCallK m_made [2, 1, 0] (mCons (mVar 3) (mCons (mVar 2) (mCons (mVar 0) mNil)))) mNil)))) (seqS (setS 7 (mOp2 fAdd (mVar 7) (mLst (mCons (mCallK m_first_foul [2, 1, 0] (mCons (mVar 3) (mCons (mVar 2) (mCons (mVar 0) mNil)))) (mCons (mCallK m_is_clean [2, 1, 0] (mCons (mVar 3) (mCons (mVar 2) (mCons (mVar 0) mNil)))) mNil))))) (retS (mCall m__law_same [] (mCons (mVar 7) (mCons (mLst (mCons (mVar 4) (mCons (mVar 5) (mCons (mVar 6) (mCons (mCmp (fIsN false) (mVar 6) (mC .non)) mNil))))) mNil)))))))))
instance : FrF m__law_is_told := by unfold m__law_is_told; infer_instance

/-- _law_right -/
def m__law_right : MFn := mDef 8 true <|
  (seqS (forS (mRng1 (mCons (mC (.int 8)) mNil)) (gN 1) (seqS (setS 2 (mCall m__law_drawn [] (mCons (mVar 0) mNil))) (seqS (parS 3 4 (mCons (mCall m__law_made [] (mCons (mVar 2) mNil)) (mCons (mCall m__law_marks [] (mCons (mVar 0) (mCons (mVar 2) mNil))) mNil))) (seqS (setS 5 (mCall m__law_row [] (mCons (mVar 0) (mCons (mVar 2) (mCons (mCall m__law_pick [] (mCons (mVar 0) (mCons (mLst (mCons (mC (.int 3)) (mCons (mC (.int 8)) (mCons (mC (.int 60)) mNil)))) mNil))) mNil))))) (seqS (ifS (mOrT (mNotT (asB (mCall m__law_is_told [] (mCons (mVar 3) (mCons (mVar 2) (mCons (mVar 4) (mCons (mVar 5) mNil))))))) (mNotT (asB (mCall m__law_is_told [] (mCons (mVar 3) (mCons (mVar 2) (mCons (mVar 4) (mCons (mTup mNil) mNil)))))))) (retS (mC (.bl false))) nilS) (seqS (setS 6 (mCall m__law_take [] (mCons (mVar 0) (mCons (mOp2 fAdd (mB fLen (mCons (mVar 5) mNil)) (mC (.int 1))) mNil)))) (seqS (setS 7 (mCall m_behind [] (mCons (mVar 3) (mCons (mVar 4) (mCons (mSl (mVar 5) mNoP (mPart (mVar 6))) mNil))))) (seqS (ifS (mCmpT (fEq true) (mCall m_behind [] (mCons (mVar 3) (mCons (mVar 7) (mCons (mSl (mVar 5) (mPart (mVar 6)) mNoP) mNil)))) (mCall m_behind [] (mCons (mVar 3) (mCons (mVar 4) (mCons (mVar 5) mNil))))) (retS (mC (.bl false))) nilS) (seqS (ifS (mCmpT (fEq true) (mOp2 fAdd (mCall m_made [] (mCons (mVar 3) (mCons (mVar 4) (mCons (mSl (mVar 5) mNoP (mPart (mVar 6))) mNil)))) (mCall m_made [] (mCons (mVar 3) (mCons (mVar 7) (mCons (mSl (mVar 5) (mPart (mVar 6)) mNoP) mNil))))) (mCall m_made [] (mCons (mVar 3) (mCons (mVar 4) (mCons (mVar 5) mNil))))) (retS (mC (.bl false))) nilS) (ifS (mCmpT (fEq true) (mAndV (mCall m_is_clean [] (mCons (mVar 3) (mCons (mVar 4) (mCons (mSl (mVar 5) mNoP (mPart (mVar 6))) mNil)))) (mCall m_is_clean [] (mCons (mVar 3) (mCons (mVar 7) (mCons (mSl (mVar 5) (mPart (mVar 6)) mNoP) mNil))))) (mCall m_is_clean [] (mCons (mVar 3) (mCons (mVar 4) (mCons (mVar 5) mNil))))) (retS (mC (.bl false))) nilS)))))))))) (retS (mC (.bl true))))
instance : FrF m__law_right := by unfold m__law_right; infer_instance

/-- law -/
def m_law : MFn := mDef 2 true <|
  (retS (mB (fAll fun bs => bs.all id) (mCons (mLC false [1] (mRng1 (mCons (mB (fI2 fun i j => if j > i then j else i) (mCons (mC (.int 2)) (mCons (mB (fI2 fun i j => if j < i then j else i) (mCons (mB fLen (mCons (mVar 0) mNil)) (mCons (mC (.int 3)) mNil))) mNil))) mNil)) (gN 1) tYesM (mCall m__law_right [] (mCons (mCall m__law_purse [] (mCons (mVar 0) (mCons (mVar 1) mNil))) mNil))) mNil)))
instance : FrF m_law := by unfold m_law; infer_instance


end K05
end

section
set_option Elab.async false
set_option linter.all false
set_option maxRecDepth 100000
set_option maxHeartbeats 1000000
namespace K05
open PySem PySem.Spec L2 Mm Q
section
variable {d : Wk} {m : List (List Str)} {row : List Stp} {S : Sto}
theorem is_told (ok : d.Ok) (hm : MarksOk d m) (h : ∀ t ∈ row, t.Ok d) (hl : row.length ≤ 60) : m__law_is_told [.p d.objP, .p d.partsP, .p (marksP m), .p (rowP row)] S = .ok (.p (.bl true)) S := by
  have hsz := size_1000
  have q1 := fun S => t_law_gone (S := S) ok hm h (show row.length ≤ 100 by omega)
  have q2 := fun S => t_behind (S := S) ok hm h hl
  have q3 := fun S => t_made_row (S := S) ok hm h hl
  have q4 := fun S => t_first_foul (S := S) ok hm h hl
  have q5 := fun S => t_is_clean (S := S) ok hm h hl
  have q6 := t_same (S := S) (told_ok (d := d) (m := m) (row := row) ok hm hl)
  unfold toldP at q6
  have hsz2 : (2 + 2 : Nat) ≤ sizeLine := by omega
  simp [m__law_is_told, q1, q2, q3, q4, q5, isN_opt, q6, permL, hsz2]
end
theorem right_turn {k : Nat} {S : Sto} (h : Dw k S) (o1 o2 o3 o4 o5 o6 o7 : Option RV) :
    ∃ (S' : Sto) (p2 p3 p4 p5 p6 p7 : Option RV), (seqS (setS 2 (mCall m__law_drawn [] (mCons (mVar 0) mNil))) (seqS (parS 3 4 (mCons (mCall m__law_made [] (mCons (mVar 2) mNil)) (mCons (mCall m__law_marks [] (mCons (mVar 0) (mCons (mVar 2) mNil))) mNil))) (seqS (setS 5 (mCall m__law_row [] (mCons (mVar 0) (mCons (mVar 2) (mCons (mCall m__law_pick [] (mCons (mVar 0) (mCons (mLst (mCons (mC (.int 3)) (mCons (mC (.int 8)) (mCons (mC (.int 60)) mNil)))) mNil))) mNil))))) (seqS (ifS (mOrT (mNotT (asB (mCall m__law_is_told [] (mCons (mVar 3) (mCons (mVar 2) (mCons (mVar 4) (mCons (mVar 5) mNil))))))) (mNotT (asB (mCall m__law_is_told [] (mCons (mVar 3) (mCons (mVar 2) (mCons (mVar 4) (mCons (mTup mNil) mNil)))))))) (retS (mC (.bl false))) nilS) (seqS (setS 6 (mCall m__law_take [] (mCons (mVar 0) (mCons (mOp2 fAdd (mB fLen (mCons (mVar 5) mNil)) (mC (.int 1))) mNil)))) (seqS (setS 7 (mCall m_behind [] (mCons (mVar 3) (mCons (mVar 4) (mCons (mSl (mVar 5) mNoP (mPart (mVar 6))) mNil))))) (seqS (ifS (mCmpT (fEq true) (mCall m_behind [] (mCons (mVar 3) (mCons (mVar 7) (mCons (mSl (mVar 5) (mPart (mVar 6)) mNoP) mNil)))) (mCall m_behind [] (mCons (mVar 3) (mCons (mVar 4) (mCons (mVar 5) mNil))))) (retS (mC (.bl false))) nilS) (seqS (ifS (mCmpT (fEq true) (mOp2 fAdd (mCall m_made [] (mCons (mVar 3) (mCons (mVar 4) (mCons (mSl (mVar 5) mNoP (mPart (mVar 6))) mNil)))) (mCall m_made [] (mCons (mVar 3) (mCons (mVar 7) (mCons (mSl (mVar 5) (mPart (mVar 6)) mNoP) mNil))))) (mCall m_made [] (mCons (mVar 3) (mCons (mVar 4) (mCons (mVar 5) mNil))))) (retS (mC (.bl false))) nilS) (ifS (mCmpT (fEq true) (mAndV (mCall m_is_clean [] (mCons (mVar 3) (mCons (mVar 4) (mCons (mSl (mVar 5) mNoP (mPart (mVar 6))) mNil)))) (mCall m_is_clean [] (mCons (mVar 3) (mCons (mVar 7) (mCons (mSl (mVar 5) (mPart (mVar 6)) mNoP) mNil))))) (mCall m_is_clean [] (mCons (mVar 3) (mCons (mVar 4) (mCons (mVar 5) mNil))))) (retS (mC (.bl false))) nilS)))))))))
      [some (.l k), o1, o2, o3, o4, o5, o6, o7] S = .next [some (.l k), o1, p2, p3, p4, p5, p6, p7] S' ∧ Dr k S S' := by
  obtain ⟨d, S1, e1, d1, ok⟩ := drawn_at h
  have e2 := fun S => t_made (S := S) ok
  obtain ⟨m, S2, e3, d2, hm⟩ := marks_at (d := d) d1.dw
  obtain ⟨x, S3, hx, e4, d3⟩ := pick_lst (k := k) (xs := [.int 3, .int 8, .int 60]) d2.dw (by simp) (by simp)
  obtain ⟨mo, hmo, rfl⟩ : ∃ mo : Nat, mo ≤ 60 ∧ x = .int (mo : Nat) := by
    simp only [List.mem_cons, List.not_mem_nil, or_false] at hx
    rcases hx with rfl | rfl | rfl
    · exact ⟨3, by omega, rfl⟩
    · exact ⟨8, by omega, rfl⟩
    · exact ⟨60, by omega, rfl⟩
  obtain ⟨row, S4, e5, d4, hl, hr⟩ := row_at (most := mo) d3.dw hmo ok (lay_wshs ok ok.k1 ok.k2)
  have hl : row.length ≤ 60 := by omega
  have e6 := fun S => is_told (S := S) ok hm hr hl
  have e7 := fun S => is_told (S := S) (row := []) ok hm (by simp) (by simp)
  have e7 : ∀ S, m__law_is_told [.p d.objP, .p d.partsP, .p (marksP m), .p (.tup [])] S = .ok (.p (.bl true)) S := e7
  obtain ⟨j, S5, hj, e8, d5⟩ := take_nat (k := k) (n := row.length + 1) d4.dw (by omega) (by omega)
  have hj : j ≤ row.length := by omega
  have e8 : m__law_take [.l k, .p (.int ((row.length : Int) + 1))] S4 = .ok (.p (.int j)) S5 := by rw [← e8]; simp
  have hra : ∀ t ∈ row.take j, t.Ok d := fun t ht => hr t (List.mem_of_mem_take ht)
  have hrb : ∀ t ∈ row.drop j, t.Ok d := fun t ht => hr t (List.mem_of_mem_drop ht)
  have hla : (row.take j).length ≤ 60 := by rw [List.length_take]; omega
  have hlb : (row.drop j).length ≤ 60 := by rw [List.length_drop]; omega
  have hma := last_ok (row := row.take j) hm
  have hcat : row.take j ++ row.drop j = row := List.take_append_drop j row
  have c1 : PV.tup (cutP (row.map Stp.P) none (some (j : Int))) = rowP (row.take j) := by rw [cutP_most, ← List.map_take]; rfl
  have c2 : PV.tup (cutP (row.map Stp.P) (some (j : Int)) none) = rowP (row.drop j) := by rw [cut_lo (by rw [List.length_map]; exact hj), ← List.map_drop]; rfl
  have f1 := fun S => t_behind (S := S) ok hm hra hla
  have f2 := fun S => t_behind (S := S) ok hma hrb hlb
  have f3 := fun S => t_behind (S := S) ok hm hr hl
  rw [← last_app, hcat] at f2
  have g1 := fun S => t_made_row (S := S) ok hm hra hla
  have g2 := fun S => t_made_row (S := S) ok hma hrb hlb
  have g3 := fun S => t_made_row (S := S) ok hm hr hl
  have hsz := size_1000
  have hadd : fAdd (marksP (madeM d m (row.take j))) (marksP (madeM d (lastM d m (row.take j)) (row.drop j))) = some (marksP (madeM d m row)) := by
    have q1 := made_len (d := d) (row := row.take j) (m := m)
    have q2 := made_len (d := d) (row := row.drop j) (m := lastM d m (row.take j))
    unfold marksP
    rw [at_fAddT, if_pos (by rw [List.length_map, List.length_map]; omega), ← List.map_append, ← made_app, hcat]
  have k1 := fun S => t_is_clean (S := S) ok hm hra hla
  have k2 := fun S => t_is_clean (S := S) ok hma hrb hlb
  have k3 := fun S => t_is_clean (S := S) ok hm hr hl
  have hcl := first_app (d := d) (a := row.take j) (b := row.drop j) (m := m)
  rw [hcat] at hcl
  rw [hcl] at k3
  have n1 : fEq true (marksP (lastM d m row)) (marksP (lastM d m row)) = some false := ne_self (marks_rp (n := 0) (k := 6) ok (last_ok (row := row) hm).sub (by rw [(last_ok (row := row) hm).len]; exact ok.ts.2.2.1)) (by omega)
  have n2 : fEq true (marksP (madeM d m row)) (marksP (madeM d m row)) = some false := ne_self (marks_rp (n := 0) (k := 60) ok made_sub (Nat.le_trans made_len hl)) (by omega)
  have hlen : ∀ S : Sto, fLen [.p (rowP row)] S = some (.int row.length) := fun S => by unfold rowP; simp
  have hrow : rowP row = .tup (row.map Stp.P) := rfl
  refine ⟨S5, some (.p d.partsP), some (.p d.objP), some (.p (marksP m)), some (.p (rowP row)), some (.p (.int j)), some (.p (marksP (lastM d m (row.take j)))), ?_, ((((d1.trans d2).trans d3).trans d4).trans d5)⟩
  have sl1 : ∀ e : MEnv, e[5]? = some (some (.p (rowP row))) → e[6]? = some (some (.p (.int j))) → mSl (mVar 5) mNoP (mPart (mVar 6)) e S5 = .ok (.p (rowP (row.take j))) S5 := fun e h5 h6 => by
    simp [h5, h6, hrow, c1]
  have sl2 : ∀ e : MEnv, e[5]? = some (some (.p (rowP row))) → e[6]? = some (some (.p (.int j))) → mSl (mVar 5) (mPart (mVar 6)) mNoP e S5 = .ok (.p (rowP (row.drop j))) S5 := fun e h5 h6 => by
    simp [h5, h6, hrow, c2]
  cases hA : (firstM d m (row.take j)).isNone <;> cases hB : (firstM d (lastM d m (row.take j)) (row.drop j)).isNone <;>
    simp [-at_mSl, e1, e2, e3, e4, e5, e6, e7, hlen, e8, sl1, sl2, f1, f2, f3, n1, g1, g2, g3, hadd, n2, k1, k2, k3, hA, hB]
theorem right_at {k : Nat} {S : Sto} (h : Dw k S) : ∃ S', m__law_right [.l k] S = .ok (.p (.bl true)) S' ∧ Dr k S S' := by
  obtain ⟨e2, S2, hf, o1, o2, o3, o4, o5, o6, o7, rfl, d2⟩ := for_all (g := gN 1) (xs := Mm.upTo 0 8) (e := [some (.l k), none, none, none, none, none, none, none]) (S := S)
    (fun j e S2 => ∃ o1 o2 o3 o4 o5 o6 o7, e = [some (.l k), o1, o2, o3, o4, o5, o6, o7] ∧ Dr k S S2) ⟨_, _, _, _, _, _, _, rfl, .refl h⟩ fun j x e S2 hx ⟨o1, o2, o3, o4, o5, o6, o7, he, d2⟩ => by
      subst he
      obtain ⟨S', p2, p3, p4, p5, p6, p7, e1, d3⟩ := right_turn (S := S2) d2.dw (some (.p x)) o2 o3 o4 o5 o6 o7
      exact ⟨_, _, S', rfl, e1, _, _, _, _, _, _, _, rfl, d2.trans d3⟩
  refine ⟨S2, ?_, d2⟩
  have hr : (8 : Int) ≤ 2 ^ 24 ∧ -(2 ^ 62) ≤ (8 : Int) := by omega
  unfold m__law_right
  simp only [at_mDef, List.map_cons, List.map_nil, List.length_cons, List.length_nil, List.replicate, List.cons_append, List.nil_append, at_seqS, at_forS, at_bindS, at_mRng1, at_bindM, at_mCons, at_mC, at_mNil, if_pos hr, Nat.reduceAdd, Nat.reduceSub]
  have e8 : (8 : Int).toNat = 8 := rfl
  rw [e8, hf]
  simp [d2.take]
theorem plain (ns : List Int) (hl : ns.length ≤ 63) : ∃ S, m_law [.p (.scr (ns.map .int))] [] = .ok (.p (.bl true)) S := by
  have hn : ∃ n : Nat, n ≤ 3 ∧ (if (if (3 : Int) < ns.length then 3 else (ns.length : Int)) > 2 then (if (3 : Int) < ns.length then 3 else (ns.length : Int)) else 2) = (n : Int) := by
    refine ⟨(if (if (3 : Int) < ns.length then 3 else (ns.length : Int)) > 2 then (if (3 : Int) < ns.length then 3 else (ns.length : Int)) else 2).toNat, ?_, ?_⟩ <;> (split <;> split <;> omega)
  obtain ⟨n, hn3, hn⟩ := hn
  have one : ∀ i : Nat, i < 3 → ∃ S', mCall m__law_right [] (mCons (mCall m__law_purse [] (mCons (mVar 0) (mCons (mVar 1) mNil))) mNil) [some (.p (.scr (ns.map .int))), some (.p (.int (0 + (i : Nat))))] [] = .ok (.p (.bl true)) S' := fun i hi => by
    obtain ⟨f, s, e1, hs⟩ := t_purse (cells := ns) (at_ := i) (S := []) hl hi
    obtain ⟨S', e2, _⟩ := right_at (k := 0) (S := [dr f s 0]) ⟨f, s, 0, rfl, hs⟩
    refine ⟨S', ?_⟩
    rw [Int.zero_add]
    have e1 : m__law_purse [.p (.scr (ns.map .int)), .p (.int i)] [] = .ok (.l 0) [dr f s 0] := e1
    simp [e1, e2]
  have st : lcF false (lcL (gN 1) tYesM (mCall m__law_right [] (mCons (mCall m__law_purse [] (mCons (mVar 0) (mCons (mVar 1) mNil))) mNil)) [some (.p (.scr (ns.map .int))), none] (Mm.upTo 0 n) [] []) = .ok (.p (.lst ((List.range n).map fun _ => .bl true))) [] := by
    rw [lcF_X rfl]
    unfold Mm.upTo
    rw [mapX_map, mapX_all (k := fun _ => .bl true) fun i hi => ?_]
    · rfl
    · obtain ⟨S', e⟩ := one i (by have := List.mem_range.mp hi; omega)
      show (match (mCall m__law_right [] (mCons (mCall m__law_purse [] (mCons (mVar 0) (mCons (mVar 1) mNil))) mNil) [some (.p (.scr (ns.map .int))), some (.p (.int (0 + (i : Nat))))] []) with | .ok (.p y) S2 => _ | _ => _) = _
      rw [e]
      rfl
  have hb := bools_map (k := fun _ => true) (List.range n)
  refine ⟨[], ?_⟩
  have hrange : (n : Int) ≤ 2 ^ 24 ∧ -(2 ^ 62) ≤ (n : Int) := by omega
  have hmin : ∀ S : Sto, fI2 (fun i j => if j < i then j else i) [.p (.int (ns.length : Int)), .p (.int 3)] S = some (.int (if (3 : Int) < ns.length then 3 else (ns.length : Int))) := fun S => rfl
  have hmax : ∀ S : Sto, fI2 (fun i j => if j > i then j else i) [.p (.int 2), .p (.int (if (3 : Int) < ns.length then 3 else (ns.length : Int)))] S = some (.int n) := fun S => by rw [← hn]; rfl
  have hlen : ∀ S : Sto, fLen [.p (.scr (ns.map PV.int))] S = some (.int ns.length) := fun S => by simp
  unfold m_law
  simp only [at_mDef, List.map_cons, List.map_nil, List.length_cons, List.length_nil, List.replicate, List.cons_append, List.nil_append, at_retS, at_bindS, at_mB, at_bindM, at_mCons, at_mLC, at_mRng1, at_mC, at_mVar, List.getElem?_cons_zero, at_mNil, hlen, hmin, hmax, if_pos hrange, Int.toNat_natCast, at_wipe1, at_wipe0, List.set_cons_succ, List.set_cons_zero, st, at_fAllL, hb, at_trim, Nat.reduceAdd, Nat.reduceSub]
  simp
end K05
end

section
set_option Elab.async false
set_option linter.all false
set_option maxRecDepth 100000
set_option synthInstance.maxHeartbeats 4000000
set_option synthInstance.maxSize 100000
set_option maxHeartbeats 4000000
namespace K05
open PySem PySem.Spec PyProof.Rows L2 NdefX LamX Mm Q
/-! ## the defs -/
structure Wd (K : PySem.W.Frag) (cls : Nat → Addr) (T : List (Addr × Str)) (mg : Str → Option Value) (base : Heap) (f : Nat → Addr) (fd : Nat → FuncData) : Prop where
  F63 : FunD K "_law_take" "_law_take" (defArgs (top 83)) (defBody (top 83)) (defScope (top 83)) [] [] (f 63) (fd 63)
  g63 : mg "_law_take" = some (.ref (f 63))
  F66 : FunD K "_law_names" "_law_names" (defArgs (top 86)) (defBody (top 86)) (defScope (top 86)) [] [] (f 66) (fd 66)
  g66 : mg "_law_names" = some (.ref (f 66))
  F67 : FunD K "_law_lot" "_law_lot" (defArgs (top 87)) (defBody (top 87)) (defScope (top 87)) [] [] (f 67) (fd 67)
  g67 : mg "_law_lot" = some (.ref (f 67))
  F64 : FunD K "_law_pick" "_law_pick" (defArgs (top 84)) (defBody (top 84)) (defScope (top 84)) [] [] (f 64) (fd 64)
  g64 : mg "_law_pick" = some (.ref (f 64))
  F68 : FunD K "_law_work" "_law_work" (defArgs (top 88)) (defBody (top 88)) (defScope (top 88)) [] [] (f 68) (fd 68)
  g68 : mg "_law_work" = some (.ref (f 68))
  F69 : FunD K "_law_drawn" "_law_drawn" (defArgs (top 89)) (defBody (top 89)) (defScope (top 89)) [] [] (f 69) (fd 69)
  g69 : mg "_law_drawn" = some (.ref (f 69))
  F71 : FunD K "_law_row" "_law_row" (defArgs (top 91)) (defBody (top 91)) (defScope (top 91)) [] [] (f 71) (fd 71)
  g71 : mg "_law_row" = some (.ref (f 71))
  F53 : FunD K "check_work" "check_work" (defArgs (top 71)) (defBody (top 71)) (defScope (top 71)) [] [] (f 53) (fd 53)
  g53 : mg "check_work" = some (.ref (f 53))
  F12 : FunD K "is_tuple_of" "is_tuple_of" (defArgs (top 17)) (defBody (top 17)) (defScope (top 17)) [] [] (f 12) (fd 12)
  g12 : mg "is_tuple_of" = some (.ref (f 12))
  F14 : FunD K "first_wrong" "first_wrong" (defArgs (top 19)) (defBody (top 19)) (defScope (top 19)) [] [] (f 14) (fd 14)
  g14 : mg "first_wrong" = some (.ref (f 14))
  F9 : FunD K "is_string" "is_string" (defArgs (top 14)) (defBody (top 14)) (defScope (top 14)) [] [] (f 9) (fd 9)
  g9 : mg "is_string" = some (.ref (f 9))
  F37 : FunD K "is_one_of" "is_one_of" (defArgs (top 56)) (defBody (top 56)) (defScope (top 56)) [] [] (f 37) (fd 37)
  g37 : mg "is_one_of" = some (.ref (f 37))
  F38 : FunD K "are_some" "are_some" (defArgs (top 57)) (defBody (top 57)) (defScope (top 57)) [] [] (f 38) (fd 38)
  g38 : mg "are_some" = some (.ref (f 38))
  F54 : FunD K "is_marks" "is_marks" (defArgs (top 72)) (defBody (top 72)) (defScope (top 72)) [] [] (f 54) (fd 54)
  g54 : mg "is_marks" = some (.ref (f 54))
  F55 : FunD K "check_marks" "check_marks" (defArgs (top 73)) (defBody (top 73)) (defScope (top 73)) [] [] (f 55) (fd 55)
  g55 : mg "check_marks" = some (.ref (f 55))
  F56 : FunD K "check_marked" "check_marked" (defArgs (top 75)) (defBody (top 75)) (defScope (top 75)) [] [] (f 56) (fd 56)
  g56 : mg "check_marked" = some (.ref (f 56))
  F7 : FunD K "is_whole" "is_whole" (defArgs (top 12)) (defBody (top 12)) (defScope (top 12)) [] [] (f 7) (fd 7)
  g7 : mg "is_whole" = some (.ref (f 7))
  F8 : FunD K "is_between" "is_between" (defArgs (top 13)) (defBody (top 13)) (defScope (top 13)) [] [] (f 8) (fd 8)
  g8 : mg "is_between" = some (.ref (f 8))
  F15 : FunD K "is_step" "is_step" (defArgs (top 24)) (defBody (top 24)) (defScope (top 24)) [] [] (f 15) (fd 15)
  g15 : mg "is_step" = some (.ref (f 15))
  F16 : FunD K "wrong_step" "wrong_step" (defArgs (top 25)) (defBody (top 25)) (defScope (top 25)) [] [] (f 16) (fd 16)
  g16 : mg "wrong_step" = some (.ref (f 16))
  F13 : FunD K "is_row" "is_row" (defArgs (top 18)) (defBody (top 18)) (defScope (top 18)) [] [] (f 13) (fd 13)
  g13 : mg "is_row" = some (.ref (f 13))
  F17 : FunD K "check_row" "check_row" (defArgs (top 26)) (defBody (top 26)) (defScope (top 26)) [] [] (f 17) (fd 17)
  g17 : mg "check_row" = some (.ref (f 17))
  F57 : FunD K "check_asked" "check_asked" (defArgs (top 76)) (defBody (top 76)) (defScope (top 76)) [] [] (f 57) (fd 57)
  g57 : mg "check_asked" = some (.ref (f 57))
  F26 : FunD K "marks_with" "marks_with" (defArgs (top 36)) (defBody (top 36)) (defScope (top 36)) [] [] (f 26) (fd 26)
  g26 : mg "marks_with" = some (.ref (f 26))
  F22 : FunD K "bit_of" "bit_of" (defArgs (top 32)) (defBody (top 32)) (defScope (top 32)) [] [] (f 22) (fd 22)
  g22 : mg "bit_of" = some (.ref (f 22))
  F23 : FunD K "lot_with" "lot_with" (defArgs (top 33)) (defBody (top 33)) (defScope (top 33)) [] [] (f 23) (fd 23)
  g23 : mg "lot_with" = some (.ref (f 23))
  F24 : FunD K "lot_of" "lot_of" (defArgs (top 34)) (defBody (top 34)) (defScope (top 34)) [] [] (f 24) (fd 24)
  g24 : mg "lot_of" = some (.ref (f 24))
  F25 : FunD K "lots_of" "lots_of" (defArgs (top 35)) (defBody (top 35)) (defScope (top 35)) [] [] (f 25) (fd 25)
  g25 : mg "lots_of" = some (.ref (f 25))
  F21 : FunD K "takes_from" "takes_from" (defArgs (top 30)) (defBody (top 30)) (defScope (top 30)) [] [] (f 21) (fd 21)
  g21 : mg "takes_from" = some (.ref (f 21))
  F18 : FunD K "puts_of" "puts_of" (defArgs (top 27)) (defBody (top 27)) (defScope (top 27)) [] [] (f 18) (fd 18)
  g18 : mg "puts_of" = some (.ref (f 18))
  F19 : FunD K "uses_of" "uses_of" (defArgs (top 28)) (defBody (top 28)) (defScope (top 28)) [] [] (f 19) (fd 19)
  g19 : mg "uses_of" = some (.ref (f 19))
  F27 : FunD K "is_in_made" "is_in_made" (defArgs (top 37)) (defBody (top 37)) (defScope (top 37)) [] [] (f 27) (fd 27)
  g27 : mg "is_in_made" = some (.ref (f 27))
  F28 : FunD K "lot_behind" "lot_behind" (defArgs (top 38)) (defBody (top 38)) (defScope (top 38)) [] [] (f 28) (fd 28)
  g28 : mg "lot_behind" = some (.ref (f 28))
  F30 : FunD K "lots_behind" "lots_behind" (defArgs (top 40)) (defBody (top 40)) (defScope (top 40)) [] [] (f 30) (fd 30)
  g30 : mg "lots_behind" = some (.ref (f 30))
  F32 : FunD K "lots_along" "lots_along" (defArgs (top 42)) (defBody (top 42)) (defScope (top 42)) [] [] (f 32) (fd 32)
  g32 : mg "lots_along" = some (.ref (f 32))
  F33 : FunD K "marks_behind" "marks_behind" (defArgs (top 43)) (defBody (top 43)) (defScope (top 43)) [] [] (f 33) (fd 33)
  g33 : mg "marks_behind" = some (.ref (f 33))
  F58 : FunD K "behind" "behind" (defArgs (top 77)) (defBody (top 77)) (defScope (top 77)) [] [] (f 58) (fd 58)
  g58 : mg "behind" = some (.ref (f 58))
  F10 : FunD K "is_made_of" "is_made_of" (defArgs (top 15)) (defBody (top 15)) (defScope (top 15)) [] [] (f 10) (fd 10)
  g10 : mg "is_made_of" = some (.ref (f 10))
  F11 : FunD K "is_name" "is_name" (defArgs (top 16)) (defBody (top 16)) (defScope (top 16)) [] [] (f 11) (fd 11)
  g11 : mg "is_name" = some (.ref (f 11))
  F43 : FunD K "wrong_name" "wrong_name" (defArgs (top 62)) (defBody (top 62)) (defScope (top 62)) [] [] (f 43) (fd 43)
  g43 : mg "wrong_name" = some (.ref (f 43))
  F46 : FunD K "check_tools" "check_tools" (defArgs (top 65)) (defBody (top 65)) (defScope (top 65)) [] [] (f 46) (fd 46)
  g46 : mg "check_tools" = some (.ref (f 46))
  F47 : FunD K "check_stuffs" "check_stuffs" (defArgs (top 66)) (defBody (top 66)) (defScope (top 66)) [] [] (f 47) (fd 47)
  g47 : mg "check_stuffs" = some (.ref (f 47))
  F39 : FunD K "is_recipe" "is_recipe" (defArgs (top 58)) (defBody (top 58)) (defScope (top 58)) [] [] (f 39) (fd 39)
  g39 : mg "is_recipe" = some (.ref (f 39))
  F40 : FunD K "is_recipe_behind" "is_recipe_behind" (defArgs (top 59)) (defBody (top 59)) (defScope (top 59)) [] [] (f 40) (fd 40)
  g40 : mg "is_recipe_behind" = some (.ref (f 40))
  F44 : FunD K "wrong_recipe" "wrong_recipe" (defArgs (top 63)) (defBody (top 63)) (defScope (top 63)) [] [] (f 44) (fd 44)
  g44 : mg "wrong_recipe" = some (.ref (f 44))
  F48 : FunD K "check_recipes" "check_recipes" (defArgs (top 67)) (defBody (top 67)) (defScope (top 67)) [] [] (f 48) (fd 48)
  g48 : mg "check_recipes" = some (.ref (f 48))
  F41 : FunD K "is_wash" "is_wash" (defArgs (top 60)) (defBody (top 60)) (defScope (top 60)) [] [] (f 41) (fd 41)
  g41 : mg "is_wash" = some (.ref (f 41))
  F42 : FunD K "is_wash_behind" "is_wash_behind" (defArgs (top 61)) (defBody (top 61)) (defScope (top 61)) [] [] (f 42) (fd 42)
  g42 : mg "is_wash_behind" = some (.ref (f 42))
  F45 : FunD K "wrong_wash" "wrong_wash" (defArgs (top 64)) (defBody (top 64)) (defScope (top 64)) [] [] (f 45) (fd 45)
  g45 : mg "wrong_wash" = some (.ref (f 45))
  F49 : FunD K "check_washes" "check_washes" (defArgs (top 68)) (defBody (top 68)) (defScope (top 68)) [] [] (f 49) (fd 49)
  g49 : mg "check_washes" = some (.ref (f 49))
  F50 : FunD K "__init__" "Work.__init__" (defArgs (inK (top 69) 0)) (defBody (inK (top 69) 0)) (defScope (inK (top 69) 0)) [.ref (cls 99)] [] (f 50) (fd 50)
  F72 : FunD K "_law_made" "_law_made" (defArgs (top 92)) (defBody (top 92)) (defScope (top 92)) [] [] (f 72) (fd 72)
  g72 : mg "_law_made" = some (.ref (f 72))
  F70 : FunD K "_law_marks" "_law_marks" (defArgs (top 90)) (defBody (top 90)) (defScope (top 90)) [] [] (f 70) (fd 70)
  g70 : mg "_law_marks" = some (.ref (f 70))
  F34 : FunD K "stuffs_in" "stuffs_in" (defArgs (top 44)) (defBody (top 44)) (defScope (top 44)) [] [] (f 34) (fd 34)
  g34 : mg "stuffs_in" = some (.ref (f 34))
  F35 : FunD K "made_by" "made_by" (defArgs (top 45)) (defBody (top 45)) (defScope (top 45)) [] [] (f 35) (fd 35)
  g35 : mg "made_by" = some (.ref (f 35))
  F59 : FunD K "made" "made" (defArgs (top 78)) (defBody (top 78)) (defScope (top 78)) [] [] (f 59) (fd 59)
  g59 : mg "made" = some (.ref (f 59))
  F20 : FunD K "bars_of" "bars_of" (defArgs (top 29)) (defBody (top 29)) (defScope (top 29)) [] [] (f 20) (fd 20)
  g20 : mg "bars_of" = some (.ref (f 20))
  F29 : FunD K "is_foul_by" "is_foul_by" (defArgs (top 39)) (defBody (top 39)) (defScope (top 39)) [] [] (f 29) (fd 29)
  g29 : mg "is_foul_by" = some (.ref (f 29))
  F31 : FunD K "foul_stuffs" "foul_stuffs" (defArgs (top 41)) (defBody (top 41)) (defScope (top 41)) [] [] (f 31) (fd 31)
  g31 : mg "foul_stuffs" = some (.ref (f 31))
  F36 : FunD K "first_foul_by" "first_foul_by" (defArgs (top 46)) (defBody (top 46)) (defScope (top 46)) [] [] (f 36) (fd 36)
  g36 : mg "first_foul_by" = some (.ref (f 36))
  F60 : FunD K "is_clean" "is_clean" (defArgs (top 79)) (defBody (top 79)) (defScope (top 79)) [] [] (f 60) (fd 60)
  g60 : mg "is_clean" = some (.ref (f 60))
  F73 : FunD K "_law_behind" "_law_behind" (defArgs (top 93)) (defBody (top 93)) (defScope (top 93)) [] [] (f 73) (fd 73)
  g73 : mg "_law_behind" = some (.ref (f 73))
  F74 : FunD K "_law_gone" "_law_gone" (defArgs (top 94)) (defBody (top 94)) (defScope (top 94)) [] [] (f 74) (fd 74)
  g74 : mg "_law_gone" = some (.ref (f 74))
  F65 : FunD K "_law_same" "_law_same" (defArgs (top 85)) (defBody (top 85)) (defScope (top 85)) [] [] (f 65) (fd 65)
  g65 : mg "_law_same" = some (.ref (f 65))
  F61 : FunD K "first_foul" "first_foul" (defArgs (top 80)) (defBody (top 80)) (defScope (top 80)) [] [] (f 61) (fd 61)
  g61 : mg "first_foul" = some (.ref (f 61))
  F75 : FunD K "_law_is_told" "_law_is_told" (defArgs (top 95)) (defBody (top 95)) (defScope (top 95)) [] [] (f 75) (fd 75)
  g75 : mg "_law_is_told" = some (.ref (f 75))
  F76 : FunD K "_law_right" "_law_right" (defArgs (top 96)) (defBody (top 96)) (defScope (top 96)) [] [] (f 76) (fd 76)
  g76 : mg "_law_right" = some (.ref (f 76))
  F62 : FunD K "_law_purse" "_law_purse" (defArgs (top 82)) (defBody (top 82)) (defScope (top 82)) [] [] (f 62) (fd 62)
  g62 : mg "_law_purse" = some (.ref (f 62))
  F77 : FunD K "law" "law" (defArgs (top 97)) (defBody (top 97)) (defScope (top 97)) [] [] (f 77) (fd 77)
  g77 : mg "law" = some (.ref (f 77))
  b_abs : mg "abs" = none
  b_all : mg "all" = none
  b_any : mg "any" = none
  b_bool : mg "bool" = none
  b_dict : mg "dict" = none
  b_enumerate : mg "enumerate" = none
  b_int : mg "int" = none
  b_isinstance : mg "isinstance" = none
  b_len : mg "len" = none
  b_max : mg "max" = none
  b_min : mg "min" = none
  b_range : mg "range" = none
  b_repr : mg "repr" = none
  b_sorted : mg "sorted" = none
  b_str : mg "str" = none
  b_sum : mg "sum" = none
  b_tuple : mg "tuple" = none
  b_zip : mg "zip" = none
  k_FEWEST_TOOLS : ∃ t, mg "FEWEST_TOOLS" = some (.int 2 t)
  k_LONGEST_NAME : ∃ t, mg "LONGEST_NAME" = some (.int 8 t)
  k_MAKE : ∃ t, mg "MAKE" = some (.str "make" t)
  k_MOST_PRICE : ∃ t, mg "MOST_PRICE" = some (.int 9 t)
  k_MOST_RECIPES : ∃ t, mg "MOST_RECIPES" = some (.int 6 t)
  k_MOST_STEPS : ∃ t, mg "MOST_STEPS" = some (.int 60 t)
  k_MOST_STUFFS : ∃ t, mg "MOST_STUFFS" = some (.int 4 t)
  k_MOST_TOOLS : ∃ t, mg "MOST_TOOLS" = some (.int 6 t)
  k_MOST_WASHES : ∃ t, mg "MOST_WASHES" = some (.int 6 t)
  k_SIZE_OF_RECIPE : ∃ t, mg "SIZE_OF_RECIPE" = some (.int 4 t)
  k_SIZE_OF_WASH : ∃ t, mg "SIZE_OF_WASH" = some (.int 3 t)
  k_SMALL_LETTERS : ∃ t, mg "SMALL_LETTERS" = some (.str "abcdefghijklmnopqrstuvwxyz" t)
  k_WASH : ∃ t, mg "WASH" = some (.str "wash" t)
  l38 : ∀ c, (fd 38).code = .ref c → ∃ Q, TabB base mg c Q ∧ (Q, lamQ "are_some") ∈ T ∧ ∀ p ∈ T, p.1 = Q → p.2 = lamQ "are_some"
  l43 : ∀ c, (fd 43).code = .ref c → ∃ Q, TabB base mg c Q ∧ (Q, lamQ "wrong_name") ∈ T ∧ ∀ p ∈ T, p.1 = Q → p.2 = lamQ "wrong_name"
  l44 : ∀ c, (fd 44).code = .ref c → ∃ Q, TabB base mg c Q ∧ (Q, lamQ "wrong_recipe") ∈ T ∧ ∀ p ∈ T, p.1 = Q → p.2 = lamQ "wrong_recipe"
  l45 : ∀ c, (fd 45).code = .ref c → ∃ Q, TabB base mg c Q ∧ (Q, lamQ "wrong_wash") ∈ T ∧ ∀ p ∈ T, p.1 = Q → p.2 = lamQ "wrong_wash"
  gs : GS (GG K cls T)
  gn : GN (GG K cls T) 0
  c0 : mg "Work" = some (.ref (cls 0))
  mkW : Mk K (cls 0) (f 50)
section
variable {P : Program} {w : World} {K : PySem.W.Frag} {cls : Nat → Addr} {T : List (Addr × Str)} {mg : Str → Option Value} {base : Heap} {f : Nat → Addr} {fd : Nat → FuncData}
theorem Wd.lamAt38 (Y : Wd K cls T mg base f fd) {P : Program} {w : World} {N : List Str} {scope : Scope} {a : Addr} {cdv : Value} {A : Around} {outer : List Env} {s : Shared} {H : Hp} {E : XK} (hc : ∃ c, cdv = .ref c ∧ (fd 38).code = .ref c) : LamAt (cxOf (L2.CX P w) P w K mg base N "are_some" scope a cdv A outer s H E) T := by
  obtain ⟨c, rfl, hc⟩ := hc
  obtain ⟨Q, q1, q2, q3⟩ := Y.l38 c hc
  exact ⟨c, Q, q1, rfl, q2, q3⟩
theorem Wd.lamAt43 (Y : Wd K cls T mg base f fd) {P : Program} {w : World} {N : List Str} {scope : Scope} {a : Addr} {cdv : Value} {A : Around} {outer : List Env} {s : Shared} {H : Hp} {E : XK} (hc : ∃ c, cdv = .ref c ∧ (fd 43).code = .ref c) : LamAt (cxOf (L2.CX P w) P w K mg base N "wrong_name" scope a cdv A outer s H E) T := by
  obtain ⟨c, rfl, hc⟩ := hc
  obtain ⟨Q, q1, q2, q3⟩ := Y.l43 c hc
  exact ⟨c, Q, q1, rfl, q2, q3⟩
theorem Wd.lamAt44 (Y : Wd K cls T mg base f fd) {P : Program} {w : World} {N : List Str} {scope : Scope} {a : Addr} {cdv : Value} {A : Around} {outer : List Env} {s : Shared} {H : Hp} {E : XK} (hc : ∃ c, cdv = .ref c ∧ (fd 44).code = .ref c) : LamAt (cxOf (L2.CX P w) P w K mg base N "wrong_recipe" scope a cdv A outer s H E) T := by
  obtain ⟨c, rfl, hc⟩ := hc
  obtain ⟨Q, q1, q2, q3⟩ := Y.l44 c hc
  exact ⟨c, Q, q1, rfl, q2, q3⟩
theorem Wd.lamAt45 (Y : Wd K cls T mg base f fd) {P : Program} {w : World} {N : List Str} {scope : Scope} {a : Addr} {cdv : Value} {A : Around} {outer : List Env} {s : Shared} {H : Hp} {E : XK} (hc : ∃ c, cdv = .ref c ∧ (fd 45).code = .ref c) : LamAt (cxOf (L2.CX P w) P w K mg base N "wrong_wash" scope a cdv A outer s H E) T := by
  obtain ⟨c, rfl, hc⟩ := hc
  obtain ⟨Q, q1, q2, q3⟩ := Y.l45 c hc
  exact ⟨c, Q, q1, rfl, q2, q3⟩
abbrev N__law_take : List Str := ["draws", "many", "figures", "seed", "turn"]
theorem sc__law_take : FnScope N__law_take ["draws", "many"] (defScope (top 83)) := ⟨rfl, rfl, rfl, by decide +kernel, rfl, by decide +kernel, by decide +kernel⟩
theorem b__law_take (Y : Wd K cls T mg base f fd) : Binds K (fd 63) ["draws", "many"] [] := Y.F63.bindsN fun _ _ _ _ _ _ us hl => match us, hl with | [_, _], _ => rfl
theorem ok__law_take (Y : Wd K cls T mg base f fd) : FnG P w K mg base 1 (f 63) (fd 63) ["draws", "many"] (spM (GG K cls T) 2 m__law_take) :=
  def_ok (G := GG K cls T) Y.F63 sc__law_take (by decide) fun cdv A outer s H E hr hc =>
      (ms_cons (ms_unl (ws := [2, 3, 4]) (n := 3) rfl rfl (me_var 0) (mgs_cons (mg_name (by decide) sc__law_take.nd rfl (.inl rfl)) (mgs_cons (mg_name (by decide) sc__law_take.nd rfl (.inl rfl)) (mgs_cons (mg_name (by decide) sc__law_take.nd rfl (.inl rfl)) mgs_nil))))
        (ms_cons (ms_setIx rfl (me_var 0) me_int (me_mod rfl (me_int1 rfl rfl Y.b_int (ma_cons (me_add rfl (me_add rfl (me_mul rfl (me_var 3) (me_add rfl me_int (me_mul rfl me_int (me_var 4)))) (me_mul rfl me_int (me_var 4))) me_int) ma_nil)) me_int))
        (ms_cons (ms_setIx rfl (me_var 0) me_int (me_add rfl (me_var 4) me_int))
        (ms_cons (ms_if (mt_gt rfl (me_var 2) me_int) (ms_cons (ms_setIx rfl (me_var 0) me_int (me_fdiv rfl (me_int1 rfl rfl Y.b_int (ma_cons (me_var 2) ma_nil)) (me_var 1)))
        (ms_one (ms_ret (me_mod rfl (me_int1 rfl rfl Y.b_int (ma_cons (me_var 2) ma_nil)) (me_var 1))))) ms_nil)
        (ms_one (ms_ret (me_mod rfl (me_int1 rfl rfl Y.b_int (ma_cons (me_fdiv rfl (me_ix rfl (me_var 0) me_int) me_int) ma_nil)) (me_var 1))))))))

abbrev N__law_names : List Str := ["draws", "many", "some", "found", "spare", "turn"]
theorem sc__law_names : FnScope N__law_names ["draws", "many", "some"] (defScope (top 86)) := ⟨rfl, rfl, rfl, by decide +kernel, rfl, by decide +kernel, by decide +kernel⟩
theorem b__law_names (Y : Wd K cls T mg base f fd) : Binds K (fd 66) ["draws", "many", "some"] [] := Y.F66.bindsN fun _ _ _ _ _ _ us hl => match us, hl with | [_, _, _], _ => rfl
theorem ok__law_names (Y : Wd K cls T mg base f fd) : FnG P w K mg base 2 (f 66) (fd 66) ["draws", "many", "some"] (spM (GG K cls T) 3 m__law_names) :=
  def_ok (G := GG K cls T) Y.F66 sc__law_names (by decide) fun cdv A outer s H E hr hc =>
      (ms_cons (ms_par (i := 3) (j := 4) rfl sc__law_names.nd rfl rfl (by decide) rfl rfl (ma_cons (me_lstO rfl ma_nil) (ma_cons (me_split rfl (me_var 2) (ma_cons me_str ma_nil)) ma_nil)) rfl)
        (ms_cons (ms_for (ws := [5]) rfl (passes_of rfl) rfl (mi_rng1 rfl Y.b_range (ma_cons (me_var 1) ma_nil)) (mg_name (by decide) sc__law_names.nd rfl (.inl rfl)) (ms_one (ms_expr (me_append rfl (me_var 3) (ma_cons (me_popAt rfl (me_var 4) (ma_cons (me_call rfl (ok__law_take Y) (hr.mono (by decide)) takes_cx rfl Y.g63 Y.F63.kp (b__law_take Y) .nil DflM.nil rfl (ha := (ma_cons (me_var 0) (ma_cons (me_len rfl rfl Y.b_len (ma_cons (me_var 4) ma_nil)) ma_nil)))) ma_nil)) ma_nil)))))
        (ms_one (ms_ret (me_tuple rfl rfl Y.b_tuple (ma_cons (me_sorted rfl rfl Y.b_sorted (ma_cons (me_var 3) ma_nil)) ma_nil))))))

abbrev N__law_lot : List Str := ["draws", "some", "most", "found", "each"]
theorem sc__law_lot : FnScope N__law_lot ["draws", "some", "most"] (defScope (top 87)) := ⟨rfl, rfl, rfl, by decide +kernel, rfl, by decide +kernel, by decide +kernel⟩
theorem b__law_lot (Y : Wd K cls T mg base f fd) : Binds K (fd 67) ["draws", "some", "most"] [] := Y.F67.bindsN fun _ _ _ _ _ _ us hl => match us, hl with | [_, _, _], _ => rfl
theorem ok__law_lot (Y : Wd K cls T mg base f fd) : FnG P w K mg base 2 (f 67) (fd 67) ["draws", "some", "most"] (spM (GG K cls T) 3 m__law_lot) :=
  def_ok (G := GG K cls T) Y.F67 sc__law_lot (by decide) fun cdv A outer s H E hr hc =>
      (ms_cons (ms_set (i := 3) sc__law_lot.nd rfl (.inl rfl) (me_tuple rfl rfl Y.b_tuple (ma_cons (me_lc (ow := [("each", 4)]) false rfl rfl sc__law_lot.nd (mi_seq rfl (me_var 1)) (blkOk_by (N := N__law_lot) (sc := defScope (top 87)) (by decide +kernel)) (fun _ _ _ _ _ => (mg_name (by decide) sc__law_lot.nd rfl (.inl rfl))) (fun _ _ _ _ _ => (mts_one (mt_lt rfl (me_call rfl (ok__law_take Y) (hr.mono (by decide)) takes_w0 rfl Y.g63 Y.F63.kp (b__law_take Y) .nil DflM.nil rfl (ha := (ma_cons (me_var 0) (ma_cons me_int ma_nil)))) me_int))) (fun _ _ _ _ _ => (me_var 4))) ma_nil)))
        (ms_one (ms_ret (me_sl rfl (me_var 3) mo_none (mo_some (me_var 2))))))

abbrev N__law_pick : List Str := ["draws", "some"]
theorem sc__law_pick : FnScope N__law_pick ["draws", "some"] (defScope (top 84)) := ⟨rfl, rfl, rfl, by decide +kernel, rfl, by decide +kernel, by decide +kernel⟩
theorem b__law_pick (Y : Wd K cls T mg base f fd) : Binds K (fd 64) ["draws", "some"] [] := Y.F64.bindsN fun _ _ _ _ _ _ us hl => match us, hl with | [_, _], _ => rfl
theorem ok__law_pick (Y : Wd K cls T mg base f fd) : FnG P w K mg base 2 (f 64) (fd 64) ["draws", "some"] (spM (GG K cls T) 2 m__law_pick) :=
  def_ok (G := GG K cls T) Y.F64 sc__law_pick (by decide) fun cdv A outer s H E hr hc =>
      (ms_one (ms_ret (me_ix rfl (me_var 1) (me_call rfl (ok__law_take Y) (hr.mono (by decide)) takes_cx rfl Y.g63 Y.F63.kp (b__law_take Y) .nil DflM.nil rfl (ha := (ma_cons (me_var 0) (ma_cons (me_len rfl rfl Y.b_len (ma_cons (me_var 1) ma_nil)) ma_nil)))))))

abbrev N__law_work : List Str := ["draws", "many", "kinds", "recipes_here", "washes_here", "tools", "stuffs", "recipes", "washes", "name", "puts", "uses", "bars", "turn", "takes", "row", "stuff", "each"]
theorem sc__law_work : FnScope N__law_work ["draws", "many", "kinds", "recipes_here", "washes_here"] (defScope (top 88)) := ⟨rfl, rfl, rfl, by decide +kernel, rfl, by decide +kernel, by decide +kernel⟩
theorem b__law_work (Y : Wd K cls T mg base f fd) : Binds K (fd 68) ["draws", "many", "kinds", "recipes_here", "washes_here"] [] := Y.F68.bindsN fun _ _ _ _ _ _ us hl => match us, hl with | [_, _, _, _, _], _ => rfl
theorem ok__law_work (Y : Wd K cls T mg base f fd) : FnG P w K mg base 3 (f 68) (fd 68) ["draws", "many", "kinds", "recipes_here", "washes_here"] (spM (GG K cls T) 5 m__law_work) :=
  def_ok (G := GG K cls T) Y.F68 sc__law_work (by decide) fun cdv A outer s H E hr hc =>
      (ms_cons (ms_set (i := 5) sc__law_work.nd rfl (.inl rfl) (me_call rfl (ok__law_names Y) (hr.mono (by decide)) takes_cx rfl Y.g66 Y.F66.kp (b__law_names Y) .nil DflM.nil rfl (ha := (ma_cons (me_var 0) (ma_cons (me_var 1) (ma_cons me_str ma_nil))))))
        (ms_cons (ms_par3 (i := 6) (j := 7) (l := 8) rfl sc__law_work.nd rfl rfl rfl (by decide) (by decide) (by decide) rfl rfl rfl (ma_cons (me_call rfl (ok__law_names Y) (hr.mono (by decide)) takes_cx rfl Y.g66 Y.F66.kp (b__law_names Y) .nil DflM.nil rfl (ha := (ma_cons (me_var 0) (ma_cons (me_var 2) (ma_cons me_str ma_nil))))) (ma_cons (me_tup rfl ma_nil) (ma_cons (me_tup rfl ma_nil) ma_nil))) rfl)
        (ms_cons (ms_for (ws := [9]) rfl (passes_of rfl) rfl (mi_seq rfl (me_call rfl (ok__law_names Y) (hr.mono (by decide)) takes_cx rfl Y.g66 Y.F66.kp (b__law_names Y) .nil DflM.nil rfl (ha := (ma_cons (me_var 0) (ma_cons (me_var 3) (ma_cons me_str ma_nil)))))) (mg_name (by decide) sc__law_work.nd rfl (.inl rfl)) (ms_cons (ms_asg (ws := [10, 11]) (me_tup rfl (ma_cons (me_call rfl (ok__law_lot Y) (hr.mono (by decide)) takes_cx rfl Y.g67 Y.F67.kp (b__law_lot Y) .nil DflM.nil rfl (ha := (ma_cons (me_var 0) (ma_cons (me_var 6) (ma_cons me_int ma_nil))))) (ma_cons (me_call rfl (ok__law_lot Y) (hr.mono (by decide)) takes_cx rfl Y.g67 Y.F67.kp (b__law_lot Y) .nil DflM.nil rfl (ha := (ma_cons (me_var 0) (ma_cons (me_var 5) (ma_cons me_int ma_nil))))) ma_nil))) (mg_tup rfl rfl (mgs_cons (mg_name (by decide) sc__law_work.nd rfl (.inr rfl)) (mgs_cons (mg_name (by decide) sc__law_work.nd rfl (.inl rfl)) mgs_nil))))
        (ms_cons (ms_set (i := 12) sc__law_work.nd rfl (.inl rfl) (me_call rfl (ok__law_lot Y) (hr.mono (by decide)) takes_cx rfl Y.g67 Y.F67.kp (b__law_lot Y) .nil DflM.nil rfl (ha := (ma_cons (me_var 0) (ma_cons (me_lc (ow := [("stuff", 16)]) false rfl rfl sc__law_work.nd (mi_seq rfl (me_var 6)) (blkOk_by (N := N__law_work) (sc := defScope (top 88)) (by decide +kernel)) (fun _ _ _ _ _ => (mg_name (by decide) sc__law_work.nd rfl (.inl rfl))) (fun _ _ _ _ _ => (mts_one (mt_notin rfl hr.u65 (me_var 16) (me_var 10) rfl))) (fun _ _ _ _ _ => (me_var 16))) (ma_cons me_int ma_nil))))))
        (ms_one (ms_set (i := 7) sc__law_work.nd rfl (.inl rfl) (me_add rfl (me_var 7) (me_tup rfl (ma_cons (me_tup rfl (ma_cons (me_var 9) (ma_cons (me_var 10) (ma_cons (me_if rfl (mt_ne rfl hr.u65 (me_var 11) (me_tup rfl ma_nil)) (me_var 11) (me_tup rfl (ma_cons (me_call rfl (ok__law_pick Y) (hr.mono (by decide)) takes_cx rfl Y.g64 Y.F64.kp (b__law_pick Y) .nil DflM.nil rfl (ha := (ma_cons (me_var 0) (ma_cons (me_var 5) ma_nil)))) ma_nil))) (ma_cons (me_var 12) ma_nil))))) ma_nil))))))))
        (ms_cons (ms_for (ws := [13]) rfl (passes_of rfl) rfl (mi_rng1 rfl Y.b_range (ma_cons (me_var 4) ma_nil)) (mg_name (by decide) sc__law_work.nd rfl (.inl rfl)) (ms_cons (ms_set (i := 14) sc__law_work.nd rfl (.inl rfl) (me_if rfl (mt_eq rfl hr.u65 (me_call rfl (ok__law_take Y) (hr.mono (by decide)) takes_cx rfl Y.g63 Y.F63.kp (b__law_take Y) .nil DflM.nil rfl (ha := (ma_cons (me_var 0) (ma_cons me_int ma_nil)))) me_int) (me_call rfl (ok__law_lot Y) (hr.mono (by decide)) takes_cx rfl Y.g67 Y.F67.kp (b__law_lot Y) .nil DflM.nil rfl (ha := (ma_cons (me_var 0) (ma_cons (me_var 6) (ma_cons me_int ma_nil))))) (me_var 6)))
        (ms_cons (ms_set (i := 15) sc__law_work.nd rfl (.inl rfl) (me_tup rfl (ma_cons (me_call rfl (ok__law_pick Y) (hr.mono (by decide)) takes_cx rfl Y.g64 Y.F64.kp (b__law_pick Y) .nil DflM.nil rfl (ha := (ma_cons (me_var 0) (ma_cons (me_var 5) ma_nil)))) (ma_cons (me_if rfl (mt_ne rfl hr.u65 (me_var 14) (me_tup rfl ma_nil)) (me_var 14) (me_sl rfl (me_var 6) mo_none (mo_some me_int))) (ma_cons (me_add rfl me_int (me_call rfl (ok__law_take Y) (hr.mono (by decide)) takes_cx rfl Y.g63 Y.F63.kp (b__law_take Y) .nil DflM.nil rfl (ha := (ma_cons (me_var 0) (ma_cons me_int ma_nil))))) ma_nil)))))
        (ms_one (ms_set (i := 8) sc__law_work.nd rfl (.inl rfl) (me_add rfl (me_var 8) (me_if rfl (mt_notin rfl hr.u65 (me_sl rfl (me_var 15) mo_none (mo_some me_int)) (me_lc (ow := [("each", 17)]) false rfl rfl sc__law_work.nd (mi_seq rfl (me_var 8)) (blkOk_by (N := N__law_work) (sc := defScope (top 88)) (by decide +kernel)) (fun _ _ _ _ _ => (mg_name (by decide) sc__law_work.nd rfl (.inl rfl))) (fun _ _ _ _ _ => mts_nil) (fun _ _ _ _ _ => (me_sl rfl (me_var 17) mo_none (mo_some me_int)))) rfl) (me_tup rfl (ma_cons (me_var 15) ma_nil)) (me_tup rfl ma_nil))))))))
        (ms_one (ms_ret (me_tup rfl (ma_cons (me_var 5) (ma_cons (me_var 6) (ma_cons (me_var 7) (ma_cons (me_var 8) ma_nil)))))))))))

abbrev N__law_drawn : List Str := ["draws", "many", "kinds"]
theorem sc__law_drawn : FnScope N__law_drawn ["draws"] (defScope (top 89)) := ⟨rfl, rfl, rfl, by decide +kernel, rfl, by decide +kernel, by decide +kernel⟩
theorem b__law_drawn (Y : Wd K cls T mg base f fd) : Binds K (fd 69) ["draws"] [] := Y.F69.bindsN fun _ _ _ _ _ _ us hl => match us, hl with | [_], _ => rfl
theorem ok__law_drawn (Y : Wd K cls T mg base f fd) : FnG P w K mg base 4 (f 69) (fd 69) ["draws"] (spM (GG K cls T) 1 m__law_drawn) :=
  def_ok (G := GG K cls T) Y.F69 sc__law_drawn (by decide) fun cdv A outer s H E hr hc =>
      (ms_cons (ms_par (i := 1) (j := 2) rfl sc__law_drawn.nd rfl rfl (by decide) rfl rfl (ma_cons (me_add rfl me_int (me_call rfl (ok__law_take Y) (hr.mono (by decide)) takes_cx rfl Y.g63 Y.F63.kp (b__law_take Y) .nil DflM.nil rfl (ha := (ma_cons (me_var 0) (ma_cons me_int ma_nil))))) (ma_cons (me_add rfl me_int (me_call rfl (ok__law_take Y) (hr.mono (by decide)) takes_cx rfl Y.g63 Y.F63.kp (b__law_take Y) .nil DflM.nil rfl (ha := (ma_cons (me_var 0) (ma_cons me_int ma_nil))))) ma_nil)) rfl)
        (ms_one (ms_ret (me_call rfl (ok__law_work Y) (hr.mono (by decide)) takes_cx rfl Y.g68 Y.F68.kp (b__law_work Y) .nil DflM.nil rfl (ha := (ma_cons (me_var 0) (ma_cons (me_var 1) (ma_cons (me_var 2) (ma_cons (me_add rfl me_int (me_call rfl (ok__law_take Y) (hr.mono (by decide)) takes_cx rfl Y.g63 Y.F63.kp (b__law_take Y) .nil DflM.nil rfl (ha := (ma_cons (me_var 0) (ma_cons me_int ma_nil))))) (ma_cons (me_call rfl (ok__law_take Y) (hr.mono (by decide)) takes_cx rfl Y.g63 Y.F63.kp (b__law_take Y) .nil DflM.nil rfl (ha := (ma_cons (me_var 0) (ma_cons me_int ma_nil)))) ma_nil))))))))))

abbrev N__law_row : List Str := ["draws", "parts", "most", "found", "turn"]
theorem sc__law_row : FnScope N__law_row ["draws", "parts", "most"] (defScope (top 91)) := ⟨rfl, rfl, rfl, by decide +kernel, rfl, by decide +kernel, by decide +kernel⟩
theorem b__law_row (Y : Wd K cls T mg base f fd) : Binds K (fd 71) ["draws", "parts", "most"] [] := Y.F71.bindsN fun _ _ _ _ _ _ us hl => match us, hl with | [_, _, _], _ => rfl
theorem ok__law_row (Y : Wd K cls T mg base f fd) : FnG P w K mg base 2 (f 71) (fd 71) ["draws", "parts", "most"] (spM (GG K cls T) 3 m__law_row) :=
  def_ok (G := GG K cls T) Y.F71 sc__law_row (by decide) fun cdv A outer s H E hr hc =>
      (ms_cons (ms_set (i := 3) sc__law_row.nd rfl (.inl rfl) (me_tup rfl ma_nil))
        (ms_cons (ms_for (ws := [4]) rfl (passes_of rfl) rfl (mi_rng1 rfl Y.b_range (ma_cons (me_call rfl (ok__law_take Y) (hr.mono (by decide)) takes_cx rfl Y.g63 Y.F63.kp (b__law_take Y) .nil DflM.nil rfl (ha := (ma_cons (me_var 0) (ma_cons (me_add rfl (me_var 2) me_int) ma_nil)))) ma_nil)) (mg_name (by decide) sc__law_row.nd rfl (.inl rfl)) (ms_one (ms_if (PW.pt (mw_and rfl (mt_ne rfl hr.u65 (me_ix rfl (me_var 1) me_int) (me_tup rfl ma_nil)) (mw_one (mt_eq rfl hr.u65 (me_call rfl (ok__law_take Y) (hr.mono (by decide)) takes_cx rfl Y.g63 Y.F63.kp (b__law_take Y) .nil DflM.nil rfl (ha := (ma_cons (me_var 0) (ma_cons me_int ma_nil)))) me_int)))) (ms_one (ms_set (i := 3) sc__law_row.nd rfl (.inl rfl) (me_add rfl (me_var 3) (me_tup rfl (ma_cons (me_tup rfl (ma_cons me_str (ma_cons (me_call rfl (ok__law_take Y) (hr.mono (by decide)) takes_cx rfl Y.g63 Y.F63.kp (b__law_take Y) .nil DflM.nil rfl (ha := (ma_cons (me_var 0) (ma_cons (me_len rfl rfl Y.b_len (ma_cons (me_ix rfl (me_var 1) me_int) ma_nil)) ma_nil)))) ma_nil))) ma_nil))))) (ms_one (ms_set (i := 3) sc__law_row.nd rfl (.inl rfl) (me_add rfl (me_var 3) (me_tup rfl (ma_cons (me_tup rfl (ma_cons me_str (ma_cons (me_call rfl (ok__law_take Y) (hr.mono (by decide)) takes_cx rfl Y.g63 Y.F63.kp (b__law_take Y) .nil DflM.nil rfl (ha := (ma_cons (me_var 0) (ma_cons (me_len rfl rfl Y.b_len (ma_cons (me_ix rfl (me_var 1) me_int) ma_nil)) ma_nil)))) ma_nil))) ma_nil))))))))
        (ms_one (ms_ret (me_var 3)))))

abbrev N_check_work : List Str := ["value"]
theorem sc_check_work : FnScope N_check_work ["value"] (defScope (top 71)) := ⟨rfl, rfl, rfl, by decide +kernel, rfl, by decide +kernel, by decide +kernel⟩
theorem b_check_work (Y : Wd K cls T mg base f fd) : Binds K (fd 53) ["value"] [] := Y.F53.bindsN fun _ _ _ _ _ _ us hl => match us, hl with | [_], _ => rfl
theorem ok_check_work (Y : Wd K cls T mg base f fd) : FnG P w K mg base 1 (f 53) (fd 53) ["value"] (spM (GG K cls T) 1 m_check_work) :=
  def_ok (G := GG K cls T) Y.F53 sc_check_work (by decide) fun cdv A outer s H E hr hc =>
      (ms_one (ms_if (mt_not (mt_val (me_isO (cn := 0) rfl Y.gn rfl Y.b_isinstance rfl Y.c0 (me_var 0)))) (ms_one ms_bad) ms_nil))

abbrev N_is_tuple_of : List Str := ["value", "many"]
theorem sc_is_tuple_of : FnScope N_is_tuple_of ["value", "many"] (defScope (top 17)) := ⟨rfl, rfl, rfl, by decide +kernel, rfl, by decide +kernel, by decide +kernel⟩
theorem b_is_tuple_of (Y : Wd K cls T mg base f fd) : Binds K (fd 12) ["value", "many"] [] := Y.F12.bindsN fun _ _ _ _ _ _ us hl => match us, hl with | [_, _], _ => rfl
theorem ok_is_tuple_of (Y : Wd K cls T mg base f fd) : FnG P w K mg base 1 (f 12) (fd 12) ["value", "many"] (spM (GG K cls T) 2 m_is_tuple_of) :=
  def_ok (G := GG K cls T) Y.F12 sc_is_tuple_of (by decide) fun cdv A outer s H E hr hc =>
      (ms_one (ms_ret (me_andV rfl (me_isT (T := 5) rfl (by decide) (by decide) rfl Y.b_isinstance rfl Y.b_tuple (by decide +kernel) (me_var 0)) (me_one (me_eq rfl hr.u65 (me_len rfl rfl Y.b_len (ma_cons (me_var 0) ma_nil)) (me_var 1))))))

theorem sc_first_wrong : FnScope firstN ["value", "is_right"] (defScope (top 19)) := ⟨rfl, rfl, rfl, by decide +kernel, rfl, by decide +kernel, by decide +kernel⟩
theorem b_first_wrong (Y : Wd K cls T mg base f fd) : Binds K (fd 14) ["value", "is_right"] [] := Y.F14.bindsN fun _ _ _ _ _ _ us hl => match us, hl with | [_, _], _ => rfl

abbrev N_is_string : List Str := ["value"]
theorem sc_is_string : FnScope N_is_string ["value"] (defScope (top 14)) := ⟨rfl, rfl, rfl, by decide +kernel, rfl, by decide +kernel, by decide +kernel⟩
theorem b_is_string (Y : Wd K cls T mg base f fd) : Binds K (fd 9) ["value"] [] := Y.F9.bindsN fun _ _ _ _ _ _ us hl => match us, hl with | [_], _ => rfl
theorem ok_is_string (Y : Wd K cls T mg base f fd) : FnG P w K mg base 1 (f 9) (fd 9) ["value"] (spM (GG K cls T) 1 m_is_string) :=
  def_ok (G := GG K cls T) Y.F9 sc_is_string (by decide) fun cdv A outer s H E hr hc =>
      (ms_one (ms_ret (me_isT (T := 3) rfl (by decide) (by decide) rfl Y.b_isinstance rfl Y.b_str (by decide +kernel) (me_var 0))))

abbrev N_is_one_of : List Str := ["menu", "value"]
theorem sc_is_one_of : FnScope N_is_one_of ["menu", "value"] (defScope (top 56)) := ⟨rfl, rfl, rfl, by decide +kernel, rfl, by decide +kernel, by decide +kernel⟩
theorem b_is_one_of (Y : Wd K cls T mg base f fd) : Binds K (fd 37) ["menu", "value"] [] := Y.F37.bindsN fun _ _ _ _ _ _ us hl => match us, hl with | [_, _], _ => rfl
theorem ok_is_one_of (Y : Wd K cls T mg base f fd) : FnG P w K mg base 2 (f 37) (fd 37) ["menu", "value"] (spM (GG K cls T) 2 m_is_one_of) :=
  def_ok (G := GG K cls T) Y.F37 sc_is_one_of (by decide) fun cdv A outer s H E hr hc =>
      (ms_one (ms_ret (me_andV rfl (me_call rfl (ok_is_string Y) (hr.mono (by decide)) takes_cx rfl Y.g9 Y.F9.kp (b_is_string Y) .nil DflM.nil rfl (ha := (ma_cons (me_var 1) ma_nil))) (me_one (me_in rfl hr.u65 (me_var 1) (me_var 0) rfl)))))

abbrev N_are_some : List Str := ["menu", "value"]
theorem sc_are_some : FnScope N_are_some ["menu", "value"] (defScope (top 57)) := ⟨rfl, rfl, rfl, by decide +kernel, rfl, by decide +kernel, by decide +kernel⟩
theorem b_are_some (Y : Wd K cls T mg base f fd) : Binds K (fd 38) ["menu", "value"] [] := Y.F38.bindsN fun _ _ _ _ _ _ us hl => match us, hl with | [_, _], _ => rfl
theorem ok_are_some (Y : Wd K cls T mg base f fd) : FnG P w K mg base 5 (f 38) (fd 38) ["menu", "value"] (spM (GG K cls T) 2 m_are_some) :=
  def_ok (G := GG K cls T) Y.F38 sc_are_some (by decide) fun cdv A outer s H E hr hc =>
      (ms_cons (ms_if (mt_not (mt_val (me_isT (T := 5) rfl (by decide) (by decide) rfl Y.b_isinstance rfl Y.b_tuple (by decide +kernel) (me_var 1)))) (ms_one (ms_ret me_bl)) ms_nil)
        (ms_one (ms_ret (me_isN rfl (me_first (k := 2) (NL := ["name", "ahead", "menu"]) (ps := ["name", "ahead"]) (fr := ["menu"]) (js := [0]) rfl rfl Y.g14 Y.F14 (b_first_wrong Y) sc_first_wrong Y.b_enumerate rfl rfl rfl rfl rfl (Y.lamAt38 hc) (free_by (sc := defScope (top 57)) (by decide +kernel)) (by decide +kernel) rfl (nscope_by (by decide +kernel)) rfl rfl (fun _ _ _ _ _ us hl => match us, hl with | [_, _], _ => rfl) (hr.mono (by decide)) (fun _ _ _ _ _ _ _ _ hr => (me_andV rfl (me_call rfl (ok_is_one_of Y) (hr.mono (by decide)) takes_w0 rfl Y.g37 Y.F37.kp (b_is_one_of Y) .nil DflM.nil rfl (ha := (ma_cons (me_var 2) (ma_cons (me_var 0) ma_nil)))) (me_one (me_orV rfl (me_eq rfl hr.u65 (me_var 1) (me_tup rfl ma_nil)) (me_one (me_lt rfl (me_ix rfl (me_var 1) (me_neg me_int)) (me_var 0))))))) (me_var 1)) me_non))))

abbrev N_is_marks : List Str := ["work", "value", "carried"]
theorem sc_is_marks : FnScope N_is_marks ["work", "value"] (defScope (top 72)) := ⟨rfl, rfl, rfl, by decide +kernel, rfl, by decide +kernel, by decide +kernel⟩
theorem b_is_marks (Y : Wd K cls T mg base f fd) : Binds K (fd 54) ["work", "value"] [] := Y.F54.bindsN fun _ _ _ _ _ _ us hl => match us, hl with | [_, _], _ => rfl
theorem ok_is_marks (Y : Wd K cls T mg base f fd) : FnG P w K mg base 6 (f 54) (fd 54) ["work", "value"] (spM (GG K cls T) 2 m_is_marks) :=
  def_ok (G := GG K cls T) Y.F54 sc_is_marks (by decide) fun cdv A outer s H E hr hc =>
      (ms_one (ms_ret (me_andV rfl (me_call rfl (ok_is_tuple_of Y) (hr.mono (by decide)) takes_cx rfl Y.g12 Y.F12.kp (b_is_tuple_of Y) .nil DflM.nil rfl (ha := (ma_cons (me_var 1) (ma_cons (me_len rfl rfl Y.b_len (ma_cons (me_fld rfl Y.gs.gf (me_var 0)) ma_nil)) ma_nil)))) (me_one (me_all rfl rfl rfl Y.b_all (ma_cons (me_lc (ow := [("carried", 2)]) false rfl rfl sc_is_marks.nd (mi_seq rfl (me_var 1)) (blkOk_by (N := N_is_marks) (sc := defScope (top 72)) (by decide +kernel)) (fun _ _ _ _ _ => (mg_name (by decide) sc_is_marks.nd rfl (.inl rfl))) (fun _ _ _ _ _ => mts_nil) (fun _ _ _ _ _ => (me_call rfl (ok_are_some Y) (hr.mono (by decide)) takes_w0 rfl Y.g38 Y.F38.kp (b_are_some Y) .nil DflM.nil rfl (ha := (ma_cons (me_fld rfl Y.gs.gf (me_var 0)) (ma_cons (me_var 2) ma_nil)))))) ma_nil))))))

abbrev N_check_marks : List Str := ["work", "value"]
theorem sc_check_marks : FnScope N_check_marks ["work", "value"] (defScope (top 73)) := ⟨rfl, rfl, rfl, by decide +kernel, rfl, by decide +kernel, by decide +kernel⟩
theorem b_check_marks (Y : Wd K cls T mg base f fd) : Binds K (fd 55) ["work", "value"] [] := Y.F55.bindsN fun _ _ _ _ _ _ us hl => match us, hl with | [_, _], _ => rfl
theorem ok_check_marks (Y : Wd K cls T mg base f fd) : FnG P w K mg base 7 (f 55) (fd 55) ["work", "value"] (spM (GG K cls T) 2 m_check_marks) :=
  def_ok (G := GG K cls T) Y.F55 sc_check_marks (by decide) fun cdv A outer s H E hr hc =>
      (ms_one (ms_if (mt_not (mt_val (me_call rfl (ok_is_marks Y) (hr.mono (by decide)) takes_cx rfl Y.g54 Y.F54.kp (b_is_marks Y) .nil DflM.nil rfl (ha := (ma_cons (me_var 0) (ma_cons (me_var 1) ma_nil)))))) (ms_one ms_bad) ms_nil))

abbrev N_check_marked : List Str := ["work", "marks"]
theorem sc_check_marked : FnScope N_check_marked ["work", "marks"] (defScope (top 75)) := ⟨rfl, rfl, rfl, by decide +kernel, rfl, by decide +kernel, by decide +kernel⟩
theorem b_check_marked (Y : Wd K cls T mg base f fd) : Binds K (fd 56) ["work", "marks"] [] := Y.F56.bindsN fun _ _ _ _ _ _ us hl => match us, hl with | [_, _], _ => rfl
theorem ok_check_marked (Y : Wd K cls T mg base f fd) : FnG P w K mg base 8 (f 56) (fd 56) ["work", "marks"] (spM (GG K cls T) 2 m_check_marked) :=
  def_ok (G := GG K cls T) Y.F56 sc_check_marked (by decide) fun cdv A outer s H E hr hc =>
      (ms_cons (ms_expr (me_call rfl (ok_check_work Y) (hr.mono (by decide)) takes_cx rfl Y.g53 Y.F53.kp (b_check_work Y) .nil DflM.nil rfl (ha := (ma_cons (me_var 0) ma_nil))))
        (ms_one (ms_expr (me_call rfl (ok_check_marks Y) (hr.mono (by decide)) takes_cx rfl Y.g55 Y.F55.kp (b_check_marks Y) .nil DflM.nil rfl (ha := (ma_cons (me_var 0) (ma_cons (me_var 1) ma_nil)))))))

abbrev N_is_whole : List Str := ["value"]
theorem sc_is_whole : FnScope N_is_whole ["value"] (defScope (top 12)) := ⟨rfl, rfl, rfl, by decide +kernel, rfl, by decide +kernel, by decide +kernel⟩
theorem b_is_whole (Y : Wd K cls T mg base f fd) : Binds K (fd 7) ["value"] [] := Y.F7.bindsN fun _ _ _ _ _ _ us hl => match us, hl with | [_], _ => rfl
theorem ok_is_whole (Y : Wd K cls T mg base f fd) : FnG P w K mg base 1 (f 7) (fd 7) ["value"] (spM (GG K cls T) 1 m_is_whole) :=
  def_ok (G := GG K cls T) Y.F7 sc_is_whole (by decide) fun cdv A outer s H E hr hc =>
      (ms_one (ms_ret (me_andV rfl (me_isT (T := 2) rfl (by decide) (by decide) rfl Y.b_isinstance rfl Y.b_int (by decide +kernel) (me_var 0)) (me_one (me_notV (me_isT (T := 1) rfl (by decide) (by decide) rfl Y.b_isinstance rfl Y.b_bool (by decide +kernel) (me_var 0)))))))

abbrev N_is_between : List Str := ["value", "least", "most"]
theorem sc_is_between : FnScope N_is_between ["value", "least", "most"] (defScope (top 13)) := ⟨rfl, rfl, rfl, by decide +kernel, rfl, by decide +kernel, by decide +kernel⟩
theorem b_is_between (Y : Wd K cls T mg base f fd) : Binds K (fd 8) ["value", "least", "most"] [] := Y.F8.bindsN fun _ _ _ _ _ _ us hl => match us, hl with | [_, _, _], _ => rfl
theorem ok_is_between (Y : Wd K cls T mg base f fd) : FnG P w K mg base 2 (f 8) (fd 8) ["value", "least", "most"] (spM (GG K cls T) 3 m_is_between) :=
  def_ok (G := GG K cls T) Y.F8 sc_is_between (by decide) fun cdv A outer s H E hr hc =>
      (ms_one (ms_ret (me_andV rfl (me_call rfl (ok_is_whole Y) (hr.mono (by decide)) takes_cx rfl Y.g7 Y.F7.kp (b_is_whole Y) .nil DflM.nil rfl (ha := (ma_cons (me_var 0) ma_nil))) (me_one (me_chain op_le op_le (sv_cmp _) (sv_cmp _) (me_var 1) (me_var 0) (me_var 2))))))

abbrev N_is_step : List Str := ["work", "value"]
theorem sc_is_step : FnScope N_is_step ["work", "value"] (defScope (top 24)) := ⟨rfl, rfl, rfl, by decide +kernel, rfl, by decide +kernel, by decide +kernel⟩
theorem b_is_step (Y : Wd K cls T mg base f fd) : Binds K (fd 15) ["work", "value"] [] := Y.F15.bindsN fun _ _ _ _ _ _ us hl => match us, hl with | [_, _], _ => rfl
theorem ok_is_step (Y : Wd K cls T mg base f fd) : FnG P w K mg base 3 (f 15) (fd 15) ["work", "value"] (spM (GG K cls T) 2 m_is_step) :=
  def_ok (G := GG K cls T) Y.F15 sc_is_step (by decide) fun cdv A outer s H E hr hc =>
      (ms_cons (ms_if (PW.pt (mw_or rfl (mt_not (mt_val (me_call rfl (ok_is_tuple_of Y) (hr.mono (by decide)) takes_cx rfl Y.g12 Y.F12.kp (b_is_tuple_of Y) .nil DflM.nil rfl (ha := (ma_cons (me_var 1) (ma_cons me_int ma_nil)))))) (mw_oneO (mt_not (mt_val (me_call rfl (ok_is_string Y) (hr.mono (by decide)) takes_cx rfl Y.g9 Y.F9.kp (b_is_string Y) .nil DflM.nil rfl (ha := (ma_cons (me_ix rfl (me_var 1) me_int) ma_nil)))))))) (ms_one (ms_ret me_bl)) ms_nil)
        (ms_cons (ms_if (mt_eq rfl hr.u65 (me_ix rfl (me_var 1) me_int) (me_gstr rfl Y.k_MAKE)) (ms_one (ms_ret (me_call rfl (ok_is_between Y) (hr.mono (by decide)) takes_cx rfl Y.g8 Y.F8.kp (b_is_between Y) .nil DflM.nil rfl (ha := (ma_cons (me_ix rfl (me_var 1) me_int) (ma_cons me_int (ma_cons (me_sub rfl (me_len rfl rfl Y.b_len (ma_cons (me_fld rfl Y.gs.gf (me_var 0)) ma_nil)) me_int) ma_nil))))))) ms_nil)
        (ms_one (ms_ret (me_andV rfl (me_eq rfl hr.u65 (me_ix rfl (me_var 1) me_int) (me_gstr rfl Y.k_WASH)) (me_one (me_call rfl (ok_is_between Y) (hr.mono (by decide)) takes_cx rfl Y.g8 Y.F8.kp (b_is_between Y) .nil DflM.nil rfl (ha := (ma_cons (me_ix rfl (me_var 1) me_int) (ma_cons me_int (ma_cons (me_sub rfl (me_len rfl rfl Y.b_len (ma_cons (me_fld rfl Y.gs.gf (me_var 0)) ma_nil)) me_int) ma_nil)))))))))))

abbrev N_wrong_step : List Str := ["work", "row", "index", "step"]
theorem sc_wrong_step : FnScope N_wrong_step ["work", "row"] (defScope (top 25)) := ⟨rfl, rfl, rfl, by decide +kernel, rfl, by decide +kernel, by decide +kernel⟩
theorem b_wrong_step (Y : Wd K cls T mg base f fd) : Binds K (fd 16) ["work", "row"] [] := Y.F16.bindsN fun _ _ _ _ _ _ us hl => match us, hl with | [_, _], _ => rfl
theorem ok_wrong_step (Y : Wd K cls T mg base f fd) : FnG P w K mg base 4 (f 16) (fd 16) ["work", "row"] (spM (GG K cls T) 2 m_wrong_step) :=
  def_ok (G := GG K cls T) Y.F16 sc_wrong_step (by decide) fun cdv A outer s H E hr hc =>
      (ms_cons (ms_for (ws := [2, 3]) rfl (passes_of rfl) rfl (mi_enum rfl rfl Y.b_enumerate (ma_cons (me_var 1) ma_nil)) (mg_tup rfl rfl (mgs_cons (mg_name (by decide) sc_wrong_step.nd rfl (.inl rfl)) (mgs_cons (mg_name (by decide) sc_wrong_step.nd rfl (.inl rfl)) mgs_nil))) (ms_one (ms_if (mt_not (mt_val (me_call rfl (ok_is_step Y) (hr.mono (by decide)) takes_cx rfl Y.g15 Y.F15.kp (b_is_step Y) .nil DflM.nil rfl (ha := (ma_cons (me_var 0) (ma_cons (me_var 3) ma_nil)))))) (ms_one (ms_ret (me_var 2))) ms_nil)))
        (ms_one (ms_ret me_non)))

abbrev N_is_row : List Str := ["value", "least", "most"]
theorem sc_is_row : FnScope N_is_row ["value", "least", "most"] (defScope (top 18)) := ⟨rfl, rfl, rfl, by decide +kernel, rfl, by decide +kernel, by decide +kernel⟩
theorem b_is_row (Y : Wd K cls T mg base f fd) : Binds K (fd 13) ["value", "least", "most"] [] := Y.F13.bindsN fun _ _ _ _ _ _ us hl => match us, hl with | [_, _, _], _ => rfl
theorem ok_is_row (Y : Wd K cls T mg base f fd) : FnG P w K mg base 1 (f 13) (fd 13) ["value", "least", "most"] (spM (GG K cls T) 3 m_is_row) :=
  def_ok (G := GG K cls T) Y.F13 sc_is_row (by decide) fun cdv A outer s H E hr hc =>
      (ms_one (ms_ret (me_andV rfl (me_isT (T := 5) rfl (by decide) (by decide) rfl Y.b_isinstance rfl Y.b_tuple (by decide +kernel) (me_var 0)) (me_one (me_chain op_le op_le (sv_cmp _) (sv_cmp _) (me_var 1) (me_len rfl rfl Y.b_len (ma_cons (me_var 0) ma_nil)) (me_var 2))))))

abbrev N_check_row : List Str := ["work", "row", "wrong"]
theorem sc_check_row : FnScope N_check_row ["work", "row"] (defScope (top 26)) := ⟨rfl, rfl, rfl, by decide +kernel, rfl, by decide +kernel, by decide +kernel⟩
theorem b_check_row (Y : Wd K cls T mg base f fd) : Binds K (fd 17) ["work", "row"] [] := Y.F17.bindsN fun _ _ _ _ _ _ us hl => match us, hl with | [_, _], _ => rfl
theorem ok_check_row (Y : Wd K cls T mg base f fd) : FnG P w K mg base 5 (f 17) (fd 17) ["work", "row"] (spM (GG K cls T) 2 m_check_row) :=
  def_ok (G := GG K cls T) Y.F17 sc_check_row (by decide) fun cdv A outer s H E hr hc =>
      (ms_cons (ms_if (mt_not (mt_val (me_call rfl (ok_is_row Y) (hr.mono (by decide)) takes_cx rfl Y.g13 Y.F13.kp (b_is_row Y) .nil DflM.nil rfl (ha := (ma_cons (me_var 1) (ma_cons me_int (ma_cons (me_gint rfl Y.k_MOST_STEPS) ma_nil))))))) (ms_one ms_bad) ms_nil)
        (ms_cons (ms_set (i := 2) sc_check_row.nd rfl (.inl rfl) (me_call rfl (ok_wrong_step Y) (hr.mono (by decide)) takes_cx rfl Y.g16 Y.F16.kp (b_wrong_step Y) .nil DflM.nil rfl (ha := (ma_cons (me_var 0) (ma_cons (me_var 1) ma_nil)))))
        (ms_one (ms_if (mt_notN rfl (me_var 2) me_non) (ms_one ms_bad) ms_nil))))

abbrev N_check_asked : List Str := ["work", "marks", "row"]
theorem sc_check_asked : FnScope N_check_asked ["work", "marks", "row"] (defScope (top 76)) := ⟨rfl, rfl, rfl, by decide +kernel, rfl, by decide +kernel, by decide +kernel⟩
theorem b_check_asked (Y : Wd K cls T mg base f fd) : Binds K (fd 57) ["work", "marks", "row"] [] := Y.F57.bindsN fun _ _ _ _ _ _ us hl => match us, hl with | [_, _, _], _ => rfl
theorem ok_check_asked (Y : Wd K cls T mg base f fd) : FnG P w K mg base 9 (f 57) (fd 57) ["work", "marks", "row"] (spM (GG K cls T) 3 m_check_asked) :=
  def_ok (G := GG K cls T) Y.F57 sc_check_asked (by decide) fun cdv A outer s H E hr hc =>
      (ms_cons (ms_expr (me_call rfl (ok_check_marked Y) (hr.mono (by decide)) takes_cx rfl Y.g56 Y.F56.kp (b_check_marked Y) .nil DflM.nil rfl (ha := (ma_cons (me_var 0) (ma_cons (me_var 1) ma_nil)))))
        (ms_one (ms_expr (me_call rfl (ok_check_row Y) (hr.mono (by decide)) takes_cx rfl Y.g17 Y.F17.kp (b_check_row Y) .nil DflM.nil rfl (ha := (ma_cons (me_var 0) (ma_cons (me_var 2) ma_nil)))))))

abbrev N_marks_with : List Str := ["work", "lots", "found", "at", "tool", "stuff", "lot"]
theorem sc_marks_with : FnScope N_marks_with ["work", "lots"] (defScope (top 36)) := ⟨rfl, rfl, rfl, by decide +kernel, rfl, by decide +kernel, by decide +kernel⟩
theorem b_marks_with (Y : Wd K cls T mg base f fd) : Binds K (fd 26) ["work", "lots"] [] := Y.F26.bindsN fun _ _ _ _ _ _ us hl => match us, hl with | [_, _], _ => rfl
theorem ok_marks_with (Y : Wd K cls T mg base f fd) : FnG P w K mg base 1 (f 26) (fd 26) ["work", "lots"] (spM (GG K cls T) 2 m_marks_with) :=
  def_ok (G := GG K cls T) Y.F26 sc_marks_with (by decide) fun cdv A outer s H E hr hc =>
      (ms_cons (ms_set (i := 2) sc_marks_with.nd rfl (.inl rfl) (me_lstO rfl ma_nil))
        (ms_cons (ms_for (ws := [3, 4]) rfl (passes_of rfl) rfl (mi_enum rfl rfl Y.b_enumerate (ma_cons (me_fld rfl Y.gs.gf (me_var 0)) ma_nil)) (mg_tup rfl rfl (mgs_cons (mg_name (by decide) sc_marks_with.nd rfl (.inr rfl)) (mgs_cons (mg_name (by decide) sc_marks_with.nd rfl (.inl rfl)) mgs_nil))) (ms_one (ms_expr (me_append rfl (me_var 2) (ma_cons (me_tuple rfl rfl Y.b_tuple (ma_cons (me_lc (ow := [("stuff", 5), ("lot", 6)]) false rfl rfl sc_marks_with.nd (mi_zip2 rfl rfl Y.b_zip (ma_cons (me_fld rfl Y.gs.gf (me_var 0)) (ma_cons (me_var 1) ma_nil))) (blkOk_by (N := N_marks_with) (sc := defScope (top 36)) (by decide +kernel)) (fun _ _ _ _ _ => (mg_tup rfl rfl (mgs_cons (mg_name (by decide) sc_marks_with.nd rfl (.inl rfl)) (mgs_cons (mg_name (by decide) sc_marks_with.nd rfl (.inl rfl)) mgs_nil)))) (fun _ _ _ _ _ => (mts_one (mt_eq rfl hr.u65 (me_and rfl (me_shr rfl (me_var 6) (me_var 3)) me_int) me_int))) (fun _ _ _ _ _ => (me_var 5))) ma_nil)) ma_nil)))))
        (ms_one (ms_ret (me_tuple rfl rfl Y.b_tuple (ma_cons (me_var 2) ma_nil))))))

abbrev N_bit_of : List Str := ["work", "tool"]
theorem sc_bit_of : FnScope N_bit_of ["work", "tool"] (defScope (top 32)) := ⟨rfl, rfl, rfl, by decide +kernel, rfl, by decide +kernel, by decide +kernel⟩
theorem b_bit_of (Y : Wd K cls T mg base f fd) : Binds K (fd 22) ["work", "tool"] [] := Y.F22.bindsN fun _ _ _ _ _ _ us hl => match us, hl with | [_, _], _ => rfl
theorem ok_bit_of (Y : Wd K cls T mg base f fd) : FnG P w K mg base 1 (f 22) (fd 22) ["work", "tool"] (spM (GG K cls T) 2 m_bit_of) :=
  def_ok (G := GG K cls T) Y.F22 sc_bit_of (by decide) fun cdv A outer s H E hr hc =>
      (ms_one (ms_ret (me_shl rfl me_int (me_tidx rfl (me_fld rfl Y.gs.gf (me_var 0)) (ma_cons (me_var 1) ma_nil)))))

abbrev N_lot_with : List Str := ["work", "tools", "tool"]
theorem sc_lot_with : FnScope N_lot_with ["work", "tools"] (defScope (top 33)) := ⟨rfl, rfl, rfl, by decide +kernel, rfl, by decide +kernel, by decide +kernel⟩
theorem b_lot_with (Y : Wd K cls T mg base f fd) : Binds K (fd 23) ["work", "tools"] [] := Y.F23.bindsN fun _ _ _ _ _ _ us hl => match us, hl with | [_, _], _ => rfl
theorem ok_lot_with (Y : Wd K cls T mg base f fd) : FnG P w K mg base 2 (f 23) (fd 23) ["work", "tools"] (spM (GG K cls T) 2 m_lot_with) :=
  def_ok (G := GG K cls T) Y.F23 sc_lot_with (by decide) fun cdv A outer s H E hr hc =>
      (ms_one (ms_ret (me_sum rfl rfl rfl Y.b_sum (ma_cons (me_lc (ow := [("tool", 2)]) false rfl rfl sc_lot_with.nd (mi_seq rfl (me_var 1)) (blkOk_by (N := N_lot_with) (sc := defScope (top 33)) (by decide +kernel)) (fun _ _ _ _ _ => (mg_name (by decide) sc_lot_with.nd rfl (.inl rfl))) (fun _ _ _ _ _ => mts_nil) (fun _ _ _ _ _ => (me_call rfl (ok_bit_of Y) (hr.mono (by decide)) takes_w0 rfl Y.g22 Y.F22.kp (b_bit_of Y) .nil DflM.nil rfl (ha := (ma_cons (me_var 0) (ma_cons (me_var 2) ma_nil)))))) ma_nil))))

abbrev N_lot_of : List Str := ["work", "marks", "stuff", "tool", "carried"]
theorem sc_lot_of : FnScope N_lot_of ["work", "marks", "stuff"] (defScope (top 34)) := ⟨rfl, rfl, rfl, by decide +kernel, rfl, by decide +kernel, by decide +kernel⟩
theorem b_lot_of (Y : Wd K cls T mg base f fd) : Binds K (fd 24) ["work", "marks", "stuff"] [] := Y.F24.bindsN fun _ _ _ _ _ _ us hl => match us, hl with | [_, _, _], _ => rfl
theorem ok_lot_of (Y : Wd K cls T mg base f fd) : FnG P w K mg base 3 (f 24) (fd 24) ["work", "marks", "stuff"] (spM (GG K cls T) 3 m_lot_of) :=
  def_ok (G := GG K cls T) Y.F24 sc_lot_of (by decide) fun cdv A outer s H E hr hc =>
      (ms_one (ms_ret (me_call rfl (ok_lot_with Y) (hr.mono (by decide)) takes_cx rfl Y.g23 Y.F23.kp (b_lot_with Y) .nil DflM.nil rfl (ha := (ma_cons (me_var 0) (ma_cons (me_lc (ow := [("tool", 3), ("carried", 4)]) false rfl rfl sc_lot_of.nd (mi_zip2 rfl rfl Y.b_zip (ma_cons (me_fld rfl Y.gs.gf (me_var 0)) (ma_cons (me_var 1) ma_nil))) (blkOk_by (N := N_lot_of) (sc := defScope (top 34)) (by decide +kernel)) (fun _ _ _ _ _ => (mg_tup rfl rfl (mgs_cons (mg_name (by decide) sc_lot_of.nd rfl (.inl rfl)) (mgs_cons (mg_name (by decide) sc_lot_of.nd rfl (.inl rfl)) mgs_nil)))) (fun _ _ _ _ _ => (mts_one (mt_in rfl hr.u65 (me_var 2) (me_var 4) rfl))) (fun _ _ _ _ _ => (me_var 3))) ma_nil))))))

abbrev N_lots_of : List Str := ["work", "marks", "stuff"]
theorem sc_lots_of : FnScope N_lots_of ["work", "marks"] (defScope (top 35)) := ⟨rfl, rfl, rfl, by decide +kernel, rfl, by decide +kernel, by decide +kernel⟩
theorem b_lots_of (Y : Wd K cls T mg base f fd) : Binds K (fd 25) ["work", "marks"] [] := Y.F25.bindsN fun _ _ _ _ _ _ us hl => match us, hl with | [_, _], _ => rfl
theorem ok_lots_of (Y : Wd K cls T mg base f fd) : FnG P w K mg base 4 (f 25) (fd 25) ["work", "marks"] (spM (GG K cls T) 2 m_lots_of) :=
  def_ok (G := GG K cls T) Y.F25 sc_lots_of (by decide) fun cdv A outer s H E hr hc =>
      (ms_one (ms_ret (me_tuple rfl rfl Y.b_tuple (ma_cons (me_lc (ow := [("stuff", 2)]) false rfl rfl sc_lots_of.nd (mi_seq rfl (me_fld rfl Y.gs.gf (me_var 0))) (blkOk_by (N := N_lots_of) (sc := defScope (top 35)) (by decide +kernel)) (fun _ _ _ _ _ => (mg_name (by decide) sc_lots_of.nd rfl (.inl rfl))) (fun _ _ _ _ _ => mts_nil) (fun _ _ _ _ _ => (me_call rfl (ok_lot_of Y) (hr.mono (by decide)) takes_w0 rfl Y.g24 Y.F24.kp (b_lot_of Y) .nil DflM.nil rfl (ha := (ma_cons (me_var 0) (ma_cons (me_var 1) (ma_cons (me_var 2) ma_nil))))))) ma_nil))))

abbrev N_takes_from : List Str := ["work", "step", "stuff", "tool", "takes", "price"]
theorem sc_takes_from : FnScope N_takes_from ["work", "step", "stuff"] (defScope (top 30)) := ⟨rfl, rfl, rfl, by decide +kernel, rfl, by decide +kernel, by decide +kernel⟩
theorem b_takes_from (Y : Wd K cls T mg base f fd) : Binds K (fd 21) ["work", "step", "stuff"] [] := Y.F21.bindsN fun _ _ _ _ _ _ us hl => match us, hl with | [_, _, _], _ => rfl
theorem ok_takes_from (Y : Wd K cls T mg base f fd) : FnG P w K mg base 1 (f 21) (fd 21) ["work", "step", "stuff"] (spM (GG K cls T) 3 m_takes_from) :=
  def_ok (G := GG K cls T) Y.F21 sc_takes_from (by decide) fun cdv A outer s H E hr hc =>
      (ms_cons (ms_if (mt_eq rfl hr.u65 (me_ix rfl (me_var 1) me_int) (me_gstr rfl Y.k_MAKE)) (ms_one (ms_ret me_non)) ms_nil)
        (ms_cons (ms_asg (ws := [3, 4, 5]) (me_ix rfl (me_fld rfl Y.gs.gf (me_var 0)) (me_ix rfl (me_var 1) me_int)) (mg_tup rfl rfl (mgs_cons (mg_name (by decide) sc_takes_from.nd rfl (.inl rfl)) (mgs_cons (mg_name (by decide) sc_takes_from.nd rfl (.inl rfl)) (mgs_cons (mg_name (by decide) sc_takes_from.nd rfl (.inl rfl)) mgs_nil)))))
        (ms_one (ms_ret (me_if rfl (mt_in rfl hr.u65 (me_var 2) (me_var 4) rfl) (me_var 3) me_non)))))

abbrev N_puts_of : List Str := ["work", "step"]
theorem sc_puts_of : FnScope N_puts_of ["work", "step"] (defScope (top 27)) := ⟨rfl, rfl, rfl, by decide +kernel, rfl, by decide +kernel, by decide +kernel⟩
theorem b_puts_of (Y : Wd K cls T mg base f fd) : Binds K (fd 18) ["work", "step"] [] := Y.F18.bindsN fun _ _ _ _ _ _ us hl => match us, hl with | [_, _], _ => rfl
theorem ok_puts_of (Y : Wd K cls T mg base f fd) : FnG P w K mg base 1 (f 18) (fd 18) ["work", "step"] (spM (GG K cls T) 2 m_puts_of) :=
  def_ok (G := GG K cls T) Y.F18 sc_puts_of (by decide) fun cdv A outer s H E hr hc =>
      (ms_one (ms_ret (me_if rfl (mt_eq rfl hr.u65 (me_ix rfl (me_var 1) me_int) (me_gstr rfl Y.k_MAKE)) (me_ix rfl (me_ix rfl (me_fld rfl Y.gs.gf (me_var 0)) (me_ix rfl (me_var 1) me_int)) me_int) (me_tup rfl ma_nil))))

abbrev N_uses_of : List Str := ["work", "step"]
theorem sc_uses_of : FnScope N_uses_of ["work", "step"] (defScope (top 28)) := ⟨rfl, rfl, rfl, by decide +kernel, rfl, by decide +kernel, by decide +kernel⟩
theorem b_uses_of (Y : Wd K cls T mg base f fd) : Binds K (fd 19) ["work", "step"] [] := Y.F19.bindsN fun _ _ _ _ _ _ us hl => match us, hl with | [_, _], _ => rfl
theorem ok_uses_of (Y : Wd K cls T mg base f fd) : FnG P w K mg base 1 (f 19) (fd 19) ["work", "step"] (spM (GG K cls T) 2 m_uses_of) :=
  def_ok (G := GG K cls T) Y.F19 sc_uses_of (by decide) fun cdv A outer s H E hr hc =>
      (ms_one (ms_ret (me_if rfl (mt_eq rfl hr.u65 (me_ix rfl (me_var 1) me_int) (me_gstr rfl Y.k_MAKE)) (me_ix rfl (me_ix rfl (me_fld rfl Y.gs.gf (me_var 0)) (me_ix rfl (me_var 1) me_int)) me_int) (me_tup rfl ma_nil))))

abbrev N_is_in_made : List Str := ["work", "lot", "step", "stuff"]
theorem sc_is_in_made : FnScope N_is_in_made ["work", "lot", "step", "stuff"] (defScope (top 37)) := ⟨rfl, rfl, rfl, by decide +kernel, rfl, by decide +kernel, by decide +kernel⟩
theorem b_is_in_made (Y : Wd K cls T mg base f fd) : Binds K (fd 27) ["work", "lot", "step", "stuff"] [] := Y.F27.bindsN fun _ _ _ _ _ _ us hl => match us, hl with | [_, _, _, _], _ => rfl
theorem ok_is_in_made (Y : Wd K cls T mg base f fd) : FnG P w K mg base 3 (f 27) (fd 27) ["work", "lot", "step", "stuff"] (spM (GG K cls T) 4 m_is_in_made) :=
  def_ok (G := GG K cls T) Y.F27 sc_is_in_made (by decide) fun cdv A outer s H E hr hc =>
      (ms_one (ms_ret (me_orV rfl (me_in rfl hr.u65 (me_var 3) (me_call rfl (ok_puts_of Y) (hr.mono (by decide)) takes_cx rfl Y.g18 Y.F18.kp (b_puts_of Y) .nil DflM.nil rfl (ha := (ma_cons (me_var 0) (ma_cons (me_var 2) ma_nil)))) rfl) (me_one (me_ne rfl hr.u65 (me_and rfl (me_var 1) (me_call rfl (ok_lot_with Y) (hr.mono (by decide)) takes_cx rfl Y.g23 Y.F23.kp (b_lot_with Y) .nil DflM.nil rfl (ha := (ma_cons (me_var 0) (ma_cons (me_call rfl (ok_uses_of Y) (hr.mono (by decide)) takes_cx rfl Y.g19 Y.F19.kp (b_uses_of Y) .nil DflM.nil rfl (ha := (ma_cons (me_var 0) (ma_cons (me_var 2) ma_nil)))) ma_nil))))) me_int)))))

abbrev N_lot_behind : List Str := ["work", "lot", "step", "stuff", "tool"]
theorem sc_lot_behind : FnScope N_lot_behind ["work", "lot", "step", "stuff"] (defScope (top 38)) := ⟨rfl, rfl, rfl, by decide +kernel, rfl, by decide +kernel, by decide +kernel⟩
theorem b_lot_behind (Y : Wd K cls T mg base f fd) : Binds K (fd 28) ["work", "lot", "step", "stuff"] [] := Y.F28.bindsN fun _ _ _ _ _ _ us hl => match us, hl with | [_, _, _, _], _ => rfl
theorem ok_lot_behind (Y : Wd K cls T mg base f fd) : FnG P w K mg base 4 (f 28) (fd 28) ["work", "lot", "step", "stuff"] (spM (GG K cls T) 4 m_lot_behind) :=
  def_ok (G := GG K cls T) Y.F28 sc_lot_behind (by decide) fun cdv A outer s H E hr hc =>
      (ms_cons (ms_if (mt_eq rfl hr.u65 (me_ix rfl (me_var 2) me_int) (me_gstr rfl Y.k_MAKE)) (ms_one (ms_ret (me_if rfl (mt_val (me_call rfl (ok_is_in_made Y) (hr.mono (by decide)) takes_cx rfl Y.g27 Y.F27.kp (b_is_in_made Y) .nil DflM.nil rfl (ha := (ma_cons (me_var 0) (ma_cons (me_var 1) (ma_cons (me_var 2) (ma_cons (me_var 3) ma_nil))))))) (me_or rfl (me_var 1) (me_call rfl (ok_lot_with Y) (hr.mono (by decide)) takes_cx rfl Y.g23 Y.F23.kp (b_lot_with Y) .nil DflM.nil rfl (ha := (ma_cons (me_var 0) (ma_cons (me_call rfl (ok_uses_of Y) (hr.mono (by decide)) takes_cx rfl Y.g19 Y.F19.kp (b_uses_of Y) .nil DflM.nil rfl (ha := (ma_cons (me_var 0) (ma_cons (me_var 2) ma_nil)))) ma_nil))))) (me_var 1)))) ms_nil)
        (ms_cons (ms_set (i := 4) sc_lot_behind.nd rfl (.inl rfl) (me_call rfl (ok_takes_from Y) (hr.mono (by decide)) takes_cx rfl Y.g21 Y.F21.kp (b_takes_from Y) .nil DflM.nil rfl (ha := (ma_cons (me_var 0) (ma_cons (me_var 2) (ma_cons (me_var 3) ma_nil))))))
        (ms_one (ms_ret (me_if rfl (mt_isN rfl (me_var 4) me_non) (me_var 1) (me_and rfl (me_var 1) (me_inv (me_call rfl (ok_bit_of Y) (hr.mono (by decide)) takes_cx rfl Y.g22 Y.F22.kp (b_bit_of Y) .nil DflM.nil rfl (ha := (ma_cons (me_var 0) (ma_cons (me_var 4) ma_nil)))))))))))

abbrev N_lots_behind : List Str := ["work", "lots", "step", "stuff", "lot"]
theorem sc_lots_behind : FnScope N_lots_behind ["work", "lots", "step"] (defScope (top 40)) := ⟨rfl, rfl, rfl, by decide +kernel, rfl, by decide +kernel, by decide +kernel⟩
theorem b_lots_behind (Y : Wd K cls T mg base f fd) : Binds K (fd 30) ["work", "lots", "step"] [] := Y.F30.bindsN fun _ _ _ _ _ _ us hl => match us, hl with | [_, _, _], _ => rfl
theorem ok_lots_behind (Y : Wd K cls T mg base f fd) : FnG P w K mg base 5 (f 30) (fd 30) ["work", "lots", "step"] (spM (GG K cls T) 3 m_lots_behind) :=
  def_ok (G := GG K cls T) Y.F30 sc_lots_behind (by decide) fun cdv A outer s H E hr hc =>
      (ms_one (ms_ret (me_tuple rfl rfl Y.b_tuple (ma_cons (me_lc (ow := [("stuff", 3), ("lot", 4)]) false rfl rfl sc_lots_behind.nd (mi_zip2 rfl rfl Y.b_zip (ma_cons (me_fld rfl Y.gs.gf (me_var 0)) (ma_cons (me_var 1) ma_nil))) (blkOk_by (N := N_lots_behind) (sc := defScope (top 40)) (by decide +kernel)) (fun _ _ _ _ _ => (mg_tup rfl rfl (mgs_cons (mg_name (by decide) sc_lots_behind.nd rfl (.inl rfl)) (mgs_cons (mg_name (by decide) sc_lots_behind.nd rfl (.inl rfl)) mgs_nil)))) (fun _ _ _ _ _ => mts_nil) (fun _ _ _ _ _ => (me_call rfl (ok_lot_behind Y) (hr.mono (by decide)) takes_w0 rfl Y.g28 Y.F28.kp (b_lot_behind Y) .nil DflM.nil rfl (ha := (ma_cons (me_var 0) (ma_cons (me_var 4) (ma_cons (me_var 2) (ma_cons (me_var 3) ma_nil)))))))) ma_nil))))

abbrev N_lots_along : List Str := ["work", "marks", "row", "found", "step"]
theorem sc_lots_along : FnScope N_lots_along ["work", "marks", "row"] (defScope (top 42)) := ⟨rfl, rfl, rfl, by decide +kernel, rfl, by decide +kernel, by decide +kernel⟩
theorem b_lots_along (Y : Wd K cls T mg base f fd) : Binds K (fd 32) ["work", "marks", "row"] [] := Y.F32.bindsN fun _ _ _ _ _ _ us hl => match us, hl with | [_, _, _], _ => rfl
theorem ok_lots_along (Y : Wd K cls T mg base f fd) : FnG P w K mg base 6 (f 32) (fd 32) ["work", "marks", "row"] (spM (GG K cls T) 3 m_lots_along) :=
  def_ok (G := GG K cls T) Y.F32 sc_lots_along (by decide) fun cdv A outer s H E hr hc =>
      (ms_cons (ms_set (i := 3) sc_lots_along.nd rfl (.inl rfl) (me_lstO rfl (ma_cons (me_call rfl (ok_lots_of Y) (hr.mono (by decide)) takes_cx rfl Y.g25 Y.F25.kp (b_lots_of Y) .nil DflM.nil rfl (ha := (ma_cons (me_var 0) (ma_cons (me_var 1) ma_nil)))) ma_nil)))
        (ms_cons (ms_for (ws := [4]) rfl (passes_of rfl) rfl (mi_seq rfl (me_var 2)) (mg_name (by decide) sc_lots_along.nd rfl (.inl rfl)) (ms_one (ms_expr (me_append rfl (me_var 3) (ma_cons (me_call rfl (ok_lots_behind Y) (hr.mono (by decide)) takes_cx rfl Y.g30 Y.F30.kp (b_lots_behind Y) .nil DflM.nil rfl (ha := (ma_cons (me_var 0) (ma_cons (me_ix rfl (me_var 3) (me_neg me_int)) (ma_cons (me_var 4) ma_nil))))) ma_nil)))))
        (ms_one (ms_ret (me_var 3)))))

abbrev N_marks_behind : List Str := ["work", "marks", "row"]
theorem sc_marks_behind : FnScope N_marks_behind ["work", "marks", "row"] (defScope (top 43)) := ⟨rfl, rfl, rfl, by decide +kernel, rfl, by decide +kernel, by decide +kernel⟩
theorem b_marks_behind (Y : Wd K cls T mg base f fd) : Binds K (fd 33) ["work", "marks", "row"] [] := Y.F33.bindsN fun _ _ _ _ _ _ us hl => match us, hl with | [_, _, _], _ => rfl
theorem ok_marks_behind (Y : Wd K cls T mg base f fd) : FnG P w K mg base 7 (f 33) (fd 33) ["work", "marks", "row"] (spM (GG K cls T) 3 m_marks_behind) :=
  def_ok (G := GG K cls T) Y.F33 sc_marks_behind (by decide) fun cdv A outer s H E hr hc =>
      (ms_one (ms_ret (me_call rfl (ok_marks_with Y) (hr.mono (by decide)) takes_cx rfl Y.g26 Y.F26.kp (b_marks_with Y) .nil DflM.nil rfl (ha := (ma_cons (me_var 0) (ma_cons (me_ix rfl (me_call rfl (ok_lots_along Y) (hr.mono (by decide)) takes_cx rfl Y.g32 Y.F32.kp (b_lots_along Y) .nil DflM.nil rfl (ha := (ma_cons (me_var 0) (ma_cons (me_var 1) (ma_cons (me_var 2) ma_nil))))) (me_neg me_int)) ma_nil))))))

abbrev N_behind : List Str := ["work", "marks", "row"]
theorem sc_behind : FnScope N_behind ["work", "marks", "row"] (defScope (top 77)) := ⟨rfl, rfl, rfl, by decide +kernel, rfl, by decide +kernel, by decide +kernel⟩
theorem b_behind (Y : Wd K cls T mg base f fd) : Binds K (fd 58) ["work", "marks", "row"] [] := Y.F58.bindsN fun _ _ _ _ _ _ us hl => match us, hl with | [_, _, _], _ => rfl
theorem ok_behind (Y : Wd K cls T mg base f fd) : FnG P w K mg base 10 (f 58) (fd 58) ["work", "marks", "row"] (spM (GG K cls T) 3 m_behind) :=
  def_ok (G := GG K cls T) Y.F58 sc_behind (by decide) fun cdv A outer s H E hr hc =>
      (ms_cons (ms_expr (me_call rfl (ok_check_asked Y) (hr.mono (by decide)) takes_cx rfl Y.g57 Y.F57.kp (b_check_asked Y) .nil DflM.nil rfl (ha := (ma_cons (me_var 0) (ma_cons (me_var 1) (ma_cons (me_var 2) ma_nil))))))
        (ms_one (ms_ret (me_call rfl (ok_marks_behind Y) (hr.mono (by decide)) takes_cx rfl Y.g33 Y.F33.kp (b_marks_behind Y) .nil DflM.nil rfl (ha := (ma_cons (me_var 0) (ma_cons (me_var 1) (ma_cons (me_var 2) ma_nil))))))))

abbrev N_is_made_of : List Str := ["text", "signs", "sign"]
theorem sc_is_made_of : FnScope N_is_made_of ["text", "signs"] (defScope (top 15)) := ⟨rfl, rfl, rfl, by decide +kernel, rfl, by decide +kernel, by decide +kernel⟩
theorem b_is_made_of (Y : Wd K cls T mg base f fd) : Binds K (fd 10) ["text", "signs"] [] := Y.F10.bindsN fun _ _ _ _ _ _ us hl => match us, hl with | [_, _], _ => rfl
theorem ok_is_made_of (Y : Wd K cls T mg base f fd) : FnG P w K mg base 1 (f 10) (fd 10) ["text", "signs"] (spM (GG K cls T) 2 m_is_made_of) :=
  def_ok (G := GG K cls T) Y.F10 sc_is_made_of (by decide) fun cdv A outer s H E hr hc =>
      (ms_one (ms_ret (me_andV rfl (me_ne rfl hr.u65 (me_var 0) me_str) (me_one (me_all rfl rfl rfl Y.b_all (ma_cons (me_lc (ow := [("sign", 2)]) false rfl rfl sc_is_made_of.nd (mi_seq rfl (me_var 0)) (blkOk_by (N := N_is_made_of) (sc := defScope (top 15)) (by decide +kernel)) (fun _ _ _ _ _ => (mg_name (by decide) sc_is_made_of.nd rfl (.inl rfl))) (fun _ _ _ _ _ => mts_nil) (fun _ _ _ _ _ => (me_in rfl hr.u65 (me_var 2) (me_var 1) rfl))) ma_nil))))))

abbrev N_is_name : List Str := ["value"]
theorem sc_is_name : FnScope N_is_name ["value"] (defScope (top 16)) := ⟨rfl, rfl, rfl, by decide +kernel, rfl, by decide +kernel, by decide +kernel⟩
theorem b_is_name (Y : Wd K cls T mg base f fd) : Binds K (fd 11) ["value"] [] := Y.F11.bindsN fun _ _ _ _ _ _ us hl => match us, hl with | [_], _ => rfl
theorem ok_is_name (Y : Wd K cls T mg base f fd) : FnG P w K mg base 2 (f 11) (fd 11) ["value"] (spM (GG K cls T) 1 m_is_name) :=
  def_ok (G := GG K cls T) Y.F11 sc_is_name (by decide) fun cdv A outer s H E hr hc =>
      (ms_one (ms_ret (me_andV rfl (me_call rfl (ok_is_string Y) (hr.mono (by decide)) takes_cx rfl Y.g9 Y.F9.kp (b_is_string Y) .nil DflM.nil rfl (ha := (ma_cons (me_var 0) ma_nil))) (me_andV rfl (me_le rfl (me_len rfl rfl Y.b_len (ma_cons (me_var 0) ma_nil)) (me_gint rfl Y.k_LONGEST_NAME)) (me_one (me_call rfl (ok_is_made_of Y) (hr.mono (by decide)) takes_cx rfl Y.g10 Y.F10.kp (b_is_made_of Y) .nil DflM.nil rfl (ha := (ma_cons (me_var 0) (ma_cons (me_gstr rfl Y.k_SMALL_LETTERS) ma_nil)))))))))

abbrev N_wrong_name : List Str := ["value"]
theorem sc_wrong_name : FnScope N_wrong_name ["value"] (defScope (top 62)) := ⟨rfl, rfl, rfl, by decide +kernel, rfl, by decide +kernel, by decide +kernel⟩
theorem b_wrong_name (Y : Wd K cls T mg base f fd) : Binds K (fd 43) ["value"] [] := Y.F43.bindsN fun _ _ _ _ _ _ us hl => match us, hl with | [_], _ => rfl
theorem ok_wrong_name (Y : Wd K cls T mg base f fd) : FnG P w K mg base 5 (f 43) (fd 43) ["value"] (spM (GG K cls T) 1 m_wrong_name) :=
  def_ok (G := GG K cls T) Y.F43 sc_wrong_name (by decide) fun cdv A outer s H E hr hc =>
      (ms_one (ms_ret (me_first (k := 2) (NL := ["name", "ahead"]) (ps := ["name", "ahead"]) (fr := []) (js := []) rfl rfl Y.g14 Y.F14 (b_first_wrong Y) sc_first_wrong Y.b_enumerate rfl rfl rfl rfl rfl (Y.lamAt43 hc) (free_by (sc := defScope (top 62)) (by decide +kernel)) (by decide +kernel) rfl (nscope_by (by decide +kernel)) rfl rfl (fun _ _ _ _ _ us hl => match us, hl with | [_, _], _ => rfl) (hr.mono (by decide)) (fun _ _ _ _ _ _ _ _ hr => (me_andV rfl (me_call rfl (ok_is_name Y) (hr.mono (by decide)) takes_w0 rfl Y.g11 Y.F11.kp (b_is_name Y) .nil DflM.nil rfl (ha := (ma_cons (me_var 0) ma_nil))) (me_one (me_orV rfl (me_eq rfl hr.u65 (me_var 1) (me_tup rfl ma_nil)) (me_one (me_lt rfl (me_ix rfl (me_var 1) (me_neg me_int)) (me_var 0))))))) (me_var 0))))

abbrev N_check_tools : List Str := ["tools", "wrong"]
theorem sc_check_tools : FnScope N_check_tools ["tools"] (defScope (top 65)) := ⟨rfl, rfl, rfl, by decide +kernel, rfl, by decide +kernel, by decide +kernel⟩
theorem b_check_tools (Y : Wd K cls T mg base f fd) : Binds K (fd 46) ["tools"] [] := Y.F46.bindsN fun _ _ _ _ _ _ us hl => match us, hl with | [_], _ => rfl
theorem ok_check_tools (Y : Wd K cls T mg base f fd) : FnG P w K mg base 6 (f 46) (fd 46) ["tools"] (spM (GG K cls T) 1 m_check_tools) :=
  def_ok (G := GG K cls T) Y.F46 sc_check_tools (by decide) fun cdv A outer s H E hr hc =>
      (ms_cons (ms_set (i := 1) sc_check_tools.nd rfl (.inl rfl) (me_if rfl (mt_val (me_call rfl (ok_is_row Y) (hr.mono (by decide)) takes_cx rfl Y.g13 Y.F13.kp (b_is_row Y) .nil DflM.nil rfl (ha := (ma_cons (me_var 0) (ma_cons (me_gint rfl Y.k_FEWEST_TOOLS) (ma_cons (me_gint rfl Y.k_MOST_TOOLS) ma_nil)))))) (me_call rfl (ok_wrong_name Y) (hr.mono (by decide)) takes_cx rfl Y.g43 Y.F43.kp (b_wrong_name Y) .nil DflM.nil rfl (ha := (ma_cons (me_var 0) ma_nil))) me_non))
        (ms_one (ms_if (PW.pt (mw_or rfl (mt_not (mt_val (me_call rfl (ok_is_row Y) (hr.mono (by decide)) takes_cx rfl Y.g13 Y.F13.kp (b_is_row Y) .nil DflM.nil rfl (ha := (ma_cons (me_var 0) (ma_cons (me_gint rfl Y.k_FEWEST_TOOLS) (ma_cons (me_gint rfl Y.k_MOST_TOOLS) ma_nil))))))) (mw_oneO (mt_notN rfl (me_var 1) me_non)))) (ms_one ms_bad) ms_nil)))

abbrev N_check_stuffs : List Str := ["stuffs", "wrong"]
theorem sc_check_stuffs : FnScope N_check_stuffs ["stuffs"] (defScope (top 66)) := ⟨rfl, rfl, rfl, by decide +kernel, rfl, by decide +kernel, by decide +kernel⟩
theorem b_check_stuffs (Y : Wd K cls T mg base f fd) : Binds K (fd 47) ["stuffs"] [] := Y.F47.bindsN fun _ _ _ _ _ _ us hl => match us, hl with | [_], _ => rfl
theorem ok_check_stuffs (Y : Wd K cls T mg base f fd) : FnG P w K mg base 6 (f 47) (fd 47) ["stuffs"] (spM (GG K cls T) 1 m_check_stuffs) :=
  def_ok (G := GG K cls T) Y.F47 sc_check_stuffs (by decide) fun cdv A outer s H E hr hc =>
      (ms_cons (ms_set (i := 1) sc_check_stuffs.nd rfl (.inl rfl) (me_if rfl (mt_val (me_call rfl (ok_is_row Y) (hr.mono (by decide)) takes_cx rfl Y.g13 Y.F13.kp (b_is_row Y) .nil DflM.nil rfl (ha := (ma_cons (me_var 0) (ma_cons me_int (ma_cons (me_gint rfl Y.k_MOST_STUFFS) ma_nil)))))) (me_call rfl (ok_wrong_name Y) (hr.mono (by decide)) takes_cx rfl Y.g43 Y.F43.kp (b_wrong_name Y) .nil DflM.nil rfl (ha := (ma_cons (me_var 0) ma_nil))) me_non))
        (ms_one (ms_if (PW.pt (mw_or rfl (mt_not (mt_val (me_call rfl (ok_is_row Y) (hr.mono (by decide)) takes_cx rfl Y.g13 Y.F13.kp (b_is_row Y) .nil DflM.nil rfl (ha := (ma_cons (me_var 0) (ma_cons me_int (ma_cons (me_gint rfl Y.k_MOST_STUFFS) ma_nil))))))) (mw_oneO (mt_notN rfl (me_var 1) me_non)))) (ms_one ms_bad) ms_nil)))

abbrev N_is_recipe : List Str := ["tools", "stuffs", "value", "stuff"]
theorem sc_is_recipe : FnScope N_is_recipe ["tools", "stuffs", "value"] (defScope (top 58)) := ⟨rfl, rfl, rfl, by decide +kernel, rfl, by decide +kernel, by decide +kernel⟩
theorem b_is_recipe (Y : Wd K cls T mg base f fd) : Binds K (fd 39) ["tools", "stuffs", "value"] [] := Y.F39.bindsN fun _ _ _ _ _ _ us hl => match us, hl with | [_, _, _], _ => rfl
theorem ok_is_recipe (Y : Wd K cls T mg base f fd) : FnG P w K mg base 6 (f 39) (fd 39) ["tools", "stuffs", "value"] (spM (GG K cls T) 3 m_is_recipe) :=
  def_ok (G := GG K cls T) Y.F39 sc_is_recipe (by decide) fun cdv A outer s H E hr hc =>
      (ms_cons (ms_if (PW.pt (mw_or rfl (mt_not (mt_val (me_call rfl (ok_is_tuple_of Y) (hr.mono (by decide)) takes_cx rfl Y.g12 Y.F12.kp (b_is_tuple_of Y) .nil DflM.nil rfl (ha := (ma_cons (me_var 2) (ma_cons (me_gint rfl Y.k_SIZE_OF_RECIPE) ma_nil)))))) (mw_or rfl (mt_not (mt_val (me_call rfl (ok_is_name Y) (hr.mono (by decide)) takes_cx rfl Y.g11 Y.F11.kp (b_is_name Y) .nil DflM.nil rfl (ha := (ma_cons (me_ix rfl (me_var 2) me_int) ma_nil))))) (mw_oneO (mt_not (mt_val (me_call rfl (ok_are_some Y) (hr.mono (by decide)) takes_cx rfl Y.g38 Y.F38.kp (b_are_some Y) .nil DflM.nil rfl (ha := (ma_cons (me_var 1) (ma_cons (me_ix rfl (me_var 2) me_int) ma_nil)))))))))) (ms_one (ms_ret me_bl)) ms_nil)
        (ms_cons (ms_if (PW.pt (mw_or rfl (mt_not (mt_val (me_call rfl (ok_are_some Y) (hr.mono (by decide)) takes_cx rfl Y.g38 Y.F38.kp (b_are_some Y) .nil DflM.nil rfl (ha := (ma_cons (me_var 0) (ma_cons (me_ix rfl (me_var 2) me_int) ma_nil)))))) (mw_or rfl (mt_eq rfl hr.u65 (me_len rfl rfl Y.b_len (ma_cons (me_ix rfl (me_var 2) me_int) ma_nil)) me_int) (mw_oneO (mt_not (mt_val (me_call rfl (ok_are_some Y) (hr.mono (by decide)) takes_cx rfl Y.g38 Y.F38.kp (b_are_some Y) .nil DflM.nil rfl (ha := (ma_cons (me_var 1) (ma_cons (me_ix rfl (me_var 2) me_int) ma_nil)))))))))) (ms_one (ms_ret me_bl)) ms_nil)
        (ms_one (ms_ret (me_notV (me_any rfl rfl rfl Y.b_any (ma_cons (me_lc (ow := [("stuff", 3)]) false rfl rfl sc_is_recipe.nd (mi_seq rfl (me_ix rfl (me_var 2) me_int)) (blkOk_by (N := N_is_recipe) (sc := defScope (top 58)) (by decide +kernel)) (fun _ _ _ _ _ => (mg_name (by decide) sc_is_recipe.nd rfl (.inl rfl))) (fun _ _ _ _ _ => mts_nil) (fun _ _ _ _ _ => (me_in rfl hr.u65 (me_var 3) (me_ix rfl (me_var 2) me_int) rfl))) ma_nil)))))))

abbrev N_is_recipe_behind : List Str := ["tools", "stuffs", "value", "ahead"]
theorem sc_is_recipe_behind : FnScope N_is_recipe_behind ["tools", "stuffs", "value", "ahead"] (defScope (top 59)) := ⟨rfl, rfl, rfl, by decide +kernel, rfl, by decide +kernel, by decide +kernel⟩
theorem b_is_recipe_behind (Y : Wd K cls T mg base f fd) : Binds K (fd 40) ["tools", "stuffs", "value", "ahead"] [] := Y.F40.bindsN fun _ _ _ _ _ _ us hl => match us, hl with | [_, _, _, _], _ => rfl
theorem ok_is_recipe_behind (Y : Wd K cls T mg base f fd) : FnG P w K mg base 7 (f 40) (fd 40) ["tools", "stuffs", "value", "ahead"] (spM (GG K cls T) 4 m_is_recipe_behind) :=
  def_ok (G := GG K cls T) Y.F40 sc_is_recipe_behind (by decide) fun cdv A outer s H E hr hc =>
      (ms_one (ms_ret (me_andV rfl (me_call rfl (ok_is_recipe Y) (hr.mono (by decide)) takes_cx rfl Y.g39 Y.F39.kp (b_is_recipe Y) .nil DflM.nil rfl (ha := (ma_cons (me_var 0) (ma_cons (me_var 1) (ma_cons (me_var 2) ma_nil))))) (me_one (me_orV rfl (me_eq rfl hr.u65 (me_len rfl rfl Y.b_len (ma_cons (me_var 3) ma_nil)) me_int) (me_one (me_lt rfl (me_ix rfl (me_ix rfl (me_var 3) (me_neg me_int)) me_int) (me_ix rfl (me_var 2) me_int))))))))

abbrev N_wrong_recipe : List Str := ["tools", "stuffs", "value"]
theorem sc_wrong_recipe : FnScope N_wrong_recipe ["tools", "stuffs", "value"] (defScope (top 63)) := ⟨rfl, rfl, rfl, by decide +kernel, rfl, by decide +kernel, by decide +kernel⟩
theorem b_wrong_recipe (Y : Wd K cls T mg base f fd) : Binds K (fd 44) ["tools", "stuffs", "value"] [] := Y.F44.bindsN fun _ _ _ _ _ _ us hl => match us, hl with | [_, _, _], _ => rfl
theorem ok_wrong_recipe (Y : Wd K cls T mg base f fd) : FnG P w K mg base 10 (f 44) (fd 44) ["tools", "stuffs", "value"] (spM (GG K cls T) 3 m_wrong_recipe) :=
  def_ok (G := GG K cls T) Y.F44 sc_wrong_recipe (by decide) fun cdv A outer s H E hr hc =>
      (ms_one (ms_ret (me_first (k := 7) (NL := ["recipe", "ahead", "tools", "stuffs"]) (ps := ["recipe", "ahead"]) (fr := ["tools", "stuffs"]) (js := [0, 1]) rfl rfl Y.g14 Y.F14 (b_first_wrong Y) sc_first_wrong Y.b_enumerate rfl rfl rfl rfl rfl (Y.lamAt44 hc) (free_by (sc := defScope (top 63)) (by decide +kernel)) (by decide +kernel) rfl (nscope_by (by decide +kernel)) rfl rfl (fun _ _ _ _ _ us hl => match us, hl with | [_, _], _ => rfl) (hr.mono (by decide)) (fun _ _ _ _ _ _ _ _ hr => (me_call rfl (ok_is_recipe_behind Y) (hr.mono (by decide)) takes_w0 rfl Y.g40 Y.F40.kp (b_is_recipe_behind Y) .nil DflM.nil rfl (ha := (ma_cons (me_var 2) (ma_cons (me_var 3) (ma_cons (me_var 0) (ma_cons (me_var 1) ma_nil))))))) (me_var 2))))

abbrev N_check_recipes : List Str := ["tools", "stuffs", "recipes", "wrong"]
theorem sc_check_recipes : FnScope N_check_recipes ["tools", "stuffs", "recipes"] (defScope (top 67)) := ⟨rfl, rfl, rfl, by decide +kernel, rfl, by decide +kernel, by decide +kernel⟩
theorem b_check_recipes (Y : Wd K cls T mg base f fd) : Binds K (fd 48) ["tools", "stuffs", "recipes"] [] := Y.F48.bindsN fun _ _ _ _ _ _ us hl => match us, hl with | [_, _, _], _ => rfl
theorem ok_check_recipes (Y : Wd K cls T mg base f fd) : FnG P w K mg base 11 (f 48) (fd 48) ["tools", "stuffs", "recipes"] (spM (GG K cls T) 3 m_check_recipes) :=
  def_ok (G := GG K cls T) Y.F48 sc_check_recipes (by decide) fun cdv A outer s H E hr hc =>
      (ms_cons (ms_set (i := 3) sc_check_recipes.nd rfl (.inl rfl) (me_if rfl (mt_val (me_call rfl (ok_is_row Y) (hr.mono (by decide)) takes_cx rfl Y.g13 Y.F13.kp (b_is_row Y) .nil DflM.nil rfl (ha := (ma_cons (me_var 2) (ma_cons me_int (ma_cons (me_gint rfl Y.k_MOST_RECIPES) ma_nil)))))) (me_call rfl (ok_wrong_recipe Y) (hr.mono (by decide)) takes_cx rfl Y.g44 Y.F44.kp (b_wrong_recipe Y) .nil DflM.nil rfl (ha := (ma_cons (me_var 0) (ma_cons (me_var 1) (ma_cons (me_var 2) ma_nil))))) me_non))
        (ms_one (ms_if (PW.pt (mw_or rfl (mt_not (mt_val (me_call rfl (ok_is_row Y) (hr.mono (by decide)) takes_cx rfl Y.g13 Y.F13.kp (b_is_row Y) .nil DflM.nil rfl (ha := (ma_cons (me_var 2) (ma_cons me_int (ma_cons (me_gint rfl Y.k_MOST_RECIPES) ma_nil))))))) (mw_oneO (mt_notN rfl (me_var 3) me_non)))) (ms_one ms_bad) ms_nil)))

abbrev N_is_wash : List Str := ["tools", "stuffs", "value"]
theorem sc_is_wash : FnScope N_is_wash ["tools", "stuffs", "value"] (defScope (top 60)) := ⟨rfl, rfl, rfl, by decide +kernel, rfl, by decide +kernel, by decide +kernel⟩
theorem b_is_wash (Y : Wd K cls T mg base f fd) : Binds K (fd 41) ["tools", "stuffs", "value"] [] := Y.F41.bindsN fun _ _ _ _ _ _ us hl => match us, hl with | [_, _, _], _ => rfl
theorem ok_is_wash (Y : Wd K cls T mg base f fd) : FnG P w K mg base 6 (f 41) (fd 41) ["tools", "stuffs", "value"] (spM (GG K cls T) 3 m_is_wash) :=
  def_ok (G := GG K cls T) Y.F41 sc_is_wash (by decide) fun cdv A outer s H E hr hc =>
      (ms_cons (ms_if (PW.pt (mw_or rfl (mt_not (mt_val (me_call rfl (ok_is_tuple_of Y) (hr.mono (by decide)) takes_cx rfl Y.g12 Y.F12.kp (b_is_tuple_of Y) .nil DflM.nil rfl (ha := (ma_cons (me_var 2) (ma_cons (me_gint rfl Y.k_SIZE_OF_WASH) ma_nil)))))) (mw_or rfl (mt_not (mt_val (me_call rfl (ok_is_one_of Y) (hr.mono (by decide)) takes_cx rfl Y.g37 Y.F37.kp (b_is_one_of Y) .nil DflM.nil rfl (ha := (ma_cons (me_var 0) (ma_cons (me_ix rfl (me_var 2) me_int) ma_nil)))))) (mw_oneO (mt_not (mt_val (me_call rfl (ok_are_some Y) (hr.mono (by decide)) takes_cx rfl Y.g38 Y.F38.kp (b_are_some Y) .nil DflM.nil rfl (ha := (ma_cons (me_var 1) (ma_cons (me_ix rfl (me_var 2) me_int) ma_nil)))))))))) (ms_one (ms_ret me_bl)) ms_nil)
        (ms_one (ms_ret (me_andV rfl (me_gt rfl (me_len rfl rfl Y.b_len (ma_cons (me_ix rfl (me_var 2) me_int) ma_nil)) me_int) (me_one (me_call rfl (ok_is_between Y) (hr.mono (by decide)) takes_cx rfl Y.g8 Y.F8.kp (b_is_between Y) .nil DflM.nil rfl (ha := (ma_cons (me_ix rfl (me_var 2) me_int) (ma_cons me_int (ma_cons (me_gint rfl Y.k_MOST_PRICE) ma_nil))))))))))

abbrev N_is_wash_behind : List Str := ["tools", "stuffs", "value", "ahead", "wash"]
theorem sc_is_wash_behind : FnScope N_is_wash_behind ["tools", "stuffs", "value", "ahead"] (defScope (top 61)) := ⟨rfl, rfl, rfl, by decide +kernel, rfl, by decide +kernel, by decide +kernel⟩
theorem b_is_wash_behind (Y : Wd K cls T mg base f fd) : Binds K (fd 42) ["tools", "stuffs", "value", "ahead"] [] := Y.F42.bindsN fun _ _ _ _ _ _ us hl => match us, hl with | [_, _, _, _], _ => rfl
theorem ok_is_wash_behind (Y : Wd K cls T mg base f fd) : FnG P w K mg base 7 (f 42) (fd 42) ["tools", "stuffs", "value", "ahead"] (spM (GG K cls T) 4 m_is_wash_behind) :=
  def_ok (G := GG K cls T) Y.F42 sc_is_wash_behind (by decide) fun cdv A outer s H E hr hc =>
      (ms_one (ms_ret (me_andV rfl (me_call rfl (ok_is_wash Y) (hr.mono (by decide)) takes_cx rfl Y.g41 Y.F41.kp (b_is_wash Y) .nil DflM.nil rfl (ha := (ma_cons (me_var 0) (ma_cons (me_var 1) (ma_cons (me_var 2) ma_nil))))) (me_one (me_notin rfl hr.u65 (me_sl rfl (me_var 2) mo_none (mo_some me_int)) (me_lc (ow := [("wash", 4)]) false rfl rfl sc_is_wash_behind.nd (mi_seq rfl (me_var 3)) (blkOk_by (N := N_is_wash_behind) (sc := defScope (top 61)) (by decide +kernel)) (fun _ _ _ _ _ => (mg_name (by decide) sc_is_wash_behind.nd rfl (.inl rfl))) (fun _ _ _ _ _ => mts_nil) (fun _ _ _ _ _ => (me_sl rfl (me_var 4) mo_none (mo_some me_int)))) rfl)))))

abbrev N_wrong_wash : List Str := ["tools", "stuffs", "value"]
theorem sc_wrong_wash : FnScope N_wrong_wash ["tools", "stuffs", "value"] (defScope (top 64)) := ⟨rfl, rfl, rfl, by decide +kernel, rfl, by decide +kernel, by decide +kernel⟩
theorem b_wrong_wash (Y : Wd K cls T mg base f fd) : Binds K (fd 45) ["tools", "stuffs", "value"] [] := Y.F45.bindsN fun _ _ _ _ _ _ us hl => match us, hl with | [_, _, _], _ => rfl
theorem ok_wrong_wash (Y : Wd K cls T mg base f fd) : FnG P w K mg base 10 (f 45) (fd 45) ["tools", "stuffs", "value"] (spM (GG K cls T) 3 m_wrong_wash) :=
  def_ok (G := GG K cls T) Y.F45 sc_wrong_wash (by decide) fun cdv A outer s H E hr hc =>
      (ms_one (ms_ret (me_first (k := 7) (NL := ["wash", "ahead", "tools", "stuffs"]) (ps := ["wash", "ahead"]) (fr := ["tools", "stuffs"]) (js := [0, 1]) rfl rfl Y.g14 Y.F14 (b_first_wrong Y) sc_first_wrong Y.b_enumerate rfl rfl rfl rfl rfl (Y.lamAt45 hc) (free_by (sc := defScope (top 64)) (by decide +kernel)) (by decide +kernel) rfl (nscope_by (by decide +kernel)) rfl rfl (fun _ _ _ _ _ us hl => match us, hl with | [_, _], _ => rfl) (hr.mono (by decide)) (fun _ _ _ _ _ _ _ _ hr => (me_call rfl (ok_is_wash_behind Y) (hr.mono (by decide)) takes_w0 rfl Y.g42 Y.F42.kp (b_is_wash_behind Y) .nil DflM.nil rfl (ha := (ma_cons (me_var 2) (ma_cons (me_var 3) (ma_cons (me_var 0) (ma_cons (me_var 1) ma_nil))))))) (me_var 2))))

abbrev N_check_washes : List Str := ["tools", "stuffs", "washes", "wrong"]
theorem sc_check_washes : FnScope N_check_washes ["tools", "stuffs", "washes"] (defScope (top 68)) := ⟨rfl, rfl, rfl, by decide +kernel, rfl, by decide +kernel, by decide +kernel⟩
theorem b_check_washes (Y : Wd K cls T mg base f fd) : Binds K (fd 49) ["tools", "stuffs", "washes"] [] := Y.F49.bindsN fun _ _ _ _ _ _ us hl => match us, hl with | [_, _, _], _ => rfl
theorem ok_check_washes (Y : Wd K cls T mg base f fd) : FnG P w K mg base 11 (f 49) (fd 49) ["tools", "stuffs", "washes"] (spM (GG K cls T) 3 m_check_washes) :=
  def_ok (G := GG K cls T) Y.F49 sc_check_washes (by decide) fun cdv A outer s H E hr hc =>
      (ms_cons (ms_set (i := 3) sc_check_washes.nd rfl (.inl rfl) (me_if rfl (mt_val (me_call rfl (ok_is_row Y) (hr.mono (by decide)) takes_cx rfl Y.g13 Y.F13.kp (b_is_row Y) .nil DflM.nil rfl (ha := (ma_cons (me_var 2) (ma_cons me_int (ma_cons (me_gint rfl Y.k_MOST_WASHES) ma_nil)))))) (me_call rfl (ok_wrong_wash Y) (hr.mono (by decide)) takes_cx rfl Y.g45 Y.F45.kp (b_wrong_wash Y) .nil DflM.nil rfl (ha := (ma_cons (me_var 0) (ma_cons (me_var 1) (ma_cons (me_var 2) ma_nil))))) me_non))
        (ms_one (ms_if (PW.pt (mw_or rfl (mt_not (mt_val (me_call rfl (ok_is_row Y) (hr.mono (by decide)) takes_cx rfl Y.g13 Y.F13.kp (b_is_row Y) .nil DflM.nil rfl (ha := (ma_cons (me_var 2) (ma_cons me_int (ma_cons (me_gint rfl Y.k_MOST_WASHES) ma_nil))))))) (mw_oneO (mt_notN rfl (me_var 3) me_non)))) (ms_one ms_bad) ms_nil)))

abbrev N_Work_init : List Str := ["self", "tools", "stuffs", "recipes", "washes"]
theorem sc_Work_init : FnScope N_Work_init ["self", "tools", "stuffs", "recipes", "washes"] (defScope (inK (top 69) 0)) := ⟨rfl, rfl, rfl, by decide +kernel, rfl, by decide +kernel, by decide +kernel⟩
theorem b_Work_init (Y : Wd K cls T mg base f fd) : Binds K (fd 50) ["self", "tools", "stuffs", "recipes", "washes"] [] := Y.F50.bindsD (by simp) fun _ _ _ _ _ _ _ us its hl hz => match us, its, hl, hz with | [_, _, _, _, _], [_], _, _ => ⟨_, rfl, rfl⟩
theorem ok_Work_init (Y : Wd K cls T mg base f fd) : FnG P w K mg base 12 (f 50) (fd 50) ["self", "tools", "stuffs", "recipes", "washes"] (spM (GG K cls T) 5 m_Work_init) :=
  def_ok (G := GG K cls T) Y.F50 sc_Work_init (by decide) fun cdv A outer s H E hr hc =>
      (ms_cons (ms_expr (me_call rfl (ok_check_tools Y) (hr.mono (by decide)) takes_cx rfl Y.g46 Y.F46.kp (b_check_tools Y) .nil DflM.nil rfl (ha := (ma_cons (me_var 1) ma_nil))))
        (ms_cons (ms_expr (me_call rfl (ok_check_stuffs Y) (hr.mono (by decide)) takes_cx rfl Y.g47 Y.F47.kp (b_check_stuffs Y) .nil DflM.nil rfl (ha := (ma_cons (me_var 2) ma_nil))))
        (ms_cons (ms_expr (me_call rfl (ok_check_recipes Y) (hr.mono (by decide)) takes_cx rfl Y.g48 Y.F48.kp (b_check_recipes Y) .nil DflM.nil rfl (ha := (ma_cons (me_var 1) (ma_cons (me_var 2) (ma_cons (me_var 3) ma_nil))))))
        (ms_cons (ms_expr (me_call rfl (ok_check_washes Y) (hr.mono (by decide)) takes_cx rfl Y.g49 Y.F49.kp (b_check_washes Y) .nil DflM.nil rfl (ha := (ma_cons (me_var 1) (ma_cons (me_var 2) (ma_cons (me_var 4) ma_nil))))))
        (ms_cons (ms_setFld rfl Y.gs (me_var 0) (me_var 1))
        (ms_cons (ms_setFld rfl Y.gs (me_var 0) (me_var 2))
        (ms_cons (ms_setFld rfl Y.gs (me_var 0) (me_var 3))
        (ms_one (ms_setFld rfl Y.gs (me_var 0) (me_var 4))))))))))

abbrev N__law_made : List Str := ["parts"]
theorem sc__law_made : FnScope N__law_made ["parts"] (defScope (top 92)) := ⟨rfl, rfl, rfl, by decide +kernel, rfl, by decide +kernel, by decide +kernel⟩
theorem b__law_made (Y : Wd K cls T mg base f fd) : Binds K (fd 72) ["parts"] [] := Y.F72.bindsN fun _ _ _ _ _ _ us hl => match us, hl with | [_], _ => rfl
theorem ok__law_made (Y : Wd K cls T mg base f fd) : FnG P w K mg base 14 (f 72) (fd 72) ["parts"] (spM (GG K cls T) 1 m__law_made) :=
  def_ok (G := GG K cls T) Y.F72 sc__law_made (by decide) fun cdv A outer s H E hr hc =>
      (ms_one (ms_ret (me_make (c := 0) rfl Y.mkW (ok_Work_init Y) (hr.mono (by decide)) takes_cx rfl Y.c0 (b_Work_init Y) .nil DflM.nil rfl (ha := (ma_cons (me_ix rfl (me_var 0) me_int) (ma_cons (me_ix rfl (me_var 0) me_int) (ma_cons (me_ix rfl (me_var 0) me_int) (ma_cons (me_ix rfl (me_var 0) me_int) ma_nil))))))))

abbrev N__law_marks : List Str := ["draws", "parts", "tool"]
theorem sc__law_marks : FnScope N__law_marks ["draws", "parts"] (defScope (top 90)) := ⟨rfl, rfl, rfl, by decide +kernel, rfl, by decide +kernel, by decide +kernel⟩
theorem b__law_marks (Y : Wd K cls T mg base f fd) : Binds K (fd 70) ["draws", "parts"] [] := Y.F70.bindsN fun _ _ _ _ _ _ us hl => match us, hl with | [_, _], _ => rfl
theorem ok__law_marks (Y : Wd K cls T mg base f fd) : FnG P w K mg base 3 (f 70) (fd 70) ["draws", "parts"] (spM (GG K cls T) 2 m__law_marks) :=
  def_ok (G := GG K cls T) Y.F70 sc__law_marks (by decide) fun cdv A outer s H E hr hc =>
      (ms_cons (ms_if (mt_eq rfl hr.u65 (me_call rfl (ok__law_take Y) (hr.mono (by decide)) takes_cx rfl Y.g63 Y.F63.kp (b__law_take Y) .nil DflM.nil rfl (ha := (ma_cons (me_var 0) (ma_cons me_int ma_nil)))) me_int) (ms_one (ms_ret (me_tuple rfl rfl Y.b_tuple (ma_cons (me_lc (ow := [("tool", 2)]) false rfl rfl sc__law_marks.nd (mi_seq rfl (me_ix rfl (me_var 1) me_int)) (blkOk_by (N := N__law_marks) (sc := defScope (top 90)) (by decide +kernel)) (fun _ _ _ _ _ => (mg_name (by decide) sc__law_marks.nd rfl (.inl rfl))) (fun _ _ _ _ _ => mts_nil) (fun _ _ _ _ _ => (me_tup rfl ma_nil))) ma_nil)))) ms_nil)
        (ms_one (ms_ret (me_tuple rfl rfl Y.b_tuple (ma_cons (me_lc (ow := [("tool", 2)]) false rfl rfl sc__law_marks.nd (mi_seq rfl (me_ix rfl (me_var 1) me_int)) (blkOk_by (N := N__law_marks) (sc := defScope (top 90)) (by decide +kernel)) (fun _ _ _ _ _ => (mg_name (by decide) sc__law_marks.nd rfl (.inl rfl))) (fun _ _ _ _ _ => mts_nil) (fun _ _ _ _ _ => (me_call rfl (ok__law_lot Y) (hr.mono (by decide)) takes_w0 rfl Y.g67 Y.F67.kp (b__law_lot Y) .nil DflM.nil rfl (ha := (ma_cons (me_var 0) (ma_cons (me_ix rfl (me_var 1) me_int) (ma_cons me_int ma_nil))))))) ma_nil)))))

abbrev N_stuffs_in : List Str := ["work", "lots", "step", "stuff", "lot"]
theorem sc_stuffs_in : FnScope N_stuffs_in ["work", "lots", "step"] (defScope (top 44)) := ⟨rfl, rfl, rfl, by decide +kernel, rfl, by decide +kernel, by decide +kernel⟩
theorem b_stuffs_in (Y : Wd K cls T mg base f fd) : Binds K (fd 34) ["work", "lots", "step"] [] := Y.F34.bindsN fun _ _ _ _ _ _ us hl => match us, hl with | [_, _, _], _ => rfl
theorem ok_stuffs_in (Y : Wd K cls T mg base f fd) : FnG P w K mg base 4 (f 34) (fd 34) ["work", "lots", "step"] (spM (GG K cls T) 3 m_stuffs_in) :=
  def_ok (G := GG K cls T) Y.F34 sc_stuffs_in (by decide) fun cdv A outer s H E hr hc =>
      (ms_one (ms_ret (me_tuple rfl rfl Y.b_tuple (ma_cons (me_lc (ow := [("stuff", 3), ("lot", 4)]) false rfl rfl sc_stuffs_in.nd (mi_zip2 rfl rfl Y.b_zip (ma_cons (me_fld rfl Y.gs.gf (me_var 0)) (ma_cons (me_var 1) ma_nil))) (blkOk_by (N := N_stuffs_in) (sc := defScope (top 44)) (by decide +kernel)) (fun _ _ _ _ _ => (mg_tup rfl rfl (mgs_cons (mg_name (by decide) sc_stuffs_in.nd rfl (.inl rfl)) (mgs_cons (mg_name (by decide) sc_stuffs_in.nd rfl (.inl rfl)) mgs_nil)))) (fun _ _ _ _ _ => (mts_one (mt_val (me_call rfl (ok_is_in_made Y) (hr.mono (by decide)) takes_w0 rfl Y.g27 Y.F27.kp (b_is_in_made Y) .nil DflM.nil rfl (ha := (ma_cons (me_var 0) (ma_cons (me_var 4) (ma_cons (me_var 2) (ma_cons (me_var 3) ma_nil))))))))) (fun _ _ _ _ _ => (me_var 3))) ma_nil))))

abbrev N_made_by : List Str := ["work", "marks", "row", "found", "lots", "step"]
theorem sc_made_by : FnScope N_made_by ["work", "marks", "row"] (defScope (top 45)) := ⟨rfl, rfl, rfl, by decide +kernel, rfl, by decide +kernel, by decide +kernel⟩
theorem b_made_by (Y : Wd K cls T mg base f fd) : Binds K (fd 35) ["work", "marks", "row"] [] := Y.F35.bindsN fun _ _ _ _ _ _ us hl => match us, hl with | [_, _, _], _ => rfl
theorem ok_made_by (Y : Wd K cls T mg base f fd) : FnG P w K mg base 7 (f 35) (fd 35) ["work", "marks", "row"] (spM (GG K cls T) 3 m_made_by) :=
  def_ok (G := GG K cls T) Y.F35 sc_made_by (by decide) fun cdv A outer s H E hr hc =>
      (ms_cons (ms_set (i := 3) sc_made_by.nd rfl (.inl rfl) (me_lstO rfl ma_nil))
        (ms_cons (ms_for (ws := [4, 5]) rfl (passes_of rfl) rfl (mi_zip2 rfl rfl Y.b_zip (ma_cons (me_call rfl (ok_lots_along Y) (hr.mono (by decide)) takes_cx rfl Y.g32 Y.F32.kp (b_lots_along Y) .nil DflM.nil rfl (ha := (ma_cons (me_var 0) (ma_cons (me_var 1) (ma_cons (me_var 2) ma_nil))))) (ma_cons (me_var 2) ma_nil))) (mg_tup rfl rfl (mgs_cons (mg_name (by decide) sc_made_by.nd rfl (.inl rfl)) (mgs_cons (mg_name (by decide) sc_made_by.nd rfl (.inl rfl)) mgs_nil))) (ms_one (ms_if (mt_eq rfl hr.u65 (me_ix rfl (me_var 5) me_int) (me_gstr rfl Y.k_MAKE)) (ms_one (ms_expr (me_append rfl (me_var 3) (ma_cons (me_call rfl (ok_stuffs_in Y) (hr.mono (by decide)) takes_cx rfl Y.g34 Y.F34.kp (b_stuffs_in Y) .nil DflM.nil rfl (ha := (ma_cons (me_var 0) (ma_cons (me_var 4) (ma_cons (me_var 5) ma_nil))))) ma_nil)))) ms_nil)))
        (ms_one (ms_ret (me_tuple rfl rfl Y.b_tuple (ma_cons (me_var 3) ma_nil))))))

abbrev N_made : List Str := ["work", "marks", "row"]
theorem sc_made : FnScope N_made ["work", "marks", "row"] (defScope (top 78)) := ⟨rfl, rfl, rfl, by decide +kernel, rfl, by decide +kernel, by decide +kernel⟩
theorem b_made (Y : Wd K cls T mg base f fd) : Binds K (fd 59) ["work", "marks", "row"] [] := Y.F59.bindsN fun _ _ _ _ _ _ us hl => match us, hl with | [_, _, _], _ => rfl
theorem ok_made (Y : Wd K cls T mg base f fd) : FnG P w K mg base 10 (f 59) (fd 59) ["work", "marks", "row"] (spM (GG K cls T) 3 m_made) :=
  def_ok (G := GG K cls T) Y.F59 sc_made (by decide) fun cdv A outer s H E hr hc =>
      (ms_cons (ms_expr (me_call rfl (ok_check_asked Y) (hr.mono (by decide)) takes_cx rfl Y.g57 Y.F57.kp (b_check_asked Y) .nil DflM.nil rfl (ha := (ma_cons (me_var 0) (ma_cons (me_var 1) (ma_cons (me_var 2) ma_nil))))))
        (ms_one (ms_ret (me_call rfl (ok_made_by Y) (hr.mono (by decide)) takes_cx rfl Y.g35 Y.F35.kp (b_made_by Y) .nil DflM.nil rfl (ha := (ma_cons (me_var 0) (ma_cons (me_var 1) (ma_cons (me_var 2) ma_nil))))))))

abbrev N_bars_of : List Str := ["work", "step"]
theorem sc_bars_of : FnScope N_bars_of ["work", "step"] (defScope (top 29)) := ⟨rfl, rfl, rfl, by decide +kernel, rfl, by decide +kernel, by decide +kernel⟩
theorem b_bars_of (Y : Wd K cls T mg base f fd) : Binds K (fd 20) ["work", "step"] [] := Y.F20.bindsN fun _ _ _ _ _ _ us hl => match us, hl with | [_, _], _ => rfl
theorem ok_bars_of (Y : Wd K cls T mg base f fd) : FnG P w K mg base 1 (f 20) (fd 20) ["work", "step"] (spM (GG K cls T) 2 m_bars_of) :=
  def_ok (G := GG K cls T) Y.F20 sc_bars_of (by decide) fun cdv A outer s H E hr hc =>
      (ms_one (ms_ret (me_if rfl (mt_eq rfl hr.u65 (me_ix rfl (me_var 1) me_int) (me_gstr rfl Y.k_MAKE)) (me_ix rfl (me_ix rfl (me_fld rfl Y.gs.gf (me_var 0)) (me_ix rfl (me_var 1) me_int)) me_int) (me_tup rfl ma_nil))))

abbrev N_is_foul_by : List Str := ["work", "lot", "step", "stuff"]
theorem sc_is_foul_by : FnScope N_is_foul_by ["work", "lot", "step", "stuff"] (defScope (top 39)) := ⟨rfl, rfl, rfl, by decide +kernel, rfl, by decide +kernel, by decide +kernel⟩
theorem b_is_foul_by (Y : Wd K cls T mg base f fd) : Binds K (fd 29) ["work", "lot", "step", "stuff"] [] := Y.F29.bindsN fun _ _ _ _ _ _ us hl => match us, hl with | [_, _, _, _], _ => rfl
theorem ok_is_foul_by (Y : Wd K cls T mg base f fd) : FnG P w K mg base 4 (f 29) (fd 29) ["work", "lot", "step", "stuff"] (spM (GG K cls T) 4 m_is_foul_by) :=
  def_ok (G := GG K cls T) Y.F29 sc_is_foul_by (by decide) fun cdv A outer s H E hr hc =>
      (ms_one (ms_ret (me_andV rfl (me_in rfl hr.u65 (me_var 3) (me_call rfl (ok_bars_of Y) (hr.mono (by decide)) takes_cx rfl Y.g20 Y.F20.kp (b_bars_of Y) .nil DflM.nil rfl (ha := (ma_cons (me_var 0) (ma_cons (me_var 2) ma_nil)))) rfl) (me_one (me_call rfl (ok_is_in_made Y) (hr.mono (by decide)) takes_cx rfl Y.g27 Y.F27.kp (b_is_in_made Y) .nil DflM.nil rfl (ha := (ma_cons (me_var 0) (ma_cons (me_var 1) (ma_cons (me_var 2) (ma_cons (me_var 3) ma_nil))))))))))

abbrev N_foul_stuffs : List Str := ["work", "lots", "step", "stuff", "lot"]
theorem sc_foul_stuffs : FnScope N_foul_stuffs ["work", "lots", "step"] (defScope (top 41)) := ⟨rfl, rfl, rfl, by decide +kernel, rfl, by decide +kernel, by decide +kernel⟩
theorem b_foul_stuffs (Y : Wd K cls T mg base f fd) : Binds K (fd 31) ["work", "lots", "step"] [] := Y.F31.bindsN fun _ _ _ _ _ _ us hl => match us, hl with | [_, _, _], _ => rfl
theorem ok_foul_stuffs (Y : Wd K cls T mg base f fd) : FnG P w K mg base 5 (f 31) (fd 31) ["work", "lots", "step"] (spM (GG K cls T) 3 m_foul_stuffs) :=
  def_ok (G := GG K cls T) Y.F31 sc_foul_stuffs (by decide) fun cdv A outer s H E hr hc =>
      (ms_one (ms_ret (me_lc (ow := [("stuff", 3), ("lot", 4)]) false rfl rfl sc_foul_stuffs.nd (mi_zip2 rfl rfl Y.b_zip (ma_cons (me_fld rfl Y.gs.gf (me_var 0)) (ma_cons (me_var 1) ma_nil))) (blkOk_by (N := N_foul_stuffs) (sc := defScope (top 41)) (by decide +kernel)) (fun _ _ _ _ _ => (mg_tup rfl rfl (mgs_cons (mg_name (by decide) sc_foul_stuffs.nd rfl (.inl rfl)) (mgs_cons (mg_name (by decide) sc_foul_stuffs.nd rfl (.inl rfl)) mgs_nil)))) (fun _ _ _ _ _ => (mts_one (mt_val (me_call rfl (ok_is_foul_by Y) (hr.mono (by decide)) takes_w0 rfl Y.g29 Y.F29.kp (b_is_foul_by Y) .nil DflM.nil rfl (ha := (ma_cons (me_var 0) (ma_cons (me_var 4) (ma_cons (me_var 2) (ma_cons (me_var 3) ma_nil))))))))) (fun _ _ _ _ _ => (me_var 3)))))

abbrev N_first_foul_by : List Str := ["work", "marks", "row", "index", "lots", "step"]
theorem sc_first_foul_by : FnScope N_first_foul_by ["work", "marks", "row"] (defScope (top 46)) := ⟨rfl, rfl, rfl, by decide +kernel, rfl, by decide +kernel, by decide +kernel⟩
theorem b_first_foul_by (Y : Wd K cls T mg base f fd) : Binds K (fd 36) ["work", "marks", "row"] [] := Y.F36.bindsN fun _ _ _ _ _ _ us hl => match us, hl with | [_, _, _], _ => rfl
theorem ok_first_foul_by (Y : Wd K cls T mg base f fd) : FnG P w K mg base 7 (f 36) (fd 36) ["work", "marks", "row"] (spM (GG K cls T) 3 m_first_foul_by) :=
  def_ok (G := GG K cls T) Y.F36 sc_first_foul_by (by decide) fun cdv A outer s H E hr hc =>
      (ms_cons (ms_for (ws := [3, 4, 5]) rfl (passes_of rfl) rfl (mi_ez rfl rfl Y.b_enumerate rfl Y.b_zip (ma_cons (me_call rfl (ok_lots_along Y) (hr.mono (by decide)) takes_cx rfl Y.g32 Y.F32.kp (b_lots_along Y) .nil DflM.nil rfl (ha := (ma_cons (me_var 0) (ma_cons (me_var 1) (ma_cons (me_var 2) ma_nil))))) (ma_cons (me_var 2) ma_nil))) (mg_tup rfl rfl (mgs_cons (mg_name (by decide) sc_first_foul_by.nd rfl (.inl rfl)) (mgs_cons (mg_tup rfl rfl (mgs_cons (mg_name (by decide) sc_first_foul_by.nd rfl (.inl rfl)) (mgs_cons (mg_name (by decide) sc_first_foul_by.nd rfl (.inl rfl)) mgs_nil))) mgs_nil))) (ms_one (ms_if (mt_ne rfl hr.u65 (me_call rfl (ok_foul_stuffs Y) (hr.mono (by decide)) takes_cx rfl Y.g31 Y.F31.kp (b_foul_stuffs Y) .nil DflM.nil rfl (ha := (ma_cons (me_var 0) (ma_cons (me_var 4) (ma_cons (me_var 5) ma_nil))))) (me_lst rfl ma_nil)) (ms_one (ms_ret (me_var 3))) ms_nil)))
        (ms_one (ms_ret me_non)))

abbrev N_is_clean : List Str := ["work", "marks", "row"]
theorem sc_is_clean : FnScope N_is_clean ["work", "marks", "row"] (defScope (top 79)) := ⟨rfl, rfl, rfl, by decide +kernel, rfl, by decide +kernel, by decide +kernel⟩
theorem b_is_clean (Y : Wd K cls T mg base f fd) : Binds K (fd 60) ["work", "marks", "row"] [] := Y.F60.bindsN fun _ _ _ _ _ _ us hl => match us, hl with | [_, _, _], _ => rfl
theorem ok_is_clean (Y : Wd K cls T mg base f fd) : FnG P w K mg base 10 (f 60) (fd 60) ["work", "marks", "row"] (spM (GG K cls T) 3 m_is_clean) :=
  def_ok (G := GG K cls T) Y.F60 sc_is_clean (by decide) fun cdv A outer s H E hr hc =>
      (ms_cons (ms_expr (me_call rfl (ok_check_asked Y) (hr.mono (by decide)) takes_cx rfl Y.g57 Y.F57.kp (b_check_asked Y) .nil DflM.nil rfl (ha := (ma_cons (me_var 0) (ma_cons (me_var 1) (ma_cons (me_var 2) ma_nil))))))
        (ms_one (ms_ret (me_isN rfl (me_call rfl (ok_first_foul_by Y) (hr.mono (by decide)) takes_cx rfl Y.g36 Y.F36.kp (b_first_foul_by Y) .nil DflM.nil rfl (ha := (ma_cons (me_var 0) (ma_cons (me_var 1) (ma_cons (me_var 2) ma_nil))))) me_non))))

abbrev N__law_behind : List Str := ["parts", "marks", "step", "known", "tool", "takes", "price", "name", "puts", "uses", "bars", "carried", "within", "stuff"]
theorem sc__law_behind : FnScope N__law_behind ["parts", "marks", "step"] (defScope (top 93)) := ⟨rfl, rfl, rfl, by decide +kernel, rfl, by decide +kernel, by decide +kernel⟩
theorem b__law_behind (Y : Wd K cls T mg base f fd) : Binds K (fd 73) ["parts", "marks", "step"] [] := Y.F73.bindsN fun _ _ _ _ _ _ us hl => match us, hl with | [_, _, _], _ => rfl
theorem ok__law_behind (Y : Wd K cls T mg base f fd) : FnG P w K mg base 1 (f 73) (fd 73) ["parts", "marks", "step"] (spM (GG K cls T) 3 m__law_behind) :=
  def_ok (G := GG K cls T) Y.F73 sc__law_behind (by decide) fun cdv A outer s H E hr hc =>
      (ms_cons (ms_set (i := 3) sc__law_behind.nd rfl (.inr rfl) (me_dzip rfl rfl rfl Y.b_zip rfl Y.b_dict (ma_cons (me_ix rfl (me_var 0) me_int) (ma_cons (me_var 1) ma_nil))))
        (ms_cons (ms_if (mt_eq rfl hr.u65 (me_ix rfl (me_var 2) me_int) me_str) (ms_cons (ms_asg (ws := [4, 5, 6]) (me_ix rfl (me_ix rfl (me_var 0) me_int) (me_ix rfl (me_var 2) me_int)) (mg_tup rfl rfl (mgs_cons (mg_name (by decide) sc__law_behind.nd rfl (.inl rfl)) (mgs_cons (mg_name (by decide) sc__law_behind.nd rfl (.inr rfl)) (mgs_cons (mg_name (by decide) sc__law_behind.nd rfl (.inl rfl)) mgs_nil)))))
        (ms_cons (ms_dput rfl hr.u1 (me_var 3) (me_var 4) (me_tuple rfl rfl Y.b_tuple (ma_cons (me_lc (ow := [("stuff", 13)]) false rfl rfl sc__law_behind.nd (mi_seq rfl (me_dget rfl hr.u1 (me_var 3) (me_var 4))) (blkOk_by (N := N__law_behind) (sc := defScope (top 93)) (by decide +kernel)) (fun _ _ _ _ _ => (mg_name (by decide) sc__law_behind.nd rfl (.inl rfl))) (fun _ _ _ _ _ => (mts_one (mt_notin rfl hr.u65 (me_var 13) (me_var 5) rfl))) (fun _ _ _ _ _ => (me_var 13))) ma_nil)))
        (ms_one (ms_ret (me_tup rfl (ma_cons (me_tuple rfl rfl Y.b_tuple (ma_cons (me_lc (ow := [("tool", 4)]) false rfl rfl sc__law_behind.nd (mi_seq rfl (me_ix rfl (me_var 0) me_int)) (blkOk_by (N := N__law_behind) (sc := defScope (top 93)) (by decide +kernel)) (fun _ _ _ _ _ => (mg_name (by decide) sc__law_behind.nd rfl (.inl rfl))) (fun _ _ _ _ _ => mts_nil) (fun _ _ _ _ _ => (me_dget rfl hr.u1 (me_var 3) (me_var 4)))) ma_nil)) (ma_cons me_non ma_nil))))))) ms_nil)
        (ms_cons (ms_asg (ws := [7, 8, 9, 10]) (me_ix rfl (me_ix rfl (me_var 0) me_int) (me_ix rfl (me_var 2) me_int)) (mg_tup rfl rfl (mgs_cons (mg_name (by decide) sc__law_behind.nd rfl (.inl rfl)) (mgs_cons (mg_name (by decide) sc__law_behind.nd rfl (.inl rfl)) (mgs_cons (mg_name (by decide) sc__law_behind.nd rfl (.inr rfl)) (mgs_cons (mg_name (by decide) sc__law_behind.nd rfl (.inl rfl)) mgs_nil))))))
        (ms_cons (ms_set (i := 11) sc__law_behind.nd rfl (.inr rfl) (me_var 8))
        (ms_cons (ms_for (ws := [4]) rfl (passes_of rfl) rfl (mi_seq rfl (me_var 9)) (mg_name (by decide) sc__law_behind.nd rfl (.inl rfl)) (ms_one (ms_set (i := 11) sc__law_behind.nd rfl (.inr rfl) (me_add rfl (me_var 11) (me_dget rfl hr.u1 (me_var 3) (me_var 4))))))
        (ms_cons (ms_set (i := 12) sc__law_behind.nd rfl (.inr rfl) (me_tuple rfl rfl Y.b_tuple (ma_cons (me_lc (ow := [("stuff", 13)]) false rfl rfl sc__law_behind.nd (mi_seq rfl (me_ix rfl (me_var 0) me_int)) (blkOk_by (N := N__law_behind) (sc := defScope (top 93)) (by decide +kernel)) (fun _ _ _ _ _ => (mg_name (by decide) sc__law_behind.nd rfl (.inl rfl))) (fun _ _ _ _ _ => (mts_one (mt_in rfl hr.u65 (me_var 13) (me_var 11) rfl))) (fun _ _ _ _ _ => (me_var 13))) ma_nil)))
        (ms_one (ms_ret (me_tup rfl (ma_cons (me_tuple rfl rfl Y.b_tuple (ma_cons (me_lc (ow := [("tool", 4)]) false rfl rfl sc__law_behind.nd (mi_seq rfl (me_ix rfl (me_var 0) me_int)) (blkOk_by (N := N__law_behind) (sc := defScope (top 93)) (by decide +kernel)) (fun _ _ _ _ _ => (mg_name (by decide) sc__law_behind.nd rfl (.inl rfl))) (fun _ _ _ _ _ => mts_nil) (fun _ _ _ _ _ => (me_if rfl (mt_in rfl hr.u65 (me_var 4) (me_var 9) rfl) (me_var 12) (me_dget rfl hr.u1 (me_var 3) (me_var 4))))) ma_nil)) (ma_cons (me_var 12) ma_nil)))))))))))

abbrev N__law_gone : List Str := ["parts", "marks", "row", "things", "foul", "k", "within", "is_foul", "stuff"]
theorem sc__law_gone : FnScope N__law_gone ["parts", "marks", "row"] (defScope (top 94)) := ⟨rfl, rfl, rfl, by decide +kernel, rfl, by decide +kernel, by decide +kernel⟩
theorem b__law_gone (Y : Wd K cls T mg base f fd) : Binds K (fd 74) ["parts", "marks", "row"] [] := Y.F74.bindsN fun _ _ _ _ _ _ us hl => match us, hl with | [_, _, _], _ => rfl
theorem ok__law_gone (Y : Wd K cls T mg base f fd) : FnG P w K mg base 2 (f 74) (fd 74) ["parts", "marks", "row"] (spM (GG K cls T) 3 m__law_gone) :=
  def_ok (G := GG K cls T) Y.F74 sc__law_gone (by decide) fun cdv A outer s H E hr hc =>
      (ms_cons (ms_asg (ws := [3, 4]) (me_tup rfl (ma_cons (me_tup rfl ma_nil) (ma_cons me_non ma_nil))) (mg_tup rfl rfl (mgs_cons (mg_name (by decide) sc__law_gone.nd rfl (.inl rfl)) (mgs_cons (mg_name (by decide) sc__law_gone.nd rfl (.inl rfl)) mgs_nil))))
        (ms_cons (ms_for (ws := [5]) rfl (passes_of rfl) rfl (mi_rng1 rfl Y.b_range (ma_cons (me_len rfl rfl Y.b_len (ma_cons (me_var 2) ma_nil)) ma_nil)) (mg_name (by decide) sc__law_gone.nd rfl (.inr rfl)) (ms_cons (ms_asg (ws := [1, 6]) (me_call rfl (ok__law_behind Y) (hr.mono (by decide)) takes_cx rfl Y.g73 Y.F73.kp (b__law_behind Y) .nil DflM.nil rfl (ha := (ma_cons (me_var 0) (ma_cons (me_var 1) (ma_cons (me_ix rfl (me_var 2) (me_var 5)) ma_nil))))) (mg_tup rfl rfl (mgs_cons (mg_name (by decide) sc__law_gone.nd rfl (.inl rfl)) (mgs_cons (mg_name (by decide) sc__law_gone.nd rfl (.inl rfl)) mgs_nil))))
        (ms_one (ms_if (mt_notN rfl (me_var 6) me_non) (ms_cons (ms_set (i := 3) sc__law_gone.nd rfl (.inl rfl) (me_add rfl (me_var 3) (me_tup rfl (ma_cons (me_var 6) ma_nil))))
        (ms_cons (ms_set (i := 7) sc__law_gone.nd rfl (.inl rfl) (me_ne rfl hr.u65 (me_lc (ow := [("stuff", 8)]) false rfl rfl sc__law_gone.nd (mi_seq rfl (me_var 6)) (blkOk_by (N := N__law_gone) (sc := defScope (top 94)) (by decide +kernel)) (fun _ _ _ _ _ => (mg_name (by decide) sc__law_gone.nd rfl (.inl rfl))) (fun _ _ _ _ _ => (mts_one (mt_in rfl hr.u65 (me_var 8) (me_ix rfl (me_ix rfl (me_ix rfl (me_var 0) me_int) (me_ix rfl (me_ix rfl (me_var 2) (me_var 5)) me_int)) me_int) rfl))) (fun _ _ _ _ _ => (me_var 8))) (me_lst rfl ma_nil)))
        (ms_one (ms_set (i := 4) sc__law_gone.nd rfl (.inl rfl) (me_if rfl (PW.pt (mw_and rfl (mt_val (me_var 7)) (mw_one (mt_isN rfl (me_var 4) me_non)))) (me_var 5) (me_var 4)))))) ms_nil))))
        (ms_one (ms_ret (me_tup rfl (ma_cons (me_var 1) (ma_cons (me_var 3) (ma_cons (me_var 4) ma_nil))))))))

abbrev N__law_same : List Str := ["told", "due"]
theorem sc__law_same : FnScope N__law_same ["told", "due"] (defScope (top 85)) := ⟨rfl, rfl, rfl, by decide +kernel, rfl, by decide +kernel, by decide +kernel⟩
theorem b__law_same (Y : Wd K cls T mg base f fd) : Binds K (fd 65) ["told", "due"] [] := Y.F65.bindsN fun _ _ _ _ _ _ us hl => match us, hl with | [_, _], _ => rfl
theorem ok__law_same (Y : Wd K cls T mg base f fd) : FnG P w K mg base 1 (f 65) (fd 65) ["told", "due"] (spM (GG K cls T) 2 m__law_same) :=
  def_ok (G := GG K cls T) Y.F65 sc__law_same (by decide) fun cdv A outer s H E hr hc =>
      (ms_one (ms_ret (me_eq rfl hr.u65 (me_repr rfl hr.gd hr.u65 rfl Y.b_repr (ma_cons (me_var 0) ma_nil)) (me_repr rfl hr.gd hr.u65 rfl Y.b_repr (ma_cons (me_var 1) ma_nil)))))

abbrev N_first_foul : List Str := ["work", "marks", "row"]
theorem sc_first_foul : FnScope N_first_foul ["work", "marks", "row"] (defScope (top 80)) := ⟨rfl, rfl, rfl, by decide +kernel, rfl, by decide +kernel, by decide +kernel⟩
theorem b_first_foul (Y : Wd K cls T mg base f fd) : Binds K (fd 61) ["work", "marks", "row"] [] := Y.F61.bindsN fun _ _ _ _ _ _ us hl => match us, hl with | [_, _, _], _ => rfl
theorem ok_first_foul (Y : Wd K cls T mg base f fd) : FnG P w K mg base 10 (f 61) (fd 61) ["work", "marks", "row"] (spM (GG K cls T) 3 m_first_foul) :=
  def_ok (G := GG K cls T) Y.F61 sc_first_foul (by decide) fun cdv A outer s H E hr hc =>
      (ms_cons (ms_expr (me_call rfl (ok_check_asked Y) (hr.mono (by decide)) takes_cx rfl Y.g57 Y.F57.kp (b_check_asked Y) .nil DflM.nil rfl (ha := (ma_cons (me_var 0) (ma_cons (me_var 1) (ma_cons (me_var 2) ma_nil))))))
        (ms_one (ms_ret (me_call rfl (ok_first_foul_by Y) (hr.mono (by decide)) takes_cx rfl Y.g36 Y.F36.kp (b_first_foul_by Y) .nil DflM.nil rfl (ha := (ma_cons (me_var 0) (ma_cons (me_var 1) (ma_cons (me_var 2) ma_nil))))))))

abbrev N__law_is_told : List Str := ["mine", "parts", "marks", "row", "later", "things", "foul", "told"]
theorem sc__law_is_told : FnScope N__law_is_told ["mine", "parts", "marks", "row"] (defScope (top 95)) := ⟨rfl, rfl, rfl, by decide +kernel, rfl, by decide +kernel, by decide +kernel⟩
theorem b__law_is_told (Y : Wd K cls T mg base f fd) : Binds K (fd 75) ["mine", "parts", "marks", "row"] [] := Y.F75.bindsN fun _ _ _ _ _ _ us hl => match us, hl with | [_, _, _, _], _ => rfl
theorem ok__law_is_told (Y : Wd K cls T mg base f fd) : FnG P w K mg base 11 (f 75) (fd 75) ["mine", "parts", "marks", "row"] (spM (GG K cls T) 4 m__law_is_told) :=
  def_ok (G := GG K cls T) Y.F75 sc__law_is_told (by decide) fun cdv A outer s H E hr hc =>
      (ms_cons (ms_asg (ws := [4, 5, 6]) (me_call rfl (ok__law_gone Y) (hr.mono (by decide)) takes_cx rfl Y.g74 Y.F74.kp (b__law_gone Y) .nil DflM.nil rfl (ha := (ma_cons (me_var 1) (ma_cons (me_var 2) (ma_cons (me_var 3) ma_nil))))) (mg_tup rfl rfl (mgs_cons (mg_name (by decide) sc__law_is_told.nd rfl (.inl rfl)) (mgs_cons (mg_name (by decide) sc__law_is_told.nd rfl (.inl rfl)) (mgs_cons (mg_name (by decide) sc__law_is_told.nd rfl (.inl rfl)) mgs_nil)))))
        (ms_cons (ms_set (i := 7) sc__law_is_told.nd rfl (.inl rfl) (me_lst rfl (ma_cons (me_call rfl (ok_behind Y) (hr.mono (by decide)) takes_cx rfl Y.g58 Y.F58.kp (b_behind Y) .nil DflM.nil rfl (ha := (ma_cons (me_var 0) (ma_cons (me_var 2) (ma_cons (me_var 3) ma_nil))))) (ma_cons (me_call rfl (ok_made Y) (hr.mono (by decide)) takes_cx rfl Y.g59 Y.F59.kp (b_made Y) .nil DflM.nil rfl (ha := (ma_cons (me_var 0) (ma_cons (me_var 2) (ma_cons (me_var 3) ma_nil))))) (ma_cons (me_call rfl (ok_first_foul Y) (hr.mono (by decide)) takes_cx rfl Y.g61 Y.F61.kp (b_first_foul Y) .nil DflM.nil rfl (ha := (ma_cons (me_var 0) (ma_cons (me_var 2) (ma_cons (me_var 3) ma_nil))))) (ma_cons (me_call rfl (ok_is_clean Y) (hr.mono (by decide)) takes_cx rfl Y.g60 Y.F60.kp (b_is_clean Y) .nil DflM.nil rfl (ha := (ma_cons (me_var 0) (ma_cons (me_var 2) (ma_cons (me_var 3) ma_nil))))) ma_nil))))))
        (ms_cons (ms_if (mt_not (mt_val (me_call rfl (ok__law_same Y) (hr.mono (by decide)) takes_cx rfl Y.g65 Y.F65.kp (b__law_same Y) .nil DflM.nil rfl (ha := (ma_cons (me_var 7) (ma_cons (me_lst rfl (ma_cons (me_var 4) (ma_cons (me_var 5) (ma_cons (me_var 6) (ma_cons (me_isN rfl (me_var 6) me_non) ma_nil))))) ma_nil)))))) (ms_one (ms_ret me_bl)) ms_nil)
        (ms_cons (ms_set (i := 7) sc__law_is_told.nd rfl (.inl rfl) (me_lst rfl (ma_cons (me_callK (ks := ["row", "marks", "work"]) (pk := [2, 1, 0]) rfl (ok_behind Y) (hr.mono (by decide)) takes_cx rfl Y.g58 Y.F58.kp (Y.F58.kwb fun _ _ _ _ _ _ us hl => match us, hl with | [_, _, _], _ => rfl) rfl (fun us hl => match us, hl with | [_, _, _], _ => rfl) (mk_cons (me_var 3) (mk_cons (me_var 2) (mk_cons (me_var 0) mk_nil)))) (ma_cons (me_callK (ks := ["row", "marks", "work"]) (pk := [2, 1, 0]) rfl (ok_made Y) (hr.mono (by decide)) takes_cx rfl Y.g59 Y.F59.kp (Y.F59.kwb fun _ _ _ _ _ _ us hl => match us, hl with | [_, _, _], _ => rfl) rfl (fun us hl => match us, hl with | [_, _, _], _ => rfl) (mk_cons (me_var 3) (mk_cons (me_var 2) (mk_cons (me_var 0) mk_nil)))) ma_nil))))
        (ms_cons (ms_set (i := 7) sc__law_is_told.nd rfl (.inl rfl) (me_add rfl (me_var 7) (me_lst rfl (ma_cons (me_callK (ks := ["row", "marks", "work"]) (pk := [2, 1, 0]) rfl (ok_first_foul Y) (hr.mono (by decide)) takes_cx rfl Y.g61 Y.F61.kp (Y.F61.kwb fun _ _ _ _ _ _ us hl => match us, hl with | [_, _, _], _ => rfl) rfl (fun us hl => match us, hl with | [_, _, _], _ => rfl) (mk_cons (me_var 3) (mk_cons (me_var 2) (mk_cons (me_var 0) mk_nil)))) (ma_cons (me_callK (ks := ["row", "marks", "work"]) (pk := [2, 1, 0]) rfl (ok_is_clean Y) (hr.mono (by decide)) takes_cx rfl Y.g60 Y.F60.kp (Y.F60.kwb fun _ _ _ _ _ _ us hl => match us, hl with | [_, _, _], _ => rfl) rfl (fun us hl => match us, hl with | [_, _, _], _ => rfl) (mk_cons (me_var 3) (mk_cons (me_var 2) (mk_cons (me_var 0) mk_nil)))) ma_nil)))))
        (ms_one (ms_ret (me_call rfl (ok__law_same Y) (hr.mono (by decide)) takes_cx rfl Y.g65 Y.F65.kp (b__law_same Y) .nil DflM.nil rfl (ha := (ma_cons (me_var 7) (ma_cons (me_lst rfl (ma_cons (me_var 4) (ma_cons (me_var 5) (ma_cons (me_var 6) (ma_cons (me_isN rfl (me_var 6) me_non) ma_nil))))) ma_nil)))))))))))

abbrev N__law_right : List Str := ["draws", "turn", "parts", "mine", "marks", "row", "k", "between"]
theorem sc__law_right : FnScope N__law_right ["draws"] (defScope (top 96)) := ⟨rfl, rfl, rfl, by decide +kernel, rfl, by decide +kernel, by decide +kernel⟩
theorem b__law_right (Y : Wd K cls T mg base f fd) : Binds K (fd 76) ["draws"] [] := Y.F76.bindsN fun _ _ _ _ _ _ us hl => match us, hl with | [_], _ => rfl
theorem ok__law_right (Y : Wd K cls T mg base f fd) : FnG P w K mg base 15 (f 76) (fd 76) ["draws"] (spM (GG K cls T) 1 m__law_right) :=
  def_ok (G := GG K cls T) Y.F76 sc__law_right (by decide) fun cdv A outer s H E hr hc =>
      (ms_cons (ms_for (ws := [1]) rfl (passes_of rfl) rfl (mi_rng1 rfl Y.b_range (ma_cons me_int ma_nil)) (mg_name (by decide) sc__law_right.nd rfl (.inl rfl)) (ms_cons (ms_set (i := 2) sc__law_right.nd rfl (.inl rfl) (me_call rfl (ok__law_drawn Y) (hr.mono (by decide)) takes_cx rfl Y.g69 Y.F69.kp (b__law_drawn Y) .nil DflM.nil rfl (ha := (ma_cons (me_var 0) ma_nil))))
        (ms_cons (ms_par (i := 3) (j := 4) rfl sc__law_right.nd rfl rfl (by decide) rfl rfl (ma_cons (me_call rfl (ok__law_made Y) (hr.mono (by decide)) takes_cx rfl Y.g72 Y.F72.kp (b__law_made Y) .nil DflM.nil rfl (ha := (ma_cons (me_var 2) ma_nil))) (ma_cons (me_call rfl (ok__law_marks Y) (hr.mono (by decide)) takes_cx rfl Y.g70 Y.F70.kp (b__law_marks Y) .nil DflM.nil rfl (ha := (ma_cons (me_var 0) (ma_cons (me_var 2) ma_nil)))) ma_nil)) rfl)
        (ms_cons (ms_set (i := 5) sc__law_right.nd rfl (.inl rfl) (me_call rfl (ok__law_row Y) (hr.mono (by decide)) takes_cx rfl Y.g71 Y.F71.kp (b__law_row Y) .nil DflM.nil rfl (ha := (ma_cons (me_var 0) (ma_cons (me_var 2) (ma_cons (me_call rfl (ok__law_pick Y) (hr.mono (by decide)) takes_cx rfl Y.g64 Y.F64.kp (b__law_pick Y) .nil DflM.nil rfl (ha := (ma_cons (me_var 0) (ma_cons (me_lst rfl (ma_cons me_int (ma_cons me_int (ma_cons me_int ma_nil)))) ma_nil)))) ma_nil))))))
        (ms_cons (ms_if (PW.pt (mw_or rfl (mt_not (mt_val (me_call rfl (ok__law_is_told Y) (hr.mono (by decide)) takes_cx rfl Y.g75 Y.F75.kp (b__law_is_told Y) .nil DflM.nil rfl (ha := (ma_cons (me_var 3) (ma_cons (me_var 2) (ma_cons (me_var 4) (ma_cons (me_var 5) ma_nil)))))))) (mw_oneO (mt_not (mt_val (me_call rfl (ok__law_is_told Y) (hr.mono (by decide)) takes_cx rfl Y.g75 Y.F75.kp (b__law_is_told Y) .nil DflM.nil rfl (ha := (ma_cons (me_var 3) (ma_cons (me_var 2) (ma_cons (me_var 4) (ma_cons (me_tup rfl ma_nil) ma_nil))))))))))) (ms_one (ms_ret me_bl)) ms_nil)
        (ms_cons (ms_set (i := 6) sc__law_right.nd rfl (.inl rfl) (me_call rfl (ok__law_take Y) (hr.mono (by decide)) takes_cx rfl Y.g63 Y.F63.kp (b__law_take Y) .nil DflM.nil rfl (ha := (ma_cons (me_var 0) (ma_cons (me_add rfl (me_len rfl rfl Y.b_len (ma_cons (me_var 5) ma_nil)) me_int) ma_nil)))))
        (ms_cons (ms_set (i := 7) sc__law_right.nd rfl (.inl rfl) (me_call rfl (ok_behind Y) (hr.mono (by decide)) takes_cx rfl Y.g58 Y.F58.kp (b_behind Y) .nil DflM.nil rfl (ha := (ma_cons (me_var 3) (ma_cons (me_var 4) (ma_cons (me_sl rfl (me_var 5) mo_none (mo_some (me_var 6))) ma_nil))))))
        (ms_cons (ms_if (mt_ne rfl hr.u65 (me_call rfl (ok_behind Y) (hr.mono (by decide)) takes_cx rfl Y.g58 Y.F58.kp (b_behind Y) .nil DflM.nil rfl (ha := (ma_cons (me_var 3) (ma_cons (me_var 7) (ma_cons (me_sl rfl (me_var 5) (mo_some (me_var 6)) mo_none) ma_nil))))) (me_call rfl (ok_behind Y) (hr.mono (by decide)) takes_cx rfl Y.g58 Y.F58.kp (b_behind Y) .nil DflM.nil rfl (ha := (ma_cons (me_var 3) (ma_cons (me_var 4) (ma_cons (me_var 5) ma_nil)))))) (ms_one (ms_ret me_bl)) ms_nil)
        (ms_cons (ms_if (mt_ne rfl hr.u65 (me_add rfl (me_call rfl (ok_made Y) (hr.mono (by decide)) takes_cx rfl Y.g59 Y.F59.kp (b_made Y) .nil DflM.nil rfl (ha := (ma_cons (me_var 3) (ma_cons (me_var 4) (ma_cons (me_sl rfl (me_var 5) mo_none (mo_some (me_var 6))) ma_nil))))) (me_call rfl (ok_made Y) (hr.mono (by decide)) takes_cx rfl Y.g59 Y.F59.kp (b_made Y) .nil DflM.nil rfl (ha := (ma_cons (me_var 3) (ma_cons (me_var 7) (ma_cons (me_sl rfl (me_var 5) (mo_some (me_var 6)) mo_none) ma_nil)))))) (me_call rfl (ok_made Y) (hr.mono (by decide)) takes_cx rfl Y.g59 Y.F59.kp (b_made Y) .nil DflM.nil rfl (ha := (ma_cons (me_var 3) (ma_cons (me_var 4) (ma_cons (me_var 5) ma_nil)))))) (ms_one (ms_ret me_bl)) ms_nil)
        (ms_one (ms_if (mt_ne rfl hr.u65 (me_andV rfl (me_call rfl (ok_is_clean Y) (hr.mono (by decide)) takes_cx rfl Y.g60 Y.F60.kp (b_is_clean Y) .nil DflM.nil rfl (ha := (ma_cons (me_var 3) (ma_cons (me_var 4) (ma_cons (me_sl rfl (me_var 5) mo_none (mo_some (me_var 6))) ma_nil))))) (me_one (me_call rfl (ok_is_clean Y) (hr.mono (by decide)) takes_cx rfl Y.g60 Y.F60.kp (b_is_clean Y) .nil DflM.nil rfl (ha := (ma_cons (me_var 3) (ma_cons (me_var 7) (ma_cons (me_sl rfl (me_var 5) (mo_some (me_var 6)) mo_none) ma_nil))))))) (me_call rfl (ok_is_clean Y) (hr.mono (by decide)) takes_cx rfl Y.g60 Y.F60.kp (b_is_clean Y) .nil DflM.nil rfl (ha := (ma_cons (me_var 3) (ma_cons (me_var 4) (ma_cons (me_var 5) ma_nil)))))) (ms_one (ms_ret me_bl)) ms_nil)))))))))))
        (ms_one (ms_ret me_bl)))

abbrev N__law_purse : List Str := ["cells", "at", "cell", "seed", "other"]
theorem sc__law_purse : FnScope N__law_purse ["cells", "at"] (defScope (top 82)) := ⟨rfl, rfl, rfl, by decide +kernel, rfl, by decide +kernel, by decide +kernel⟩
theorem b__law_purse (Y : Wd K cls T mg base f fd) : Binds K (fd 62) ["cells", "at"] [] := Y.F62.bindsN fun _ _ _ _ _ _ us hl => match us, hl with | [_, _], _ => rfl
theorem ok__law_purse (Y : Wd K cls T mg base f fd) : FnG P w K mg base 1 (f 62) (fd 62) ["cells", "at"] (spM (GG K cls T) 2 m__law_purse) :=
  def_ok (G := GG K cls T) Y.F62 sc__law_purse (by decide) fun cdv A outer s H E hr hc =>
      (ms_cons (ms_set (i := 2) sc__law_purse.nd rfl (.inl rfl) (me_if rfl (mt_lt rfl (me_var 1) (me_len rfl rfl Y.b_len (ma_cons (me_var 0) ma_nil))) (me_ix rfl (me_var 0) (me_var 1)) me_int))
        (ms_cons (ms_set (i := 3) sc__law_purse.nd rfl (.inl rfl) (me_mod rfl (me_int1 rfl rfl Y.b_int (ma_cons (me_add rfl (me_add rfl (me_mul rfl (me_var 2) me_int) (me_mul rfl (me_var 1) me_int)) me_int) ma_nil)) me_int))
        (ms_cons (ms_for (ws := [4]) rfl (passes_of rfl) rfl (mi_seq rfl (me_if rfl (mt_ge rfl (me_var 1) (me_len rfl rfl Y.b_len (ma_cons (me_var 0) ma_nil))) (me_sl rfl (me_var 0) mo_none (mo_some me_int)) (me_lst rfl ma_nil))) (mg_name (by decide) sc__law_purse.nd rfl (.inl rfl)) (ms_one (ms_set (i := 3) sc__law_purse.nd rfl (.inl rfl) (me_mod rfl (me_int1 rfl rfl Y.b_int (ma_cons (me_add rfl (me_mul rfl (me_var 3) me_int) (me_var 4)) ma_nil)) me_int))))
        (ms_one (ms_ret (me_lstO rfl (ma_cons (me_if rfl (mt_ge rfl (me_abs rfl rfl Y.b_abs (ma_cons (me_var 2) ma_nil)) (me_pow rfl me_int me_int)) (me_abs rfl rfl Y.b_abs (ma_cons (me_var 2) ma_nil)) me_int) (ma_cons (me_var 3) (ma_cons me_int ma_nil)))))))))

abbrev N_law : List Str := ["cells", "at"]
theorem sc_law : FnScope N_law ["cells"] (defScope (top 97)) := ⟨rfl, rfl, rfl, by decide +kernel, rfl, by decide +kernel, by decide +kernel⟩
theorem b_law (Y : Wd K cls T mg base f fd) : Binds K (fd 77) ["cells"] [] := Y.F77.bindsN fun _ _ _ _ _ _ us hl => match us, hl with | [_], _ => rfl
theorem ok_law (Y : Wd K cls T mg base f fd) : FnG P w K mg base 16 (f 77) (fd 77) ["cells"] (spM (GG K cls T) 1 m_law) :=
  def_ok (G := GG K cls T) Y.F77 sc_law (by decide) fun cdv A outer s H E hr hc =>
      (ms_one (ms_ret (me_all rfl rfl rfl Y.b_all (ma_cons (me_lc (ow := [("at", 1)]) false rfl rfl sc_law.nd (mi_rng1 rfl Y.b_range (ma_cons (me_max2 rfl rfl rfl Y.b_max (ma_cons me_int (ma_cons (me_min2 rfl rfl rfl Y.b_min (ma_cons (me_len rfl rfl Y.b_len (ma_cons (me_var 0) ma_nil)) (ma_cons me_int ma_nil))) ma_nil))) ma_nil)) (blkOk_by (N := N_law) (sc := defScope (top 97)) (by decide +kernel)) (fun _ _ _ _ _ => (mg_name (by decide) sc_law.nd rfl (.inl rfl))) (fun _ _ _ _ _ => mts_nil) (fun _ _ _ _ _ => (me_call rfl (ok__law_right Y) (hr.mono (by decide)) takes_w0 rfl Y.g76 Y.F76.kp (b__law_right Y) .nil DflM.nil rfl (ha := (ma_cons (me_call rfl (ok__law_purse Y) (hr.mono (by decide)) takes_w0 rfl Y.g62 Y.F62.kp (b__law_purse Y) .nil DflM.nil rfl (ha := (ma_cons (me_var 0) (ma_cons (me_var 1) ma_nil)))) ma_nil))))) ma_nil))))

end

end K05
end

section
set_option Elab.async false
set_option linter.all false
set_option maxRecDepth 100000
set_option synthInstance.maxHeartbeats 4000000
set_option synthInstance.maxSize 100000
set_option maxHeartbeats 0
namespace K05
open PySem PySem.Spec PyProof.Rows L2 NdefX LamX Mm Q
/-! ## facts -/
def fA (K : PySem.W.Frag) : Nat → Addr := fun i => match i with
  | 63 => He.fAd K ("_law_take", none)
  | 66 => He.fAd K ("_law_names", none)
  | 67 => He.fAd K ("_law_lot", none)
  | 64 => He.fAd K ("_law_pick", none)
  | 68 => He.fAd K ("_law_work", none)
  | 69 => He.fAd K ("_law_drawn", none)
  | 71 => He.fAd K ("_law_row", none)
  | 53 => He.fAd K ("check_work", none)
  | 12 => He.fAd K ("is_tuple_of", none)
  | 14 => He.fAd K ("first_wrong", none)
  | 9 => He.fAd K ("is_string", none)
  | 37 => He.fAd K ("is_one_of", none)
  | 38 => He.fAd K ("are_some", none)
  | 54 => He.fAd K ("is_marks", none)
  | 55 => He.fAd K ("check_marks", none)
  | 56 => He.fAd K ("check_marked", none)
  | 7 => He.fAd K ("is_whole", none)
  | 8 => He.fAd K ("is_between", none)
  | 15 => He.fAd K ("is_step", none)
  | 16 => He.fAd K ("wrong_step", none)
  | 13 => He.fAd K ("is_row", none)
  | 17 => He.fAd K ("check_row", none)
  | 57 => He.fAd K ("check_asked", none)
  | 26 => He.fAd K ("marks_with", none)
  | 22 => He.fAd K ("bit_of", none)
  | 23 => He.fAd K ("lot_with", none)
  | 24 => He.fAd K ("lot_of", none)
  | 25 => He.fAd K ("lots_of", none)
  | 21 => He.fAd K ("takes_from", none)
  | 18 => He.fAd K ("puts_of", none)
  | 19 => He.fAd K ("uses_of", none)
  | 27 => He.fAd K ("is_in_made", none)
  | 28 => He.fAd K ("lot_behind", none)
  | 30 => He.fAd K ("lots_behind", none)
  | 32 => He.fAd K ("lots_along", none)
  | 33 => He.fAd K ("marks_behind", none)
  | 58 => He.fAd K ("behind", none)
  | 10 => He.fAd K ("is_made_of", none)
  | 11 => He.fAd K ("is_name", none)
  | 43 => He.fAd K ("wrong_name", none)
  | 46 => He.fAd K ("check_tools", none)
  | 47 => He.fAd K ("check_stuffs", none)
  | 39 => He.fAd K ("is_recipe", none)
  | 40 => He.fAd K ("is_recipe_behind", none)
  | 44 => He.fAd K ("wrong_recipe", none)
  | 48 => He.fAd K ("check_recipes", none)
  | 41 => He.fAd K ("is_wash", none)
  | 42 => He.fAd K ("is_wash_behind", none)
  | 45 => He.fAd K ("wrong_wash", none)
  | 49 => He.fAd K ("check_washes", none)
  | 50 => He.fAd K ("Work", some "__init__")
  | 72 => He.fAd K ("_law_made", none)
  | 70 => He.fAd K ("_law_marks", none)
  | 34 => He.fAd K ("stuffs_in", none)
  | 35 => He.fAd K ("made_by", none)
  | 59 => He.fAd K ("made", none)
  | 20 => He.fAd K ("bars_of", none)
  | 29 => He.fAd K ("is_foul_by", none)
  | 31 => He.fAd K ("foul_stuffs", none)
  | 36 => He.fAd K ("first_foul_by", none)
  | 60 => He.fAd K ("is_clean", none)
  | 73 => He.fAd K ("_law_behind", none)
  | 74 => He.fAd K ("_law_gone", none)
  | 65 => He.fAd K ("_law_same", none)
  | 61 => He.fAd K ("first_foul", none)
  | 75 => He.fAd K ("_law_is_told", none)
  | 76 => He.fAd K ("_law_right", none)
  | 62 => He.fAd K ("_law_purse", none)
  | 77 => He.fAd K ("law", none)
  | _ => 0
def cls (K : PySem.W.Frag) : Nat → Addr := fun i => match i with
  | 99 => He.dflAt ("Work", some "__init__") 0 K
  | _ => He.ga K "Work"
theorem facts {w : World} {K : PySem.W.Frag} {h : Heap} {mg : Str → Option Value} (X : K.In h) (G : h.Ns mainGlobals mg) (c : He.SaysX fa fn [] tf (exW tf) w h K) :
    ∃ fd : Nat → FuncData, FunD K "law" "law" (defArgs (top 97)) (defBody (top 97)) (defScope (top 97)) [] [] (fA K 77) (fd 77) ∧ ∀ base : Heap, (∀ p ∈ codesOf tf K, TabB base mg p.1 p.2) → Wd K (cls K) (tabsOf tf K) mg base (fA K) fd := by
  have d := c.t.d
  obtain ⟨d63, F63⟩ := d.def_ 0 (d := _) rfl
  obtain ⟨d66, F66⟩ := d.def_ 1 (d := _) rfl
  obtain ⟨d67, F67⟩ := d.def_ 2 (d := _) rfl
  obtain ⟨d64, F64⟩ := d.def_ 3 (d := _) rfl
  obtain ⟨d68, F68⟩ := d.def_ 4 (d := _) rfl
  obtain ⟨d69, F69⟩ := d.def_ 5 (d := _) rfl
  obtain ⟨d71, F71⟩ := d.def_ 6 (d := _) rfl
  obtain ⟨d53, F53⟩ := d.def_ 7 (d := _) rfl
  obtain ⟨d12, F12⟩ := d.def_ 8 (d := _) rfl
  obtain ⟨d14, F14⟩ := d.def_ 9 (d := _) rfl
  obtain ⟨d9, F9⟩ := d.def_ 10 (d := _) rfl
  obtain ⟨d37, F37⟩ := d.def_ 11 (d := _) rfl
  obtain ⟨d38, F38⟩ := d.def_ 12 (d := _) rfl
  obtain ⟨d54, F54⟩ := d.def_ 13 (d := _) rfl
  obtain ⟨d55, F55⟩ := d.def_ 14 (d := _) rfl
  obtain ⟨d56, F56⟩ := d.def_ 15 (d := _) rfl
  obtain ⟨d7, F7⟩ := d.def_ 16 (d := _) rfl
  obtain ⟨d8, F8⟩ := d.def_ 17 (d := _) rfl
  obtain ⟨d15, F15⟩ := d.def_ 18 (d := _) rfl
  obtain ⟨d16, F16⟩ := d.def_ 19 (d := _) rfl
  obtain ⟨d13, F13⟩ := d.def_ 20 (d := _) rfl
  obtain ⟨d17, F17⟩ := d.def_ 21 (d := _) rfl
  obtain ⟨d57, F57⟩ := d.def_ 22 (d := _) rfl
  obtain ⟨d26, F26⟩ := d.def_ 23 (d := _) rfl
  obtain ⟨d22, F22⟩ := d.def_ 24 (d := _) rfl
  obtain ⟨d23, F23⟩ := d.def_ 25 (d := _) rfl
  obtain ⟨d24, F24⟩ := d.def_ 26 (d := _) rfl
  obtain ⟨d25, F25⟩ := d.def_ 27 (d := _) rfl
  obtain ⟨d21, F21⟩ := d.def_ 28 (d := _) rfl
  obtain ⟨d18, F18⟩ := d.def_ 29 (d := _) rfl
  obtain ⟨d19, F19⟩ := d.def_ 30 (d := _) rfl
  obtain ⟨d27, F27⟩ := d.def_ 31 (d := _) rfl
  obtain ⟨d28, F28⟩ := d.def_ 32 (d := _) rfl
  obtain ⟨d30, F30⟩ := d.def_ 33 (d := _) rfl
  obtain ⟨d32, F32⟩ := d.def_ 34 (d := _) rfl
  obtain ⟨d33, F33⟩ := d.def_ 35 (d := _) rfl
  obtain ⟨d58, F58⟩ := d.def_ 36 (d := _) rfl
  obtain ⟨d10, F10⟩ := d.def_ 37 (d := _) rfl
  obtain ⟨d11, F11⟩ := d.def_ 38 (d := _) rfl
  obtain ⟨d43, F43⟩ := d.def_ 39 (d := _) rfl
  obtain ⟨d46, F46⟩ := d.def_ 40 (d := _) rfl
  obtain ⟨d47, F47⟩ := d.def_ 41 (d := _) rfl
  obtain ⟨d39, F39⟩ := d.def_ 42 (d := _) rfl
  obtain ⟨d40, F40⟩ := d.def_ 43 (d := _) rfl
  obtain ⟨d44, F44⟩ := d.def_ 44 (d := _) rfl
  obtain ⟨d48, F48⟩ := d.def_ 45 (d := _) rfl
  obtain ⟨d41, F41⟩ := d.def_ 46 (d := _) rfl
  obtain ⟨d42, F42⟩ := d.def_ 47 (d := _) rfl
  obtain ⟨d45, F45⟩ := d.def_ 48 (d := _) rfl
  obtain ⟨d49, F49⟩ := d.def_ 49 (d := _) rfl
  obtain ⟨d50, F50⟩ := d.def_ 50 (d := _) rfl
  obtain ⟨d72, F72⟩ := d.def_ 51 (d := _) rfl
  obtain ⟨d70, F70⟩ := d.def_ 52 (d := _) rfl
  obtain ⟨d34, F34⟩ := d.def_ 53 (d := _) rfl
  obtain ⟨d35, F35⟩ := d.def_ 54 (d := _) rfl
  obtain ⟨d59, F59⟩ := d.def_ 55 (d := _) rfl
  obtain ⟨d20, F20⟩ := d.def_ 56 (d := _) rfl
  obtain ⟨d29, F29⟩ := d.def_ 57 (d := _) rfl
  obtain ⟨d31, F31⟩ := d.def_ 58 (d := _) rfl
  obtain ⟨d36, F36⟩ := d.def_ 59 (d := _) rfl
  obtain ⟨d60, F60⟩ := d.def_ 60 (d := _) rfl
  obtain ⟨d73, F73⟩ := d.def_ 61 (d := _) rfl
  obtain ⟨d74, F74⟩ := d.def_ 62 (d := _) rfl
  obtain ⟨d65, F65⟩ := d.def_ 63 (d := _) rfl
  obtain ⟨d61, F61⟩ := d.def_ 64 (d := _) rfl
  obtain ⟨d75, F75⟩ := d.def_ 65 (d := _) rfl
  obtain ⟨d76, F76⟩ := d.def_ 66 (d := _) rfl
  obtain ⟨d62, F62⟩ := d.def_ 67 (d := _) rfl
  obtain ⟨d77, F77⟩ := d.def_ 68 (d := _) rfl
  have cl : Cls K (cls K 0) := He.cls_ok (d.fact 100 (f := .cls "Work") rfl)
  refine ⟨fun i => match i with
    | 63 => d63
    | 66 => d66
    | 67 => d67
    | 64 => d64
    | 68 => d68
    | 69 => d69
    | 71 => d71
    | 53 => d53
    | 12 => d12
    | 14 => d14
    | 9 => d9
    | 37 => d37
    | 38 => d38
    | 54 => d54
    | 55 => d55
    | 56 => d56
    | 7 => d7
    | 8 => d8
    | 15 => d15
    | 16 => d16
    | 13 => d13
    | 17 => d17
    | 57 => d57
    | 26 => d26
    | 22 => d22
    | 23 => d23
    | 24 => d24
    | 25 => d25
    | 21 => d21
    | 18 => d18
    | 19 => d19
    | 27 => d27
    | 28 => d28
    | 30 => d30
    | 32 => d32
    | 33 => d33
    | 58 => d58
    | 10 => d10
    | 11 => d11
    | 43 => d43
    | 46 => d46
    | 47 => d47
    | 39 => d39
    | 40 => d40
    | 44 => d44
    | 48 => d48
    | 41 => d41
    | 42 => d42
    | 45 => d45
    | 49 => d49
    | 50 => d50
    | 72 => d72
    | 70 => d70
    | 34 => d34
    | 35 => d35
    | 59 => d59
    | 20 => d20
    | 29 => d29
    | 31 => d31
    | 36 => d36
    | 60 => d60
    | 73 => d73
    | 74 => d74
    | 65 => d65
    | 61 => d61
    | 75 => d75
    | 76 => d76
    | 62 => d62
    | 77 => d77
    | _ => d63, F77, fun base TB => ?_⟩
  exact {
    F63 := F63
    g63 := He.glo_ok X G (d.fact 0 rfl)
    F66 := F66
    g66 := He.glo_ok X G (d.fact 1 rfl)
    F67 := F67
    g67 := He.glo_ok X G (d.fact 2 rfl)
    F64 := F64
    g64 := He.glo_ok X G (d.fact 3 rfl)
    F68 := F68
    g68 := He.glo_ok X G (d.fact 4 rfl)
    F69 := F69
    g69 := He.glo_ok X G (d.fact 5 rfl)
    F71 := F71
    g71 := He.glo_ok X G (d.fact 6 rfl)
    F53 := F53
    g53 := He.glo_ok X G (d.fact 7 rfl)
    F12 := F12
    g12 := He.glo_ok X G (d.fact 8 rfl)
    F14 := F14
    g14 := He.glo_ok X G (d.fact 9 rfl)
    F9 := F9
    g9 := He.glo_ok X G (d.fact 10 rfl)
    F37 := F37
    g37 := He.glo_ok X G (d.fact 11 rfl)
    F38 := F38
    g38 := He.glo_ok X G (d.fact 12 rfl)
    F54 := F54
    g54 := He.glo_ok X G (d.fact 13 rfl)
    F55 := F55
    g55 := He.glo_ok X G (d.fact 14 rfl)
    F56 := F56
    g56 := He.glo_ok X G (d.fact 15 rfl)
    F7 := F7
    g7 := He.glo_ok X G (d.fact 16 rfl)
    F8 := F8
    g8 := He.glo_ok X G (d.fact 17 rfl)
    F15 := F15
    g15 := He.glo_ok X G (d.fact 18 rfl)
    F16 := F16
    g16 := He.glo_ok X G (d.fact 19 rfl)
    F13 := F13
    g13 := He.glo_ok X G (d.fact 20 rfl)
    F17 := F17
    g17 := He.glo_ok X G (d.fact 21 rfl)
    F57 := F57
    g57 := He.glo_ok X G (d.fact 22 rfl)
    F26 := F26
    g26 := He.glo_ok X G (d.fact 23 rfl)
    F22 := F22
    g22 := He.glo_ok X G (d.fact 24 rfl)
    F23 := F23
    g23 := He.glo_ok X G (d.fact 25 rfl)
    F24 := F24
    g24 := He.glo_ok X G (d.fact 26 rfl)
    F25 := F25
    g25 := He.glo_ok X G (d.fact 27 rfl)
    F21 := F21
    g21 := He.glo_ok X G (d.fact 28 rfl)
    F18 := F18
    g18 := He.glo_ok X G (d.fact 29 rfl)
    F19 := F19
    g19 := He.glo_ok X G (d.fact 30 rfl)
    F27 := F27
    g27 := He.glo_ok X G (d.fact 31 rfl)
    F28 := F28
    g28 := He.glo_ok X G (d.fact 32 rfl)
    F30 := F30
    g30 := He.glo_ok X G (d.fact 33 rfl)
    F32 := F32
    g32 := He.glo_ok X G (d.fact 34 rfl)
    F33 := F33
    g33 := He.glo_ok X G (d.fact 35 rfl)
    F58 := F58
    g58 := He.glo_ok X G (d.fact 36 rfl)
    F10 := F10
    g10 := He.glo_ok X G (d.fact 37 rfl)
    F11 := F11
    g11 := He.glo_ok X G (d.fact 38 rfl)
    F43 := F43
    g43 := He.glo_ok X G (d.fact 39 rfl)
    F46 := F46
    g46 := He.glo_ok X G (d.fact 40 rfl)
    F47 := F47
    g47 := He.glo_ok X G (d.fact 41 rfl)
    F39 := F39
    g39 := He.glo_ok X G (d.fact 42 rfl)
    F40 := F40
    g40 := He.glo_ok X G (d.fact 43 rfl)
    F44 := F44
    g44 := He.glo_ok X G (d.fact 44 rfl)
    F48 := F48
    g48 := He.glo_ok X G (d.fact 45 rfl)
    F41 := F41
    g41 := He.glo_ok X G (d.fact 46 rfl)
    F42 := F42
    g42 := He.glo_ok X G (d.fact 47 rfl)
    F45 := F45
    g45 := He.glo_ok X G (d.fact 48 rfl)
    F49 := F49
    g49 := He.glo_ok X G (d.fact 49 rfl)
    F50 := F50
    F72 := F72
    g72 := He.glo_ok X G (d.fact 50 rfl)
    F70 := F70
    g70 := He.glo_ok X G (d.fact 51 rfl)
    F34 := F34
    g34 := He.glo_ok X G (d.fact 52 rfl)
    F35 := F35
    g35 := He.glo_ok X G (d.fact 53 rfl)
    F59 := F59
    g59 := He.glo_ok X G (d.fact 54 rfl)
    F20 := F20
    g20 := He.glo_ok X G (d.fact 55 rfl)
    F29 := F29
    g29 := He.glo_ok X G (d.fact 56 rfl)
    F31 := F31
    g31 := He.glo_ok X G (d.fact 57 rfl)
    F36 := F36
    g36 := He.glo_ok X G (d.fact 58 rfl)
    F60 := F60
    g60 := He.glo_ok X G (d.fact 59 rfl)
    F73 := F73
    g73 := He.glo_ok X G (d.fact 60 rfl)
    F74 := F74
    g74 := He.glo_ok X G (d.fact 61 rfl)
    F65 := F65
    g65 := He.glo_ok X G (d.fact 62 rfl)
    F61 := F61
    g61 := He.glo_ok X G (d.fact 63 rfl)
    F75 := F75
    g75 := He.glo_ok X G (d.fact 64 rfl)
    F76 := F76
    g76 := He.glo_ok X G (d.fact 65 rfl)
    F62 := F62
    g62 := He.glo_ok X G (d.fact 66 rfl)
    F77 := F77
    g77 := He.glo_ok X G (d.fact 67 rfl)
    b_abs := He.free_ok X G (d.fact 68 rfl)
    b_all := He.free_ok X G (d.fact 69 rfl)
    b_any := He.free_ok X G (d.fact 70 rfl)
    b_bool := He.free_ok X G (d.fact 71 rfl)
    b_dict := He.free_ok X G (d.fact 72 rfl)
    b_enumerate := He.free_ok X G (d.fact 73 rfl)
    b_int := He.free_ok X G (d.fact 74 rfl)
    b_isinstance := He.free_ok X G (d.fact 75 rfl)
    b_len := He.free_ok X G (d.fact 76 rfl)
    b_max := He.free_ok X G (d.fact 77 rfl)
    b_min := He.free_ok X G (d.fact 78 rfl)
    b_range := He.free_ok X G (d.fact 79 rfl)
    b_repr := He.free_ok X G (d.fact 80 rfl)
    b_sorted := He.free_ok X G (d.fact 81 rfl)
    b_str := He.free_ok X G (d.fact 82 rfl)
    b_sum := He.free_ok X G (d.fact 83 rfl)
    b_tuple := He.free_ok X G (d.fact 84 rfl)
    b_zip := He.free_ok X G (d.fact 85 rfl)
    k_FEWEST_TOOLS := He.int_ok X G (d.fact 86 rfl)
    k_LONGEST_NAME := He.int_ok X G (d.fact 87 rfl)
    k_MAKE := He.str_ok X G (d.fact 88 rfl)
    k_MOST_PRICE := He.int_ok X G (d.fact 89 rfl)
    k_MOST_RECIPES := He.int_ok X G (d.fact 90 rfl)
    k_MOST_STEPS := He.int_ok X G (d.fact 91 rfl)
    k_MOST_STUFFS := He.int_ok X G (d.fact 92 rfl)
    k_MOST_TOOLS := He.int_ok X G (d.fact 93 rfl)
    k_MOST_WASHES := He.int_ok X G (d.fact 94 rfl)
    k_SIZE_OF_RECIPE := He.int_ok X G (d.fact 95 rfl)
    k_SIZE_OF_WASH := He.int_ok X G (d.fact 96 rfl)
    k_SMALL_LETTERS := He.str_ok X G (d.fact 97 rfl)
    k_WASH := He.str_ok X G (d.fact 98 rfl)
    l38 := lam_at (p := ("are_some", none)) (by simp [tf]) F38 TB (exW_nd c.more)
    l43 := lam_at (p := ("wrong_name", none)) (by simp [tf]) F43 TB (exW_nd c.more)
    l44 := lam_at (p := ("wrong_recipe", none)) (by simp [tf]) F44 TB (exW_nd c.more)
    l45 := lam_at (p := ("wrong_wash", none)) (by simp [tf]) F45 TB (exW_nd c.more)
    gs := gs_of cl fun f hf => by
      have hf : f ∈ (["tools", "stuffs", "recipes", "washes"] : List Str) := hf
      simp only [List.mem_cons, List.not_mem_nil, or_false] at hf
      rcases hf with rfl | rfl | rfl | rfl
      · exact He.noat_ok (d.fact 102 rfl)
      · exact He.noat_ok (d.fact 103 rfl)
      · exact He.noat_ok (d.fact 104 rfl)
      · exact He.noat_ok (d.fact 105 rfl)
    gn := gn_of rfl cl c.more
    c0 := He.glo_ok X G (d.fact 99 rfl)
    mkW := He.mkr_ok (d.fact 101 rfl) }
/-- the law, once its mirror answers True -/
theorem law_good (plain : ∀ ns : List Int, ns.length ≤ 63 → (∀ z ∈ ns, Builtin.Int.intBits z ≤ 1048576) → ∃ S, m_law [.p (.scr (ns.map .int))] [] = .ok (.p (.bl true)) S)
    {w : World} {mg : Str → Option Value} {fa0 : Addr} {h : Heap} (Y : hk.says w h) (G : h.Ns mainGlobals mg) (hmg : mg "law" = some (.ref fa0)) : LawGood PySem.Challenge.rw_notraces_k05_main_whole_rows_and_what_th w 16 63 mg fa0 h := by
  obtain ⟨K, X, c⟩ := Y
  obtain ⟨fd, F, W⟩ := facts X G c
  have e := hmg.symm.trans (He.glo_ok X G (c.t.d.fact 67 (f := .glo "law") rfl))
  cases e
  exact ⟨K, fd 77, "cells", codesOf tf K, spM (GG K (cls K) (tabsOf tf K)) 1 m_law, X, tabs_at X c, fun s u => FunD.bindsA (ps := ["cells"]) F (fun _ _ _ _ _ _ us hl => match us, hl with | [_], _ => rfl) s [u] rfl, ask_of (G := GG K (cls K) (tabsOf tf K)) tabs_codes plain, fun base _ _ TB => ok_law (W base TB)⟩
theorem ends (plain : ∀ ns : List Int, ns.length ≤ 63 → (∀ z ∈ ns, Builtin.Int.intBits z ≤ 1048576) → ∃ S, m_law [.p (.scr (ns.map .int))] [] = .ok (.p (.bl true)) S) : PySem.Challenge.rw_notraces_k05_main_whole_rows_and_what_th.Holds := by
  w_on; o_law
  refine HandSHeadRun.head_any (r := PySem.W.OpenLaw.row PySem.Challenge.rw_notraces_k05_main_whole_rows_and_what_th) (q := qv) (H := hk) (ob := ob) (M := 40000) (loose := loose) (kwd := []) (d := HandSHeadRun.topDef (PySem.W.OpenLaw.row PySem.Challenge.rw_notraces_k05_main_whole_rows_and_what_th).prog 97) ob_eq
    (by kernel_rfl) (fun s => by kernel_rfl) run (by kernel_rfl) (by kernel_rfl) (by kernel_rfl) (by rfl) (by first | assumption | decide +kernel) (by decide +kernel) ⟨rfl, rfl, rfl, rfl, rfl, by decide +kernel⟩ ?told ?run
  case told => w_witness2
  case run =>
    refine law_walk (l := PySem.Challenge.rw_notraces_k05_main_whole_rows_and_what_th) (n := 63) (k := 16) rfl (by decide) (by kernel_rfl) ⟨rfl, by decide, by decide⟩ fun w mg f0 h Y G hmg => law_good plain Y G ?_
    have e : (HandSHeadRun.topDef (PySem.W.OpenLaw.row PySem.Challenge.rw_notraces_k05_main_whole_rows_and_what_th).prog 97).name = ("law" : Str) := by kernel_rfl
    rw [← e]
    exact hmg

end K05
end

set_option Elab.async false
set_option maxRecDepth 100000 in
set_option maxHeartbeats 0 in
theorem PySem.Challenge.cw_notraces_k05_main_whole_rows_and_what_th_holds : PySem.Challenge.rw_notraces_k05_main_whole_rows_and_what_th.Holds := by
  exact K05.ends fun ns h _ => K05.plain ns h
