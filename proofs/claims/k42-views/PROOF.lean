import PyProof.Rows.All
import Wide.All
import OpenK.AllK
import Wide.FinOn
import HandS.Words
import HandS.HeadHook1
import HandS.HeadHook3
import HandS.HeadHook4
import KE.KStateDown
import HandS.Head0
import HandS.Head1
import HandS.Head2
import HandS.ForMost
import HandS.ForExc
import HandS.IsInst
import HandS.TupAny
import HandS.Wide
import HandS.More
import HandS.SetKeys
import HandS.Style
import HandS.Conv
import KE.KDictSum
import HandS.Walk
import KE.DataEq
import KE.KEqDict
import KE.KTab
import HandS.Strs
import HandS.Defaults
import HandS.WordsExc
import HandS.HeadEnd
import HandS.Replace
import HandS.SetFor
import HandS.Exc
import HandS.ExcOwn
import HandS.ExcValue
import KE.KExcIs
import HandS.ExcBuiltin
import HandS.RaiseMore
import HandS.Text
import HandS.Flow
import HandS.List
import HandS.TryOnly
import PySem.Challenge.RW_shapeleads_k42_whole_views
set_option Elab.async false
set_option linter.all false
set_option maxRecDepth 100000
set_option maxHeartbeats 0
namespace G
open PySem L2
open PySem.W (Frag)
/-! ### facts of the head -/
def entB (e : DictEntry) : Option (Str × Int) := match e.key, e.val with
  | .str x _, .int i _ => some (x, i)
  | _, _ => none
def tabB (a : Str) (tab : List (Str × Int)) (K : Frag) : Bool := match K.lookup (He.ga K a) with
  | some ⟨_, _, .dict es _, _⟩ => decide (es.toList.map entB = tab.map some)
  | _ => false
def excIsB (K : Frag) (C : Addr) : Bool := (PySem.W.clsIn K C).isSome && (PySem.W.findIn K (.ref C) "__getattribute__" == some (some (.builtin "BaseException.__getattribute__"))) && (PySem.W.findIn K (.ref C) "__getattr__").isSome && (PySem.W.subIn K (.ref C) (.type "BaseException") == some true) &&
  (PySem.W.findIn K (.ref C) "__class__" == some (some (.builtin "object.__class__"))) && (PySem.W.specialIn K (.builtin "object.__class__") "__get__" == some (some (.builtin "getset_descriptor.__get__"))) && (PySem.W.takesIn K (.builtin "object.__class__") == some true) && (PySem.W.mroIn K C (.type "object") == some true)
end G
namespace Law
open PySem L2 G
open PySem.W (Frag)
def top (i : Nat) : Stmt := PySem.Challenge.pw_shapeleads_k42_whole_views.main.body.getD i (.Pass ⟨0, 0, 0, 0⟩)
def tab_SIZES_shapes : List (Str × Int) := [("number", 3), ("truth", 1), ("word", 2), ("text", 2), ("list", 3), ("rec", 2), ("kind", 2), ("maybe", 2)]
def tab_SIZES_rules : List (Str × Int) := [("keep", 1), ("give", 3), ("field", 2), ("make", 2), ("each", 2), ("then", 2), ("cases", 2), ("tag", 3), ("add", 2), ("times", 2), ("rename", 2), ("some", 1), ("else", 2), ("first", 1), ("size", 1), ("wide", 2)]
def caught_LeadError : List Str := ["BadShape", "BadThing", "BadRule", "BadNumber", "TooMany", "NoBack", "BadChange"]
def isT_BadChange : List Str := ["BadChange"]
def isF_BadChange : List Str := ["BadShape", "BadThing", "BadRule", "BadNumber", "TooMany", "NoBack"]
def isT_BadNumber : List Str := ["BadNumber"]
def isF_BadNumber : List Str := ["BadShape", "BadThing", "BadRule", "TooMany", "NoBack", "BadChange"]
def isT_BadRule : List Str := ["BadRule"]
def isF_BadRule : List Str := ["BadShape", "BadThing", "BadNumber", "TooMany", "NoBack", "BadChange"]
def isT_BadShape : List Str := ["BadShape"]
def isF_BadShape : List Str := ["BadThing", "BadRule", "BadNumber", "TooMany", "NoBack", "BadChange"]
def isT_BadThing : List Str := ["BadThing"]
def isF_BadThing : List Str := ["BadShape", "BadRule", "BadNumber", "TooMany", "NoBack", "BadChange"]
def isT_NoBack : List Str := ["NoBack"]
def isF_NoBack : List Str := ["BadShape", "BadThing", "BadRule", "BadNumber", "TooMany", "BadChange"]
def isT_TooMany : List Str := ["TooMany"]
def isF_TooMany : List Str := ["BadShape", "BadThing", "BadRule", "BadNumber", "NoBack", "BadChange"]
def isT_ValueError : List Str := ["BadShape", "BadThing", "BadRule", "BadNumber", "TooMany", "NoBack", "BadChange"]
def isF_ValueError : List Str := []
def h_is_whole : He.DefD := ⟨("is_whole", none), "is_whole", "is_whole", defArgs (top 17), defBody (top 17), defScope (top 17), [], []⟩
def h_is_word : He.DefD := ⟨("is_word", none), "is_word", "is_word", defArgs (top 18), defBody (top 18), defScope (top 18), [], []⟩
def h_are_words : He.DefD := ⟨("are_words", none), "are_words", "are_words", defArgs (top 19), defBody (top 19), defScope (top 19), [], []⟩
def h_is_shape : He.DefD := ⟨("is_shape", none), "is_shape", "is_shape", defArgs (top 20), defBody (top 20), defScope (top 20), [], []⟩
def h_are_parts : He.DefD := ⟨("are_parts", none), "are_parts", "are_parts", defArgs (top 21), defBody (top 21), defScope (top 21), [], []⟩
def h_look_shape : He.DefD := ⟨("look_shape", none), "look_shape", "look_shape", defArgs (top 22), defBody (top 22), defScope (top 22), [], []⟩
def h_is_of : He.DefD := ⟨("is_of", none), "is_of", "is_of", defArgs (top 23), defBody (top 23), defScope (top 23), [], []⟩
def h_is_one : He.DefD := ⟨("is_one", none), "is_one", "is_one", defArgs (top 24), defBody (top 24), defScope (top 24), [], []⟩
def h_is_of_kind : He.DefD := ⟨("is_of_kind", none), "is_of_kind", "is_of_kind", defArgs (top 25), defBody (top 25), defScope (top 25), [], []⟩
def h_look_thing : He.DefD := ⟨("look_thing", none), "look_thing", "look_thing", defArgs (top 26), defBody (top 26), defScope (top 26), [], []⟩
def h_part_of : He.DefD := ⟨("part_of", none), "part_of", "part_of", defArgs (top 27), defBody (top 27), defScope (top 27), [], []⟩
def h_copied : He.DefD := ⟨("copied", none), "copied", "copied", defArgs (top 28), defBody (top 28), defScope (top 28), [], []⟩
def h_fits_in : He.DefD := ⟨("fits_in", none), "fits_in", "fits_in", defArgs (top 30), defBody (top 30), defScope (top 30), [], []⟩
def h_is_rule : He.DefD := ⟨("is_rule", none), "is_rule", "is_rule", defArgs (top 36), defBody (top 36), defScope (top 36), [], []⟩
def h_are_pairs : He.DefD := ⟨("are_pairs", none), "are_pairs", "are_pairs", defArgs (top 37), defBody (top 37), defScope (top 37), [], []⟩
def h_look_rule : He.DefD := ⟨("look_rule", none), "look_rule", "look_rule", defArgs (top 38), defBody (top 38), defScope (top 38), [], []⟩
def h_need : He.DefD := ⟨("need", none), "need", "need", defArgs (top 39), defBody (top 39), defScope (top 39), [], []⟩
def h_led : He.DefD := ⟨("led", none), "led", "led", defArgs (top 40), defBody (top 40), defScope (top 40), [], []⟩
def h_goal : He.DefD := ⟨("goal", none), "goal", "goal", defArgs (top 41), defBody (top 41), defScope (top 41), [], []⟩
def h_goal_of : He.DefD := ⟨("goal_of", none), "goal_of", "goal_of", defArgs (top 42), defBody (top 42), defScope (top 42), [], []⟩
def h_goal_number : He.DefD := ⟨("goal_number", none), "goal_number", "goal_number", defArgs (top 43), defBody (top 43), defScope (top 43), [], []⟩
def h_goal_part : He.DefD := ⟨("goal_part", none), "goal_part", "goal_part", defArgs (top 44), defBody (top 44), defScope (top 44), [], []⟩
def h_lead : He.DefD := ⟨("lead", none), "lead", "lead", defArgs (top 45), defBody (top 45), defScope (top 45), [], []⟩
def h_behind : He.DefD := ⟨("behind", none), "behind", "behind", defArgs (top 46), defBody (top 46), defScope (top 46), [], []⟩
def h_is_view : He.DefD := ⟨("is_view", none), "is_view", "is_view", defArgs (top 48), defBody (top 48), defScope (top 48), [], []⟩
def h_put : He.DefD := ⟨("put", none), "put", "put", defArgs (top 49), defBody (top 49), defScope (top 49), [], []⟩
def h_with_part : He.DefD := ⟨("with_part", none), "with_part", "with_part", defArgs (top 50), defBody (top 50), defScope (top 50), [], []⟩
def h_fields : He.DefD := ⟨("fields", none), "fields", "fields", defArgs (top 51), defBody (top 51), defScope (top 51), [], []⟩
def h_law_cell : He.DefD := ⟨("_law_cell", none), "_law_cell", "_law_cell", defArgs (top 53), defBody (top 53), defScope (top 53), [], []⟩
def h_law_mix : He.DefD := ⟨("_law_mix", none), "_law_mix", "_law_mix", defArgs (top 54), defBody (top 54), defScope (top 54), [], []⟩
def h_law_draw : He.DefD := ⟨("_law_draw", none), "_law_draw", "_law_draw", defArgs (top 55), defBody (top 55), defScope (top 55), [], []⟩
def h_law_pick : He.DefD := ⟨("_law_pick", none), "_law_pick", "_law_pick", defArgs (top 56), defBody (top 56), defScope (top 56), [], []⟩
def h_law_refusal : He.DefD := ⟨("_law_refusal", none), "_law_refusal", "_law_refusal", defArgs (top 57), defBody (top 57), defScope (top 57), [], []⟩
def h_law_word : He.DefD := ⟨("_law_word", none), "_law_word", "_law_word", defArgs (top 58), defBody (top 58), defScope (top 58), [], []⟩
def h_law_words : He.DefD := ⟨("_law_words", none), "_law_words", "_law_words", defArgs (top 59), defBody (top 59), defScope (top 59), [], []⟩
def h_law_thing : He.DefD := ⟨("_law_thing", none), "_law_thing", "_law_thing", defArgs (top 60), defBody (top 60), defScope (top 60), [], []⟩
def h_law_same : He.DefD := ⟨("_law_same", none), "_law_same", "_law_same", defArgs (top 61), defBody (top 61), defScope (top 61), [], []⟩
def h_law_rule : He.DefD := ⟨("_law_rule", none), "_law_rule", "_law_rule", defArgs (top 62), defBody (top 62), defScope (top 62), [], []⟩
def h_law_then : He.DefD := ⟨("_law_then", none), "_law_then", "_law_then", defArgs (top 63), defBody (top 63), defScope (top 63), [], []⟩
def h_law_rule_of : He.DefD := ⟨("_law_rule_of", none), "_law_rule_of", "_law_rule_of", defArgs (top 64), defBody (top 64), defScope (top 64), [], []⟩
def h_law_levels : He.DefD := ⟨("_law_levels", none), "_law_levels", "_law_levels", defArgs (top 65), defBody (top 65), defScope (top 65), [], []⟩
def h_law_part_of : He.DefD := ⟨("_law_part_of", none), "_law_part_of", "_law_part_of", defArgs (top 66), defBody (top 66), defScope (top 66), [], []⟩
def h_law_inside : He.DefD := ⟨("_law_inside", none), "_law_inside", "_law_inside", defArgs (top 67), defBody (top 67), defScope (top 67), [], []⟩
def h_law_goal : He.DefD := ⟨("_law_goal", none), "_law_goal", "_law_goal", defArgs (top 68), defBody (top 68), defScope (top 68), [], []⟩
def h_law_goal_of : He.DefD := ⟨("_law_goal_of", none), "_law_goal_of", "_law_goal_of", defArgs (top 69), defBody (top 69), defScope (top 69), [], []⟩
def h_law_goal_apart : He.DefD := ⟨("_law_goal_apart", none), "_law_goal_apart", "_law_goal_apart", defArgs (top 70), defBody (top 70), defScope (top 70), [], []⟩
def h_law_told : He.DefD := ⟨("_law_told", none), "_law_told", "_law_told", defArgs (top 71), defBody (top 71), defScope (top 71), [], []⟩
def h_law_paths : He.DefD := ⟨("_law_paths", none), "_law_paths", "_law_paths", defArgs (top 72), defBody (top 72), defScope (top 72), [], []⟩
def h_law_with : He.DefD := ⟨("_law_with", none), "_law_with", "_law_with", defArgs (top 73), defBody (top 73), defScope (top 73), [], []⟩
def h_law_rec : He.DefD := ⟨("_law_rec", none), "_law_rec", "_law_rec", defArgs (top 74), defBody (top 74), defScope (top 74), [], []⟩
def h_law_others : He.DefD := ⟨("_law_others", none), "_law_others", "_law_others", defArgs (top 75), defBody (top 75), defScope (top 75), [], []⟩
def h_law : He.DefD := ⟨("law", none), "law", "law", defArgs (top 76), defBody (top 76), defScope (top 76), [], []⟩
def fn : List He.DefD := [h_is_whole, h_is_word, h_are_words, h_is_shape, h_are_parts, h_look_shape, h_is_of, h_is_one, h_is_of_kind, h_look_thing, h_part_of, h_copied, h_fits_in, h_is_rule, h_are_pairs, h_look_rule, h_need, h_led, h_goal, h_goal_of, h_goal_number, h_goal_part, h_lead, h_behind, h_is_view, h_put, h_with_part, h_fields, h_law_cell, h_law_mix, h_law_draw, h_law_pick, h_law_refusal, h_law_word, h_law_words, h_law_thing, h_law_same, h_law_rule, h_law_then, h_law_rule_of, h_law_levels, h_law_part_of, h_law_inside, h_law_goal, h_law_goal_of, h_law_goal_apart, h_law_told, h_law_paths, h_law_with, h_law_rec, h_law_others, h_law]
def fa0 : List He.Fa := [.glo "is_whole", .glo "is_word", .glo "are_words", .glo "is_shape", .glo "are_parts", .glo "look_shape", .glo "is_of", .glo "is_one", .glo "is_of_kind", .glo "look_thing", .glo "part_of", .glo "copied", .glo "fits_in", .glo "is_rule", .glo "are_pairs", .glo "look_rule"]
def fa1 : List He.Fa := [.glo "need", .glo "led", .glo "goal", .glo "goal_of", .glo "goal_number", .glo "goal_part", .glo "lead", .glo "behind", .glo "is_view", .glo "put", .glo "with_part", .glo "fields", .glo "_law_cell", .glo "_law_mix", .glo "_law_draw", .glo "_law_pick"]
def fa2 : List He.Fa := [.glo "_law_refusal", .glo "_law_word", .glo "_law_words", .glo "_law_thing", .glo "_law_same", .glo "_law_rule", .glo "_law_then", .glo "_law_rule_of", .glo "_law_levels", .glo "_law_part_of", .glo "_law_inside", .glo "_law_goal", .glo "_law_goal_of", .glo "_law_goal_apart", .glo "_law_told", .glo "_law_paths"]
def fa3 : List He.Fa := [.glo "_law_with", .glo "_law_rec", .glo "_law_others", .glo "law", .glo "SIZES_shapes", .glo "SIZES_rules", .glo "BadChange", .glo "BadNumber", .glo "BadRule", .glo "BadShape", .glo "BadThing", .glo "LeadError", .glo "NoBack", .glo "TooMany", .exc "BadRule", .exc "BadShape"]
def fa4 : List He.Fa := [.exc "BadThing", .exc "NoBack", .int "MOST_WORD" 8, .int "MOST_PARTS" 4, .int "MOST_DEEP" 4, .int "FAR" 1000000, .int "MOST_NEST" 8, .int "MOST_THEN" 8, .int "MOST_BY" 1000, .str "SMALL" "abcdefghijklmnopqrstuvwxyz", .str "LETTERS" "abc", .free "ValueError", .free "abs", .free "all", .free "any", .free "bool"]
def fa5 : List He.Fa := [.free "dict", .free "int", .free "isinstance", .free "len", .free "list", .free "max", .free "min", .free "range", .free "set", .free "sorted", .free "str", .free "tuple"]
def fa : List He.Fa := fa0 ++ fa1 ++ fa2 ++ fa3 ++ fa4 ++ fa5
def tbs : List He.Tab := [(fun K => He.ga K "SIZES_shapes", ["number", "truth", "word", "text", "list", "rec", "kind", "maybe"]), (fun K => He.ga K "SIZES_rules", ["keep", "give", "field", "make", "each", "then", "cases", "tag", "add", "times", "rename", "some", "else", "first", "size", "wide"])]
def exq0 (K : Frag) : Bool := tabB "SIZES_shapes" tab_SIZES_shapes K
def exq1 (K : Frag) : Bool := tabB "SIZES_rules" tab_SIZES_rules K
def exq2 (K : Frag) : Bool := (caught_LeadError.all fun y => PySem.W.exmOne K (.ref (He.ga K y)) (.ref (He.ga K "LeadError")) == some true)
def exq3 (K : Frag) : Bool := (isT_BadChange.all fun y => excIsB K (He.ga K y) && PySem.W.kitOne K (.ref (He.ga K y)) (.ref (He.ga K "BadChange")) == some true)
def exq4 (K : Frag) : Bool := (isF_BadChange.all fun y => excIsB K (He.ga K y) && PySem.W.kitOne K (.ref (He.ga K y)) (.ref (He.ga K "BadChange")) == some false)
def exq5 (K : Frag) : Bool := (isT_BadNumber.all fun y => excIsB K (He.ga K y) && PySem.W.kitOne K (.ref (He.ga K y)) (.ref (He.ga K "BadNumber")) == some true)
def exq6 (K : Frag) : Bool := (isF_BadNumber.all fun y => excIsB K (He.ga K y) && PySem.W.kitOne K (.ref (He.ga K y)) (.ref (He.ga K "BadNumber")) == some false)
def exq7 (K : Frag) : Bool := (isT_BadRule.all fun y => excIsB K (He.ga K y) && PySem.W.kitOne K (.ref (He.ga K y)) (.ref (He.ga K "BadRule")) == some true)
def exq8 (K : Frag) : Bool := (isF_BadRule.all fun y => excIsB K (He.ga K y) && PySem.W.kitOne K (.ref (He.ga K y)) (.ref (He.ga K "BadRule")) == some false)
def exq9 (K : Frag) : Bool := (isT_BadShape.all fun y => excIsB K (He.ga K y) && PySem.W.kitOne K (.ref (He.ga K y)) (.ref (He.ga K "BadShape")) == some true)
def exq10 (K : Frag) : Bool := (isF_BadShape.all fun y => excIsB K (He.ga K y) && PySem.W.kitOne K (.ref (He.ga K y)) (.ref (He.ga K "BadShape")) == some false)
def exq11 (K : Frag) : Bool := (isT_BadThing.all fun y => excIsB K (He.ga K y) && PySem.W.kitOne K (.ref (He.ga K y)) (.ref (He.ga K "BadThing")) == some true)
def exq12 (K : Frag) : Bool := (isF_BadThing.all fun y => excIsB K (He.ga K y) && PySem.W.kitOne K (.ref (He.ga K y)) (.ref (He.ga K "BadThing")) == some false)
def exq13 (K : Frag) : Bool := (isT_NoBack.all fun y => excIsB K (He.ga K y) && PySem.W.kitOne K (.ref (He.ga K y)) (.ref (He.ga K "NoBack")) == some true)
def exq14 (K : Frag) : Bool := (isF_NoBack.all fun y => excIsB K (He.ga K y) && PySem.W.kitOne K (.ref (He.ga K y)) (.ref (He.ga K "NoBack")) == some false)
def exq15 (K : Frag) : Bool := (isT_TooMany.all fun y => excIsB K (He.ga K y) && PySem.W.kitOne K (.ref (He.ga K y)) (.ref (He.ga K "TooMany")) == some true)
def exq16 (K : Frag) : Bool := (isF_TooMany.all fun y => excIsB K (He.ga K y) && PySem.W.kitOne K (.ref (He.ga K y)) (.ref (He.ga K "TooMany")) == some false)
def exq17 (K : Frag) : Bool := (isT_ValueError.all fun y => excIsB K (He.ga K y) && PySem.W.kitOne K (.ref (He.ga K y)) (.type "ValueError") == some true)
def exq18 (K : Frag) : Bool := (isF_ValueError.all fun y => excIsB K (He.ga K y) && PySem.W.kitOne K (.ref (He.ga K y)) (.type "ValueError") == some false)
def exql : List (Frag → Bool) := [exq0, exq1, exq2, exq3, exq4, exq5, exq6, exq7, exq8, exq9, exq10, exq11, exq12, exq13, exq14, exq15, exq16, exq17, exq18]
def exq (K : Frag) : Bool := exql.all fun f => f K
abbrev R : PySem.W.OpenRow := PySem.W.OpenLaw.row PySem.Challenge.rw_shapeleads_k42_whole_views
abbrev hk : PySem.W.Hook := He.hookX 2 fa fn tbs [] exq
def ob (s : PySem.W.SharedT) : He.AlX := He.obsX 2 fa fn tbs [] exq (HandSHeadRun.getT s)
theorem ob_eq (s : PySem.W.SharedT) : ob s = hk.obs s.abs := He.obsX_eq (HandSHeadRun.getT_eq s)
def loose0 : List PySem.Str := ["LeadError", "BadShape", "BadThing", "BadRule", "BadNumber", "TooMany", "NoBack", "BadChange", "SMALL", "LETTERS", "MOST_WORD", "MOST_PARTS", "MOST_DEEP", "FAR", "SIZES_shapes", "is_whole"]
def loose1 : List PySem.Str := ["is_word", "are_words", "is_shape", "are_parts", "look_shape", "is_of", "is_one", "is_of_kind", "look_thing", "part_of", "copied", "fits_in", "MOST_NEST", "MOST_THEN", "MOST_BY", "SIZES_rules"]
def loose2 : List PySem.Str := ["is_rule", "are_pairs", "look_rule", "need", "led", "goal", "goal_of", "goal_number", "goal_part", "lead", "behind", "is_view", "put", "with_part", "fields", "_law_cell"]
def loose3 : List PySem.Str := ["_law_mix", "_law_draw", "_law_pick", "_law_refusal", "_law_word", "_law_words", "_law_thing", "_law_same", "_law_rule", "_law_then", "_law_rule_of", "_law_levels", "_law_part_of", "_law_inside", "_law_goal", "_law_goal_of"]
def loose4 : List PySem.Str := ["_law_goal_apart", "_law_told", "_law_paths", "_law_with", "_law_rec", "_law_others"]
def loose : List PySem.Str := loose0 ++ loose1 ++ loose2 ++ loose3 ++ loose4
theorem headNo (w : World) : HandSHeadRun.RunEq R (PySem.W.view R.prog [76]) hk ob 4000 loose (w.withFollow "special-get-raises" false) := by intro os; kernel_rfl
theorem headYes (w : World) : HandSHeadRun.RunEq R (PySem.W.view R.prog [76]) hk ob 4000 loose (w.withFollow "special-get-raises" true) := by intro os; kernel_rfl
theorem run (w : World) : HandSHeadRun.RunEq R (PySem.W.view R.prog [76]) hk ob 4000 loose w :=
  PySem.W.byRow2 "special-get-raises" (P := fun w => HandSHeadRun.RunEq R (PySem.W.view R.prog [76]) hk ob 4000 loose w) headNo headYes w
theorem z_t : R.prog.tablesWhole = true := by kernel_rfl
theorem z_h (h : R.wellSaid = true → R.Holds) : PySem.Challenge.rw_shapeleads_k42_whole_views.Holds := by
  w_on; o_law
  exact h (by assumption)
end Law
/-! Layer G: data as trees over an immutable part of the abstract heap; judgements whose readings are plain functions. -/
namespace G
open PySem L2
open PySem.W (Frag)

/-! ### data -/
inductive D where
  | non | bl (b : Bool) | int (i : Int) | str (x : Str)
  | lst (xs : List D) | tup (xs : List D) | dct (kvs : List (Key × D))
/-- what a name may hold: data; the script; a hot object (the town, a reader); a caught exception of the class named c -/
inductive A where
  | d (x : D) | scr (ns : List Int) | hot (k : Nat) | exc (c : Str)
/-- what a hot object holds: so many noughts; a reader's text and place -/
inductive Hv where
  | zs (n : Nat) | rd (x : Str) (i : Int)
abbrev Sx := List Hv
inductive Res (α : Type) where
  | ok (a : α) (s : Sx) | exc (c : Str) (s : Sx) | stuck
abbrev Rho := List (Option A)
inductive Out where
  | nx (ρ : Rho) (s : Sx) | rt (d : D) (s : Sx) | xc (c : Str) (ρ : Rho) (s : Sx) | stuck
abbrev Fe := Rho → Sx → Res A
abbrev Ft := Rho → Sx → Res Bool
abbrev Fa := Rho → Sx → Res (List A)
abbrev Fs := Rho → Sx → Out
def Res.bind {α β : Type} (r : Res α) (f : α → Sx → Res β) : Res β := match r with
  | .ok a s => f a s
  | .exc c s => .exc c s
  | .stuck => .stuck
@[simp] theorem bind_ok {α β : Type} (a : α) (s : Sx) (f : α → Sx → Res β) : (Res.ok a s).bind f = f a s := rfl
@[simp] theorem bind_exc {α β : Type} (c : Str) (s : Sx) (f : α → Sx → Res β) : (Res.exc c s).bind f = .exc c s := rfl
@[simp] theorem bind_stuck {α β : Type} (f : α → Sx → Res β) : (Res.stuck : Res α).bind f = .stuck := rfl

/-- a caught exception of the class named c -/
def XO (K : Frag) (c : Str) (a : Addr) : HO := .ext fun h => ∃ (oe : Obj) (vs : Array Value), h.get? a = some oe ∧ Zc (.ref (He.ga K c)) none oe ∧ oe.data = .fields vs

/-- a text of a key is no longer than texts are -/
def keyOk : Key → Prop
  | .inl _ => True
  | .inr z => z.length ≤ sizeLine
/-- a tuple, as it was laid -/
def TupIn (I : Hp) (a : Addr) (vs : List V) : Prop := ∃ o : Obj, I a = some (.frz o (.tup vs)) ∧ o.dict = none
mutual
inductive Rep (I : Hp) : V → D → Prop
  | non : Rep I .non .non
  | bl (b : Bool) : Rep I (.bl b) (.bl b)
  | int (i : Int) : Rep I (.int i) (.int i)
  | str (x : Str) : x.length ≤ sizeLine → Rep I (.str x) (.str x)
  | lst {a : Addr} {vs : List V} {ds : List D} : I a = some (.lst vs) → vs.length ≤ sizeLine → Reps I vs ds → Rep I (.ref a) (.lst ds)
  | tup {a : Addr} {vs : List V} {ds : List D} : TupIn I a vs → vs.length ≤ sizeLine → Reps I vs ds → Rep I (.ref a) (.tup ds)
  | dct {a : Addr} {ws : List (Key × V)} {kvs : List (Key × D)} : Rd I a (.dK ws) → ws.length ≤ sizeLine → Repk I ws kvs → Rep I (.ref a) (.dct kvs)
inductive Reps (I : Hp) : List V → List D → Prop
  | nil : Reps I [] []
  | cons {v : V} {vs : List V} {d : D} {ds : List D} : Rep I v d → Reps I vs ds → Reps I (v :: vs) (d :: ds)
inductive Repk (I : Hp) : List (Key × V) → List (Key × D) → Prop
  | nil : Repk I [] []
  | cons {k : Key} {v : V} {ws : List (Key × V)} {d : D} {kvs : List (Key × D)} : keyOk k → Rep I v d → Repk I ws kvs → Repk I ((k, v) :: ws) ((k, d) :: kvs)
end
inductive RepA (K : Frag) (hot : List Addr) (I : Hp) : V → A → Prop
  | d {v : V} {x : D} : Rep I v x → RepA K hot I v (.d x)
  | scr {a : Addr} {ns : List Int} : SqL K I a (ns.map V.int) → RepA K hot I (.ref a) (.scr ns)
  | hot {a : Addr} {k : Nat} : hot[k]? = some a → RepA K hot I (.ref a) (.hot k)
  | exc {a : Addr} {c : Str} : I a = some (XO K c a) → RepA K hot I (.ref a) (.exc c)
abbrev RepsA (K : Frag) (hot : List Addr) (I : Hp) : List V → List A → Prop := Paired (RepA K hot I)

/-- what is read in I may be read in J -/
structure ExtR (I J : Hp) : Prop where
  lst : ∀ a vs, I a = some (.lst vs) → J a = some (.lst vs)
  tup : ∀ a vs, TupIn I a vs → TupIn J a vs
  dct : ∀ a ws, Rd I a (.dK ws) → Rd J a (.dK ws)
  sql : ∀ a vs, Rd I a (.lst vs) → Rd J a (.lst vs)
  exc : ∀ a φ, I a = some (.ext φ) → J a = some (.ext φ)
def Ext (I J : Hp) : Prop := ∀ a o, I a = some o → J a = some o
theorem Ext.refl (I : Hp) : Ext I I := fun _ _ h => h
theorem Ext.trans {I J L : Hp} (a : Ext I J) (b : Ext J L) : Ext I L := fun x o h => b x o (a x o h)
theorem Ext.rd {I J : Hp} (e : Ext I J) {a : Addr} {u : HO} (h : Rd I a u) : Rd J a u := by
  rcases h with h | ⟨o, h⟩
  · exact .inl (e _ _ h)
  · exact .inr ⟨o, e _ _ h⟩
theorem TupIn.ext {I J : Hp} {a : Addr} {vs : List V} (h : TupIn I a vs) (e : Ext I J) : TupIn J a vs := let ⟨o, h1, h2⟩ := h; ⟨o, e _ _ h1, h2⟩
theorem TupIn.sq {K : Frag} {I H : Hp} {a : Addr} {vs : List V} (h : TupIn I a vs) (e : Ext I H) : SqT K H a vs := let ⟨o, h1, _⟩ := h; .inl (.inr ⟨o, e _ _ h1⟩)
theorem TupIn.new {I : Hp} {p : Addr} {o : Obj} {vs : List V} (h : o.dict = none) : TupIn (upd I p (.frz o (.tup vs))) p vs := ⟨o, upd_same, h⟩
theorem Ext.r {I J : Hp} (e : Ext I J) : ExtR I J := ⟨fun _ _ h => e _ _ h, fun _ _ h => h.ext e, fun _ _ h => e.rd h, fun _ _ h => e.rd h, fun _ _ h => e _ _ h⟩
def Pre (hot hot' : List Addr) : Prop := ∀ (k : Nat) (a : Addr), hot[k]? = some a → hot'[k]? = some a
theorem Pre.refl (hot : List Addr) : Pre hot hot := fun _ _ h => h

mutual
theorem Rep.mono {I J : Hp} (e : ExtR I J) : ∀ {v : V} {d : D}, Rep I v d → Rep J v d
  | _, _, .non => .non
  | _, _, .bl b => .bl b
  | _, _, .int i => .int i
  | _, _, .str x z => .str x z
  | _, _, .lst h z r => .lst (e.lst _ _ h) z (Reps.mono e r)
  | _, _, .tup h z r => .tup (e.tup _ _ h) z (Reps.mono e r)
  | _, _, .dct h z r => .dct (e.dct _ _ h) z (Repk.mono e r)
theorem Reps.mono {I J : Hp} (e : ExtR I J) : ∀ {vs : List V} {ds : List D}, Reps I vs ds → Reps J vs ds
  | _, _, .nil => .nil
  | _, _, .cons h r => .cons (Rep.mono e h) (Reps.mono e r)
theorem Repk.mono {I J : Hp} (e : ExtR I J) : ∀ {ws : List (Key × V)} {kvs : List (Key × D)}, Repk I ws kvs → Repk J ws kvs
  | _, _, .nil => .nil
  | _, _, .cons z h r => .cons z (Rep.mono e h) (Repk.mono e r)
end
theorem RepA.mono {K : Frag} {hot hot' : List Addr} {I J : Hp} (e : ExtR I J) (p : Pre hot hot') {v : V} {a : A} : RepA K hot I v a → RepA K hot' J v a
  | .d h => .d (h.mono e)
  | .scr h => .scr (by
      rcases h with h | h
      · exact .inl (e.sql _ _ h)
      · exact .inr h)
  | .hot h => .hot (p _ _ h)
  | .exc h => .exc (e.exc _ _ h)
theorem RepsA.mono {K : Frag} {hot hot' : List Addr} {I J : Hp} (e : ExtR I J) (p : Pre hot hot') : ∀ {vs : List V} {as : List A}, RepsA K hot I vs as → RepsA K hot' J vs as
  | _, _, .nil => .nil
  | _, _, .cons h r => .cons (h.mono e p) (RepsA.mono e p r)
theorem Rep.ext {I J : Hp} {v : V} {d : D} (h : Rep I v d) (e : Ext I J) : Rep J v d := h.mono e.r
theorem Reps.ext {I J : Hp} {v : List V} {d : List D} (h : Reps I v d) (e : Ext I J) : Reps J v d := h.mono e.r
theorem Repk.ext {I J : Hp} {v : List (Key × V)} {d : List (Key × D)} (h : Repk I v d) (e : Ext I J) : Repk J v d := h.mono e.r
theorem RepA.ext {K : Frag} {hot : List Addr} {I J : Hp} {v : V} {a : A} (h : RepA K hot I v a) (e : Ext I J) : RepA K hot J v a := h.mono e.r (Pre.refl _)
theorem RepsA.ext {K : Frag} {hot : List Addr} {I J : Hp} {v : List V} {a : List A} (h : RepsA K hot I v a) (e : Ext I J) : RepsA K hot J v a := RepsA.mono e.r (Pre.refl _) h
theorem RepA.dat {K : Frag} {hot : List Addr} {I : Hp} {v : V} {x : D} (h : RepA K hot I v (.d x)) : Rep I v x := by cases h; assumption
theorem Reps.length {I : Hp} : ∀ {vs : List V} {ds : List D}, Reps I vs ds → vs.length = ds.length
  | _, _, .nil => rfl
  | _, _, .cons _ r => by simp [Reps.length r]
theorem Repk.length {I : Hp} : ∀ {vs : List (Key × V)} {ds : List (Key × D)}, Repk I vs ds → vs.length = ds.length
  | _, _, .nil => rfl
  | _, _, .cons _ _ r => by simp [Repk.length r]
theorem Reps.append {I : Hp} : ∀ {vs ws : List V} {ds es : List D}, Reps I vs ds → Reps I ws es → Reps I (vs ++ ws) (ds ++ es)
  | _, _, _, _, .nil, s => s
  | _, _, _, _, .cons h r, s => .cons h (Reps.append r s)
theorem Reps.one {I : Hp} {v : V} {d : D} (h : Rep I v d) : Reps I [v] [d] := .cons h .nil
theorem Reps.get {I : Hp} : ∀ {vs : List V} {ds : List D}, Reps I vs ds → ∀ {i : Nat} {d : D}, ds[i]? = some d → ∃ v, vs[i]? = some v ∧ Rep I v d
  | _, _, .nil, i, d, h => by simp at h
  | _, _, .cons h r, 0, d, e => by simp at e; subst e; exact ⟨_, rfl, h⟩
  | _, _, .cons h r, i + 1, d, e => by
    obtain ⟨v, h1, h2⟩ := Reps.get r (i := i) (d := d) (by simpa using e)
    exact ⟨v, by simpa using h1, h2⟩
theorem Reps.getV {I : Hp} : ∀ {vs : List V} {ds : List D}, Reps I vs ds → ∀ {i : Nat} {v : V}, vs[i]? = some v → ∃ d, ds[i]? = some d ∧ Rep I v d
  | _, _, .nil, i, d, h => by simp at h
  | _, _, .cons h r, 0, d, e => by simp at e; subst e; exact ⟨_, rfl, h⟩
  | _, _, .cons h r, i + 1, d, e => by
    obtain ⟨v, h1, h2⟩ := Reps.getV r (i := i) (v := d) (by simpa using e)
    exact ⟨v, by simpa using h1, h2⟩
theorem Reps.set {I : Hp} {v : V} {d : D} (hv : Rep I v d) : ∀ {vs : List V} {ds : List D} (i : Nat), Reps I vs ds → Reps I (vs.set i v) (ds.set i d)
  | _, _, _, .nil => .nil
  | _, _, 0, .cons h r => .cons hv r
  | _, _, i + 1, .cons h r => .cons h (Reps.set hv i r)
theorem Reps.take {I : Hp} : ∀ {vs : List V} {ds : List D} (i : Nat), Reps I vs ds → Reps I (vs.take i) (ds.take i)
  | _, _, 0, _ => .nil
  | _, _, _ + 1, .nil => .nil
  | _, _, i + 1, .cons h r => .cons h (Reps.take i r)
theorem Reps.drop {I : Hp} : ∀ {vs : List V} {ds : List D} (i : Nat), Reps I vs ds → Reps I (vs.drop i) (ds.drop i)
  | _, _, 0, h => h
  | _, _, _ + 1, .nil => .nil
  | _, _, i + 1, .cons h r => Reps.drop i r
theorem Reps.reverse {I : Hp} : ∀ {vs : List V} {ds : List D}, Reps I vs ds → Reps I vs.reverse ds.reverse
  | _, _, .nil => .nil
  | _, _, .cons h r => by
    rw [List.reverse_cons, List.reverse_cons]
    exact (Reps.reverse r).append (Reps.one h)

/-! ### the world -/
def HotAt (K : Frag) (H : Hp) (a : Addr) : Hv → Prop
  | .zs n => H a = some (.lst (List.replicate n (.int 0)))
  | .rd x i => ∃ dx, H a = some (.ins (He.ga K "Reader") dx [(("text" : Str), .str x), (("at" : Str), .int i)])
theorem HotAt.some {K : Frag} {H : Hp} {a : Addr} : ∀ {hv : Hv}, HotAt K H a hv → ∃ o, H a = some o
  | .zs _, h => ⟨_, h⟩
  | .rd _ _, ⟨_, h⟩ => ⟨_, h⟩
theorem HotAt.at {K : Frag} {H H' : Hp} {a : Addr} (e : ∀ o, H a = Option.some o → H' a = Option.some o) : ∀ {hv : Hv}, HotAt K H a hv → HotAt K H' a hv
  | .zs _, h => e _ h
  | .rd _ _, ⟨dx, h⟩ => ⟨dx, e _ h⟩
structure Wld (K : Frag) (H : Hp) (S : Sx) (I : Hp) (hot : List Addr) : Prop where
  ext : Ext I H
  len : hot.length = S.length
  at_ : ∀ (k : Nat) a hv, hot[k]? = some a → S[k]? = some hv → HotAt K H a hv
  off : ∀ a ∈ hot, I a = none
  nd : hot.Nodup
theorem Wld.there {K : Frag} {H : Hp} {S : Sx} {I : Hp} {hot : List Addr} (w : Wld K H S I hot) {a : Addr} (h : a ∈ hot) : ∃ o, H a = some o := by
  obtain ⟨k, hk, e⟩ := List.mem_iff_getElem.mp h
  have h2 : k < S.length := by rw [← w.len]; exact hk
  exact (w.at_ k a S[k] (by rw [List.getElem?_eq_getElem hk, e]) (List.getElem?_eq_getElem h2)).some
structure Stp (hot : List Addr) (H I H' I' : Hp) : Prop where
  ext : Ext I I'
  keep : ∀ a o, H a = some o → a ∉ hot → H' a = some o
  stay : ∀ a o, H a = some o → ∃ o', H' a = some o'
  new : ∀ a o, I' a = some o → I a = some o ∨ H a = none
theorem Stp.refl (hot : List Addr) (H I : Hp) : Stp hot H I H I := ⟨Ext.refl _, fun _ _ h _ => h, fun _ o h => ⟨o, h⟩, fun _ _ h => .inl h⟩
theorem Stp.back {hot : List Addr} {H I H' I' : Hp} (s : Stp hot H I H' I') {a : Addr} (h : H' a = none) : H a = none := by
  cases e : H a with
  | none => rfl
  | some o =>
    obtain ⟨o', q⟩ := s.stay a o e
    rw [h] at q; cases q
theorem Stp.trans {hot : List Addr} {H I H1 I1 H2 I2 : Hp} (a : Stp hot H I H1 I1) (b : Stp hot H1 I1 H2 I2) : Stp hot H I H2 I2 :=
  ⟨a.ext.trans b.ext, fun x o h n => b.keep x o (a.keep x o h n) n, fun x o h => by
    obtain ⟨o1, q⟩ := a.stay x o h
    exact b.stay x o1 q, fun x o h => by
    rcases b.new x o h with h | h
    · exact a.new x o h
    · exact .inr (a.back h)⟩
theorem Stp.more {hot hot' : List Addr} {H I H' I' : Hp} (s : Stp hot H I H' I') (h : ∀ a ∈ hot, a ∈ hot') : Stp hot' H I H' I' :=
  ⟨s.ext, fun a o e n => s.keep a o e fun z => n (h a z), s.stay, s.new⟩

def OwnAt (hot : List Addr) (I H : Hp) (a : Addr) (d : D) : Prop :=
  I a = none ∧ a ∉ hot ∧ ((∃ vs ds, d = .lst ds ∧ H a = some (.lst vs) ∧ vs.length ≤ sizeLine ∧ Reps I vs ds) ∨ ∃ ws kvs, d = .dct kvs ∧ H a = some (.dK ws) ∧ ws.length ≤ sizeLine ∧ Repk I ws kvs)
theorem OwnAt.some {hot : List Addr} {I H : Hp} {a : Addr} {d : D} (o : OwnAt hot I H a d) : ∃ o, H a = some o := by
  rcases o.2.2 with ⟨_, _, _, h, _⟩ | ⟨_, _, _, h, _⟩
  · exact ⟨_, h⟩
  · exact ⟨_, h⟩
structure Bs where
  H : Hp
  I : Hp
structure Rel (K : Frag) (B : Bs) (M : List Nat) (σ : L2.St) (H : Hp) (ρ : Rho) (S : Sx) (I : Hp) (hot : List Addr) : Prop where
  wd : Wld K H S I hot
  st : Stp hot B.H B.I H I
  len : σ.length = ρ.length
  val : ∀ (i : Nat) d, ρ[i]? = some (some d) → i ∉ M → ∃ v, σ[i]? = some (some v) ∧ RepA K hot I v d
  own : ∀ i ∈ M, ∃ d a, ρ[i]? = some (some (.d d)) ∧ σ[i]? = some (some (.ref a)) ∧ OwnAt hot I H a d ∧ B.H a = none
  sep : ∀ i ∈ M, ∀ j ∈ M, i ≠ j → σ[i]? ≠ σ[j]?

section
variable {K : Frag} {B : Bs} {M : List Nat} {σ : L2.St} {H H' : Hp} {ρ : Rho} {S S' : Sx} {I I' : Hp} {hot : List Addr}
/-- behind a step that leaves the owned ones as they were (a call, a new object) -/
theorem Rel.step (r : Rel K B M σ H ρ S I hot) (s : Stp hot H I H' I') (w : Wld K H' S' I' hot) : Rel K B M σ H' ρ S' I' hot :=
  ⟨w, r.st.trans s, r.len, fun i d h n => by
    obtain ⟨v, h1, h2⟩ := r.val i d h n
    exact ⟨v, h1, h2.ext s.ext⟩, fun i hi => by
    obtain ⟨d, a, h1, h2, ⟨h3, h4, h5⟩, h6⟩ := r.own i hi
    have an : I' a = none := by
      cases e : I' a with
      | none => rfl
      | some o =>
        rcases s.new a o e with q | q
        · rw [h3] at q; cases q
        · obtain ⟨o', z⟩ := OwnAt.some ⟨h3, h4, h5⟩
          rw [q] at z; cases z
    refine ⟨d, a, h1, h2, ⟨an, h4, ?_⟩, h6⟩
    rcases h5 with ⟨vs, ds, e, ha, hz, hr⟩ | ⟨ws, kvs, e, ha, hz, hr⟩
    · exact .inl ⟨vs, ds, e, s.keep _ _ ha h4, hz, hr.ext s.ext⟩
    · exact .inr ⟨ws, kvs, e, s.keep _ _ ha h4, hz, hr.ext s.ext⟩, r.sep⟩
theorem upd_ext {I : Hp} {p : Addr} {o : HO} (h : I p = none) : Ext I (upd I p o) := fun a u e => by
  rw [upd_ne (ne_of_none e h)]; exact e
theorem Wld.none {H : Hp} {S : Sx} {I : Hp} {hot : List Addr} {p : Addr} (w : Wld K H S I hot) (h : H p = none) : I p = none ∧ p ∉ hot := by
  refine ⟨?_, fun z => ?_⟩
  · cases e : I p with
    | none => rfl
    | some o => rw [w.ext p o e] at h; cases h
  · obtain ⟨o, q⟩ := w.there z
    rw [h] at q; cases q
/-- a new immutable object -/
theorem stp_new {hot : List Addr} {H I : Hp} {p : Addr} {o : HO} (h : H p = none) (hi : I p = none) : Stp hot H I (upd H p o) (upd I p o) :=
  ⟨upd_ext hi, fun a u e _ => by rw [upd_ne (ne_of_none e h)]; exact e, fun a u e => ⟨u, by rw [upd_ne (ne_of_none e h)]; exact e⟩, fun a u e => by
    by_cases z : a = p
    · subst z; exact .inr h
    · rw [upd_ne z] at e; exact .inl e⟩
theorem Wld.new {H : Hp} {S : Sx} {I : Hp} {hot : List Addr} {p : Addr} {o : HO} (w : Wld K H S I hot) (h : H p = Option.none) : Wld K (upd H p o) S (upd I p o) hot := by
  obtain ⟨hi, hh⟩ := w.none h
  refine ⟨fun a u e => ?_, w.len, fun k a hv e1 e2 => ?_, fun a ha => ?_, w.nd⟩
  · by_cases z : a = p
    · subst z; rw [upd_same] at e ⊢; exact e
    · rw [upd_ne z] at e ⊢; exact w.ext a u e
  · exact (w.at_ k a hv e1 e2).at fun o e => by rw [upd_ne (ne_of_none e h)]; exact e
  · rw [upd_ne (fun z : a = p => hh (by rw [← z]; exact ha))]; exact w.off a ha
theorem Rel.new {p : Addr} {o : HO} (r : Rel K B M σ H ρ S I hot) (h : H p = none) : Rel K B M σ (upd H p o) ρ S (upd I p o) hot :=
  r.step (stp_new h (r.wd.none h).1) (r.wd.new h)
end

/-- owned ones may be given up: they are immutable from then on -/
theorem Rel.freeze {K : Frag} {B : Bs} {M M' : List Nat} {σ : L2.St} {H : Hp} {ρ : Rho} {S : Sx} {I : Hp} {hot : List Addr} (r : Rel K B M σ H ρ S I hot) (h : ∀ i ∈ M', i ∈ M) : ∃ J, Ext I J ∧ Rel K B M' σ H ρ S J hot := by
  classical
  let O : Addr → Prop := fun a => ∃ i ∈ M, i ∉ M' ∧ σ[i]? = some (some (.ref a))
  let J : Hp := fun a => if O a then H a else I a
  have hO : ∀ a, O a → I a = none ∧ a ∉ hot ∧ B.H a = none := fun a ⟨i, hi, _, e⟩ => by
    obtain ⟨d, b, _, h2, h3, h4⟩ := r.own i hi
    rw [e] at h2
    cases h2
    exact ⟨h3.1, h3.2.1, h4⟩
  have jO : ∀ a, O a → J a = H a := fun a o => if_pos o
  have jN : ∀ a, ¬ O a → J a = I a := fun a o => if_neg o
  have ext : Ext I J := fun a o e => by
    have n : ¬ O a := fun z => by rw [(hO a z).1] at e; cases e
    rw [jN a n]; exact e
  refine ⟨J, ext, ⟨⟨fun a o e => ?_, r.wd.len, r.wd.at_, fun a ha => ?_, r.wd.nd⟩, ⟨r.st.ext.trans ext, r.st.keep, r.st.stay, fun a o e => ?_⟩, r.len, fun i d e hn => ?_, fun i hi => ?_, fun i hi j hj => r.sep i (h i hi) j (h j hj)⟩⟩
  · by_cases z : O a
    · rw [jO a z] at e; exact e
    · rw [jN a z] at e; exact r.wd.ext a o e
  · rw [jN a fun z => (hO a z).2.1 ha]; exact r.wd.off a ha
  · by_cases z : O a
    · exact .inr (hO a z).2.2
    · rw [jN a z] at e; exact r.st.new a o e
  · by_cases hm : i ∈ M
    · obtain ⟨d', a, e1, e2, ⟨_, _, e3⟩, _⟩ := r.own i hm
      rw [e] at e1
      cases e1
      have z : O a := ⟨i, hm, hn, e2⟩
      refine ⟨.ref a, e2, .d ?_⟩
      rcases e3 with ⟨vs, ds, rfl, ha, hz, hr⟩ | ⟨ws, kvs, rfl, ha, hz, hr⟩
      · exact .lst ((jO a z).trans ha) hz (hr.ext ext)
      · exact .dct (.inl ((jO a z).trans ha)) hz (hr.ext ext)
    · obtain ⟨v, e1, e2⟩ := r.val i d e hm
      exact ⟨v, e1, e2.ext ext⟩
  · obtain ⟨d, a, e1, e2, ⟨n1, n2, e3⟩, n3⟩ := r.own i (h i hi)
    have z : ¬ O a := fun ⟨j, hj, hj', e⟩ => r.sep i (h i hi) j hj (fun q => hj' (q ▸ hi)) (e2.trans e.symm)
    refine ⟨d, a, e1, e2, ⟨(jN a z).trans n1, n2, ?_⟩, n3⟩
    rcases e3 with ⟨vs, ds, e, ha, hz, hr⟩ | ⟨ws, kvs, e, ha, hz, hr⟩
    · exact .inl ⟨vs, ds, e, ha, hz, hr.ext ext⟩
    · exact .inr ⟨ws, kvs, e, ha, hz, hr.ext ext⟩

/-! ### readings -/
/-- the context of a piece of code: the wish about exceptions, the mask there -/
structure Xc where
  W : WX
  M : List Nat
section
variable (K : Frag)
def Xc.out (x : Xc) (B : Bs) (σ : L2.St) (ρ : Rho) (hot : List Addr) (c : Str) (S' : Sx) : Prop := ∀ σ' H' I', σ' = σ → Rel K B x.M σ' H' ρ S' I' hot → x.W (.ref (He.ga K c)) none σ' H'
/-- behind a piece that ends with r; RX: how a value stands for what is told -/
def After (x : Xc) (B : Bs) (M : List Nat) (σ : L2.St) (ρ : Rho) (hot : List Addr) {α β : Type} (RX : Hp → β → α → Prop) (H I : Hp) (r : Res α) (Q : β → Hp → Prop) : Prop := match r with
  | .ok a S' => ∀ v H' I', Rel K B M σ H' ρ S' I' hot → Stp hot H I H' I' → RX I' v a → Q v H'
  | .exc c S' => x.out K B σ ρ hot c S'
  | .stuck => False
def tOf (x : Xc) (M : List Nat) (f : Fe) : TE := fun σ H Q => ∃ B ρ S I hot, Rel K B M σ H ρ S I hot ∧ After K x B M σ ρ hot (RepA K hot) H I (f ρ S) Q
def RepB : Hp → Bool → Bool → Prop := fun _ v a => v = a
def ttOf (x : Xc) (M : List Nat) (f : Ft) : TT := fun σ H Q => ∃ B ρ S I hot, Rel K B M σ H ρ S I hot ∧ After K x B M σ ρ hot RepB H I (f ρ S) Q
def taOf (x : Xc) (M : List Nat) (f : Fa) : TA := fun σ H Q => ∃ B ρ S I hot, Rel K B M σ H ρ S I hot ∧ After K x B M σ ρ hot (RepsA K hot) H I (f ρ S) Q
end
section
variable {K : Frag} {x : Xc} {B : Bs} {M : List Nat} {σ : L2.St} {ρ : Rho} {hot : List Addr} {H I H1 I1 : Hp} {α β γ δ : Type} {RX : Hp → β → α → Prop} {RY : Hp → δ → γ → Prop}
theorem After.mono {r : Res α} {Q Q' : β → Hp → Prop} (h : After K x B M σ ρ hot RX H I r Q) (k : ∀ v H', Q v H' → Q' v H') : After K x B M σ ρ hot RX H I r Q' := by
  cases r with
  | ok a S => exact fun v H' I' r1 s1 q => k _ _ (h v H' I' r1 s1 q)
  | exc c S => exact h
  | stuck => exact h
theorem After.from {r : Res α} {Q : β → Hp → Prop} (h : After K x B M σ ρ hot RX H I r Q) (s : Stp hot H I H1 I1) : After K x B M σ ρ hot RX H1 I1 r Q := by
  cases r with
  | ok a S => exact fun v H' I' r1 s1 q => h v H' I' r1 (s.trans s1) q
  | exc c S => exact h
  | stuck => exact h
theorem After.bind {r : Res α} {k : α → Sx → Res γ} {Q : δ → Hp → Prop} (h : After K x B M σ ρ hot RY H I (r.bind k) Q) :
    After K x B M σ ρ hot RX H I r fun v H1 => ∃ I1 S1 a, Rel K B M σ H1 ρ S1 I1 hot ∧ Stp hot H I H1 I1 ∧ RX I1 v a ∧ r = .ok a S1 ∧ After K x B M σ ρ hot RY H1 I1 (k a S1) Q := by
  cases r with
  | ok a S => exact fun v H' I' r1 s1 q => ⟨I', S, a, r1, s1, q, rfl, After.from (show After K x B M σ ρ hot RY H I (k a S) Q from h) s1⟩
  | exc c S => exact h
  | stuck => exact h
theorem After.ok {S : Sx} {a : α} {v : β} {Q : β → Hp → Prop} (h : After K x B M σ ρ hot RX H I (.ok a S) Q) (r : Rel K B M σ H ρ S I hot) (q : RX I v a) : Q v H := h v H I r (Stp.refl _ _ _) q
theorem After.new {S : Sx} {a : α} {v : β} {Q : β → Hp → Prop} {p : Addr} {o : HO} (h : After K x B M σ ρ hot RX H I (.ok a S) Q) (r : Rel K B M σ H ρ S I hot) (hp : H p = none) (q : RX (upd I p o) v a) : Q v (upd H p o) :=
  h v _ _ (r.new hp) (stp_new hp (r.wd.none hp).1) q
end
def GE (X : Cx) (x : Xc) (M : List Nat) (e : Expr) (f : Fe) : Prop := PE X e (tOf X.K x M f)
def GT (X : Cx) (x : Xc) (M : List Nat) (e : Expr) (f : Ft) : Prop := PT X e (ttOf X.K x M f)
def GA (X : Cx) (x : Xc) (M : List Nat) (es : List Expr) (f : Fa) : Prop := PA X es (taOf X.K x M f)

theorem PE.weak {X : Cx} {e : Expr} {t t' : TE} (h : PE X e t) (k : ∀ σ H Q, t' σ H Q → t σ H Q) : PE X e t' := ⟨fun pins s σ H Q I q => h.run pins s σ H Q I (k σ H Q q)⟩
theorem PT.weak {X : Cx} {e : Expr} {t t' : TT} (h : PT X e t) (k : ∀ σ H Q, t' σ H Q → t σ H Q) : PT X e t' := ⟨fun pins s σ H Q I q => h.run pins s σ H Q I (k σ H Q q)⟩
theorem PA.weak {X : Cx} {e : List Expr} {t t' : TA} (h : PA X e t) (k : ∀ σ H Q, t' σ H Q → t σ H Q) : PA X e t' := ⟨fun pos pins s σ H Q I q => h.run pos pins s σ H Q I (k σ H Q q)⟩
theorem PS.weak {X : Cx} {e : Stmt} {t t' : TS} (h : PS X e t) (k : ∀ D σ H, t' D σ H → t D σ H) : PS X e t' := ⟨fun pins s σ H D I q => h.run pins s σ H D I (k D σ H q)⟩
theorem PSs.weak {X : Cx} {e : List Stmt} {t t' : TS} (h : PSs X e t) (k : ∀ D σ H, t' D σ H → t D σ H) : PSs X e t' := ⟨fun pins s σ H D I q => h.run pins s σ H D I (k D σ H q)⟩
end G
namespace G
open PySem L2
open PySem.W (Frag)

section
variable {X : Cx} {x : Xc} {M : List Nat}
/-! ### names, constants -/
def eVar (i : Nat) : Fe := fun ρ S => match ρ[i]? with
  | some (some a) => .ok a S
  | _ => .stuck
theorem ge_var {i : Nat} {n : Str} {pos : Pos} (hN : X.N[i]? = some n := by rfl) (hv : Vis X.env.scope n := by first | exact Or.inl rfl | exact Or.inr (Or.inl rfl) | exact Or.inr (Or.inr rfl))
    (hm : i ∉ M := by decide) (hd : (n == ("__debug__" : Str)) = false := by decide) (hcd : (n == ("__classdict__" : Str)) = false := by decide) : GE X x M (.Name n pos) (eVar i) := by
  refine PE.weak (pe_var hN hv hd hcd) ?_
  rintro σ H Q ⟨B, ρ, S, I, hot, R, h⟩
  unfold eVar at h
  cases e : ρ[i]? with
  | none => rw [e] at h; exact h.elim
  | some o =>
    rw [e] at h
    cases o with
    | none => exact h.elim
    | some a =>
      obtain ⟨v, e1, r1⟩ := R.val i a e hm
      exact ⟨v, e1, h.ok R r1⟩
def eC (a : D) : Fe := fun _ S => .ok (.d a) S
theorem ge_c {e : Expr} {v : V} {d : D} (h : PE X e (tC v)) (r : ∀ I, Rep I v d) : GE X x M e (eC d) := by
  refine PE.weak h ?_
  rintro σ H Q ⟨B, ρ, S, I, hot, R, h⟩
  exact After.ok (S := S) h R (.d (r I))
theorem ge_int {i : Int} {j : Nat} {pos : Pos} : GE X x M (.Constant (.int i) j pos) (eC (.int i)) := ge_c pe_int fun _ => .int i
theorem ge_bl {b : Bool} {j : Nat} {pos : Pos} : GE X x M (.Constant (.bool b) j pos) (eC (.bl b)) := ge_c pe_bl fun _ => .bl b
theorem ge_non {j : Nat} {pos : Pos} : GE X x M (.Constant .none j pos) (eC .non) := ge_c pe_non fun _ => .non
theorem ge_str {z : Str} {j : Nat} {pos : Pos} (hz : z.length ≤ sizeLine := by decide) : GE X x M (.Constant (.str z) j pos) (eC (.str z)) := ge_c pe_str fun _ => .str z hz
theorem ge_gint {n : Str} {i : Int} {pos : Pos} (hm : ∃ t, X.mg n = some (.int i t)) (hg : Gl X n := by rfl) (hd : (n == ("__debug__" : Str)) = false := by decide) : GE X x M (.Name n pos) (eC (.int i)) := by
  obtain ⟨t, hm⟩ := hm
  exact ge_c (pe_glob (v := .int i) hg hm ⟨t, rfl⟩ hd) fun _ => .int i
theorem ge_gstr {n : Str} {z : Str} {pos : Pos} (hm : ∃ t, X.mg n = some (.str z t)) (hg : Gl X n := by rfl) (hd : (n == ("__debug__" : Str)) = false := by decide) (hz : z.length ≤ sizeLine := by decide) : GE X x M (.Name n pos) (eC (.str z)) := by
  obtain ⟨t, hm⟩ := hm
  exact ge_c (pe_glob (v := .str z) hg hm ⟨t, rfl⟩ hd) fun _ => .str z hz

/-! ### operators by values -/
def ofO (o : Option D) (S : Sx) : Res A := match o with
  | some d => .ok (.d d) S
  | none => .stuck
@[simp] theorem ofO_some (d : D) (S : Sx) : ofO (some d) S = .ok (.d d) S := rfl
@[simp] theorem ofO_none (S : Sx) : ofO none S = .stuck := rfl
def op2 (g : D → D → Option D) (a b : A) (S : Sx) : Res A := match a, b with
  | .d u, .d v => ofO (g u v) S
  | _, _ => .stuck
@[simp] theorem op2_d (g : D → D → Option D) (u v : D) (S : Sx) : op2 g (.d u) (.d v) S = ofO (g u v) S := rfl
def eOp (g : D → D → Option D) (f f' : Fe) : Fe := fun ρ S => (f ρ S).bind fun a S1 => (f' ρ S1).bind fun b S2 => op2 g a b S2
/-- a two-place operator's reading follows from what it tells of data -/
def OpG (K : Frag) (r : R2) (g : D → D → Option D) : Prop := ∀ (y : Xc) (B : Bs) (M : List Nat) (σ : L2.St) (H : Hp) (ρ : Rho) (S : Sx) (I : Hp) (hot : List Addr) (v w : V) (d1 d2 d : D) (Q : VK), Rel K B M σ H ρ S I hot → Rep I v d1 → Rep I w d2 →
  g d1 d2 = some d → After K y B M σ ρ hot (RepA K hot) H I (.ok (.d d) S) Q → r v w H Q
theorem op2_after {K : Frag} {B : Bs} {σ : L2.St} {H : Hp} {ρ : Rho} {S : Sx} {I : Hp} {hot : List Addr} {v w : V} {a b : A} {g : D → D → Option D} {r : R2} {Q : VK} (hg : OpG K r g) (R : Rel K B M σ H ρ S I hot) (h1 : RepA K hot I v a) (h2 : RepA K hot I w b)
    (h : After K x B M σ ρ hot (RepA K hot) H I (op2 g a b S) Q) : r v w H Q := by
  cases a with
  | d u =>
    cases b with
    | d z =>
      rw [op2_d] at h
      cases e : g u z with
      | none => rw [e] at h; exact h.elim
      | some d => rw [e] at h; exact hg x B M σ H ρ S I hot v w u z d Q R h1.dat h2.dat e h
    | _ => exact h.elim
  | _ => exact h.elim
theorem tOp_of {K : Frag} {f f' : Fe} {g : D → D → Option D} {r : R2} (hg : OpG K r g) {σ : L2.St} {H : Hp} {Q : VK} (h : tOf K x M (eOp g f f') σ H Q) : tOp r (tOf K x M f) (tOf K x M f') σ H Q := by
  obtain ⟨B, ρ, S, I, hot, R, h⟩ := h
  refine ⟨B, ρ, S, I, hot, R, h.bind.mono ?_⟩
  rintro v1 H1 ⟨I1, S1, a, R1, s1, r1, _, h1⟩
  refine ⟨B, ρ, S1, I1, hot, R1, h1.bind.mono ?_⟩
  rintro v2 H2 ⟨I2, S2, b, R2, s2, r2, _, h2⟩
  exact op2_after hg R2 (r1.ext s2.ext) r2 h2
theorem ge_op {op : Operator} {r : R2} {g : D → D → Option D} {a b : Expr} {f f' : Fe} {pos : Pos} (ho : OpR X (binaryOp op) r) (hg : OpG X.K r g) (ha : GE X x M a f) (hb : GE X x M b f') : GE X x M (.BinOp a op b pos) (eOp g f f') :=
  PE.weak (pe_op ho ha hb) fun _ _ _ h => tOp_of hg h
theorem ge_cmp {op : CmpOp} {r : R2} {g : D → D → Option D} {a b : Expr} {f f' : Fe} {pos : Pos} (ho : OpR X (compareOp op) r) (hg : OpG X.K r g) (ha : GE X x M a f) (hb : GE X x M b f') (hm : behindInMarks op b = false := by first | exact nomark _ | rfl) :
    GE X x M (.Compare a [op] [b] pos) (eOp g f f') := PE.weak (pe_cmpR ho ha hb hm) fun _ _ _ h => tOp_of hg h
/-- a value that is a truth -/
def toB (a : A) (S : Sx) : Res Bool := match a with
  | .d (.bl b) => .ok b S
  | _ => .stuck
@[simp] theorem toB_bl (b : Bool) (S : Sx) : toB (.d (.bl b)) S = .ok b S := rfl
def tst (f : Fe) : Ft := fun ρ S => (f ρ S).bind toB
theorem toB_after {K : Frag} {B : Bs} {σ : L2.St} {H : Hp} {ρ : Rho} {S : Sx} {I : Hp} {hot : List Addr} {v : V} {a : A} {Q : Bool → Hp → Prop} (R : Rel K B M σ H ρ S I hot) (h1 : RepA K hot I v a)
    (h : After K x B M σ ρ hot RepB H I (toB a S) Q) : ∃ k, v = .bl k ∧ Q k H := by
  cases a with
  | d u =>
    cases u with
    | bl b =>
      have r := h1.dat
      cases r
      exact ⟨b, rfl, h.ok R rfl⟩
    | _ => exact h.elim
  | _ => exact h.elim
theorem tTest_of {K : Frag} {f : Fe} {σ : L2.St} {H : Hp} {Q : Bool → Hp → Prop} (h : ttOf K x M (tst f) σ H Q) : tTest (tOf K x M f) σ H Q := by
  obtain ⟨B, ρ, S, I, hot, R, h⟩ := h
  refine ⟨B, ρ, S, I, hot, R, h.bind.mono ?_⟩
  rintro v1 H1 ⟨I1, S1, a, R1, s1, r1, _, h1⟩
  exact toB_after R1 r1 h1
theorem gt_cmp {op : CmpOp} {r : R2} {g : D → D → Option D} {a b : Expr} {f f' : Fe} {pos : Pos} (ho : OpR X (compareOp op) r) (hg : OpG X.K r g) (ha : GE X x M a f) (hb : GE X x M b f') (hm : behindInMarks op b = false := by first | exact nomark _ | rfl) :
    GT X x M (.Compare a [op] [b] pos) (tst (eOp g f f')) := by
  refine PT.weak (pt_cmpR ho ha hb hm) fun σ H Q h => ?_
  obtain ⟨B, ρ, S, I, hot, R, h⟩ := h
  refine tOp_of (x := x) (M := M) hg ⟨B, ρ, S, I, hot, R, h.bind.mono ?_⟩
  rintro v1 H1 ⟨I1, S1, a, R1, s1, r1, _, h1⟩
  exact toB_after R1 r1 h1
theorem gt_val {e : Expr} {f : Fe} (h : GE X x M e f) (he : ∀ whole, isTrue e X.env whole = (do let v ← whole; standAt e.pos; holding [v] (truthy v)) := by intro _; rfl) : GT X x M e (tst f) :=
  PT.weak (pt_val h he) fun _ _ _ h => tTest_of h

/-! ### and, or, not; if .. else -/
def tAndF (t u : Ft) : Ft := fun ρ S => (t ρ S).bind fun b S1 => if b = true then u ρ S1 else .ok false S1
def tOrF (t u : Ft) : Ft := fun ρ S => (t ρ S).bind fun b S1 => if b = true then .ok true S1 else u ρ S1
def tNotF (t : Ft) : Ft := fun ρ S => (t ρ S).bind fun b S1 => .ok (!b) S1
def GW (X : Cx) (x : Xc) (M : List Nat) (e : Expr) (f : Ft) : Prop := PW X e (ttOf X.K x M f)
theorem PW.weak {e : Expr} {t t' : TT} (h : PW X e t) (k : ∀ σ H Q, t' σ H Q → t σ H Q) : PW X e t' := ⟨fun wh pins s σ H Q I q => h.run wh pins s σ H Q I (k σ H Q q)⟩
theorem gt_w {e : Expr} {f : Ft} (h : GW X x M e f) : GT X x M e f := L2.PW.pt h
section
variable {a b : Expr} {rest : List Expr} {t u : Ft} {pos : Pos}
theorem gw_and1 (ha : GT X x M a t) : GW X x M (.BoolOp .And [a] pos) t := pw_and1 ha
theorem gw_or1 (ha : GT X x M a t) : GW X x M (.BoolOp .Or [a] pos) t := pw_or1 ha
theorem gw_and (ha : GT X x M a t) (hb : GW X x M (.BoolOp .And (b :: rest) pos) u) : GW X x M (.BoolOp .And (a :: b :: rest) pos) (tAndF t u) := by
  refine PW.weak (pw_and ha hb) ?_
  rintro σ H Q ⟨B, ρ, S, I, hot, R, h⟩
  refine ⟨B, ρ, S, I, hot, R, h.bind.mono ?_⟩
  rintro c H1 ⟨I1, S1, k, R1, s1, r1, _, h1⟩
  cases (show c = k from r1)
  cases c with
  | true => exact ⟨B, ρ, S1, I1, hot, R1, h1⟩
  | false => exact h1.ok R1 rfl
theorem gw_or (ha : GT X x M a t) (hb : GW X x M (.BoolOp .Or (b :: rest) pos) u) : GW X x M (.BoolOp .Or (a :: b :: rest) pos) (tOrF t u) := by
  refine PW.weak (pw_or ha hb) ?_
  rintro σ H Q ⟨B, ρ, S, I, hot, R, h⟩
  refine ⟨B, ρ, S, I, hot, R, h.bind.mono ?_⟩
  rintro c H1 ⟨I1, S1, k, R1, s1, r1, _, h1⟩
  cases (show c = k from r1)
  cases c with
  | false => exact ⟨B, ρ, S1, I1, hot, R1, h1⟩
  | true => exact h1.ok R1 rfl
theorem gt_not (ha : GT X x M a t) : GT X x M (.UnaryOp .Not a pos) (tNotF t) := by
  refine PT.weak (pt_not ha) ?_
  rintro σ H Q ⟨B, ρ, S, I, hot, R, h⟩
  refine ⟨B, ρ, S, I, hot, R, h.bind.mono ?_⟩
  rintro c H1 ⟨I1, S1, k, R1, s1, r1, _, h1⟩
  cases (show c = k from r1)
  exact h1.ok R1 rfl
end
/-- .. as values -/
def eAndF (f g : Fe) : Fe := fun ρ S => (f ρ S).bind fun a S1 => (toB a S1).bind fun b S2 => if b = true then g ρ S2 else .ok (.d (.bl false)) S2
def eOrF (f g : Fe) : Fe := fun ρ S => (f ρ S).bind fun a S1 => (toB a S1).bind fun b S2 => if b = true then .ok (.d (.bl true)) S2 else g ρ S2
def eNotF (f : Fe) : Fe := fun ρ S => (f ρ S).bind fun a S1 => (toB a S1).bind fun b S2 => .ok (.d (.bl (!b))) S2
def eIf (t : Ft) (f g : Fe) : Fe := fun ρ S => (t ρ S).bind fun b S1 => if b = true then f ρ S1 else g ρ S1
theorem toB_bind {K : Frag} {B : Bs} {σ : L2.St} {H : Hp} {ρ : Rho} {S : Sx} {I : Hp} {hot : List Addr} {v : V} {a : A} {k : Bool → Sx → Res A} {Q : VK} (R : Rel K B M σ H ρ S I hot) (h1 : RepA K hot I v a)
    (h : After K x B M σ ρ hot (RepA K hot) H I ((toB a S).bind k) Q) : ∃ b, v = .bl b ∧ After K x B M σ ρ hot (RepA K hot) H I (k b S) Q := by
  cases a with
  | d u =>
    cases u with
    | bl b =>
      have r := h1.dat
      cases r
      exact ⟨b, rfl, h⟩
    | _ => exact h.elim
  | _ => exact h.elim
section
variable {a b c : Expr} {rest : List Expr} {f g : Fe} {t : Ft} {pos : Pos}
theorem ge_one {op : BoolOp} (h : GE X x M a f) : GE X x M (.BoolOp op [a] pos) f := pe_one h
theorem ge_and (ha : GE X x M a f) (hb : GE X x M (.BoolOp .And (b :: rest) pos) g) : GE X x M (.BoolOp .And (a :: b :: rest) pos) (eAndF f g) := by
  refine PE.weak (pe_and ha hb) ?_
  rintro σ H Q ⟨B, ρ, S, I, hot, R, h⟩
  refine ⟨B, ρ, S, I, hot, R, h.bind.mono ?_⟩
  rintro v H1 ⟨I1, S1, k, R1, s1, r1, _, h1⟩
  obtain ⟨c, rfl, h2⟩ := toB_bind R1 r1 h1
  refine ⟨c, rfl, ?_⟩
  cases c with
  | true => exact ⟨B, ρ, S1, I1, hot, R1, h2⟩
  | false => exact h2.ok R1 (.d (.bl false))
theorem ge_or (ha : GE X x M a f) (hb : GE X x M (.BoolOp .Or (b :: rest) pos) g) : GE X x M (.BoolOp .Or (a :: b :: rest) pos) (eOrF f g) := by
  refine PE.weak (pe_or ha hb) ?_
  rintro σ H Q ⟨B, ρ, S, I, hot, R, h⟩
  refine ⟨B, ρ, S, I, hot, R, h.bind.mono ?_⟩
  rintro v H1 ⟨I1, S1, k, R1, s1, r1, _, h1⟩
  obtain ⟨c, rfl, h2⟩ := toB_bind R1 r1 h1
  refine ⟨c, rfl, ?_⟩
  cases c with
  | false => exact ⟨B, ρ, S1, I1, hot, R1, h2⟩
  | true => exact h2.ok R1 (.d (.bl true))
theorem ge_not (ha : GE X x M a f) : GE X x M (.UnaryOp .Not a pos) (eNotF f) := by
  refine PE.weak (pe_not ha) ?_
  rintro σ H Q ⟨B, ρ, S, I, hot, R, h⟩
  refine ⟨B, ρ, S, I, hot, R, h.bind.mono ?_⟩
  rintro v H1 ⟨I1, S1, k, R1, s1, r1, _, h1⟩
  obtain ⟨c, rfl, h2⟩ := toB_bind R1 r1 h1
  exact ⟨c, rfl, h2.ok R1 (.d (.bl (!c)))⟩
theorem ge_if (hc : GT X x M c t) (ha : GE X x M a f) (hb : GE X x M b g) : GE X x M (.IfExp c a b pos) (eIf t f g) := by
  refine PE.weak (pe_ifExp hc ha hb) ?_
  rintro σ H Q ⟨B, ρ, S, I, hot, R, h⟩
  refine ⟨B, ρ, S, I, hot, R, h.bind.mono ?_⟩
  rintro c H1 ⟨I1, S1, k, R1, s1, r1, _, h1⟩
  cases (show c = k from r1)
  cases c with
  | true => exact ⟨B, ρ, S1, I1, hot, R1, h1⟩
  | false => exact ⟨B, ρ, S1, I1, hot, R1, h1⟩
end
/-- a < b < c -/
def eChain (g g' : D → D → Option D) (f1 f2 f3 : Fe) : Fe := fun ρ S => (f1 ρ S).bind fun a S1 => (f2 ρ S1).bind fun b S2 => (op2 g a b S2).bind fun z S3 => (toB z S3).bind fun k S4 =>
  if k = true then (f3 ρ S4).bind fun c S5 => op2 g' b c S5 else .ok (.d (.bl false)) S4
theorem op2_bind {K : Frag} {B : Bs} {σ : L2.St} {H : Hp} {ρ : Rho} {S : Sx} {I : Hp} {hot : List Addr} {v w : V} {a b : A} {g : D → D → Option D} {r : R2} {k : A → Sx → Res A} {Q Q' : VK} (hg : OpG K r g) (R : Rel K B M σ H ρ S I hot) (h1 : RepA K hot I v a) (h2 : RepA K hot I w b)
    (h : After K x B M σ ρ hot (RepA K hot) H I ((op2 g a b S).bind k) Q') (q : ∀ z H1 I1 S1 c, Rel K B M σ H1 ρ S1 I1 hot → Stp hot H I H1 I1 → RepA K hot I1 z c → After K x B M σ ρ hot (RepA K hot) H1 I1 (k c S1) Q' → Q z H1) : r v w H Q :=
  op2_after hg R h1 h2 (h.bind.mono fun z H1 ⟨I1, S1, c, R1, s1, r1, _, h3⟩ => q z H1 I1 S1 c R1 s1 r1 h3)
theorem tChain_of {K : Frag} {f1 f2 f3 : Fe} {g g' : D → D → Option D} {r r' : R2} (hg : OpG K r g) (hg' : OpG K r' g') {σ : L2.St} {H : Hp} {Q : VK} (h : tOf K x M (eChain g g' f1 f2 f3) σ H Q) : tChain r r' (tOf K x M f1) (tOf K x M f2) (tOf K x M f3) σ H Q := by
  obtain ⟨B, ρ, S, I, hot, R, h⟩ := h
  refine ⟨B, ρ, S, I, hot, R, h.bind.mono ?_⟩
  rintro v1 H1 ⟨I1, S1, a, R1, s1, r1, _, h1⟩
  refine ⟨B, ρ, S1, I1, hot, R1, h1.bind.mono ?_⟩
  rintro v2 H2 ⟨I2, S2, b, R2, s2, r2, _, h2⟩
  refine op2_bind hg R2 (r1.ext s2.ext) r2 h2 fun z H3 I3 S3 c R3 s3 r3 h3 => ?_
  obtain ⟨k, rfl, h4⟩ := toB_bind R3 r3 h3
  refine ⟨k, rfl, ?_⟩
  cases k with
  | false => exact h4.ok R3 (.d (.bl false))
  | true =>
    refine ⟨B, ρ, S3, I3, hot, R3, h4.bind.mono ?_⟩
    rintro v4 H4 ⟨I4, S4, c4, R4, s4, r4, _, h5⟩
    exact op2_after hg' R4 ((r2.ext s3.ext).ext s4.ext) r4 h5
theorem ge_chain {op op' : CmpOp} {r r' : R2} {g g' : D → D → Option D} {a b c : Expr} {f1 f2 f3 : Fe} {pos : Pos} (ho : OpR X (compareOp op) r) (hg : OpG X.K r g) (ho' : OpR X (compareOp op') r') (hg' : OpG X.K r' g') (ha : GE X x M a f1) (hb : GE X x M b f2) (hc : GE X x M c f3)
    (hm : lastMarks [op, op'] [b, c] = false := by with_unfolding_all rfl) : GE X x M (.Compare a [op, op'] [b, c] pos) (eChain g g' f1 f2 f3) :=
  PE.weak (pe_chain ho ho' ha hb hc hm) fun _ _ _ h => tChain_of hg hg' h
theorem gt_chain {op op' : CmpOp} {r r' : R2} {g g' : D → D → Option D} {a b c : Expr} {f1 f2 f3 : Fe} {pos : Pos} (ho : OpR X (compareOp op) r) (hg : OpG X.K r g) (ho' : OpR X (compareOp op') r') (hg' : OpG X.K r' g') (ha : GE X x M a f1) (hb : GE X x M b f2) (hc : GE X x M c f3)
    (hm : lastMarks [op, op'] [b, c] = false := by with_unfolding_all rfl) : GT X x M (.Compare a [op, op'] [b, c] pos) (tst (eChain g g' f1 f2 f3)) := by
  refine PT.weak (pt_chain ho ho' ha hb hc hm) fun σ H Q h => ?_
  obtain ⟨B, ρ, S, I, hot, R, h⟩ := h
  refine tChain_of (x := x) (M := M) hg hg' ⟨B, ρ, S, I, hot, R, h.bind.mono ?_⟩
  rintro v1 H1 ⟨I1, S1, a, R1, s1, r1, _, h1⟩
  exact toB_after R1 r1 h1
end
end G
namespace G
open PySem L2
open PySem.W (Frag)
open Classical

/-! ### what operators tell -/
noncomputable def addD : D → D → Option D
  | .int i, .int j => some (.int (i + j))
  | .str a, .str b => if a.length + b.length ≤ sizeLine then some (.str (a ++ b)) else none
  | .lst a, .lst b => if a.length + b.length ≤ sizeLine then some (.lst (a ++ b)) else none
  | .tup a, .tup b => if a.length + b.length ≤ sizeLine then some (.tup (a ++ b)) else none
  | _, _ => none
def subD : D → D → Option D
  | .int i, .int j => some (.int (i - j))
  | _, _ => none
noncomputable def mulD : D → D → Option D
  | .int i, .int j => if CMulW i j then some (.int (i * j)) else none
  | .lst a, .int k => if -(2 ^ 63) ≤ k ∧ k < 2 ^ 63 ∧ a.length * k.toNat ≤ sizeLine then some (.lst (List.replicate k.toNat a).flatten) else none
  | _, _ => none
noncomputable def modD : D → D → Option D
  | .int i, .int j => if 0 < j then some (.int (i % j)) else none
  | _, _ => none
noncomputable def fdivD : D → D → Option D
  | .int i, .int j => if CDivW i j then some (.int (i / j)) else none
  | _, _ => none
noncomputable def powD : D → D → Option D
  | .int i, .int j => if CPow i j then some (.int (i ^ j.toNat)) else none
  | _, _ => none
def ltD : D → D → Option D
  | .int i, .int j => some (.bl (decide (i < j)))
  | _, _ => none
def leD : D → D → Option D
  | .int i, .int j => some (.bl (decide (i ≤ j)))
  | _, _ => none
def gtD : D → D → Option D
  | .int i, .int j => some (.bl (decide (j < i)))
  | _, _ => none
def geD : D → D → Option D
  | .int i, .int j => some (.bl (decide (j ≤ i)))
  | _, _ => none

theorem str_app (a b : Str) : (a ++ b).length = a.length + b.length := by
  show (a.cps ++ b.cps).size = _
  rw [Array.size_append]; rfl
section
variable {K : Frag}
theorem og_int {C : Int → Int → Prop} {g : Int → Int → V} {f : D → D → Option D} (h : ∀ d1 d2 d, f d1 d2 = some d → ∃ i j, d1 = .int i ∧ d2 = .int j ∧ C i j ∧ ∀ I, Rep I (g i j) d) : OpG K (rI C g) f := by
  intro y B M σ H ρ S I hot v w d1 d2 d Q R r1 r2 e q
  obtain ⟨i, j, rfl, rfl, c, hr⟩ := h d1 d2 d e
  cases r1
  cases r2
  exact ⟨i, j, rfl, rfl, c, q.ok R (.d (hr I))⟩
theorem og_int0 {g : Int → Int → V} {f : D → D → Option D} (h : ∀ d1 d2 d, f d1 d2 = some d → ∃ i j, d1 = .int i ∧ d2 = .int j ∧ ∀ I, Rep I (g i j) d) : OpG K (rI0 g) f := by
  intro y B M σ H ρ S I hot v w d1 d2 d Q R r1 r2 e q
  obtain ⟨i, j, rfl, rfl, hr⟩ := h d1 d2 d e
  cases r1
  cases r2
  exact ⟨i, j, rfl, rfl, q.ok R (.d (hr I))⟩
theorem og_sub : OpG K (rI0 fun i j => .int (i - j)) subD := og_int0 fun d1 d2 d e => by
  unfold subD at e; split at e <;> cases e
  exact ⟨_, _, rfl, rfl, fun _ => .int _⟩
theorem og_mod : OpG K (rI (fun _ j => 0 < j) fun i j => .int (i % j)) modD := og_int fun d1 d2 d e => by
  unfold modD at e; split at e
  · split at e <;> cases e
    exact ⟨_, _, rfl, rfl, by assumption, fun _ => .int _⟩
  · cases e
theorem og_fdiv : OpG K (rI CDivW fun i j => .int (i / j)) fdivD := og_int fun d1 d2 d e => by
  unfold fdivD at e; split at e
  · split at e <;> cases e
    exact ⟨_, _, rfl, rfl, by assumption, fun _ => .int _⟩
  · cases e
theorem og_pow : OpG K (rI CPow fun i j => .int (i ^ j.toNat)) powD := og_int fun d1 d2 d e => by
  unfold powD at e; split at e
  · split at e <;> cases e
    exact ⟨_, _, rfl, rfl, by assumption, fun _ => .int _⟩
  · cases e
theorem og_lt : OpG K (rI0 fun i j => .bl (decide (i < j))) ltD := og_int0 fun d1 d2 d e => by
  unfold ltD at e; split at e <;> cases e
  exact ⟨_, _, rfl, rfl, fun _ => .bl _⟩
theorem og_le : OpG K (rI0 fun i j => .bl (decide (i ≤ j))) leD := og_int0 fun d1 d2 d e => by
  unfold leD at e; split at e <;> cases e
  exact ⟨_, _, rfl, rfl, fun _ => .bl _⟩
theorem og_gt : OpG K (rI0 fun i j => .bl (decide (j < i))) gtD := og_int0 fun d1 d2 d e => by
  unfold gtD at e; split at e <;> cases e
  exact ⟨_, _, rfl, rfl, fun _ => .bl _⟩
theorem og_ge : OpG K (rI0 fun i j => .bl (decide (j ≤ i))) geD := og_int0 fun d1 d2 d e => by
  unfold geD at e; split at e <;> cases e
  exact ⟨_, _, rfl, rfl, fun _ => .bl _⟩
/-- tuple + tuple: a new one is laid with its object -/
def rCatF (K : Frag) : R2 := fun v w H Q => ∃ a b xs ys, v = .ref a ∧ w = .ref b ∧ SqT K H a xs ∧ SqT K H b ys ∧ xs.length + ys.length ≤ sizeLine ∧
  (xs = [] → Q (.ref b) H) ∧ (xs ≠ [] → ys = [] → Q (.ref a) H) ∧ (xs ≠ [] → ys ≠ [] → ∀ p ob, H p = none → ob.dict = none → Q (.ref p) (upd H p (.frz ob (.tup (xs ++ ys)))))
theorem op_catF {X : Cx} : OpR X (binaryOp .Add) (rCatF X.K) := by
  intro pins s σ H x y v u Q I rx ry h
  obtain ⟨a, b, xs, ys, rfl, rfl, ha, hb, hz, q0, q1, q2⟩ := h
  cases rx; cases ry
  obtain ⟨i1, r1, p1, _⟩ := I.tuple ha
  obtain ⟨i2, r2, p2, _⟩ := I.tuple hb
  by_cases hx : xs = []
  · subst hx
    cases r1
    exact cat_tup0 p1 p2 ⟨.ref b, H, I, rfl, q0 rfl⟩
  · refine HT.cat_tup p1 p2 (fun z => hx (r1.nil_iff.mp z)) (fun z => ⟨.ref a, H, I, rfl, q1 hx (r2.nil_iff.mp z)⟩) (fun z => ?_) (by rw [← r1.length, ← r2.length]; exact hz)
    exact ⟨.ref s.heap.objs.size, _, I.laid (t' := s.toks) (o := .frz _ (.tup (xs ++ ys))) (fun b ob q => Heap.get?_push_of_some _ q) (Nat.le_refl _) ⟨Heap.get?_push_size _ rfl, by rw [List.length_append]; exact hz, _, r1.append r2, PyProof.Rows.IsTup.new _ _⟩, rfl, q2 hx (fun w => z (r2.nil_iff.mpr w)) _ _ (I.hok.fresh (Nat.le_refl _)) rfl⟩
/-- + of ints, texts, lists, tuples -/
def rAddG (K : Frag) : R2 := fun v w H Q => rI0 (fun i j => .int (i + j)) v w H Q ∨ (∃ i j, v = .str i ∧ w = .str j ∧ i.length + j.length ≤ sizeLine ∧ Q (.str (i ++ j)) H) ∨ rCat v w H Q ∨ rCatF K v w H Q
theorem op_addG {X : Cx} : OpR X (binaryOp .Add) (rAddG X.K) := op_add.or (op_add_str.or (op_cat.or op_catF))
theorem og_add : OpG K (rAddG K) addD := by
  intro y B M σ H ρ S I hot v w d1 d2 d Q R r1 r2 e q
  unfold addD at e
  split at e
  · cases e; cases r1; cases r2
    exact .inl ⟨_, _, rfl, rfl, q.ok R (.d (.int _))⟩
  · split at e <;> cases e
    cases r1; cases r2
    rename_i hz _ _
    exact .inr (.inl ⟨_, _, rfl, rfl, hz, q.ok R (.d (.str _ (by rw [str_app]; exact hz)))⟩)
  · rename_i a b
    split at e <;> cases e
    cases r1 with
    | @lst p vs _ h1 _ q1 =>
      cases r2 with
      | @lst p2 vs2 _ h2 _ q2 =>
        refine .inr (.inr (.inl ⟨p, p2, vs, vs2, rfl, rfl, R.wd.ext _ _ h1, R.wd.ext _ _ h2, by rw [q1.length, q2.length]; assumption, fun z hz => ?_⟩))
        exact q.new R hz (.d (.lst upd_same (by rw [List.length_append, q1.length, q2.length]; assumption) ((q1.append q2).ext (upd_ext (R.wd.none hz).1))))
  · rename_i a b
    split at e <;> cases e
    cases r1 with
    | @tup p vs _ h1 n1 q1 =>
      cases r2 with
      | @tup p2 vs2 _ h2 n2 q2 =>
        refine .inr (.inr (.inr ⟨p, p2, vs, vs2, rfl, rfl, h1.sq R.wd.ext, h2.sq R.wd.ext, by rw [q1.length, q2.length]; assumption, fun z => ?_, fun z1 z2 => ?_, fun z1 z2 z ob hz hob => ?_⟩))
        · subst z
          cases q1
          exact q.ok R (.d (.tup h2 n2 q2))
        · subst z2
          cases q2
          refine q.ok R (.d (.tup h1 n1 ?_))
          rw [List.append_nil]; exact q1
        · exact q.new R hz (.d (.tup (TupIn.new hob) (by rw [List.length_append, q1.length, q2.length]; assumption) ((q1.append q2).ext (upd_ext (R.wd.none hz).1))))
  · cases e
theorem Reps.rep {I : Hp} {vs : List V} {ds : List D} (h : Reps I vs ds) : ∀ k : Nat, Reps I (List.replicate k vs).flatten (List.replicate k ds).flatten
  | 0 => .nil
  | k + 1 => by
    rw [List.replicate_succ, List.replicate_succ, List.flatten_cons, List.flatten_cons]
    exact h.append (Reps.rep h k)
def rMulG : R2 := fun v w H Q => rI CMulW (fun i j => .int (i * j)) v w H Q ∨ rRep v w H Q
theorem op_mulG {X : Cx} : OpR X (binaryOp .Mult) rMulG := op_mulW.or op_rep
theorem og_mul : OpG K rMulG mulD := by
  intro y B M σ H ρ S I hot v w d1 d2 d Q R r1 r2 e q
  unfold mulD at e
  split at e
  · split at e <;> cases e
    cases r1; cases r2
    exact .inl ⟨_, _, rfl, rfl, by assumption, q.ok R (.d (.int _))⟩
  · split at e <;> cases e
    rename_i a k hc
    cases r1 with
    | @lst p vs _ h1 _ q1 =>
      cases r2
      refine .inr ⟨p, k, vs, rfl, rfl, R.wd.ext _ _ h1, hc.1, hc.2.1, by rw [q1.length]; exact hc.2.2, fun z hz => ?_⟩
      refine q.new R hz (.d (.lst upd_same ?_ ((q1.rep _).ext (upd_ext (R.wd.none hz).1))))
      rw [PyProof.Rows.lm_len_rep_flat, q1.length, Nat.mul_comm]; exact hc.2.2
  · cases e
/-- is None, is not None -/
def isND : D → D → Option D
  | .non, .non => some (.bl true)
  | _, .non => some (.bl false)
  | _, _ => none
def notND : D → D → Option D
  | .non, .non => some (.bl false)
  | _, .non => some (.bl true)
  | _, _ => none
theorem rep_non {I : Hp} {v : V} {d : D} (h : Rep I v d) (hn : d ≠ .non) : decide (v = V.non) = false := by
  cases h <;> first | exact absurd rfl hn | rfl
theorem og_isN : OpG K (fun x y H Q => y = .non ∧ Q (.bl (decide (x = .non))) H) isND := by
  intro y B M σ H ρ S I hot v w d1 d2 d Q R r1 r2 e q
  unfold isND at e
  split at e
  · cases e; cases r1; cases r2; exact ⟨rfl, q.ok R (.d (.bl _))⟩
  · cases e; cases r2
    refine ⟨rfl, ?_⟩
    rw [rep_non r1 (by rintro rfl; simp at *)]
    exact q.ok R (.d (.bl _))
  · cases e
theorem og_notN : OpG K (fun x y H Q => y = .non ∧ Q (.bl (!decide (x = .non))) H) notND := by
  intro y B M σ H ρ S I hot v w d1 d2 d Q R r1 r2 e q
  unfold notND at e
  split at e
  · cases e; cases r1; cases r2; exact ⟨rfl, q.ok R (.d (.bl _))⟩
  · cases e; cases r2
    refine ⟨rfl, ?_⟩
    rw [rep_non r1 (by rintro rfl; simp at *)]
    exact q.ok R (.d (.bl _))
  · cases e
end
end G
namespace G
open PySem L2
open PySem.W (Frag)
open Classical

section
variable {X : Cx} {x : Xc} {M : List Nat}
theorem PE.or {e : Expr} {t u : TE} (h : PE X e t) (k : PE X e u) : PE X e (fun σ H Q => t σ H Q ∨ u σ H Q) := ⟨fun pins s σ H Q I q => by
  rcases q with q | q
  · exact h.run pins s σ H Q I q
  · exact k.run pins s σ H Q I q⟩
/-! ### is None -/
def isN : A → Bool
  | .d .non => true
  | _ => false
def eIsN (f : Fe) : Fe := fun ρ S => (f ρ S).bind fun a S1 => .ok (.d (.bl (isN a))) S1
def eNotN (f : Fe) : Fe := fun ρ S => (f ρ S).bind fun a S1 => .ok (.d (.bl (!isN a))) S1
theorem isN_eq {K : Frag} {hot : List Addr} {I : Hp} {v : V} {a : A} (h : RepA K hot I v a) : decide (v = V.non) = isN a := by
  cases h with
  | d r => cases r <;> rfl
  | scr _ => rfl
  | hot _ => rfl
  | exc _ => rfl
theorem tIsN_of {K : Frag} {f : Fe} {σ : L2.St} {H : Hp} {Q : VK} (h : tOf K x M (eIsN f) σ H Q) : tIsN (tOf K x M f) σ H Q := by
  obtain ⟨B, ρ, S, I, hot, R, h⟩ := h
  refine ⟨B, ρ, S, I, hot, R, h.bind.mono ?_⟩
  rintro v H1 ⟨I1, S1, a, R1, s1, r1, _, h1⟩
  rw [isN_eq r1]
  exact h1.ok R1 (.d (.bl _))
theorem tNotN_of {K : Frag} {f : Fe} {σ : L2.St} {H : Hp} {Q : VK} (h : tOf K x M (eNotN f) σ H Q) : tNotN (tOf K x M f) σ H Q := by
  obtain ⟨B, ρ, S, I, hot, R, h⟩ := h
  refine ⟨B, ρ, S, I, hot, R, h.bind.mono ?_⟩
  rintro v H1 ⟨I1, S1, a, R1, s1, r1, _, h1⟩
  rw [isN_eq r1]
  exact h1.ok R1 (.d (.bl _))
section
variable {a : Expr} {f : Fe} {j : Nat} {pos pos' : Pos}
theorem ge_isN (ha : GE X x M a f) : GE X x M (.Compare a [.Is] [.Constant .none j pos'] pos) (eIsN f) := PE.weak (pe_cmp (pc_isN ha)) fun _ _ _ h => tIsN_of h
theorem ge_notN (ha : GE X x M a f) : GE X x M (.Compare a [.IsNot] [.Constant .none j pos'] pos) (eNotN f) := PE.weak (pe_cmp (pc_notN ha)) fun _ _ _ h => tNotN_of h
theorem tB_of {K : Frag} {f : Fe} {σ : L2.St} {H : Hp} {Q : Bool → Hp → Prop} (h : ttOf K x M (tst f) σ H Q) : tOf K x M f σ H fun v H1 => ∃ c, v = .bl c ∧ Q c H1 := tTest_of h
theorem gt_isN (ha : GE X x M a f) : GT X x M (.Compare a [.Is] [.Constant .none j pos'] pos) (tst (eIsN f)) := PT.weak (pt_cmp (pc_isN ha)) fun _ _ _ h => tIsN_of (tB_of h)
theorem gt_notN (ha : GE X x M a f) : GT X x M (.Compare a [.IsNot] [.Constant .none j pos'] pos) (tst (eNotN f)) := PT.weak (pt_cmp (pc_notN ha)) fun _ _ _ h => tNotN_of (tB_of h)
end

/-! ### truth -/
def truA (S : Sx) : A → Option Bool
  | .d .non => some false
  | .d (.bl b) => some b
  | .d (.int i) => some (i != 0)
  | .d (.str z) => some ((z.length : Int) != 0)
  | .d (.lst xs) => some (!xs.isEmpty)
  | .d (.tup xs) => some (!xs.isEmpty)
  | .scr ns => some (!ns.isEmpty)
  | _ => none
def tTru (f : Fe) : Ft := fun ρ S => (f ρ S).bind fun a S1 => match truA S1 a with
  | some b => .ok b S1
  | none => .stuck
theorem gt_tru {a : Expr} {f : Fe} (ha : GE X x M a f) (he : ∀ whole, isTrue a X.env whole = (do let v ← whole; standAt a.pos; holding [v] (truthy v)) := by intro _; rfl) : GT X x M a (tTru f) := by
  refine PT.weak (pt_truth ha he) ?_
  rintro σ H Q ⟨B, ρ, S, I, hot, R, h⟩
  refine ⟨B, ρ, S, I, hot, R, h.bind.mono ?_⟩
  rintro v H1 ⟨I1, S1, a, R1, s1, r1, _, h1⟩
  cases e : truA S1 a with
  | none => rw [e] at h1; exact h1.elim
  | some b =>
    rw [e] at h1
    refine ⟨b, ?_, h1.ok R1 rfl⟩
    cases r1 with
    | d r =>
      cases r with
      | non => simp [truA] at e; exact e
      | bl c => simp [truA] at e; exact e.symm
      | int i => simp [truA] at e; exact e.symm
      | str z hz =>
        simp only [truA] at e
        exact ⟨hz, (Option.some.inj e).symm⟩
      | lst hl _ hr =>
        simp only [truA, Option.some.injEq] at e
        refine .inl ⟨_, SqL.of (R1.wd.ext _ _ hl), ?_⟩
        rw [← e]; cases hr <;> rfl
      | tup hl _ hr =>
        simp only [truA, Option.some.injEq] at e
        refine .inr (.inl ⟨_, hl.sq R1.wd.ext, ?_⟩)
        rw [← e]; cases hr <;> rfl
      | dct hl _ hr => simp [truA] at e
    | @scr p ns hs =>
      simp only [truA, Option.some.injEq] at e
      refine .inl ⟨ns.map V.int, ?_, ?_⟩
      · rcases hs with hs | hs
        · exact .inl (R1.wd.ext.rd hs)
        · exact .inr hs
      · rw [← e]; cases ns <;> rfl
    | hot _ => simp [truA] at e
    | exc _ => simp [truA] at e

/-! ### arguments, displays -/
def aNil : Fa := fun _ S => .ok [] S
def aCons (f : Fe) (g : Fa) : Fa := fun ρ S => (f ρ S).bind fun a S1 => (g ρ S1).bind fun as S2 => .ok (a :: as) S2
theorem ga_nil : GA X x M [] aNil := by
  refine PA.weak pa_nil ?_
  rintro σ H Q ⟨B, ρ, S, I, hot, R, h⟩
  exact After.ok (S := S) h R .nil
theorem ga_cons {e : Expr} {es : List Expr} {f : Fe} {g : Fa} (h : GE X x M e f) (hr : GA X x M es g) (hs : starEach (e :: es) X.env = (false, eval e X.env) :: starEach es X.env := by rfl) : GA X x M (e :: es) (aCons f g) := by
  refine PA.weak (pa_cons h hr hs) ?_
  rintro σ H Q ⟨B, ρ, S, I, hot, R, h⟩
  refine ⟨B, ρ, S, I, hot, R, h.bind.mono ?_⟩
  rintro v1 H1 ⟨I1, S1, a, R1, s1, r1, _, h1⟩
  refine ⟨B, ρ, S1, I1, hot, R1, h1.bind.mono ?_⟩
  rintro vs H2 ⟨I2, S2, as, R2, s2, r2, _, h2⟩
  exact h2.ok R2 (.cons (r1.ext s2.ext) r2)
def dats : List A → Option (List D)
  | [] => some []
  | .d x :: r => (dats r).map (x :: ·)
  | _ :: _ => none
@[simp] theorem dats_nil : dats [] = some [] := rfl
@[simp] theorem dats_cons (x : D) (r : List A) : dats (.d x :: r) = (dats r).map (x :: ·) := rfl
theorem dats_reps {K : Frag} {hot : List Addr} {I : Hp} : ∀ {vs : List V} {as : List A} {ds : List D}, RepsA K hot I vs as → dats as = some ds → Reps I vs ds
  | _, _, _, .nil, e => by cases e; exact .nil
  | _, _, _, .cons h r, e => by
    cases h with
    | d q =>
      rw [dats_cons] at e
      cases e2 : dats _ with
      | none => rw [e2] at e; cases e
      | some ds =>
        rw [e2] at e
        cases e
        exact .cons q (dats_reps r e2)
    | scr _ => cases e
    | hot _ => cases e
    | exc _ => cases e
def mkSeq (c : List D → D) (as : List A) (S : Sx) : Res A := match dats as with
  | some ds => if ds.length ≤ sizeLine then .ok (.d (c ds)) S else .stuck
  | none => .stuck
def eTup (g : Fa) : Fe := fun ρ S => (g ρ S).bind (mkSeq .tup)
def eLst (g : Fa) : Fe := fun ρ S => (g ρ S).bind (mkSeq .lst)
theorem mkSeq_after {K : Frag} {B : Bs} {σ : L2.St} {H : Hp} {ρ : Rho} {S : Sx} {I : Hp} {hot : List Addr} {vs : List V} {as : List A} {c : List D → D} {Q : VK} (r : RepsA K hot I vs as)
    (h : After K x B M σ ρ hot (RepA K hot) H I (mkSeq c as S) Q) : ∃ ds, Reps I vs ds ∧ vs.length ≤ sizeLine ∧ After K x B M σ ρ hot (RepA K hot) H I (.ok (.d (c ds)) S) Q := by
  unfold mkSeq at h
  cases e : dats as with
  | none => rw [e] at h; exact h.elim
  | some ds =>
    rw [e] at h
    have q := dats_reps r e
    dsimp only at h
    split at h
    · exact ⟨ds, q, by rw [q.length]; assumption, h⟩
    · exact h.elim
def tTupF (t : TA) : TE := fun σ H Q => t σ H fun xs H1 => xs.length ≤ sizeLine ∧ ∀ p ob, H1 p = none → ob.dict = none → Q (.ref p) (upd H1 p (.frz ob (.tup xs)))
theorem pe_tupF {es : List Expr} {t : TA} {k : Nat} {pos : Pos} (h : PA X es t) : PE X (.Tuple es k pos) (tTupF t) := by
  refine ⟨fun pins s σ H Q I hq => wpAny_Tuple_spliced (thn (h.run pos pins s σ H _ I hq) fun us s1 ⟨xs, H1, I1, r, z, q⟩ => ⟨by rw [← r.length]; exact z, ?_⟩)⟩
  exact ⟨.ref s1.heap.objs.size, _, I1.laid (t' := s1.toks) (o := .frz _ (.tup xs)) (fun b u e => Heap.get?_push_of_some _ e) (Nat.le_refl _) ⟨Heap.get?_push_size _ rfl, z, us, r, ⟨_, Heap.get?_push_size _ rfl, rfl, _, rfl⟩⟩, rfl, q _ _ (I1.hok.fresh (Nat.le_refl _)) rfl⟩
theorem ge_tup {es : List Expr} {g : Fa} {k : Nat} {pos : Pos} (h : GA X x M es g) : GE X x M (.Tuple es k pos) (eTup g) := by
  refine PE.weak (pe_tupF h) ?_
  rintro σ H Q ⟨B, ρ, S, I, hot, R, h⟩
  refine ⟨B, ρ, S, I, hot, R, h.bind.mono ?_⟩
  rintro vs H1 ⟨I1, S1, as, R1, s1, r1, _, h1⟩
  obtain ⟨ds, q, hz, h2⟩ := mkSeq_after r1 h1
  exact ⟨hz, fun p ob hp hob => h2.new R1 hp (.d (.tup (TupIn.new hob) hz (q.ext (upd_ext (R1.wd.none hp).1))))⟩
theorem ge_lst {es : List Expr} {g : Fa} {pos : Pos} (h : GA X x M es g) : GE X x M (.List es pos) (eLst g) := by
  refine PE.weak (pe_lst h) ?_
  rintro σ H Q ⟨B, ρ, S, I, hot, R, h⟩
  refine ⟨B, ρ, S, I, hot, R, h.bind.mono ?_⟩
  rintro vs H1 ⟨I1, S1, as, R1, s1, r1, _, h1⟩
  obtain ⟨ds, q, hz, h2⟩ := mkSeq_after r1 h1
  exact ⟨hz, fun p hp => h2.new R1 hp (.d (.lst upd_same hz (q.ext (upd_ext (R1.wd.none hp).1))))⟩
theorem ge_dct0 {pos : Pos} : GE X x M (.Dict [] [] pos) (eC (.dct [])) := by
  refine PE.weak pe_dnewK ?_
  rintro σ H Q ⟨B, ρ, S, I, hot, R, h⟩
  exact fun p hp => After.new (S := S) h R hp (.d (.dct (.inl upd_same) (Nat.zero_le _) .nil))

/-! ### a[i] -/
def lookK (kvs : List (Key × D)) (k : Key) : Option D := (kvs.find? fun kv => decide (kv.1 = k)).map (·.2)
theorem look_rep {I : Hp} {k : Key} : ∀ {ws : List (Key × V)} {kvs : List (Key × D)}, Repk I ws kvs → (∀ d, lookK kvs k = some d → ∃ v, valV ws k = some v ∧ Rep I v d) ∧ (lookK kvs k = none → valV ws k = none)
  | _, _, .nil => ⟨fun d h => by simp [lookK] at h, fun _ => rfl⟩
  | _, _, .cons (k := j) (v := v) (d := d) (kvs := kv) _ h r => by
    obtain ⟨i1, i2⟩ := look_rep (k := k) r
    by_cases e : j = k
    · subst e
      refine ⟨fun d' hd => ?_, fun hn => ?_⟩
      · simp [lookK, List.find?_cons] at hd; subst hd
        exact ⟨v, valV_pos rfl, h⟩
      · simp [lookK, List.find?_cons] at hn
    · rw [valV_neg (p := (j, v)) e]
      have q : lookK ((j, d) :: kv) k = lookK kv k := by simp [lookK, List.find?_cons, e]
      rw [q]
      exact ⟨i1, i2⟩
def keyD : D → Option Key
  | .int i => some (.inl i)
  | .str z => some (.inr z)
  | _ => none
def ixD : D → D → Option D
  | .lst xs, .int i => atI xs i
  | .tup xs, .int i => atI xs i
  | .str z, .int i => (atI z.cps.toList i).map fun c => .str ⟨#[c]⟩
  | .dct kvs, k => (keyD k).bind (lookK kvs)
  | _, _ => none
def ixA : A → A → Sx → Res A
  | .d u, .d w, S => ofO (ixD u w) S
  | .scr ns, .d (.int i), S => ofO ((atI ns i).map .int) S
  | _, _, _ => .stuck
def eIx (f f' : Fe) : Fe := fun ρ S => (f ρ S).bind fun a S1 => (f' ρ S1).bind fun b S2 => ixA a b S2
theorem atI_rep {I : Hp} {vs : List V} {ds : List D} (r : Reps I vs ds) {i : Int} {d : D} (h : atI ds i = some d) : ∃ v, atI vs i = some v ∧ Rep I v d := by
  unfold atI at h ⊢
  rw [r.length]
  cases e : ixN ds.length i with
  | none => rw [e] at h; cases h
  | some j =>
    rw [e] at h
    exact r.get h
theorem atI_int {ns : List Int} {i : Int} {n : Int} (h : atI ns i = some n) : atI (ns.map V.int) i = some (.int n) := by
  unfold atI at h ⊢
  rw [List.length_map]
  cases e : ixN ns.length i with
  | none => rw [e] at h; cases h
  | some j =>
    rw [e] at h
    show (ns.map V.int)[j]? = _
    rw [List.getElem?_map, show ns[j]? = some n from h]; rfl
/-- is it a dict? -/
def isDct : Res A → Bool
  | .ok (.d (.dct _)) _ => true
  | _ => false
theorem keyD_rep {I : Hp} {v : V} {d : D} {k : Key} (r : Rep I v d) (h : keyD d = some k) : v = kV k := by
  cases r <;> simp [keyD] at h <;> subst h <;> rfl
theorem ge_ix {a b : Expr} {f f' : Fe} {pos : Pos} (hu : X.A.units + 1 < cLine) (ha : GE X x M a f) (hb : GE X x M b f') (hs : ∀ o i, subscripted b false o i = operate [o, i] (getItem o i) := by intro _ _; rfl) : GE X x M (.Subscript a b pos) (eIx f f') := by
  refine PE.weak (PE.or (pe_ix ix_seq ha hb hs) (pe_dget hu ha hb hs)) ?_
  rintro σ H Q ⟨B, ρ, S, I, hot, R, h⟩
  by_cases hd : isDct (f ρ S) = true
  · refine .inr ⟨B, ρ, S, I, hot, R, h.bind.mono ?_⟩
    rintro v1 H1 ⟨I1, S1, a1, R1, s1, r1, e1, h1⟩
    rw [e1] at hd
    refine ⟨B, ρ, S1, I1, hot, R1, h1.bind.mono ?_⟩
    rintro v2 H2 ⟨I2, S2, b2, R2, s2, r2, e2, h2⟩
    have r1' := r1.ext s2.ext
    cases r1' with
    | d q1 =>
      cases q1 with
      | @dct p ws kvs hp _ hr =>
        cases b2 with
        | d k =>
          have h3 : After X.K x B M σ ρ hot (RepA X.K hot) H2 I2 (ofO ((keyD k).bind (lookK kvs)) S2) Q := h2
          cases ek : keyD k with
          | none => rw [ek] at h3; exact h3.elim
          | some key =>
            rw [ek] at h3
            dsimp only [Option.bind_some] at h3
            cases el : lookK kvs key with
            | none => rw [el] at h3; exact h3.elim
            | some d =>
              rw [el] at h3
              obtain ⟨v, hv, rv⟩ := (look_rep hr).1 d el
              have ev := keyD_rep r2.dat ek
              subst ev
              exact ⟨p, v, rfl, .inl ⟨ws, key, R2.wd.ext.rd hp, rfl, hv.symm⟩, h3.ok R2 (.d rv)⟩
        | _ => exact h2.elim
      | _ => simp [isDct] at hd
    | _ => simp [isDct] at hd
  · refine .inl ⟨B, ρ, S, I, hot, R, h.bind.mono ?_⟩
    rintro v1 H1 ⟨I1, S1, a1, R1, s1, r1, e1, h1⟩
    rw [e1] at hd
    refine ⟨B, ρ, S1, I1, hot, R1, h1.bind.mono ?_⟩
    rintro v2 H2 ⟨I2, S2, b2, R2, s2, r2, e2, h2⟩
    have r1' := r1.ext s2.ext
    cases r1' with
    | d q1 =>
      cases b2 with
      | d k =>
        cases q1 with
        | @lst p vs ds hp _ hr =>
          cases k with
          | int i =>
            have h3 : After X.K x B M σ ρ hot (RepA X.K hot) H2 I2 (ofO (atI ds i) S2) Q := h2
            cases e : atI ds i with
            | none => rw [e] at h3; exact h3.elim
            | some d =>
              rw [e] at h3
              obtain ⟨v, hv, rv⟩ := atI_rep hr e
              have q := r2.dat
              cases q
              exact .inl ⟨p, vs, i, v, rfl, rfl, SqL.of (R2.wd.ext _ _ hp), hv, h3.ok R2 (.d rv)⟩
          | _ => exact h2.elim
        | @tup p vs ds hp _ hr =>
          cases k with
          | int i =>
            have h3 : After X.K x B M σ ρ hot (RepA X.K hot) H2 I2 (ofO (atI ds i) S2) Q := h2
            cases e : atI ds i with
            | none => rw [e] at h3; exact h3.elim
            | some d =>
              rw [e] at h3
              obtain ⟨v, hv, rv⟩ := atI_rep hr e
              have q := r2.dat
              cases q
              exact .inr (.inl ⟨p, vs, i, v, rfl, rfl, hp.sq R2.wd.ext, hv, h3.ok R2 (.d rv)⟩)
          | _ => exact h2.elim
        | str z hz =>
          cases k with
          | int i =>
            have h3 : After X.K x B M σ ρ hot (RepA X.K hot) H2 I2 (ofO ((atI z.cps.toList i).map fun c => .str ⟨#[c]⟩) S2) Q := h2
            cases e : atI z.cps.toList i with
            | none => rw [e] at h3; exact h3.elim
            | some c =>
              rw [e] at h3
              have q := r2.dat
              cases q
              exact .inr (.inr ⟨z, i, c, rfl, rfl, hz, e, After.ok (S := S2) h3 R2 (.d (.str _ (by show 1 ≤ sizeLine; decide)))⟩)
          | _ => exact h2.elim
        | dct _ _ _ => exact absurd rfl hd
        | _ => cases k <;> exact h2.elim
      | _ => exact h2.elim
    | @scr p ns hs =>
      cases b2 with
      | d k =>
        cases k with
        | int i =>
          have h3 : After X.K x B M σ ρ hot (RepA X.K hot) H2 I2 (ofO ((atI ns i).map .int) S2) Q := h2
          cases e : atI ns i with
          | none => rw [e] at h3; exact h3.elim
          | some n =>
            rw [e] at h3
            have q := r2.dat
            cases q
            refine .inl ⟨p, ns.map V.int, i, .int n, rfl, rfl, ?_, atI_int e, After.ok (S := S2) h3 R2 (.d (.int _))⟩
            rcases hs with hs | hs
            · exact .inl (R2.wd.ext.rd hs)
            · exact .inr hs
        | _ => exact h2.elim
      | _ => exact h2.elim
    | hot _ => exact h2.elim
    | exc _ => exact h2.elim
end
end G
namespace G
open PySem L2
open PySem.W (Frag)
open Classical

section
variable {X : Cx} {x : Xc} {M : List Nat}
/-! ### slices -/
def oNone : Rho → Sx → Res (Option Int) := fun _ S => .ok none S
def toI (a : A) (S : Sx) : Res (Option Int) := match a with
  | .d (.int i) => .ok (some i) S
  | _ => .stuck
def oSome (f : Fe) : Rho → Sx → Res (Option Int) := fun ρ S => (f ρ S).bind toI
def RepO : Hp → Option Int → Option Int → Prop := fun _ v a => v = a
def toOf (K : Frag) (x : Xc) (M : List Nat) (f : Rho → Sx → Res (Option Int)) : TO := fun σ H Q => ∃ B ρ S I hot, Rel K B M σ H ρ S I hot ∧ After K x B M σ ρ hot RepO H I (f ρ S) Q
def GO (X : Cx) (x : Xc) (M : List Nat) (e : Option Expr) (f : Rho → Sx → Res (Option Int)) : Prop := PO X e (toOf X.K x M f)
theorem PO.weak {e : Option Expr} {t t' : TO} (h : PO X e t) (k : ∀ σ H Q, t' σ H Q → t σ H Q) : PO X e t' := ⟨fun pins s σ H Q I q => h.run pins s σ H Q I (k σ H Q q)⟩
theorem go_none : GO X x M none oNone := by
  refine PO.weak po_none ?_
  rintro σ H Q ⟨B, ρ, S, I, hot, R, h⟩
  exact After.ok (S := S) h R rfl
theorem go_some {e : Expr} {f : Fe} (h : GE X x M e f) : GO X x M (some e) (oSome f) := by
  refine PO.weak (po_some h) ?_
  rintro σ H Q ⟨B, ρ, S, I, hot, R, h⟩
  refine ⟨B, ρ, S, I, hot, R, h.bind.mono ?_⟩
  rintro v H1 ⟨I1, S1, a, R1, s1, r1, _, h1⟩
  cases a with
  | d u =>
    cases u with
    | int i =>
      have q := r1.dat
      cases q
      exact ⟨i, rfl, After.ok (S := S1) h1 R1 rfl⟩
    | _ => exact h1.elim
  | _ => exact h1.elim
def cutD (xs : List D) (lo hi : Option Int) : List D := (xs.drop (HT.sIx xs.length 0 lo)).take (HT.sIx xs.length xs.length hi - HT.sIx xs.length 0 lo)
theorem cut_reps {I : Hp} {vs : List V} {ds : List D} (r : Reps I vs ds) (lo hi : Option Int) : Reps I (cutV vs lo hi) (cutD ds lo hi) := by
  unfold cutV cutD
  rw [r.length]
  exact (r.drop _).take _
def slD : D → Option Int → Option Int → Option D
  | .lst xs, lo, hi => some (.lst (cutD xs lo hi))
  | .tup xs, lo, hi => some (.tup (cutD xs lo hi))
  | .str z, lo, hi => some (.str (cutS z lo hi))
  | _, _, _ => none
theorem cutS_le (z : Str) (lo hi : Option Int) : (cutS z lo hi).length ≤ z.length := by
  show (((z.cps.toList.drop _).take _).toArray).size ≤ z.cps.size
  rw [List.size_toArray]
  have h := List.length_take_le (HT.sIx z.length z.length hi - HT.sIx z.length 0 lo) (z.cps.toList.drop (HT.sIx z.length 0 lo))
  have k := List.length_drop (i := HT.sIx z.length 0 lo) (l := z.cps.toList)
  have e : z.cps.toList.length = z.cps.size := by simp
  have t := List.length_take_le' (HT.sIx z.length z.length hi - HT.sIx z.length 0 lo) (z.cps.toList.drop (HT.sIx z.length 0 lo))
  omega
def slA (a : A) (lo hi : Option Int) (S : Sx) : Res A := match a with
  | .d u => ofO (slD u lo hi) S
  | _ => .stuck
def eSl (f : Fe) (fl fh : Rho → Sx → Res (Option Int)) : Fe := fun ρ S => (f ρ S).bind fun a S1 => (fl ρ S1).bind fun lo S2 => (fh ρ S2).bind fun hi S3 => slA a lo hi S3
/-- a tuple's cut: a new one is laid with its object -/
def rSlF (K : Frag) : V → Option Int → Option Int → Hp → VK → Prop := fun x lo hi H Q => ∃ a xs, x = .ref a ∧ SqT K H a xs ∧
  (HT.sIx xs.length 0 lo = 0 ∧ HT.sIx xs.length xs.length hi = xs.length → Q (.ref a) H) ∧ (¬ (HT.sIx xs.length 0 lo = 0 ∧ HT.sIx xs.length xs.length hi = xs.length) → ∀ p ob, H p = none → ob.dict = none → Q (.ref p) (upd H p (.frz ob (.tup (cutV xs lo hi)))))
theorem sl_tupF : SlR X (rSlF X.K) := by
  intro pins s σ H x v vl vu lo hi sl Q I rx hs pl pu h
  obtain ⟨a, xs, rfl, hx, q1, q2⟩ := h
  by_cases hw : HT.sIx xs.length 0 lo = 0 ∧ HT.sIx xs.length xs.length hi = xs.length
  · exact sl_tupA pins s σ H _ v vl vu lo hi sl Q I rx hs pl pu ⟨a, xs, rfl, hx, q1, fun z => absurd hw z⟩
  · cases rx
    obtain ⟨its, r, ht, hz⟩ := I.tuple hx
    have hlen : its.toArray.size = xs.length := by rw [List.size_toArray]; exact r.length.symm
    refine ⟨"tuple", _, PyProof.Rows.slot_tuple_getitem.lookup, ht.typeIs, ?_⟩
    refine HT.getItem_tuple_cut ht hs pl pu (by rw [hlen]; exact hw) ?_ (by rw [hlen]; exact hz)
    rw [hlen]
    exact ⟨.ref s.heap.objs.size, _, I.laid (t' := s.toks) (o := .frz _ (.tup (cutV xs lo hi))) (fun b ob q => Heap.get?_push_of_some _ q) (Nat.le_refl _) ⟨Heap.get?_push_size _ rfl, Nat.le_trans (cutV_length xs lo hi) hz, _, (r.drop (HT.sIx xs.length 0 lo)).take (HT.sIx xs.length xs.length hi - HT.sIx xs.length 0 lo), PyProof.Rows.IsTup.new _ _⟩, rfl, q2 hw _ _ (I.hok.fresh (Nat.le_refl _)) rfl⟩
def rSlG (K : Frag) : V → Option Int → Option Int → Hp → VK → Prop := fun v lo hi H Q => rSlL K v lo hi H Q ∨ rSlF K v lo hi H Q ∨ rSlS v lo hi H Q
theorem sl_G : SlR X (rSlG X.K) := sl_list.or (sl_tupF.or sl_str)
theorem cutD_whole {xs : List D} {lo hi : Option Int} (h : HT.sIx xs.length 0 lo = 0 ∧ HT.sIx xs.length xs.length hi = xs.length) : cutD xs lo hi = xs := by
  unfold cutD; rw [h.1, h.2]; simp
theorem ge_sl {e : Expr} {lo hi : Option Expr} {f : Fe} {fl fh : Rho → Sx → Res (Option Int)} {p pos : Pos} (he : GE X x M e f) (hl : GO X x M lo fl) (hh : GO X x M hi fh) : GE X x M (.Subscript e (.Slice lo hi none p) pos) (eSl f fl fh) := by
  refine PE.weak (pe_slice sl_G he hl hh) ?_
  rintro σ H Q ⟨B, ρ, S, I, hot, R, h⟩
  refine ⟨B, ρ, S, I, hot, R, h.bind.mono ?_⟩
  rintro v H1 ⟨I1, S1, a, R1, s1, r1, _, h1⟩
  refine ⟨B, ρ, S1, I1, hot, R1, h1.bind.mono ?_⟩
  rintro l H2 ⟨I2, S2, l', R2, s2, r2, _, h2⟩
  cases (show l = l' from r2)
  refine ⟨B, ρ, S2, I2, hot, R2, h2.bind.mono ?_⟩
  rintro u H3 ⟨I3, S3, u', R3, s3, r3, _, h3⟩
  cases (show u = u' from r3)
  have r := (r1.ext s2.ext).ext s3.ext
  cases a with
  | d d =>
    have q := r.dat
    cases q with
    | lst hp n hr => exact .inl ⟨_, _, rfl, SqL.of (R3.wd.ext _ _ hp), fun p hz => After.new (S := S3) h3 R3 hz (.d (.lst upd_same (Nat.le_trans (cutV_length _ _ _) n) ((cut_reps hr _ _).ext (upd_ext (R3.wd.none hz).1))))⟩
    | @tup p vs ds hp n hr =>
      refine .inr (.inl ⟨p, vs, rfl, hp.sq R3.wd.ext, fun hw => ?_, fun _ z ob hz hob => After.new (S := S3) h3 R3 hz (.d (.tup (TupIn.new hob) (Nat.le_trans (cutV_length _ _ _) n) ((cut_reps hr _ _).ext (upd_ext (R3.wd.none hz).1))))⟩)
      rw [hr.length] at hw
      refine After.ok (S := S3) h3 R3 (.d ?_)
      rw [cutD_whole hw]
      exact .tup hp n hr
    | str z hz => exact .inr (.inr ⟨z, rfl, hz, After.ok (S := S3) h3 R3 (.d (.str _ (Nat.le_trans (cutS_le z l u) hz)))⟩)
    | _ => exact h3.elim
  | _ => exact h3.elim
/-- xs[::-1] of a list -/
def revD : D → Option D
  | .lst xs => some (.lst xs.reverse)
  | _ => none
def eRev (f : Fe) : Fe := fun ρ S => (f ρ S).bind fun a S1 => match a with
  | .d u => ofO (revD u) S1
  | _ => .stuck
theorem ge_rev {e : Expr} {f : Fe} {k : Nat} {p1 p2 p3 pos : Pos} (he : GE X x M e f) : GE X x M (.Subscript e (.Slice none none (some (.UnaryOp .USub (.Constant (.int 1) k p1) p2)) p3) pos) (eRev f) := by
  refine PE.weak (pe_revL he) ?_
  rintro σ H Q ⟨B, ρ, S, I, hot, R, h⟩
  refine ⟨B, ρ, S, I, hot, R, h.bind.mono ?_⟩
  rintro v H1 ⟨I1, S1, a, R1, s1, r1, _, h1⟩
  cases a with
  | d d =>
    have q := r1.dat
    cases q with
    | lst hp n hr => exact ⟨_, _, rfl, SqL.of (R1.wd.ext _ _ hp), fun p hz => After.new (S := S1) h1 R1 hz (.d (.lst upd_same (by rw [List.length_reverse]; exact n) (hr.reverse.ext (upd_ext (R1.wd.none hz).1))))⟩
    | _ => exact h1.elim
  | _ => exact h1.elim
/-- -n -/
def negD : D → Option D
  | .int i => some (.int (-i))
  | _ => none
def eNeg (f : Fe) : Fe := fun ρ S => (f ρ S).bind fun a S1 => match a with
  | .d u => ofO (negD u) S1
  | _ => .stuck
theorem ge_neg {e : Expr} {f : Fe} {pos : Pos} (he : GE X x M e f) : GE X x M (.UnaryOp .USub e pos) (eNeg f) := by
  refine PE.weak (pe_un un_neg he) ?_
  rintro σ H Q ⟨B, ρ, S, I, hot, R, h⟩
  refine ⟨B, ρ, S, I, hot, R, h.bind.mono ?_⟩
  rintro v H1 ⟨I1, S1, a, R1, s1, r1, _, h1⟩
  cases a with
  | d d =>
    have q := r1.dat
    cases q with
    | int i => exact ⟨i, rfl, After.ok (S := S1) h1 R1 (.d (.int _))⟩
    | _ => exact h1.elim
  | _ => exact h1.elim

/-! ### calls of built-ins -/
def CallG (K : Frag) (r : List V → Hp → VK → Prop) (g : Sx → List A → Option D) : Prop := ∀ (y : Xc) (B : Bs) (M : List Nat) (σ : L2.St) (H : Hp) (ρ : Rho) (S : Sx) (I : Hp) (hot : List Addr) (vs : List V) (as : List A) (d : D) (Q : VK), Rel K B M σ H ρ S I hot → RepsA K hot I vs as →
  g S as = some d → After K y B M σ ρ hot (RepA K hot) H I (.ok (.d d) S) Q → r vs H Q
def eCall (g : Sx → List A → Option D) (fa : Fa) : Fe := fun ρ S => (fa ρ S).bind fun as S1 => ofO (g S1 as) S1
theorem tCB_of {K : Frag} {r : List V → Hp → VK → Prop} {g : Sx → List A → Option D} {fa : Fa} (hg : CallG K r g) {σ : L2.St} {H : Hp} {Q : VK} (h : tOf K x M (eCall g fa) σ H Q) : tCB r (taOf K x M fa) σ H Q := by
  obtain ⟨B, ρ, S, I, hot, R, h⟩ := h
  refine ⟨B, ρ, S, I, hot, R, h.bind.mono ?_⟩
  rintro vs H1 ⟨I1, S1, as, R1, s1, r1, _, h1⟩
  cases e : g S1 as with
  | none => rw [e] at h1; exact h1.elim
  | some d => rw [e] at h1; exact hg x B M σ H1 ρ S1 I1 hot vs as d Q R1 r1 e h1
section
variable {r : List V → Hp → VK → Prop} {g : Sx → List A → Option D} {fa : Fa} {n : Str} {e : Expr} {es : List Expr} {p pos : Pos} {id : String}
theorem ge_callB (hc : CallR X (.builtin id) r) (hg : CallG X.K r g) (hm : X.mg n = none) (hv : bootBuiltins n = some (.builtin id)) (ha : GA X x M (e :: es) fa) (hgl : Gl X n := by rfl) (hn : n ≠ "__name__" := by decide) (hdb : (n == ("__debug__" : Str)) = false := by decide)
    (he : starEach (e :: es) X.env = (false, eval e X.env) :: starEach es X.env := by rfl) (hpl : (backTo pos (starEach es X.env)).any (·.1) = false := by rfl) : GE X x M (.Call (.Name n p) (e :: es) [] pos) (eCall g fa) :=
  PE.weak (pe_callB hc hgl hm hv ha hn hdb he hpl) fun _ _ _ h => tCB_of hg h
theorem ge_callT (hc : CallR X (.type id) r) (hg : CallG X.K r g) (hm : X.mg n = none) (hv : bootBuiltins n = some (.type id)) (ha : GA X x M (e :: es) fa) (hgl : Gl X n := by rfl) (hn : n ≠ "__name__" := by decide) (hdb : (n == ("__debug__" : Str)) = false := by decide)
    (he : starEach (e :: es) X.env = (false, eval e X.env) :: starEach es X.env := by rfl) (hpl : (backTo pos (starEach es X.env)).any (·.1) = false := by rfl) : GE X x M (.Call (.Name n p) (e :: es) [] pos) (eCall g fa) :=
  PE.weak (pe_callTy hc hgl hm hv ha hn hdb he hpl) fun _ _ _ h => tCB_of hg h
end
/-- len -/
def lenG (S : Sx) : List A → Option D
  | [.d (.lst xs)] => some (.int xs.length)
  | [.d (.tup xs)] => some (.int xs.length)
  | [.d (.str z)] => some (.int z.length)
  | [.d (.dct kvs)] => some (.int kvs.length)
  | [.scr ns] => some (.int ns.length)
  | [.hot k] => match S[k]? with
    | some (.zs n) => some (.int n)
    | _ => none
  | _ => none
def rLenG (K : Frag) : List V → Hp → VK → Prop := fun vs H Q => (∃ p ys, vs = [.ref p] ∧ (SqL K H p ys ∨ SqT K H p ys) ∧ Q (.int ys.length) H) ∨ (∃ z, vs = [.str z] ∧ z.length ≤ sizeLine ∧ Q (.int z.length) H) ∨ ∃ a kvs, vs = [.ref a] ∧ Rd H a (.dK kvs) ∧ Q (.int kvs.length) H
theorem call_lenR : CallR X (.builtin "len") (fun vs H Q => ∃ a kvs, vs = [.ref a] ∧ Rd H a (.dK kvs) ∧ Q (.int kvs.length) H) := by
  intro pins s σ H vs us Q I r h
  obtain ⟨a, kvs, rfl, hr, q⟩ := h
  rw [Vals.ref1 r]
  exact d_len I hr fun t s' I' => ⟨.int kvs.length, H, I', ⟨t, rfl⟩, q⟩
theorem call_lenG : CallR X (.builtin "len") (rLenG X.K) := call_len_seq.or (call_len_str.or call_lenR)
theorem paired1 {α β : Type} {F : α → β → Prop} {vs : List α} {b : β} (h : Paired F vs [b]) : ∃ v, vs = [v] ∧ F v b := by
  cases h with
  | cons h r => cases r; exact ⟨_, rfl, h⟩
theorem paired2 {α β : Type} {F : α → β → Prop} {vs : List α} {b c : β} (h : Paired F vs [b, c]) : ∃ v w, vs = [v, w] ∧ F v b ∧ F w c := by
  cases h with
  | cons h r => cases r with
    | cons h2 r => cases r; exact ⟨_, _, rfl, h, h2⟩
theorem SqL.up {K : Frag} {H : Hp} {S : Sx} {I : Hp} {hot : List Addr} (w : Wld K H S I hot) {a : Addr} {vs : List V} (h : SqL K I a vs) : SqL K H a vs := by
  rcases h with h | h
  · exact .inl (w.ext.rd h)
  · exact .inr h
theorem cg_len {K : Frag} : CallG K (rLenG K) lenG := by
  intro y B M σ H ρ S I hot vs as d Q R r e q
  unfold lenG at e
  split at e
  · cases e; obtain ⟨v, rfl, h⟩ := paired1 r
    have h := h.dat
    cases h with
    | lst hp n hr =>
      refine .inl ⟨_, _, rfl, .inl (SqL.of (R.wd.ext _ _ hp)), ?_⟩
      rw [hr.length]; exact q.ok R (.d (.int _))
  · cases e; obtain ⟨v, rfl, h⟩ := paired1 r
    have h := h.dat
    cases h with
    | tup hp n hr =>
      refine .inl ⟨_, _, rfl, .inr (hp.sq R.wd.ext), ?_⟩
      rw [hr.length]; exact q.ok R (.d (.int _))
  · cases e; obtain ⟨v, rfl, h⟩ := paired1 r
    have h := h.dat
    cases h with
    | str z hz => exact .inr (.inl ⟨_, rfl, hz, q.ok R (.d (.int _))⟩)
  · cases e; obtain ⟨v, rfl, h⟩ := paired1 r
    have h := h.dat
    cases h with
    | dct hp n hr =>
      refine .inr (.inr ⟨_, _, rfl, R.wd.ext.rd hp, ?_⟩)
      rw [hr.length]; exact q.ok R (.d (.int _))
  · cases e; obtain ⟨v, rfl, h⟩ := paired1 r
    cases h with
    | scr hs =>
      refine .inl ⟨_, _, rfl, .inl (SqL.up R.wd hs), ?_⟩
      rw [List.length_map]; exact q.ok R (.d (.int _))
  · rename_i k
    split at e <;> cases e
    rename_i n hn
    obtain ⟨v, rfl, h⟩ := paired1 r
    cases h with
    | hot ha =>
      have z := R.wd.at_ k _ _ ha hn
      refine .inl ⟨_, _, rfl, .inl (SqL.of z), ?_⟩
      rw [List.length_replicate]; exact q.ok R (.d (.int _))
  · cases e
/-- all, any of truths -/
def boolsOf : List D → Option (List Bool)
  | [] => some []
  | .bl b :: r => (boolsOf r).map (b :: ·)
  | _ :: _ => none
@[simp] theorem boolsOf_map (bs : List Bool) : boolsOf (bs.map .bl) = some bs := by
  induction bs with
  | nil => rfl
  | cons b r ih => simp [boolsOf, ih]
theorem bools_reps {I : Hp} : ∀ {vs : List V} {ds : List D} {bs : List Bool}, Reps I vs ds → boolsOf ds = some bs → vs = bs.map V.bl
  | _, _, _, .nil, e => by cases e; rfl
  | _, _, _, .cons h r, e => by
    cases h with
    | bl b =>
      simp only [boolsOf] at e
      cases e2 : boolsOf _ with
      | none => rw [e2] at e; cases e
      | some bs =>
        rw [e2] at e; cases e
        rw [bools_reps r e2]; rfl
    | _ => cases e
def allG (_ : Sx) : List A → Option D
  | [.d (.lst ds)] => (boolsOf ds).map fun bs => .bl (bs.all id)
  | _ => none
def anyG (_ : Sx) : List A → Option D
  | [.d (.lst ds)] => (boolsOf ds).map fun bs => .bl (bs.any id)
  | _ => none
theorem cg_all {K : Frag} : CallG K (rAll K) allG := by
  intro y B M σ H ρ S I hot vs as d Q R r e q
  unfold allG at e
  split at e
  · rename_i ds
    cases e2 : boolsOf ds with
    | none => rw [e2] at e; cases e
    | some bs =>
      rw [e2] at e; cases e
      obtain ⟨v, rfl, h⟩ := paired1 r
      have h := h.dat
      cases h with
      | lst hp n hr =>
        rw [bools_reps hr e2] at hp
        exact ⟨_, bs, rfl, SqL.of (R.wd.ext _ _ hp), q.ok R (.d (.bl _))⟩
  · cases e
theorem cg_any {K : Frag} : CallG K (rAny K) anyG := by
  intro y B M σ H ρ S I hot vs as d Q R r e q
  unfold anyG at e
  split at e
  · rename_i ds
    cases e2 : boolsOf ds with
    | none => rw [e2] at e; cases e
    | some bs =>
      rw [e2] at e; cases e
      obtain ⟨v, rfl, h⟩ := paired1 r
      have h := h.dat
      cases h with
      | lst hp n hr =>
        rw [bools_reps hr e2] at hp
        exact ⟨_, bs, rfl, SqL.of (R.wd.ext _ _ hp), q.ok R (.d (.bl _))⟩
  · cases e
/-- int(n), int(flag) -/
def intG (_ : Sx) : List A → Option D
  | [.d (.int i)] => some (.int i)
  | [.d (.bl b)] => some (.int (if b then 1 else 0))
  | _ => none
theorem cg_int {K : Frag} : CallG K (fun xs H Q => (∃ i, xs = [.int i] ∧ Q (.int i) H) ∨ ∃ k, xs = [.bl k] ∧ Q (.int (if k then 1 else 0)) H) intG := by
  intro y B M σ H ρ S I hot vs as d Q R r e q
  unfold intG at e
  split at e
  · cases e; obtain ⟨v, rfl, h⟩ := paired1 r
    have h := h.dat; cases h
    exact .inl ⟨_, rfl, q.ok R (.d (.int _))⟩
  · cases e; obtain ⟨v, rfl, h⟩ := paired1 r
    have h := h.dat; cases h
    exact .inr ⟨_, rfl, q.ok R (.d (.int _))⟩
  · cases e
/-- tuple(xs), list(xs) -/
def tupleG (_ : Sx) : List A → Option D
  | [.d (.lst xs)] => some (.tup xs)
  | [.d (.tup xs)] => some (.tup xs)
  | _ => none
def listG (_ : Sx) : List A → Option D
  | [.d (.lst xs)] => some (.lst xs)
  | [.d (.tup xs)] => some (.lst xs)
  | _ => none
theorem call_tupleF : CallR X (.type "tuple") (fun xs H Q => ∃ p ys, xs = [.ref p] ∧ ((SqL X.K H p ys ∧ ∀ l ob, H l = none → ob.dict = none → Q (.ref l) (upd H l (.frz ob (.tup ys)))) ∨ (SqT X.K H p ys ∧ Q (.ref p) H))) := by
  intro pins s σ H xs us Q I r h
  obtain ⟨p, ys, rfl, h⟩ := h
  obtain ⟨u, rfl, rx⟩ := vals1 r
  cases rx
  rcases h with ⟨hq, q⟩ | ⟨hq, q⟩
  · obtain ⟨its, r', pl, hz⟩ := I.list hq
    have hlen := r'.length
    refine call_tuple_list pl.isList (fun h' kp => ?_) (by simp only [List.size_toArray] <;> omega)
    have I1 : Inv X pins σ H { s with heap := h' } := I.kept (t' := s.toks) kp
    exact ⟨.ref h'.objs.size, _, I1.laid (t' := s.toks) (o := .frz _ (.tup ys)) (fun b o e => Heap.get?_push_of_some _ e) (Nat.le_refl _) ⟨Heap.get?_push_size _ rfl, hz, its, r', PyProof.Rows.IsTup.new _ _⟩, rfl, q _ _ (I1.hok.fresh (Nat.le_refl _)) rfl⟩
  · obtain ⟨its, r', pl, hz⟩ := I.tuple hq
    exact call_tuple_same pl ⟨.ref p, H, I, rfl, q⟩
theorem cg_tuple {K : Frag} : CallG K (fun xs H Q => ∃ p ys, xs = [.ref p] ∧ ((SqL K H p ys ∧ ∀ l ob, H l = none → ob.dict = none → Q (.ref l) (upd H l (.frz ob (.tup ys)))) ∨ (SqT K H p ys ∧ Q (.ref p) H))) tupleG := by
  intro y B M σ H ρ S I hot vs as d Q R r e q
  unfold tupleG at e
  split at e
  · cases e; obtain ⟨v, rfl, h⟩ := paired1 r
    have h := h.dat
    cases h with
    | lst hp n hr => exact ⟨_, _, rfl, .inl ⟨SqL.of (R.wd.ext _ _ hp), fun l ob hl hob => q.new R hl (.d (.tup (TupIn.new hob) n (hr.ext (upd_ext (R.wd.none hl).1))))⟩⟩
  · cases e; obtain ⟨v, rfl, h⟩ := paired1 r
    have h := h.dat
    cases h with
    | tup hp n hr => exact ⟨_, _, rfl, .inr ⟨hp.sq R.wd.ext, q.ok R (.d (.tup hp n hr))⟩⟩
  · cases e
theorem cg_list {K : Frag} : CallG K (fun xs H Q => ∃ p ys, xs = [.ref p] ∧ (SqL K H p ys ∨ SqT K H p ys) ∧ ∀ l, H l = none → Q (.ref l) (upd H l (.lst ys))) listG := by
  intro y B M σ H ρ S I hot vs as d Q R r e q
  unfold listG at e
  split at e
  · cases e; obtain ⟨v, rfl, h⟩ := paired1 r
    have h := h.dat
    cases h with
    | lst hp n hr => exact ⟨_, _, rfl, .inl (SqL.of (R.wd.ext _ _ hp)), fun l hl => q.new R hl (.d (.lst upd_same n (hr.ext (upd_ext (R.wd.none hl).1))))⟩
  · cases e; obtain ⟨v, rfl, h⟩ := paired1 r
    have h := h.dat
    cases h with
    | tup hp n hr => exact ⟨_, _, rfl, .inr (hp.sq R.wd.ext), fun l hl => q.new R hl (.d (.lst upd_same n (hr.ext (upd_ext (R.wd.none hl).1))))⟩
  · cases e

/-! ### isinstance(e, T), T a built-in class -/
inductive PyT where
  | int | bool | str | list | tuple | dict
def PyT.name : PyT → String
  | .int => "int" | .bool => "bool" | .str => "str" | .list => "list" | .tuple => "tuple" | .dict => "dict"
def isi : PyT → D → Bool
  | .int, .int _ => true
  | .int, .bl _ => true
  | .bool, .bl _ => true
  | .str, .str _ => true
  | .list, .lst _ => true
  | .tuple, .tup _ => true
  | .dict, .dct _ => true
  | _, _ => false
def tyD : D → String
  | .non => "NoneType" | .bl _ => "bool" | .int _ => "int" | .str _ => "str" | .lst _ => "list" | .tup _ => "tuple" | .dct _ => "dict"
theorem kit_isi (T : PyT) (d : D) : kitB (tyD d) T.name = some (isi T d) := by
  cases T <;> cases d <;> (first | rfl | decide +kernel | (show kitB _ _ = some _; decide +kernel))
theorem tyD_ok {K : Frag} {B : Bs} {σ : L2.St} {H : Hp} {ρ : Rho} {S : Sx} {I : Hp} {hot : List Addr} {v : V} {d : D} (R : Rel K B M σ H ρ S I hot) (h : Rep I v d) : TyX K H v (.type (tyD d)) := by
  cases h with
  | non => exact .base .non
  | bl b => exact .base (.bl b)
  | int i => exact .base (.int i)
  | str z _ => exact .base (.str z)
  | lst hp _ _ => exact .base (.lst (R.wd.ext _ _ hp))
  | tup hp _ _ => obtain ⟨o, h1, _⟩ := hp; exact .fTuple (R.wd.ext _ _ h1)
  | dct hp _ _ =>
    rcases R.wd.ext.rd hp with h | ⟨o, h⟩
    · exact .base (.dK h)
    · exact .fDict h
def eIsi (T : PyT) (f : Fe) : Fe := fun ρ S => (f ρ S).bind fun a S1 => match a with
  | .d u => .ok (.d (.bl (isi T u))) S1
  | _ => .stuck
theorem ge_isi {T : PyT} {e : Expr} {f : Fe} {n : Str} {p p2 pos : Pos} (he : GE X x M e f) (hm : X.mg "isinstance" = none) (hm2 : X.mg n = none) (hv : bootBuiltins n = some (.type T.name)) (hgl : Gl X "isinstance" := by rfl) (hgl2 : Gl X n := by rfl) (hn2 : n ≠ "__name__" := by decide)
    (hd2 : (n == ("__debug__" : Str)) = false := by decide) (hs : starEach [e, .Name n p2] X.env = (false, eval e X.env) :: starEach [.Name n p2] X.env := by rfl) (hs2 : starEach [.Name n p2] X.env = (false, eval (.Name n p2) X.env) :: starEach [] X.env := by rfl)
    (hpl : (backTo pos (starEach [.Name n p2] X.env)).any (·.1) = false := by rfl) :
    GE X x M (.Call (.Name "isinstance" p) [e, .Name n p2] [] pos) (eIsi T f) := by
  have h2 : PE X (.Name n p2) (tC (.ty T.name)) := pe_bltn hgl2 hm2 hv rfl hn2 hd2
  refine PE.weak (pe_callB call_isi hgl hm PyProof.Rows.boot_isinstance (pa_cons he (pa_cons h2 pa_nil hs2) hs) (by decide) (by decide) hs hpl) ?_
  rintro σ H Q ⟨B, ρ, S, I, hot, R, h⟩
  refine ⟨B, ρ, S, I, hot, R, h.bind.mono ?_⟩
  rintro v H1 ⟨I1, S1, a, R1, s1, r1, _, h1⟩
  cases a with
  | d u => exact ⟨v, .ty T.name, .type (tyD u), .type T.name, isi T u, rfl, .ty _, tyD_ok R1 r1.dat, kit_ty (kit_isi T u), After.ok (S := S1) h1 R1 (.d (.bl _))⟩
  | _ => exact h1.elim

/-! ### s.join(list of texts) -/
def strsOf : List D → Option (List Str)
  | [] => some []
  | .str z :: r => (strsOf r).map (z :: ·)
  | _ :: _ => none
@[simp] theorem strsOf_map (zs : List Str) : strsOf (zs.map .str) = some zs := by
  induction zs with
  | nil => rfl
  | cons b r ih => simp [strsOf, ih]
theorem strs_reps {I : Hp} : ∀ {vs : List V} {ds : List D} {zs : List Str}, Reps I vs ds → strsOf ds = some zs → vs = zs.map V.str
  | _, _, _, .nil, e => by cases e; rfl
  | _, _, _, .cons h r, e => by
    cases h with
    | str b _ =>
      simp only [strsOf] at e
      cases e2 : strsOf _ with
      | none => rw [e2] at e; cases e
      | some bs =>
        rw [e2] at e; cases e
        rw [strs_reps r e2]; rfl
    | _ => cases e
def joinD : D → D → Option D
  | .str a, .lst ds => (strsOf ds).bind fun ys => if (ys.map (·.length)).sum + ys.length * a.length ≤ 16777216 ∧ (Txt.join a ys).length ≤ sizeLine then some (.str (Txt.join a ys)) else none
  | .str a, .tup ds => (strsOf ds).bind fun ys => if (ys.map (·.length)).sum + ys.length * a.length ≤ 16777216 ∧ (Txt.join a ys).length ≤ sizeLine then some (.str (Txt.join a ys)) else none
  | _, _ => none
def eJoin (f f' : Fe) : Fe := fun ρ S => (f ρ S).bind fun a S1 => match a with
  | .d (.str z) => (f' ρ S1).bind fun b S2 => op2 joinD (.d (.str z)) b S2
  | _ => .stuck
theorem ge_join {o e : Expr} {f f' : Fe} {apos pos : Pos} (ho : GE X x M o f) (he : GE X x M e f') (hs : starEach [e] X.env = [(false, eval e X.env)] := by rfl) (hbase : attributeBase o "join" X.env (eval o X.env) = eval o X.env := by rfl) (hline : (apos.endLine == pos.line) = true := by rfl) :
    GE X x M (.Call (.Attribute o "join" apos) [e] [] pos) (eJoin f f') := by
  refine PE.weak (pe_join ho he hs hbase hline) ?_
  rintro σ H Q ⟨B, ρ, S, I, hot, R, h⟩
  refine ⟨B, ρ, S, I, hot, R, h.bind.mono ?_⟩
  rintro v H1 ⟨I1, S1, a, R1, s1, r1, _, h1⟩
  cases a with
  | d u =>
    cases u with
    | str z =>
      have q := r1.dat
      cases q
      have h1 : After X.K x B M σ ρ hot (RepA X.K hot) H1 I1 ((f' ρ S1).bind fun b S2 => op2 joinD (.d (.str z)) b S2) Q := h1
      refine ⟨⟨z, rfl⟩, B, ρ, S1, I1, hot, R1, h1.bind.mono ?_⟩
      rintro v2 H2 ⟨I2, S2, b, R2, s2, r2, _, h2⟩
      cases b with
      | d w =>
        rw [op2_d] at h2
        cases w with
        | lst ds =>
          have q := r2.dat
          cases q with
          | lst hp n hr =>
            have h3 : After X.K x B M σ ρ hot (RepA X.K hot) H2 I2 (ofO ((strsOf ds).bind fun ys => if (ys.map (·.length)).sum + ys.length * z.length ≤ 16777216 ∧ (Txt.join z ys).length ≤ sizeLine then some (.str (Txt.join z ys)) else none) S2) Q := h2
            cases e2 : strsOf ds with
            | none => rw [e2] at h3; exact h3.elim
            | some ys =>
              rw [e2] at h3
              dsimp only [Option.bind_some] at h3
              split at h3
              · rename_i hc
                rw [strs_reps hr e2] at hp
                exact ⟨z, _, ys, rfl, rfl, .inl (SqL.of (R2.wd.ext _ _ hp)), hc.1, After.ok (S := S2) h3 R2 (.d (.str _ hc.2))⟩
              · exact h3.elim
        | tup ds =>
          have q := r2.dat
          cases q with
          | tup hp n hr =>
            have h3 : After X.K x B M σ ρ hot (RepA X.K hot) H2 I2 (ofO ((strsOf ds).bind fun ys => if (ys.map (·.length)).sum + ys.length * z.length ≤ 16777216 ∧ (Txt.join z ys).length ≤ sizeLine then some (.str (Txt.join z ys)) else none) S2) Q := h2
            cases e2 : strsOf ds with
            | none => rw [e2] at h3; exact h3.elim
            | some ys =>
              rw [e2] at h3
              dsimp only [Option.bind_some] at h3
              split at h3
              · rename_i hc
                rw [strs_reps hr e2] at hp
                exact ⟨z, _, ys, rfl, rfl, .inr (hp.sq R2.wd.ext), hc.1, After.ok (S := S2) h3 R2 (.d (.str _ hc.2))⟩
              · exact h3.elim
        | _ => exact h2.elim
      | _ => exact h2.elim
    | _ => exact h1.elim
  | _ => exact h1.elim
end
end G
namespace G
open PySem L2
open PySem.W (Frag)
open Classical

section
variable {X : Cx} {x : Xc} {M : List Nat}
/-! ### in, not in -/
def flatD : D → Bool
  | .non => true
  | .bl _ => true
  | .int _ => true
  | .str _ => true
  | _ => false
def eqF : D → D → Bool
  | .non, .non => true
  | .bl a, .bl b => a == b
  | .bl a, .int b => (if a then 1 else 0) == b
  | .int a, .bl b => a == (if b then 1 else 0)
  | .int a, .int b => a == b
  | .str a, .str b => a == b
  | _, _ => false
def inSeq (d : D) (ds : List D) : Option Bool := if flatD d = true ∧ ds.all flatD = true then some (ds.any fun y => eqF y d) else none
def inB : D → D → Option Bool
  | .str ⟨⟨[c]⟩⟩, .str z => some (decide (c ∈ z.cps.toList))
  | d, .lst ds => inSeq d ds
  | d, .tup ds => inSeq d ds
  | d, .dct kvs => (keyD d).map fun k => (lookK kvs k).isSome
  | _, _ => none
def inD (a b : D) : Option D := (inB a b).map .bl
def notInD (a b : D) : Option D := (inB a b).map fun k => .bl (!k)
theorem flat_v {I : Hp} {v : V} {d : D} (h : Rep I v d) (hf : flatD d = true) : flatV v = true := by
  cases h <;> first | rfl | cases hf
theorem flat_vs {I : Hp} : ∀ {vs : List V} {ds : List D}, Reps I vs ds → ds.all flatD = true → vs.all flatV = true
  | _, _, .nil, _ => rfl
  | _, _, .cons h r, hf => by
    simp only [List.all_cons, Bool.and_eq_true] at hf ⊢
    exact ⟨flat_v h hf.1, flat_vs r hf.2⟩
theorem eqF_eq {I : Hp} {v w : V} {d e : D} (h : Rep I v d) (k : Rep I w e) (hd : flatD d = true) (he : flatD e = true) : eqV v w = eqF d e := by
  cases h <;> first | (cases hd; done) | (cases k <;> first | (cases he; done) | rfl)
theorem any_eq {I : Hp} {w : V} {e : D} (k : Rep I w e) (he : flatD e = true) : ∀ {vs : List V} {ds : List D}, Reps I vs ds → ds.all flatD = true → inV w vs = ds.any fun y => eqF y e
  | _, _, .nil, _ => rfl
  | _, _, .cons h r, hf => by
    simp only [List.all_cons, Bool.and_eq_true] at hf
    show (eqV _ w || inV w _) = (eqF _ e || _)
    rw [eqF_eq h k hf.1 he, any_eq k he r hf.2]
def rInG (K : Frag) (neg : Bool) : R2 := fun v w H Q => (∃ (c : Nat) (z : Str), v = .str ⟨#[c]⟩ ∧ w = .str z ∧ Q (.bl (if neg then !decide (c ∈ z.cps.toList) else decide (c ∈ z.cps.toList))) H) ∨ rIn K neg v w H Q ∨
  ∃ a o, w = .ref a ∧ DGet H a v o ∧ Q (.bl (if neg then !o.isSome else o.isSome)) H
theorem op_inDct (hu : X.A.units + 1 < cLine) : OpR X (compareOp .In) (fun v w H Q => ∃ a o, w = .ref a ∧ DGet H a v o ∧ Q (.bl o.isSome) H) := by
  intro pins s σ H v w u u' Q I r1 r2 h
  obtain ⟨a, o, rfl, g, q⟩ := h
  cases r2
  exact d_in hu I g r1 fun s' I' => ⟨.bl _, H, I', rfl, q⟩
theorem op_notInDct (hu : X.A.units + 1 < cLine) : OpR X (compareOp .NotIn) (fun v w H Q => ∃ a o, w = .ref a ∧ DGet H a v o ∧ Q (.bl (!o.isSome)) H) := by
  intro pins s σ H v w u u' Q I r1 r2 h
  obtain ⟨a, o, rfl, g, q⟩ := h
  cases r2
  exact d_notIn hu I g r1 fun s' I' => ⟨.bl _, H, I', rfl, q⟩
theorem op_inG (hu : X.A.units + 1 < cLine) : OpR X (compareOp .In) (rInG X.K false) := op_in_sign.or (op_in_seq.or (op_inDct hu))
theorem op_notInG (hu : X.A.units + 1 < cLine) : OpR X (compareOp .NotIn) (rInG X.K true) := op_notIn_sign.or (op_notIn_seq.or (op_notInDct hu))
theorem inG_main {K : Frag} {neg : Bool} {y : Xc} {B : Bs} {M : List Nat} {σ : L2.St} {H : Hp} {ρ : Rho} {S : Sx} {I : Hp} {hot : List Addr} {v w : V} {d1 d2 : D} {k : Bool} {Q : VK} (R : Rel K B M σ H ρ S I hot) (r1 : Rep I v d1) (r2 : Rep I w d2) (e : inB d1 d2 = some k)
    (q : After K y B M σ ρ hot (RepA K hot) H I (.ok (.d (.bl (if neg then !k else k))) S) Q) : rInG K neg v w H Q := by
  unfold inB at e
  split at e
  · cases e; cases r1; cases r2
    exact .inl ⟨_, _, rfl, rfl, q.ok R (.d (.bl _))⟩
  · unfold inSeq at e
    split at e
    · rename_i hf
      cases e
      cases r2 with
      | lst hp n hr =>
        refine .inr (.inl ⟨_, _, rfl, .inl (SqL.of (R.wd.ext _ _ hp)), flat_v r1 hf.1, flat_vs hr hf.2, ?_⟩)
        rw [any_eq r1 hf.1 hr hf.2]
        exact q.ok R (.d (.bl _))
    · cases e
  · unfold inSeq at e
    split at e
    · rename_i hf
      cases e
      cases r2 with
      | tup hp n hr =>
        refine .inr (.inl ⟨_, _, rfl, .inr (hp.sq R.wd.ext), flat_v r1 hf.1, flat_vs hr hf.2, ?_⟩)
        rw [any_eq r1 hf.1 hr hf.2]
        exact q.ok R (.d (.bl _))
    · cases e
  · rename_i kvs
    cases ek : keyD d1 with
    | none => rw [ek] at e; cases e
    | some key =>
      rw [ek] at e
      cases e
      have ev := keyD_rep r1 ek
      subst ev
      cases r2 with
      | @dct p ws _ hp n hr =>
        refine .inr (.inr ⟨p, valV ws key, rfl, .inl ⟨ws, key, R.wd.ext.rd hp, rfl, rfl⟩, ?_⟩)
        have eq : (valV ws key).isSome = (lookK kvs key).isSome := by
          cases el : lookK kvs key with
          | none => rw [(look_rep hr).2 el]; rfl
          | some d =>
            obtain ⟨v, hv, _⟩ := (look_rep hr).1 d el
            rw [hv]; rfl
        rw [eq]
        exact q.ok R (.d (.bl _))
  · cases e
theorem og_in {K : Frag} : OpG K (rInG K false) inD := by
  intro y B M σ H ρ S I hot v w d1 d2 d Q R r1 r2 e q
  unfold inD at e
  cases e2 : inB d1 d2 with
  | none => rw [e2] at e; cases e
  | some k => rw [e2] at e; cases e; exact inG_main (neg := false) R r1 r2 e2 q
theorem og_notIn {K : Frag} : OpG K (rInG K true) notInD := by
  intro y B M σ H ρ S I hot v w d1 d2 d Q R r1 r2 e q
  unfold notInD at e
  cases e2 : inB d1 d2 with
  | none => rw [e2] at e; cases e
  | some k => rw [e2] at e; cases e; exact inG_main (neg := true) R r1 r2 e2 q

/-! ### d.get(k, n): d a table of the top with text keys and ints -/
def tabGet (tab : List (Str × Int)) (z : Str) (n : Int) : Int := ((tab.find? fun p => decide (p.1 = z)).map (·.2)).getD n
structure Tabl (K : Frag) (w : World) (a : Addr) (tab : List (Str × Int)) : Prop where
  kd : ∃ es n, KDict K w a es n
  val : ∀ z, ∃ r, PySem.W.nsIn K a z = some r ∧ match tab.find? (fun p => decide (p.1 = z)) with
    | some p => ∃ t, r = some (.int p.2 t)
    | none => r = none
def eTab (tab : List (Str × Int)) (f : Fe) (n : Int) : Fe := fun ρ S => (f ρ S).bind fun a S1 => match a with
  | .d (.str z) => .ok (.d (.int (tabGet tab z n))) S1
  | _ => .stuck
theorem ge_tab {tab : List (Str × Int)} {g : Str} {b : Addr} {e : Expr} {f : Fe} {n : Int} {j : Nat} {p p2 apos pos : Pos} (T : Tabl X.K X.w b tab) (hm : X.mg g = some (.ref b)) (he : GE X x M e f) (hgl : Gl X g := by rfl) (hd : (g == ("__debug__" : Str)) = false := by decide)
    (m : M2 X (.Name g p) "get" apos e (.Constant (.int n) j p2) pos := by exact ⟨rfl, rfl, rfl, rfl⟩) :
    GE X x M (.Call (.Attribute (.Name g p) "get" apos) [e, .Constant (.int n) j p2] [] pos) (eTab tab f n) := by
  refine ⟨fun pins s σ H Q I h => ?_⟩
  obtain ⟨B, ρ, S, J, hot, R, h⟩ := h
  obtain ⟨es, en, D⟩ := T.kd
  have ho : PE X (.Name g p) (tC (.ref b)) := pe_glob hgl hm rfl hd
  refine wpAny_Call_method m.base m.few m.line PySem.F.plainAttrs_dict PySem.F.slot_dict_get PySem.F.type_dict_get (thn (ho.run pins s σ H (fun v H1 => v = .ref b ∧ H1 = H) I ⟨rfl, rfl⟩) ?_)
  rintro u s1 ⟨v, H1, I1, rv, rfl, rfl⟩
  cases rv
  have mo : ∀ s2 : Shared, X.K.In s2.heap → _ := fun s2 k => PySem.W.mapOf_K (prog := X.prog) (w := X.w) k D.at_ D.lit
  refine ⟨(mo s1 I1.kIn).typeIs, fun a e => ?_, ?_⟩
  · cases e
    exact ⟨_, I1.kIn _ _ D.at_, rfl⟩
  rw [m.trees]
  refine Calls.callWith_builtin rfl (Calls.evalArgs_plain (Calls.spliced_cons (thn (PE.run he pins s1 σ _ _ I1 ⟨B, ρ, S, J, hot, R, h.bind⟩) ?_)))
  rintro iv s2 ⟨v, H2, I2, rv, J2, S2, a, R2, st2, r2, _, h2⟩
  cases a with
  | d u =>
    cases u with
    | str z =>
      have q := r2.dat
      cases q
      obtain ⟨t, rfl⟩ := rv
      refine Calls.spliced_cons (thn ((pe_int (X := X) (i := n) (j := j) (pos := p2)).run pins s2 σ H2 (fun v H1 => v = .int n ∧ H1 = H2) I2 ⟨rfl, rfl⟩) ?_)
      rintro fv s3 ⟨v3, H3, I3, rv3, rfl, rfl⟩
      refine Calls.spliced_nil ?_
      refine call_meetsIn PySem.F.slot_dict_get (mo s3 I3.kIn).typeIs PySem.F.entry_dict_get (PySem.F.args_dict_get_3 _ _ _) (meets_dict_get_default (PySem.strKind X.prog X.w) b (PySem.strKind_is X.prog X.w z t) D.low fv) ⟨_, mo s3 I3.kIn, ?_⟩
      obtain ⟨r, hr, hv⟩ := T.val z
      rw [PySem.W.find_K D.at_ hr]
      have fin : ∀ k : Int, tabGet tab z n = k → RelV (.int k) (r.getD fv) → EP X pins σ Q (r.getD fv) { s3 with toks := s3.toks + 1 } := fun k ek rk => by
        refine ⟨.int k, H3, I3.tok _, rk, ?_⟩
        rw [← ek]
        exact After.ok (S := S2) h2 R2 (.d (.int _))
      cases ef : tab.find? (fun p => decide (p.1 = z)) with
      | none =>
        rw [ef] at hv
        subst hv
        exact fin n (by unfold tabGet; rw [ef]; rfl) rv3
      | some pr =>
        rw [ef] at hv
        obtain ⟨t', rfl⟩ := hv
        exact fin pr.2 (by unfold tabGet; rw [ef]; rfl) ⟨t', rfl⟩
    | _ => exact h2.elim
  | _ => exact h2.elim

/-! ### list(d.keys()), sorted(d.keys()) -/
def keyVal : Key → D
  | .inl i => .int i
  | .inr z => .str z
def keysD : D → Option D
  | .dct kvs => some (.lst (kvs.map fun kv => keyVal kv.1))
  | _ => none
def eKeys (f : Fe) : Fe := fun ρ S => (f ρ S).bind fun a S1 => match a with
  | .d u => ofO (keysD u) S1
  | _ => .stuck
/-- d.keys(), the view at r -/
theorem keys_run {Y : Cx} {A : Around} {E : Value → Shared → Prop} {pins : List (Addr × Obj)} {σ : L2.St} {H : Hp} {s : Shared} {a : Addr} {kvs : List (Key × V)} {Q : Value → Shared → Prop} (I : Inv Y pins σ H s) (e : Rd H a (.dK kvs))
    (h : ∀ s', Inv Y pins σ H s' → PySem.W.KdlKeysView s'.heap s.heap.objs.size a → s'.gens = s.gens → Q (.ref s.heap.objs.size) s') : wpAny (model Y.prog Y.w) A (call (.builtin "dict.keys") [.ref a]) Q E s := by
  obtain ⟨z, hd, vs, rel, dd⟩ := dk_rd I.hok e
  refine call_meetsIn PySem.F.slot_dict_keys dd.typeIs PySem.F.entry_dict_keys (PySem.F.args_dict_keys_1 _) (PySem.W.kdl_meets_keys (mixKind Y.prog Y.w) a hd) ⟨⟨_, dd⟩, ?_⟩
  exact h _ (I.kept (t' := s.toks) fun b o e => Heap.get?_push_of_some _ e) ⟨_, Heap.get?_push_size _ rfl, rfl, rfl⟩ rfl
theorem keyVal_reps {I : Hp} : ∀ {ws : List (Key × V)} {kvs : List (Key × D)}, Repk I ws kvs → ∀ J : Hp, Reps J (ws.map fun kv => kV kv.1) (kvs.map fun kv => keyVal kv.1)
  | _, _, .nil, _ => .nil
  | _, _, .cons (k := k) hk h r, J => .cons (by cases k with
    | inl i => exact .int i
    | inr z => exact .str z hk) (keyVal_reps r J)
end
end G
namespace G
open PySem PySem.Spec L2 PyProof.Rows
open PySem.W (Frag)
open Classical

/-- the keys' view of the dict at a, at p -/
def KvO (a p : Addr) : HO := .ext fun h => PySem.W.KdlKeysView h p a
theorem kvO_ok {P : Program} {w : World} {H : Hp} {h : Heap} {a p : Addr} (e : PySem.W.KdlKeysView h p a) : ObjOk P w H h p (KvO a p) := by
  obtain ⟨o, ho, r⟩ := id e
  exact ⟨e, ⟨o, ho⟩, fun h1 h2 ⟨o1, q1, r1⟩ k => ⟨o1, k _ q1, r1⟩⟩
def tKeys (td : TE) : TE := fun σ H Q => td σ H fun v H1 => ∃ a kvs, v = .ref a ∧ Rd H1 a (.dK kvs) ∧ ∀ p, H1 p = none → Q (.ref p) (upd H1 p (KvO a p))
section
variable {X : Cx} {x : Xc} {M : List Nat}
theorem pe_keys {o : Expr} {td : TE} {apos cpos : Pos} (ho : PE X o td) (hbase : attributeBase o "keys" X.env (eval o X.env) = eval o X.env := by rfl) (hline : (apos.endLine == cpos.line) = true := by rfl) :
    PE X (.Call (.Attribute o "keys" apos) [] [] cpos) (tKeys td) := by
  refine ⟨fun pins s σ H Q I h => ?_⟩
  refine wpAny_Call_method0_late hbase hline (thn (ho.run pins s σ H _ I h) ?_)
  rintro v s1 ⟨z, H1, I1, r1, a, kvs, rfl, hd, q1⟩
  cases r1
  obtain ⟨t1, t2, _⟩ := isD_at I1 (.inl ⟨_, hd⟩)
  refine ⟨"dict", "dict.keys", PySem.F.plainAttrs_dict, PySem.F.slot_dict_keys, PySem.F.type_dict_keys, t1, t2, Calls.callWith_builtin rfl (PySem.evalArgs_none ?_)⟩
  obtain ⟨_, hm, vs, rel, dd⟩ := dk_rd I1.hok hd
  refine call_meetsIn PySem.F.slot_dict_keys dd.typeIs PySem.F.entry_dict_keys (PySem.F.args_dict_keys_1 _) (PySem.W.kdl_meets_keys (mixKind X.prog X.w) a hm) ⟨⟨_, dd⟩, ?_⟩
  refine ⟨.ref s1.heap.objs.size, upd H1 s1.heap.objs.size (KvO a s1.heap.objs.size), I1.laid (t' := s1.toks) (fun b u e => Heap.get?_push_of_some _ e) (Nat.le_refl _) (kvO_ok ⟨_, Heap.get?_push_size _ rfl, rfl, rfl⟩), rfl, q1 _ (I1.hok.fresh (Nat.le_refl _))⟩
/-- what is collected of a view -/
theorem view_vals {P : Program} {w : World} {kvs : List (Key × V)} {vs : List (Key × Value)} (rel : KV kvs vs) {acc : Array Value} (h : ItemsOf (fun i v => ∃ k y, vs[i]? = some (k, y) ∧ (mixKind P w).is k v = true) acc vs.length) : Vals (kvs.map fun kv => kV kv.1) acc.toList := by
  have hl : kvs.length = vs.length := Paired.length rel
  have el : acc.toList.length = acc.size := by simp
  refine vals_of_at (by rw [List.length_map, el, h.1, hl]) fun j v u h1 h2 => ?_
  obtain ⟨k, y, hk, hi⟩ := h.2 j u (by rw [← Array.getElem?_toList]; exact h2)
  have e1 : (kvs.map (·.1))[j]? = some k := by rw [KV.keys rel, List.getElem?_map, hk]; rfl
  have e2 : (kvs.map fun kv => kV kv.1)[j]? = some (kV k) := by
    have e3 : (kvs.map fun kv => kV kv.1) = (kvs.map (·.1)).map kV := by rw [List.map_map]; rfl
    rw [e3, List.getElem?_map, e1]; rfl
  rw [e2] at h1
  cases h1
  exact keyIs_rel hi
def rListView : List V → Hp → VK → Prop := fun xs H Q => ∃ p a kvs, xs = [.ref p] ∧ H p = some (KvO a p) ∧ Rd H a (.dK kvs) ∧ ∀ q, H q = none → Q (.ref q) (upd H q (.lst (kvs.map fun kv => kV kv.1)))
theorem call_listView (hc : X.calm = true) : CallR X (.type "list") rListView := by
  intro pins s σ H xs us Q I r h
  obtain ⟨p, a, kvs, rfl, hp, hd, q⟩ := h
  rw [Vals.ref1 r]
  obtain ⟨z, lo, vs, rel, dd⟩ := dk_rd I.hok hd
  obtain ⟨ep, hat⟩ := dd.dictAt
  have hl : kvs.length = vs.length := Paired.length rel
  have hv : PySem.W.KdlKeysView s.heap p a := (I.hok p _ hp).1
  refine PySem.W.kdl_call (PySem.W.kdl_keys (knd := mixKind X.prog X.w) (kvs := vs) (ep := ep) (r := p) (d := a)) (I.ok.hd hc) ⟨hv, hat⟩ (by rw [← hl]; exact z) fun h' tk acc c hk hS hacc => ?_
  refine ⟨.ref s.heap.objs.size, upd H s.heap.objs.size (.lst (kvs.map fun kv => kV kv.1)), I.laid hk (Nat.le_refl _) (show ObjOk X.prog X.w _ _ _ (.lst (kvs.map fun kv => kV kv.1)) from ⟨?_, acc.toList, c, view_vals rel hacc, ?_⟩), rfl, q _ (I.hok.fresh (Nat.le_refl _))⟩
  · rw [List.length_map]; exact z
  · rw [Array.toArray_toList]; exact hS
def rSortView : List V → Hp → VK → Prop := fun xs H Q => ∃ p a kvs, ∃ ks : List Str, xs = [.ref p] ∧ H p = some (KvO a p) ∧ Rd H a (.dK kvs) ∧ kvs.map (·.1) = ks.map Sum.inr ∧ ks.length < 64 ∧
  ∀ ys q, ys.Perm ks → sortedS ys = true → H q = none → Q (.ref q) (upd H q (.lst (ys.map V.str)))
theorem call_sortView (hc : X.calm = true) : CallR X (.builtin "sorted") rSortView := by
  intro pins s σ H xs us Q I r h
  obtain ⟨p, a, kvs, ks, rfl, hp, hd, hks, h64, q⟩ := h
  rw [Vals.ref1 r]
  obtain ⟨z, lo, vs, rel, dd⟩ := dk_rd I.hok hd
  obtain ⟨ep, hat⟩ := dd.dictAt
  have hv : PySem.W.KdlKeysView s.heap p a := (I.hok p _ hp).1
  have hkv : kvs.length = ks.length := by have e := congrArg List.length hks; simpa using e
  have hl : vs.length = ks.length := by rw [← Paired.length rel]; exact hkv
  have h16 : vs.length ≤ sizeLine := by rw [hl, sizeLine_eq]; omega
  refine Calls.call_function_entry PyProof.Rows.kind_sorted PyProof.Rows.plain_sorted PyProof.Rows.entry_sorted (PyProof.Rows.args_sorted1 _) ?_
  unfold Builtin.«sorted»
  refine wpAny_bind (m := checkCount "sorted" 1 1 _) (wpAny_pure ?_)
  refine wpAny_bind (PySem.W.kdu_collect (A := X.A.in1) (PySem.W.kdl_keys (knd := mixKind X.prog X.w) (kvs := vs) (ep := ep) (r := p) (d := a)) (I.ok.hd hc) ⟨hv, hat⟩ h16 ?_)
  intro h' tk acc hk hacc
  have va := view_vals rel hacc
  have em : (kvs.map fun kv => kV kv.1) = ks.map V.str := by
    have e3 : (kvs.map fun kv => kV kv.1) = (kvs.map (·.1)).map kV := by rw [List.map_map]; rfl
    rw [e3, hks, List.map_map]; rfl
  rw [em] at va
  have hS : PyProof.Rows.StrsAre acc.toList ks := va.strs
  have hal : acc.toList.length = ks.length := by rw [← va.length, List.length_map]
  have I1 : Inv X pins σ H { s with heap := h', toks := tk } := I.kept hk
  refine wpAny_bind (wpAny_newList ?_ (by rw [hal, sizeLine_eq]; omega))
  have ho : (h'.push (seqObj "list" acc.toList.toArray 0)).get? h'.objs.size = some (seqObj "list" acc.toList.toArray 0) := Heap.get?_push_size _ rfl
  show wpAny _ _ _ _ _ { s with heap := h'.push (seqObj "list" acc.toList.toArray 0), toks := tk }
  refine wpAny_bind (wpAny_holding (wpAny_call_entry PyProof.Rows.slot_list_sort ⟨_, ho, rfl⟩ PyProof.Rows.entry_list_sort ?_ (PyProof.Rows.args_list_sort _)))
  refine list_sort_treeK strKind_oneLt (s := { s with heap := h'.push (seqObj "list" acc.toList.toArray 0), toks := tk }) ho hS.keysOf (fun v₁ v₂ rest e => keyKind_strs (by rw [← e]; exact hS)) (by rw [hal]; exact h64) fun st pm so => ⟨_, rfl, ?_⟩
  obtain ⟨ys, g1, g2, g3⟩ := sorted_out_str hS pm so
  obtain ⟨e', he'⟩ := PyProof.Rows.sortedHeap_at (vs := acc.toList) (out := (arrOf st).map (·.2)) ho
  have hz : (ys.map V.str).length ≤ sizeLine := by
    rw [List.length_map, g2.length_eq]; exact Nat.le_trans (Nat.le_of_lt h64) (by decide)
  refine wpAny_pure ⟨_, rfl, .ref h'.objs.size, upd H h'.objs.size (.lst (ys.map V.str)), I1.laid (t' := tk) (fun b u e => ?_) (Nat.le_refl _)
    (show ObjOk X.prog X.w _ _ _ (.lst (ys.map V.str)) from ⟨hz, ((arrOf st).map (·.2)).toList, e', vals_of_strs g1, by rw [Array.toArray_toList]; exact he'⟩), rfl, q ys _ g2 g3 (I1.hok.fresh (Nat.le_refl _))⟩
  have hb : b < h'.objs.size := Heap.lt_size e
  rw [PyProof.Rows.sortedHeap_old (Nat.ne_of_lt hb) (by rw [size_push']; exact Nat.lt_succ_of_lt hb)]
  exact Heap.get?_push_of_some _ e

/-- an object that is none of ours -/
theorem stp_add {hot : List Addr} {H I : Hp} {p : Addr} {o : HO} (h : H p = none) : Stp hot H I (upd H p o) I :=
  ⟨Ext.refl _, fun a u e _ => by rw [upd_ne (ne_of_none e h)]; exact e, fun a u e => ⟨u, by rw [upd_ne (ne_of_none e h)]; exact e⟩, fun a u e => .inl e⟩
theorem Wld.add {K : Frag} {H : Hp} {S : Sx} {I : Hp} {hot : List Addr} {p : Addr} {o : HO} (w : Wld K H S I hot) (h : H p = Option.none) : Wld K (upd H p o) S I hot :=
  ⟨fun a u e => by rw [upd_ne (ne_of_none (w.ext a u e) h)]; exact w.ext a u e, w.len, fun k a hv e1 e2 => (w.at_ k a hv e1 e2).at fun o e => by rw [upd_ne (ne_of_none e h)]; exact e, w.off, w.nd⟩
theorem Rel.add {K : Frag} {B : Bs} {σ : L2.St} {H : Hp} {ρ : Rho} {S : Sx} {I : Hp} {hot : List Addr} {p : Addr} {o : HO} (r : Rel K B M σ H ρ S I hot) (h : H p = none) : Rel K B M σ (upd H p o) ρ S I hot := r.step (stp_add h) (r.wd.add h)

theorem ge_listKeys {e : Expr} {f : Fe} {p pos apos cpos : Pos} (he : GE X x M e f) (hm : X.mg "list" = none) (hc : X.calm = true := by rfl) (hgl : Gl X "list" := by rfl) (hbase : attributeBase e "keys" X.env (eval e X.env) = eval e X.env := by rfl) (hline : (apos.endLine == cpos.line) = true := by rfl)
    (hs : starEach [.Call (.Attribute e "keys" apos) [] [] cpos] X.env = (false, eval (.Call (.Attribute e "keys" apos) [] [] cpos) X.env) :: starEach [] X.env := by rfl) (hpl : (backTo pos (starEach [] X.env)).any (·.1) = false := by rfl) :
    GE X x M (.Call (.Name "list" p) [.Call (.Attribute e "keys" apos) [] [] cpos] [] pos) (eKeys f) := by
  refine PE.weak (pe_callTy (call_listView hc) hgl hm PyProof.Rows.boot_list (pa_cons (pe_keys he hbase hline) pa_nil hs) (by decide) (by decide) hs hpl) ?_
  rintro σ H Q ⟨B, ρ, S, I, hot, R, h⟩
  refine ⟨B, ρ, S, I, hot, R, h.bind.mono ?_⟩
  rintro v H1 ⟨I1, S1, a, R1, s1, r1, _, h1⟩
  cases a with
  | d u =>
    cases u with
    | dct kvs =>
      have q := r1.dat
      cases q with
      | @dct b ws _ hp n hr =>
        refine ⟨b, ws, rfl, R1.wd.ext.rd hp, fun w hw => ?_⟩
        have h2 : After X.K x B M σ ρ hot (RepA X.K hot) H1 I1 (ofO (some (.lst (kvs.map fun kv => keyVal kv.1))) S1) Q := h1
        have R2 := R1.add (o := KvO b w) hw
        have hb : b ≠ w := by
          rcases R1.wd.ext.rd hp with z | ⟨o, z⟩
          · exact ne_of_none z hw
          · exact ne_of_none z hw
        refine ⟨w, b, ws, rfl, upd_same, ?_, fun y hy => ?_⟩
        · rcases R1.wd.ext.rd hp with z | ⟨o, z⟩
          · exact .inl (by rw [upd_ne hb]; exact z)
          · exact .inr ⟨o, by rw [upd_ne hb]; exact z⟩
        · exact After.new (S := S1) (After.from h2 (stp_add hw)) R2 hy (.d (.lst upd_same (by rw [List.length_map]; exact n) (keyVal_reps hr _)))
    | _ => exact h1.elim
  | _ => exact h1.elim
/-- the texts in their order -/
noncomputable def sortK (ks : List Str) : List Str := if h : ∃ ys : List Str, ys.Perm ks ∧ sortedS ys = true then Classical.choose h else ks
theorem le_of_lt {a b : Str} (h : ltCps b.cps.toList a.cps.toList = false) : a.cps.toList ≤ b.cps.toList := by
  rw [ltCps_eq] at h
  exact List.not_lt.mp (of_decide_eq_false h)
theorem rising_pw : ∀ (l : List Str) (p : Str), risingS p l = true → (p :: l).Pairwise fun a b => a.cps.toList ≤ b.cps.toList
  | [], p, _ => by simp
  | y :: r, p, h => by
    have h' : (!ltCps y.cps.toList p.cps.toList && risingS y r) = true := h
    simp only [Bool.and_eq_true, Bool.not_eq_true'] at h'
    have ih := rising_pw r y h'.2
    have le := le_of_lt h'.1
    refine List.pairwise_cons.mpr ⟨fun z hz => ?_, ih⟩
    rcases List.mem_cons.mp hz with rfl | hz
    · exact le
    · exact List.le_trans le (List.rel_of_pairwise_cons ih hz)
theorem sorted_pw (l : List Str) (h : sortedS l = true) : l.Pairwise fun a b => a.cps.toList ≤ b.cps.toList := by
  cases l with
  | nil => exact .nil
  | cons p r => exact rising_pw r p h
theorem sorted_one {a b : List Str} (p : a.Perm b) (ha : sortedS a = true) (hb : sortedS b = true) : a = b :=
  p.eq_of_pairwise (fun y z _ _ h1 h2 => by
    have e := List.le_antisymm h1 h2
    obtain ⟨⟨c⟩⟩ := y
    obtain ⟨⟨d⟩⟩ := z
    cases (show c = d from e)
    rfl) (sorted_pw a ha) (sorted_pw b hb)
theorem sortK_eq {ks ys : List Str} (p : ys.Perm ks) (h : sortedS ys = true) : sortK ks = ys := by
  have ex : ∃ ys : List Str, ys.Perm ks ∧ sortedS ys = true := ⟨ys, p, h⟩
  unfold sortK
  rw [dif_pos ex]
  have c := Classical.choose_spec ex
  exact sorted_one (c.1.trans p.symm) c.2 h
def keyStrs : List (Key × D) → Option (List Str)
  | [] => some []
  | (.inr z, _) :: r => (keyStrs r).map (z :: ·)
  | _ :: _ => none
noncomputable def sortKeysD : D → Option D
  | .dct kvs => (keyStrs kvs).bind fun ks => if ks.length < 64 then some (.lst ((sortK ks).map .str)) else none
  | _ => none
noncomputable def eSortKeys (f : Fe) : Fe := fun ρ S => (f ρ S).bind fun a S1 => match a with
  | .d u => ofO (sortKeysD u) S1
  | _ => .stuck
theorem keyStrs_map {I : Hp} : ∀ {ws : List (Key × V)} {kvs : List (Key × D)} {ks : List Str}, Repk I ws kvs → keyStrs kvs = some ks → ws.map (·.1) = ks.map Sum.inr
  | _, _, _, .nil, e => by cases e; rfl
  | _, _, _, .cons (k := k) _ h r, e => by
    cases k with
    | inl i => cases e
    | inr z =>
      simp only [keyStrs] at e
      cases e2 : keyStrs _ with
      | none => rw [e2] at e; cases e
      | some ks =>
        rw [e2] at e; cases e
        simp [keyStrs_map r e2]
theorem strs_rep (I : Hp) : ∀ zs : List Str, (∀ z ∈ zs, z.length ≤ sizeLine) → Reps I (zs.map V.str) (zs.map .str)
  | [], _ => .nil
  | z :: r, h => .cons (.str z (h z List.mem_cons_self)) (strs_rep I r fun y hy => h y (List.mem_cons_of_mem _ hy))
theorem keyStrs_len {I : Hp} : ∀ {ws : List (Key × V)} {kvs : List (Key × D)} {ks : List Str}, Repk I ws kvs → keyStrs kvs = some ks → ∀ z ∈ ks, z.length ≤ sizeLine
  | _, _, _, .nil, e => by cases e; simp
  | _, _, _, .cons (k := k) hk h r, e => by
    cases k with
    | inl i => cases e
    | inr z =>
      simp only [keyStrs] at e
      cases e2 : keyStrs _ with
      | none => rw [e2] at e; cases e
      | some ks =>
        rw [e2] at e; cases e
        intro y hy
        rcases List.mem_cons.mp hy with rfl | hy
        · exact hk
        · exact keyStrs_len r e2 y hy
theorem ge_sortKeys {e : Expr} {f : Fe} {p pos apos cpos : Pos} (he : GE X x M e f) (hm : X.mg "sorted" = none) (hc : X.calm = true := by rfl) (hgl : Gl X "sorted" := by rfl) (hbase : attributeBase e "keys" X.env (eval e X.env) = eval e X.env := by rfl) (hline : (apos.endLine == cpos.line) = true := by rfl)
    (hs : starEach [.Call (.Attribute e "keys" apos) [] [] cpos] X.env = (false, eval (.Call (.Attribute e "keys" apos) [] [] cpos) X.env) :: starEach [] X.env := by rfl) (hpl : (backTo pos (starEach [] X.env)).any (·.1) = false := by rfl) :
    GE X x M (.Call (.Name "sorted" p) [.Call (.Attribute e "keys" apos) [] [] cpos] [] pos) (eSortKeys f) := by
  refine PE.weak (pe_callB (call_sortView hc) hgl hm PyProof.Rows.boot_sorted (pa_cons (pe_keys he hbase hline) pa_nil hs) (by decide) (by decide) hs hpl) ?_
  rintro σ H Q ⟨B, ρ, S, I, hot, R, h⟩
  refine ⟨B, ρ, S, I, hot, R, h.bind.mono ?_⟩
  rintro v H1 ⟨I1, S1, a, R1, s1, r1, _, h1⟩
  cases a with
  | d u =>
    cases u with
    | dct kvs =>
      have q := r1.dat
      cases q with
      | @dct b ws _ hp n hr =>
        refine ⟨b, ws, rfl, R1.wd.ext.rd hp, fun w hw => ?_⟩
        have h2 : After X.K x B M σ ρ hot (RepA X.K hot) H1 I1 (ofO ((keyStrs kvs).bind fun ks => if ks.length < 64 then some (.lst ((sortK ks).map .str)) else none) S1) Q := h1
        cases ek : keyStrs kvs with
        | none => rw [ek] at h2; exact h2.elim
        | some ks =>
          rw [ek] at h2
          dsimp only [Option.bind_some] at h2
          split at h2
          · have R2 := R1.add (o := KvO b w) hw
            have hb : b ≠ w := by
              rcases R1.wd.ext.rd hp with z | ⟨o, z⟩
              · exact ne_of_none z hw
              · exact ne_of_none z hw
            refine ⟨w, b, ws, ks, rfl, upd_same, ?_, keyStrs_map hr ek, by assumption, fun ys y pm so hy => ?_⟩
            · rcases R1.wd.ext.rd hp with z | ⟨o, z⟩
              · exact .inl (by rw [upd_ne hb]; exact z)
              · exact .inr ⟨o, by rw [upd_ne hb]; exact z⟩
            · rw [sortK_eq pm so] at h2
              refine After.new (S := S1) (After.from h2 (stp_add hw)) R2 hy (.d (.lst upd_same ?_ (strs_rep _ ys fun z hz => keyStrs_len hr ek z (pm.mem_iff.mp hz))))
              rw [List.length_map, pm.length_eq, sizeLine_eq]; omega
          · exact h2.elim
    | _ => exact h1.elim
  | _ => exact h1.elim
end
end G
namespace G
open PySem L2
open PySem.W (Frag)
open Classical

/-! ### what is walked -/
abbrev Fi := Rho → Sx → Res (List D)
/-- the walk J gives ds, while what I holds stands -/
def RepI (I : Hp) (J : It) (ds : List D) : Prop := ds.length ≤ sizeLine ∧ Walk J ds.length (fun H => Ext I H) (fun i H v H' => H' = H ∧ ∃ d, ds[i]? = some d ∧ Rep I v d)
def iOf (K : Frag) (x : Xc) (M : List Nat) (f : Fi) : TI := fun σ H R => ∃ B ρ S I hot, Rel K B M σ H ρ S I hot ∧ After K x B M σ ρ hot RepI H I (f ρ S) R
def GI (X : Cx) (x : Xc) (M : List Nat) (tg it : Expr) (f : Fi) : Prop := PI X tg it (iOf X.K x M f)
def signs (z : Str) : List D := z.cps.toList.map fun c => .str ⟨#[c]⟩
def itemsOf : A → Option (List D)
  | .d (.lst ds) => some ds
  | .d (.tup ds) => some ds
  | .d (.str z) => some (signs z)
  | _ => none
def iSeq (f : Fe) : Fi := fun ρ S => (f ρ S).bind fun a S1 => match itemsOf a with
  | some ds => .ok ds S1
  | none => .stuck
section
variable {X : Cx} {x : Xc} {M : List Nat} {tg : Expr}
theorem PI.weak {it : Expr} {t t' : TI} (h : PI X tg it t) (k : ∀ σ H R, t' σ H R → t σ H R) : PI X tg it t' := ⟨fun pins s σ H R I q => h.run pins s σ H R I (k σ H R q)⟩
theorem PI.or {it : Expr} {t u : TI} (h : PI X tg it t) (k : PI X tg it u) : PI X tg it (fun σ H R => t σ H R ∨ u σ H R) := ⟨fun pins s σ H R I q => by
  rcases q with q | q
  · exact h.run pins s σ H R I q
  · exact k.run pins s σ H R I q⟩
theorem walkI_list {K : Frag} {I : Hp} {a : Addr} {vs : List V} {ds : List D} (h : I a = some (.lst vs)) (r : Reps I vs ds) (z : vs.length ≤ sizeLine) : RepI I (Itl K a) ds := by
  refine ⟨by rw [← r.length]; exact z, ?_⟩
  have w := walk_list (K := K) (a := a) (xs := vs)
  rw [r.length] at w
  refine w.mono (fun H e => SqL.of (e _ _ h)) fun i H v H' _ _ ⟨e, y⟩ => ⟨e, ?_⟩
  exact r.getV y
theorem walkI_tup {K : Frag} {I : Hp} {a : Addr} {vs : List V} {ds : List D} (h : TupIn I a vs) (r : Reps I vs ds) (z : vs.length ≤ sizeLine) : RepI I (Itt K a) ds := by
  refine ⟨by rw [← r.length]; exact z, ?_⟩
  have w := walk_tup (K := K) (a := a) (xs := vs)
  rw [r.length] at w
  refine w.mono (fun H e => h.sq e) fun i H v H' _ _ ⟨e, y⟩ => ⟨e, ?_⟩
  exact r.getV y
theorem walkI_str {I : Hp} {z : Str} (h : z.length ≤ sizeLine) : RepI I (Its z) (signs z) := by
  have el : (signs z).length = z.cps.size := by unfold signs; simp
  refine ⟨by rw [el]; exact h, ?_⟩
  rw [el]
  refine (walk_str (z := z)).mono (fun _ _ => trivial) fun i H v H' _ _ ⟨e, c, h1, h2⟩ => ⟨e, .str ⟨#[c]⟩, ?_, ?_⟩
  · unfold signs
    rw [List.getElem?_map, Array.getElem?_toList, h1]; rfl
  · rw [h2]; exact .str _ (by show 1 ≤ sizeLine; decide)
def rangeD (lo : Int) (n : Nat) : List D := (List.range n).map fun i => .int (lo + (i : Nat))
theorem walkI_range {I : Hp} {lo : Int} {n : Nat} (h : n ≤ sizeLine) : RepI I (Itr lo n) (rangeD lo n) := by
  have el : (rangeD lo n).length = n := by unfold rangeD; simp
  refine ⟨by rw [el]; exact h, ?_⟩
  rw [el]
  refine (walk_range (lo := lo) (n := n)).mono (fun _ _ => trivial) fun i H v H' hi _ ⟨e, h2⟩ => ⟨e, .int (lo + (i : Nat)), ?_, ?_⟩
  · unfold rangeD
    rw [List.getElem?_map, List.getElem?_range hi]; rfl
  · rw [h2]; exact .int _
def kindOf (r : Res A) : Nat := match r with
  | .ok (.d (.lst _)) _ => 1
  | .ok (.d (.tup _)) _ => 2
  | _ => 0
theorem gi_seq {e : Expr} {f : Fe} (he : GE X x M e f) : GI X x M tg e (iSeq f) := by
  refine PI.weak (PI.or (pi_list he) (PI.or (pi_tup he) (pi_str he))) ?_
  rintro σ H R ⟨B, ρ, S, I, hot, Rl, h⟩
  by_cases k1 : kindOf (f ρ S) = 1
  · refine .inl ⟨B, ρ, S, I, hot, Rl, h.bind.mono ?_⟩
    rintro v H1 ⟨I1, S1, a, R1, s1, r1, e1, h1⟩
    rw [e1] at k1
    cases r1 with
    | d q =>
      cases q with
      | @lst p vs ds hp n hr => exact ⟨p, rfl, ⟨vs, SqL.of (R1.wd.ext _ _ hp)⟩, After.ok (S := S1) (RX := RepI) h1 R1 (walkI_list hp hr n)⟩
      | _ => simp [kindOf] at k1
    | _ => simp [kindOf] at k1
  · by_cases k2 : kindOf (f ρ S) = 2
    · refine .inr (.inl ⟨B, ρ, S, I, hot, Rl, h.bind.mono ?_⟩)
      rintro v H1 ⟨I1, S1, a, R1, s1, r1, e1, h1⟩
      rw [e1] at k2
      cases r1 with
      | d q =>
        cases q with
        | @tup p vs ds hp n hr => exact ⟨p, rfl, ⟨vs, hp.sq R1.wd.ext⟩, After.ok (S := S1) (RX := RepI) h1 R1 (walkI_tup hp hr n)⟩
        | _ => simp [kindOf] at k2
      | _ => simp [kindOf] at k2
    · refine .inr (.inr ⟨B, ρ, S, I, hot, Rl, h.bind.mono ?_⟩)
      rintro v H1 ⟨I1, S1, a, R1, s1, r1, e1, h1⟩
      rw [e1] at k1 k2
      cases r1 with
      | d q =>
        cases q with
        | str z hz => exact ⟨z, rfl, After.ok (S := S1) (RX := RepI) h1 R1 (walkI_str hz)⟩
        | lst _ _ _ => exact absurd rfl k1
        | tup _ _ _ => exact absurd rfl k2
        | _ => exact h1.elim
      | _ => exact h1.elim
noncomputable def rng1C (j : Int) (S : Sx) : Res (List D) := @ite _ (-(2 ^ 30) ≤ j ∧ j ≤ sizeLine) (Classical.propDecidable _) (.ok (rangeD 0 j.toNat) S) .stuck
noncomputable def rng2C (i j : Int) (S : Sx) : Res (List D) := @ite _ (-(2 ^ 30) ≤ i ∧ i ≤ 2 ^ 30 ∧ -(2 ^ 30) ≤ j ∧ j ≤ 2 ^ 30 ∧ j - i ≤ sizeLine) (Classical.propDecidable _) (.ok (rangeD i (j - i).toNat) S) .stuck
noncomputable def iRng1 (f : Fe) : Fi := fun ρ S => (f ρ S).bind fun a S1 => match a with
  | .d (.int j) => rng1C j S1
  | _ => .stuck
noncomputable def iRng2 (f g : Fe) : Fi := fun ρ S => (f ρ S).bind fun a S1 => (g ρ S1).bind fun b S2 => match a, b with
  | .d (.int i), .d (.int j) => rng2C i j S2
  | _, _ => .stuck
theorem gi_range1 {a : Expr} {f : Fe} {p pos : Pos} (ha : GE X x M a f) (hm : X.mg "range" = none) (hgl : Gl X "range" := by rfl) (hs : starEach [a] X.env = [(false, eval a X.env)] := by rfl) : GI X x M tg (.Call (.Name "range" p) [a] [] pos) (iRng1 f) := by
  have hs' : starEach [a] X.env = (false, eval a X.env) :: starEach [] X.env := hs
  refine PI.weak (pi_range1 hgl hm (pa_cons ha pa_nil hs') hs) ?_
  rintro σ H R ⟨B, ρ, S, I, hot, Rl, h⟩
  refine ⟨B, ρ, S, I, hot, Rl, h.bind.mono ?_⟩
  rintro v H1 ⟨I1, S1, a, R1, s1, r1, e1, h1⟩
  cases a with
  | d u =>
    cases u with
    | int j =>
      have q := r1.dat
      cases q
      have h2 : After X.K x B M σ ρ hot RepI H1 I1 (rng1C j S1) R := h1
      unfold rng1C at h2
      split at h2
      · rename_i hj
        have h24 : sizeLine = 16777216 := sizeLine_eq
        exact ⟨j, rfl, by omega, by omega, After.ok (S := S1) (RX := RepI) h2 R1 (walkI_range (lo := 0) (by omega))⟩
      · exact h2.elim
    | _ => exact h1.elim
  | _ => exact h1.elim
theorem gi_range2 {a b : Expr} {f g : Fe} {p pos : Pos} (ha : GE X x M a f) (hb : GE X x M b g) (hm : X.mg "range" = none) (hgl : Gl X "range" := by rfl) (hs : starEach [a, b] X.env = [(false, eval a X.env), (false, eval b X.env)] := by rfl) (hs2 : starEach [b] X.env = [(false, eval b X.env)] := by rfl) : GI X x M tg (.Call (.Name "range" p) [a, b] [] pos) (iRng2 f g) := by
  have hs' : starEach [a, b] X.env = (false, eval a X.env) :: starEach [b] X.env := by rw [hs, hs2]
  have hs2' : starEach [b] X.env = (false, eval b X.env) :: starEach [] X.env := hs2
  refine PI.weak (pi_range2 hgl hm (pa_cons ha (pa_cons hb pa_nil hs2') hs') hs hs2) ?_
  rintro σ H R ⟨B, ρ, S, I, hot, Rl, h⟩
  refine ⟨B, ρ, S, I, hot, Rl, h.bind.mono ?_⟩
  rintro v H1 ⟨I1, S1, a, R1, s1, r1, e1, h1⟩
  refine ⟨B, ρ, S1, I1, hot, R1, h1.bind.mono ?_⟩
  rintro w H2 ⟨I2, S2, b, R2, s2, r2, e2, h2⟩
  cases a with
  | d u =>
    cases b with
    | d u' =>
      cases u with
      | int i =>
        cases u' with
        | int j =>
          have q := r1.dat
          cases q
          have q := r2.dat
          cases q
          have h3 : After X.K x B M σ ρ hot RepI H2 I2 (rng2C i j S2) R := h2
          unfold rng2C at h3
          split at h3
          · rename_i hj
            have h24 : sizeLine = 16777216 := sizeLine_eq
            exact ⟨i, j, rfl, ⟨by omega, by omega, by omega, by omega⟩, After.ok (S := S2) (RX := RepI) h3 R2 (walkI_range (lo := i) (by omega))⟩
          · exact h3.elim
        | _ => exact h2.elim
      | _ => cases u' <;> exact h2.elim
    | _ => cases u <;> exact h2.elim
  | _ => exact h2.elim

/-! ### targets -/
inductive Tgt where
  | n (i : Nat) | t (is : List Nat)
def Tgt.slots : Tgt → List Nat
  | .n i => [i]
  | .t is => is
def setAll : List Nat → List D → Rho → Rho
  | i :: is, d :: ds, ρ => setAll is ds (ρ.set i (some (.d d)))
  | _, _, ρ => ρ
def setAllV : List Nat → List V → L2.St → L2.St
  | i :: is, v :: vs, σ => setAllV is vs (σ.set i (some v))
  | _, _, σ => σ
def bindT : Tgt → D → Rho → Option Rho
  | .n i, d, ρ => some (ρ.set i (some (.d d)))
  | .t is, .tup ds, ρ => if ds.length = is.length then some (setAll is ds ρ) else none
  | _, _, _ => none
def gNames : List Nat → TGs
  | [] => gNil
  | i :: is => gCons (gName i) (gNames is)
def gT (K : Frag) : Tgt → TG
  | .n i => gName i
  | .t is => gTup K is.length (gNames is)
def GG (X : Cx) (tg : Expr) (t : Tgt) : Prop := PG X tg (gT X.K t)
theorem gg_name {i : Nat} {n : Str} {pos : Pos} (hN : X.N.Nodup) (hi : X.N[i]? = some n := by rfl) (hx : Loc X.env.scope n := by first | exact .inl rfl | exact .inr rfl) (hf : X.fn n = true ∨ X.env.scope.names.lookup n = some .local := by first | exact .inl rfl | exact .inr rfl) : GG X (.Name n pos) (.n i) := pg_name hN hi hx hf
def GGs (X : Cx) (es : List Expr) (is : List Nat) : Prop := PGs X es (gNames is)
theorem ggs_nil : GGs X [] [] := pgs_nil
theorem ggs_cons {i : Nat} {e : Expr} {es : List Expr} {is : List Nat} (h1 : GG X e (.n i)) (h2 : GGs X es is) (hs : (assignEach (e :: es) X.env).map (·.2) = assign e X.env :: (assignEach es X.env).map (·.2) := by rfl) : GGs X (e :: es) (i :: is) := pgs_cons h1 h2 hs
theorem gg_tup {es : List Expr} {k : Nat} {is : List Nat} {pos : Pos} (h : GGs X es is) (hc : X.calm = true := by rfl) (hn : (assignEach es X.env).length = is.length := by rfl) (hst : (assignEach es X.env).findIdx? (·.1) = none := by rfl) : GG X (.Tuple es k pos) (.t is) := pg_tup hc h hn hst
end
section
variable {K : Frag} {B : Bs} {M : List Nat} {σ : L2.St} {H : Hp} {ρ : Rho} {S : Sx} {I : Hp} {hot : List Addr}
theorem Rel.set {v : V} {a : A} {i : Nat} (r : Rel K B M σ H ρ S I hot) (h : RepA K hot I v a) (hi : i ∉ M) : Rel K B M (σ.set i (some v)) H (ρ.set i (some a)) S I hot := by
  refine ⟨r.wd, r.st, by rw [List.length_set, List.length_set]; exact r.len, fun j d e hj => ?_, fun j hj => ?_, fun j hj k hk n => ?_⟩
  · by_cases z : i = j
    · subst z
      by_cases hl : i < ρ.length
      · rw [List.getElem?_set_self hl] at e
        cases e
        exact ⟨v, List.getElem?_set_self (by rw [r.len]; exact hl), h⟩
      · rw [List.getElem?_eq_none (by rw [List.length_set]; omega)] at e; cases e
    · rw [List.getElem?_set_ne z] at e
      rw [List.getElem?_set_ne z]
      exact r.val j d e hj
  · have z : i ≠ j := fun q => hi (q ▸ hj)
    rw [List.getElem?_set_ne z, List.getElem?_set_ne z]
    exact r.own j hj
  · have z : i ≠ j := fun q => hi (q ▸ hj)
    have z' : i ≠ k := fun q => hi (q ▸ hk)
    rw [List.getElem?_set_ne z, List.getElem?_set_ne z']
    exact r.sep j hj k hk n
theorem gNames_ok : ∀ {is : List Nat} {vs : List V} {ds : List D} {σ : L2.St} {ρ : Rho} {Q : L2.St → Hp → Prop}, Rel K B M σ H ρ S I hot → Reps I vs ds → ds.length = is.length → (∀ i ∈ is, i ∉ M) → (Rel K B M (setAllV is vs σ) H (setAll is ds ρ) S I hot → Q (setAllV is vs σ) H) → gNames is vs σ H Q
  | [], _, _, σ, ρ, Q, R, .nil, _, _, q => ⟨rfl, q R⟩
  | [], _, _, σ, ρ, Q, R, .cons _ _, e, _, _ => by simp at e
  | i :: is, _, _, σ, ρ, Q, R, .nil, e, _, _ => by simp at e
  | i :: is, _, _, σ, ρ, Q, R, .cons (v := v) (vs := vs) h r, e, n, q => by
    refine ⟨v, vs, rfl, ?_⟩
    exact gNames_ok (R.set (.d h) (n i List.mem_cons_self)) r (by simpa using e) (fun j hj => n j (List.mem_cons_of_mem _ hj)) q
def Tgt.setV : Tgt → List V → L2.St → L2.St
  | .n i, v :: _, σ => σ.set i (some v)
  | .n _, [], σ => σ
  | .t is, vs, σ => setAllV is vs σ
theorem gT_ok {t : Tgt} {v : V} {d : D} {ρ' : Rho} {Q : L2.St → Hp → Prop} (R : Rel K B M σ H ρ S I hot) (h : Rep I v d) (e : bindT t d ρ = some ρ') (n : ∀ i ∈ t.slots, i ∉ M) (q : ∀ vs, Rel K B M (t.setV vs σ) H ρ' S I hot → Q (t.setV vs σ) H) : gT K t v σ H Q := by
  cases t with
  | n i =>
    cases e
    exact q [v] (R.set (.d h) (n i List.mem_cons_self))
  | t is =>
    cases h with
    | tup hp hz hr =>
      simp only [bindT] at e
      split at e
      · rename_i hl
        cases e
        exact ⟨_, _, rfl, hp.sq R.wd.ext, by rw [hr.length, hl], gNames_ok R hr hl n fun z => q _ z⟩
      · cases e
    | _ => cases e
/-! ### the slots of a block's own names -/
def wipeR (ρ : Rho) : List Nat → Rho
  | [] => ρ
  | v :: vs => (wipeR ρ vs).set v none
theorem Rel.unset {i : Nat} (r : Rel K B M σ H ρ S I hot) (hi : i ∉ M) : Rel K B M (σ.set i none) H (ρ.set i none) S I hot := by
  refine ⟨r.wd, r.st, by rw [List.length_set, List.length_set]; exact r.len, fun j d e hj => ?_, fun j hj => ?_, fun j hj k hk n => ?_⟩
  · by_cases z : i = j
    · subst z
      by_cases hl : i < ρ.length
      · rw [List.getElem?_set_self hl] at e; cases e
      · rw [List.getElem?_eq_none (by rw [List.length_set]; omega)] at e; cases e
    · rw [List.getElem?_set_ne z] at e
      rw [List.getElem?_set_ne z]
      exact r.val j d e hj
  · have z : i ≠ j := fun q => hi (q ▸ hj)
    rw [List.getElem?_set_ne z, List.getElem?_set_ne z]
    exact r.own j hj
  · have z : i ≠ j := fun q => hi (q ▸ hj)
    have z' : i ≠ k := fun q => hi (q ▸ hk)
    rw [List.getElem?_set_ne z, List.getElem?_set_ne z']
    exact r.sep j hj k hk n
theorem Rel.wipe (r : Rel K B M σ H ρ S I hot) : ∀ {vs : List Nat}, (∀ i ∈ vs, i ∉ M) → Rel K B M (wipe σ vs) H (wipeR ρ vs) S I hot
  | [], _ => r
  | v :: vs, h => (Rel.wipe r fun i hi => h i (List.mem_cons_of_mem _ hi)).unset (h v List.mem_cons_self)
theorem wipe_get {σ : L2.St} : ∀ {vs : List Nat} {i : Nat}, (wipe σ vs)[i]? = if i ∈ vs then (if i < σ.length then some none else none) else σ[i]?
  | [], i => by simp [L2.wipe]
  | v :: vs, i => by
    unfold L2.wipe
    by_cases e : v = i
    · subst e
      rw [if_pos List.mem_cons_self]
      by_cases hl : v < σ.length
      · rw [if_pos hl, List.getElem?_set_self (by rw [wipe_length]; exact hl)]
      · rw [if_neg hl, List.getElem?_eq_none (by rw [List.length_set, wipe_length]; omega)]
    · rw [List.getElem?_set_ne e, wipe_get]
      have : (i ∈ v :: vs) ↔ i ∈ vs := by simp [Ne.symm e]
      simp only [this]
theorem wipe_ext {σ τ : L2.St} {vs : List Nat} (hl : σ.length = τ.length) (h : ∀ i, i ∉ vs → σ[i]? = τ[i]?) : wipe σ vs = wipe τ vs := by
  refine List.ext_getElem? fun i => ?_
  rw [wipe_get, wipe_get, hl]
  split
  · rfl
  · exact h i (by assumption)
theorem setAllV_get : ∀ {is : List Nat} {vs : List V} {σ : L2.St} {i : Nat}, i ∉ is → (setAllV is vs σ)[i]? = σ[i]?
  | [], _, _, _, _ => by simp [setAllV]
  | _ :: _, [], _, _, _ => by simp [setAllV]
  | j :: is, v :: vs, σ, i, h => by
    simp only [List.mem_cons, not_or] at h
    rw [setAllV, setAllV_get h.2, List.getElem?_set_ne (fun q => h.1 q.symm)]
theorem setAllV_len : ∀ {is : List Nat} {vs : List V} {σ : L2.St}, (setAllV is vs σ).length = σ.length
  | [], _, _ => by simp [setAllV]
  | _ :: _, [], _ => by simp [setAllV]
  | j :: is, v :: vs, σ => by rw [setAllV, setAllV_len, List.length_set]
theorem setV_get {t : Tgt} {vs : List V} {i : Nat} (h : i ∉ t.slots) : (t.setV vs σ)[i]? = σ[i]? := by
  cases t with
  | n j =>
    cases vs with
    | nil => rfl
    | cons v r =>
      have : i ≠ j := by simpa [Tgt.slots] using h
      show (σ.set j (some v))[i]? = _
      rw [List.getElem?_set_ne (Ne.symm this)]
  | t is => exact setAllV_get h
theorem setV_len {t : Tgt} {vs : List V} : (t.setV vs σ).length = σ.length := by
  cases t with
  | n j =>
    cases vs with
    | nil => rfl
    | cons v r => exact List.length_set
  | t is => exact setAllV_len
theorem wipe_setV {t : Tgt} {us : List V} {vs : List Nat} (h : ∀ i ∈ t.slots, i ∈ vs) : wipe (t.setV us (wipe σ vs)) vs = wipe σ vs :=
  wipe_ext (by rw [setV_len, wipe_length]) fun i hi => by
    rw [setV_get (fun z => hi (h i z)), wipe_get, if_neg hi]
end
end G
namespace G
open PySem L2
open PySem.W (Frag)
open Classical

section
variable {K : Frag} {x : Xc} {B : Bs} {M : List Nat} {σ : L2.St} {H : Hp} {ρ : Rho} {S : Sx} {I H1 I1 : Hp} {hot : List Addr}
/-- an object of ours, no part of I, is laid or changed -/
theorem Rel.put {p : Addr} {o : HO} (r : Rel K B M σ H ρ S I hot) (h1 : I p = none) (h2 : p ∉ hot) (h3 : B.H p = none) (h4 : ∀ i ∈ M, σ[i]? ≠ some (some (.ref p))) : Rel K B M σ (upd H p o) ρ S I hot := by
  have ne : ∀ a u, I a = some u → a ≠ p := fun a u e z => by rw [z, h1] at e; cases e
  refine ⟨⟨fun a u e => by rw [upd_ne (ne a u e)]; exact r.wd.ext a u e, r.wd.len, fun k a hv e1 e2 => (r.wd.at_ k a hv e1 e2).at fun o e => ?_, r.wd.off, r.wd.nd⟩, ⟨r.st.ext, fun a u e n => ?_, fun a u e => ?_, r.st.new⟩, r.len, r.val, fun i hi => ?_, r.sep⟩
  · rw [upd_ne (fun z : a = p => h2 (by rw [← z]; exact List.mem_of_getElem? e1))]; exact e
  · rw [upd_ne (fun z => by rw [z, h3] at e; cases e)]; exact r.st.keep a u e n
  · rw [upd_ne (fun z => by rw [z, h3] at e; cases e)]; exact r.st.stay a u e
  · obtain ⟨d, a, e1, e2, ⟨n1, n2, e3⟩, n3⟩ := r.own i hi
    have nz : a ≠ p := fun z => h4 i hi (z ▸ e2)
    refine ⟨d, a, e1, e2, ⟨n1, n2, ?_⟩, n3⟩
    rw [upd_ne nz]
    exact e3
/-- a fresh address is nobody's -/
theorem Rel.freshB {p : Addr} (r : Rel K B M σ H ρ S I hot) (h : H p = none) : I p = none ∧ p ∉ hot ∧ B.H p = none ∧ ∀ i ∈ M, σ[i]? ≠ some (some (.ref p)) := by
  obtain ⟨h1, h2⟩ := r.wd.none h
  refine ⟨h1, h2, r.st.back h, fun i hi e => ?_⟩
  obtain ⟨d, a, _, e2, o, _⟩ := r.own i hi
  rw [e] at e2
  cases e2
  obtain ⟨u, q⟩ := o.some
  rw [h] at q; cases q
def NAfter (K : Frag) (x : Xc) (B : Bs) (M : List Nat) (σ : L2.St) (ρ : Rho) (hot : List Addr) (H I : Hp) (r : Res D) (Q : VK) : Prop := match r with
  | .ok d S' => ∀ p H' I', Rel K B M σ H' ρ S' I' hot → Stp hot H I H' I' → OwnAt hot I' H' p d → H p = none → Q (.ref p) H'
  | .exc c S' => x.out K B σ ρ hot c S'
  | .stuck => False
theorem NAfter.from {r : Res D} {Q : VK} (h : NAfter K x B M σ ρ hot H I r Q) (s : Stp hot H I H1 I1) : NAfter K x B M σ ρ hot H1 I1 r Q := by
  cases r with
  | ok a S => exact fun p H' I' r1 s1 o hp => h p H' I' r1 (s.trans s1) o (s.back hp)
  | exc c S => exact h
  | stuck => exact h
theorem NAfter.bind {α β : Type} {RX : Hp → β → α → Prop} {r : Res α} {k : α → Sx → Res D} {Q : VK} (h : NAfter K x B M σ ρ hot H I (r.bind k) Q) :
    After K x B M σ ρ hot RX H I r fun v H1 => ∃ I1 S1 a, Rel K B M σ H1 ρ S1 I1 hot ∧ Stp hot H I H1 I1 ∧ RX I1 v a ∧ r = .ok a S1 ∧ NAfter K x B M σ ρ hot H1 I1 (k a S1) Q := by
  cases r with
  | ok a S => exact fun v H' I' r1 s1 q => ⟨I', S, a, r1, s1, q, rfl, NAfter.from (show NAfter K x B M σ ρ hot H I (k a S) Q from h) s1⟩
  | exc c S => exact h
  | stuck => exact h
end
abbrev Fd := Rho → Sx → Res D
def dA (f : Fd) : Fe := fun ρ S => (f ρ S).bind fun d S1 => .ok (.d d) S1
def nOf (K : Frag) (x : Xc) (M : List Nat) (f : Fd) : TE := fun σ H Q => ∃ B ρ S I hot, Rel K B M σ H ρ S I hot ∧ NAfter K x B M σ ρ hot H I (f ρ S) Q
/-- an expression that makes a new list or dict, owned by nobody yet -/
def GN (X : Cx) (x : Xc) (M : List Nat) (e : Expr) (f : Fd) : Prop := PE X e (nOf X.K x M f)
section
variable {X : Cx} {x : Xc} {M : List Nat}
theorem own_rep {K : Frag} {B : Bs} {σ : L2.St} {H : Hp} {ρ : Rho} {S : Sx} {I H' I' : Hp} {hot : List Addr} {p : Addr} {d : D} (R : Rel K B M σ H ρ S I hot) (R' : Rel K B M σ H' ρ S I' hot) (o : OwnAt hot I' H' p d) (hb : B.H p = none) (hn : ∀ i ∈ M, σ[i]? ≠ some (some (.ref p))) :
    ∃ J, Ext I' J ∧ (∀ a u, J a = some u → I' a = some u ∨ a = p) ∧ Rel K B M σ H' ρ S J hot ∧ Rep J (.ref p) d := by
  obtain ⟨n1, n2, q⟩ := o
  obtain ⟨u, hu⟩ := OwnAt.some ⟨n1, n2, q⟩
  have e : Ext I' (upd I' p u) := upd_ext n1
  refine ⟨upd I' p u, e, fun a w h => ?_, ⟨⟨fun a w h => ?_, R'.wd.len, R'.wd.at_, fun a ha => ?_, R'.wd.nd⟩, ⟨R'.st.ext.trans e, R'.st.keep, R'.st.stay, fun a w h => ?_⟩, R'.len, fun i d e1 hi => ?_, fun i hi => ?_, R'.sep⟩, ?_⟩
  · by_cases z : a = p
    · exact .inr z
    · rw [upd_ne z] at h; exact .inl h
  · by_cases z : a = p
    · subst z; rw [upd_same] at h; rw [hu]; exact h
    · rw [upd_ne z] at h; exact R'.wd.ext a w h
  · rw [upd_ne (fun z : a = p => n2 (by rw [← z]; exact ha))]; exact R'.wd.off a ha
  · by_cases z : a = p
    · subst z; exact .inr hb
    · rw [upd_ne z] at h; exact R'.st.new a w h
  · obtain ⟨v, h1, h2⟩ := R'.val i d e1 hi
    exact ⟨v, h1, h2.ext e⟩
  · obtain ⟨d', a, e1, e2, ⟨m1, m2, e3⟩, m3⟩ := R'.own i hi
    have nz : a ≠ p := fun z => hn i hi (z ▸ e2)
    refine ⟨d', a, e1, e2, ⟨by rw [upd_ne nz]; exact m1, m2, ?_⟩, m3⟩
    rcases e3 with ⟨vs, ds, w1, w2, w3, w4⟩ | ⟨ws, kvs, w1, w2, w3, w4⟩
    · exact .inl ⟨vs, ds, w1, w2, w3, w4.ext e⟩
    · exact .inr ⟨ws, kvs, w1, w2, w3, w4.ext e⟩
  · rcases q with ⟨vs, ds, rfl, w2, w3, w4⟩ | ⟨ws, kvs, rfl, w2, w3, w4⟩
    · rw [w2] at hu; cases hu
      exact .lst upd_same w3 (w4.ext e)
    · rw [w2] at hu; cases hu
      exact .dct (.inl upd_same) w3 (w4.ext e)
/-- what is new may be made immutable at once -/
theorem n_of_t {K : Frag} {f : Fd} {σ : L2.St} {H : Hp} {Q : VK} (h : tOf K x M (dA f) σ H Q) : nOf K x M f σ H Q := by
  obtain ⟨B, ρ, S, I, hot, R, h⟩ := h
  refine ⟨B, ρ, S, I, hot, R, ?_⟩
  unfold dA at h
  cases ef : f ρ S with
  | stuck => rw [ef] at h; exact h
  | exc c S' => rw [ef] at h; exact h
  | ok d S' =>
    rw [ef] at h
    intro p H' I' R' s' o hp
    obtain ⟨_, _, hb, hn⟩ := R.freshB hp
    have R1 : Rel K B M σ H' ρ S' I' hot := R'
    obtain ⟨J, e1, nw, RJ, rp⟩ := own_rep (K := K) (S := S') (H := H') (I := I') R1 R1 o hb hn
    refine h (.ref p) H' J RJ ⟨s'.ext.trans e1, s'.keep, s'.stay, fun a u q => ?_⟩ (.d rp)
    rcases nw a u q with q | q
    · exact s'.new a u q
    · subst q; exact .inr hp
theorem GN.ge {e : Expr} {f : Fd} (h : GN X x M e f) : GE X x M e (dA f) := PE.weak h fun _ _ _ h => n_of_t h
end
end G
namespace G
open PySem L2
open PySem.W (Frag)
open Classical

/-! ### comprehensions -/
def xc0 (M : List Nat) : Xc := ⟨fun _ _ _ _ => False, M⟩
def noX {α : Type} (r : Res α) : Res α := match r with
  | .exc _ _ => .stuck
  | r => r
@[simp] theorem noX_ok {α : Type} (a : α) (S : Sx) : noX (.ok a S) = .ok a S := rfl
@[simp] theorem noX_exc {α : Type} (c : Str) (S : Sx) : noX (.exc c S : Res α) = .stuck := rfl
@[simp] theorem noX_stuck {α : Type} : noX (.stuck : Res α) = .stuck := rfl
def toD (a : A) (S : Sx) : Res D := match a with
  | .d u => .ok u S
  | _ => .stuck
@[simp] theorem toD_d (u : D) (S : Sx) : toD (.d u) S = .ok u S := rfl
/-- one turn: none, or what it gives -/
def turnF (t : Tgt) (W : List Nat) (ft : Ft) (fe : Fe) (d : D) (ρ : Rho) (S : Sx) : Res (Option D) := match bindT t d (wipeR ρ W) with
  | none => .stuck
  | some ρ' => (noX (ft ρ' S)).bind fun b S1 => if b = true then (noX (fe ρ' S1)).bind fun a S2 => (toD a S2).bind fun y S3 => .ok (some y) S3 else .ok none S1
def compF (t : Tgt) (W : List Nat) (ft : Ft) (fe : Fe) (ρ : Rho) : List D → Sx → Res (List D)
  | [], S => .ok [] S
  | d :: ds, S => (turnF t W ft fe d ρ S).bind fun o S1 => (compF t W ft fe ρ ds S1).bind fun ys S2 => .ok (o.toList ++ ys) S2
theorem compF_cons (t : Tgt) (W : List Nat) (ft : Ft) (fe : Fe) (ρ : Rho) (d : D) (ds : List D) (S : Sx) : compF t W ft fe ρ (d :: ds) S = (turnF t W ft fe d ρ S).bind fun o S1 => (compF t W ft fe ρ ds S1).bind fun ys S2 => .ok (o.toList ++ ys) S2 := rfl
def eComp (fi : Fi) (t : Tgt) (W : List Nat) (ft : Ft) (fe : Fe) : Fd := fun ρ S => (fi ρ S).bind fun ds S1 => (compF t W ft fe ρ ds S1).bind fun ys S2 => .ok (.lst ys) S2
def tYesF : Ft := fun _ S => .ok true S
def GTs (X : Cx) (x : Xc) (M : List Nat) (ifs : List Expr) (f : Ft) : Prop := PTs X ifs (ttOf X.K x M f)
section
variable {X : Cx} {x : Xc} {M : List Nat}
theorem gts_nil : GTs X x M [] tYesF := by
  refine ⟨fun pins s σ H Q I h => ?_⟩
  obtain ⟨B, ρ, S, J, hot, R, h⟩ := h
  exact pts_nil.run pins s σ H Q I (After.ok (S := S) h R rfl)
theorem gts_one {c : Expr} {f : Ft} (h : GT X x M c f) : GTs X x M [c] f := pts_one h
theorem res_bind {α β : Type} {r : Res α} {k : α → Sx → Res β} {b : β} {S : Sx} (h : r.bind k = .ok b S) : ∃ a S1, r = .ok a S1 ∧ k a S1 = .ok b S := by
  cases r with
  | ok a S1 => exact ⟨a, S1, rfl, h⟩
  | exc c S1 => cases h
  | stuck => cases h
theorem noX_eq {α : Type} {r : Res α} {a : α} {S : Sx} (h : noX r = .ok a S) : r = .ok a S := by
  cases r with
  | ok _ _ => exact h
  | exc _ _ => cases h
  | stuck => cases h
theorem bind_assoc {α β γ : Type} (r : Res α) (f : α → Sx → Res β) (g : β → Sx → Res γ) : (r.bind f).bind g = r.bind fun a S => (f a S).bind g := by cases r <;> rfl
/-- a bind whose result is no error comes from one -/
theorem NAfter.dest {α : Type} {K : Frag} {y : Xc} {B : Bs} {σ : L2.St} {ρ : Rho} {hot : List Addr} {H I : Hp} {r : Res α} {k : α → Sx → Res D} {Q : VK} (nx : ∀ c S, r ≠ .exc c S) (h : NAfter K y B M σ ρ hot H I (r.bind k) Q) : ∃ a S1, r = .ok a S1 ∧ NAfter K y B M σ ρ hot H I (k a S1) Q := by
  cases r with
  | ok a S1 => exact ⟨a, S1, rfl, h⟩
  | exc c S => exact absurd rfl (nx c S)
  | stuck => exact h.elim
theorem turn_nx {t : Tgt} {W : List Nat} {ft : Ft} {fe : Fe} {d : D} {ρ : Rho} {S : Sx} (c : Str) (S1 : Sx) : turnF t W ft fe d ρ S ≠ .exc c S1 := by
  unfold turnF
  split
  · simp
  · rename_i ρ' _
    cases e : ft ρ' S with
    | stuck => simp
    | exc _ _ => simp
    | ok b S2 =>
      cases b with
      | false => simp
      | true =>
        simp only [noX_ok, bind_ok, if_true]
        cases e2 : fe ρ' S2 with
        | stuck => simp
        | exc _ _ => simp
        | ok a S3 =>
          cases a <;> simp [toD]
theorem comp_nx {t : Tgt} {W : List Nat} {ft : Ft} {fe : Fe} {ρ : Rho} : ∀ {ds : List D} {S : Sx} (c : Str) (S1 : Sx), compF t W ft fe ρ ds S ≠ .exc c S1
  | [], S, c, S1 => by simp [compF]
  | d :: ds, S, c, S1 => by
    unfold compF
    cases e : turnF t W ft fe d ρ S with
    | stuck => simp
    | exc c' S' => exact absurd e (turn_nx c' S')
    | ok o S2 =>
      rw [bind_ok]
      cases e2 : compF t W ft fe ρ ds S2 with
      | stuck => simp
      | exc c' S' => exact absurd e2 (comp_nx c' S')
      | ok _ _ => simp
theorem lc_main {K : Frag} {W : List Nat} {t : Tgt} {ft : Ft} {fe : Fe} {B : Bs} {ρ : Rho} {hot : List Addr} {I1 : Hp} {S1 : Sx} {J : It} {ds : List D} {σ : L2.St} {H H1 : Hp} {Q : VK} (hm : ∀ i ∈ W, i ∉ M) (hts : ∀ i ∈ t.slots, i ∈ W) (R1 : Rel K B M σ H1 ρ S1 I1 hot) (hr : RepI I1 J ds)
    (h1 : NAfter K x B M σ ρ hot H1 I1 ((compF t W ft fe ρ ds S1).bind fun ys S2 => .ok (.lst ys) S2) Q) :
    tLc (fun _ _ R => R J H1) (gT K t) (ttOf K (xc0 M) M ft) (tOf K (xc0 M) M fe) W σ H Q := by
  obtain ⟨hz, w⟩ := hr
  intro Dl hD
  obtain ⟨f1, f2, f3, f4⟩ := R1.freshB hD
  refine lc_it w (fun i H' => ∃ I' S' vs ys, Rel K B M σ H' ρ S' I' hot ∧ Stp hot H1 I1 H' I' ∧ H' Dl = some (.lst vs) ∧ Reps I' vs ys ∧ I' Dl = none ∧ vs.length ≤ i ∧
    NAfter K x B M σ ρ hot H1 I1 ((compF t W ft fe ρ (ds.drop i) S').bind fun zs S2 => .ok (.lst (ys ++ zs)) S2) Q) ?_ ?_ ?_ ?_
  · refine ⟨I1, S1, [], [], R1.put f1 f2 f3 f4, stp_add hD, upd_same, .nil, f1, Nat.le_refl _, ?_⟩
    rw [List.drop_zero]
    exact h1
  · rintro i H' _ ⟨I', S', vs, ys, R', s', _⟩
    exact s'.ext.trans R'.wd.ext
  · rintro i v H' H'' hi ⟨I', S', vs, ys, R', s', hv, ry, nD, hl, hq⟩ ⟨rfl, d, hd, rd⟩
    have rd' : Rep I' v d := rd.ext s'.ext
    rw [List.drop_eq_getElem_cons hi] at hq
    have ed : ds[i] = d := by rw [List.getElem?_eq_getElem hi] at hd; exact Option.some.inj hd
    rw [ed] at hq
    have eq1 : (compF t W ft fe ρ (d :: ds.drop (i + 1)) S').bind (fun zs S2 => .ok (D.lst (ys ++ zs)) S2) = (turnF t W ft fe d ρ S').bind fun o S1 => (compF t W ft fe ρ (ds.drop (i + 1)) S1).bind fun zs S2 => .ok (D.lst ((ys ++ o.toList) ++ zs)) S2 := by
      rw [compF_cons, bind_assoc]
      refine congrArg (Res.bind _) (funext fun o => funext fun S3 => ?_)
      rw [bind_assoc]
      refine congrArg (Res.bind _) (funext fun zs => funext fun S4 => ?_)
      simp
    rw [eq1] at hq
    obtain ⟨o, S2, et, hq2⟩ := NAfter.dest turn_nx hq
    unfold turnF at et
    cases eb : bindT t d (wipeR ρ W) with
    | none => rw [eb] at et; cases et
    | some ρ' =>
      rw [eb] at et
      dsimp only at et
      obtain ⟨b, S3, e1, e2⟩ := res_bind et
      have e1 := noX_eq e1
      have hm' : ∀ i ∈ t.slots, i ∉ M := fun i hi => hm i (hts i hi)
      refine gT_ok (R'.wipe hm) rd' eb hm' fun us Rw => ⟨wipe_setV hts, ?_⟩
      refine ⟨B, ρ', S', I', hot, Rw, ?_⟩
      rw [e1]
      intro c H3 I3 R3 s3 ec
      cases (show c = b from ec)
      have nh : Dl ∉ hot := f2
      have R3' : Rel K B M σ H3 ρ S3 I3 hot := R'.step s3 R3.wd
      have nD3 : I3 Dl = none := by
        cases q : I3 Dl with
        | none => rfl
        | some u =>
          rcases s3.new Dl u q with z | z
          · rw [nD] at z; cases z
          · rw [hv] at z; cases z
      have hv3 : H3 Dl = some (.lst vs) := s3.keep Dl _ hv nh
      cases b with
      | false =>
        have e2' : (Res.ok none S3 : Res (Option D)) = .ok o S2 := e2
        cases e2'
        rw [if_neg (by decide)]
        refine ⟨I3, _, vs, ys, R3', s'.trans s3, hv3, ry.ext s3.ext, nD3, by omega, ?_⟩
        simpa using hq2
      | true =>
        rw [if_pos rfl]
        have e2' : ((noX (fe ρ' S3)).bind fun a S2 => (toD a S2).bind fun y S3 => .ok (some y) S3) = .ok o S2 := e2
        obtain ⟨a, S4, e3, e4⟩ := res_bind e2'
        have e3 := noX_eq e3
        refine ⟨B, ρ', S3, I3, hot, R3, ?_⟩
        rw [e3]
        intro y H4 I4 R4 s4 ra
        cases ra with
        | @d v4 u r4 =>
          have e4' : (Res.ok (some u) S4 : Res (Option D)) = .ok o S2 := e4
          cases e4'
          have R4' : Rel K B M σ H4 ρ _ I4 hot := R3'.step s4 R4.wd
          have nD4 : I4 Dl = none := by
            cases q : I4 Dl with
            | none => rfl
            | some u =>
              rcases s4.new Dl u q with z | z
              · rw [nD3] at z; cases z
              · rw [hv3] at z; cases z
          have hv4 : H4 Dl = some (.lst vs) := s4.keep Dl _ hv3 nh
          have hz4 : vs.length < sizeLine := by
            have : ds.length ≤ sizeLine := hz
            omega
          refine ⟨vs, hv4, hz4, I4, _, vs ++ [y], ys ++ [u], R4'.put nD4 nh f3 f4, ?_, upd_same, (((ry.ext s3.ext).ext s4.ext).append (Reps.one r4)), nD4, by rw [List.length_append]; simp; omega, ?_⟩
          · have s5 := (s'.trans s3).trans s4
            refine ⟨s5.ext, fun a o e n => ?_, fun a o e => ?_, s5.new⟩
            · rw [upd_ne (ne_of_none e hD)]; exact s5.keep a o e n
            · rw [upd_ne (ne_of_none e hD)]; exact s5.stay a o e
          · simpa using hq2
        | _ => cases e4
  · rintro H' ⟨I', S', vs, ys, R', s', hv, ry, nD, hl, hq⟩
    rw [List.drop_length] at hq
    have hq' : NAfter K x B M σ ρ hot H1 I1 (.ok (.lst ys) S') Q := by
      simpa [compF] using hq
    exact hq' Dl H' I' R' s' ⟨nD, f2, .inl ⟨vs, ys, rfl, hv, Nat.le_trans hl hz, ry⟩⟩ hD
theorem lc_of_n {K : Frag} {W : List Nat} {fi : Fi} {t : Tgt} {ft : Ft} {fe : Fe} {σ : L2.St} {H : Hp} {Q : VK} (hm : ∀ i ∈ W, i ∉ M) (hts : ∀ i ∈ t.slots, i ∈ W) (h : nOf K x M (eComp fi t W ft fe) σ H Q) :
    tLc (iOf K x M fi) (gT K t) (ttOf K (xc0 M) M ft) (tOf K (xc0 M) M fe) W σ H Q := by
  obtain ⟨B, ρ, S, I, hot, R, h⟩ := h
  refine ⟨B, ρ, S, I, hot, R, (NAfter.bind h).mono ?_⟩
  rintro J H1 ⟨I1, S1, ds, R1, s1, hr, _, h1⟩
  exact lc_main (H := H) hm hts R1 hr h1
theorem gn_comp {elt tg iter : Expr} {ifs : List Expr} {scope : Scope} {own : List (Str × Nat)} {pos : Pos} {fi : Fi} {t : Tgt} {ft : Ft} {fe : Fe} (hN : X.N.Nodup) (hi : GI X x M tg iter fi) (ok : BlkOk X.N X.env.scope scope own)
    (hg : ∀ (s : Shared) (H : Hp) (C : Addr) (cl : List (Str × Addr)) (fp : List Addr), GG (X.blk s H scope (compEnvC scope cl C X.env) fp) tg t)
    (ht : ∀ (s : Shared) (H : Hp) (C : Addr) (cl : List (Str × Addr)) (fp : List Addr), GTs (X.blk s H scope (compEnvC scope cl C X.env) fp) (xc0 M) M ifs ft)
    (he : ∀ (s : Shared) (H : Hp) (C : Addr) (cl : List (Str × Addr)) (fp : List Addr), GE (X.blk s H scope (compEnvC scope cl C X.env) fp) (xc0 M) M elt fe)
    (hm : ∀ i ∈ own.map (·.2), i ∉ M := by decide) (hts : ∀ i ∈ t.slots, i ∈ own.map (·.2) := by decide) (hc : X.calm = true := by rfl) (hs : ∀ y, foldedSetIterable iter X.env y = pure y := by intro _; rfl) :
    GN X x M (.ListComp elt [⟨tg, iter, ifs, 0⟩] scope pos) (eComp fi t (own.map (·.2)) ft fe) :=
  PE.weak (pe_lc (g := gT X.K t) (tt := ttOf X.K (xc0 M) M ft) (te := tOf X.K (xc0 M) M fe) hc hN hi ok (fun s H C cl fp => hg s H C cl fp) (fun s H C cl fp => ht s H C cl fp) (fun s H C cl fp => he s H C cl fp) hs) fun _ _ _ h => lc_of_n hm hts h
theorem ge_comp {elt tg iter : Expr} {ifs : List Expr} {scope : Scope} {own : List (Str × Nat)} {pos : Pos} {fi : Fi} {t : Tgt} {ft : Ft} {fe : Fe} (hN : X.N.Nodup) (hi : GI X x M tg iter fi) (ok : BlkOk X.N X.env.scope scope own)
    (hg : ∀ (s : Shared) (H : Hp) (C : Addr) (cl : List (Str × Addr)) (fp : List Addr), GG (X.blk s H scope (compEnvC scope cl C X.env) fp) tg t)
    (ht : ∀ (s : Shared) (H : Hp) (C : Addr) (cl : List (Str × Addr)) (fp : List Addr), GTs (X.blk s H scope (compEnvC scope cl C X.env) fp) (xc0 M) M ifs ft)
    (he : ∀ (s : Shared) (H : Hp) (C : Addr) (cl : List (Str × Addr)) (fp : List Addr), GE (X.blk s H scope (compEnvC scope cl C X.env) fp) (xc0 M) M elt fe)
    (hm : ∀ i ∈ own.map (·.2), i ∉ M := by decide) (hts : ∀ i ∈ t.slots, i ∈ own.map (·.2) := by decide) (hc : X.calm = true := by rfl) (hs : ∀ y, foldedSetIterable iter X.env y = pure y := by intro _; rfl) :
    GE X x M (.ListComp elt [⟨tg, iter, ifs, 0⟩] scope pos) (dA (eComp fi t (own.map (·.2)) ft fe)) := GN.ge (gn_comp hN hi ok hg ht he hm hts hc hs)
end
end G
namespace G
open PySem L2
open PySem.W (Frag)
open Classical

/-! ### calls of the program's own defs -/
abbrev Fn := List A → Sx → Res D
def spOf (K : Frag) (F : Fn) : Sp := fun vs H Q E => ∃ as S I hot, Wld K H S I hot ∧ RepsA K hot I vs as ∧ match F as S with
  | .ok d S' => ∀ v H' I', Stp hot H I H' I' → Wld K H' S' I' hot → Rep I' v d → Q v H'
  | .exc c S' => ∀ H' I', Stp hot H I H' I' → Wld K H' S' I' hot → E (.ref (He.ga K c)) none H'
  | .stuck => False
def eOwn (F : Fn) (fa : Fa) : Fe := fun ρ S => (fa ρ S).bind fun as S1 => (F as S1).bind fun d S2 => .ok (.d d) S2
/-- the def named x is at hand, by at most level k, and does F -/
structure Callee (P : Program) (w : World) (K : Frag) (mg : Str → Option Value) (base : Heap) (k : Nat) (x : Str) (F : Fn) : Prop where
  ex : ∃ f fd ps, FnOk P w K mg base (L2.CX P w) k f fd ps (spOf K F) ∧ mg x = some (.ref f) ∧ PySem.W.keepIn K (.ref f) = true ∧ Binds K fd ps []
/-- the context: room for k calls, what is raised is taken -/
structure Cq (X : Cx) (x : Xc) (k : Nat) : Prop where
  room : Room k X.A
  take : Takes X x.W
theorem Cq.blk {X : Cx} {x : Xc} {k : Nat} (c : Cq X x k) (M : List Nat) (s : Shared) (H : Hp) (scope : Scope) (cenv : Env) (fp : List Addr) : Cq (X.blk s H scope cenv fp) (xc0 M) k := ⟨c.room, takes0⟩
section
variable {X : Cx} {x : Xc} {M : List Nat} {k : Nat}
theorem Cq.hu (c : Cq X x k) : X.A.units + 1 < cLine := hu_of c.room
theorem ge_own {F : Fn} {fa : Fa} {n : Str} {e : Expr} {es : List Expr} {p pos : Pos} (c : Cq X x k) (C : Callee X.prog X.w X.K X.mg X.base k n F) (ha : GA X x M (e :: es) fa) (hM : x.M = [] ∨ x.M = M := by first | exact .inl rfl | exact .inr rfl) (hgl : Gl X n := by rfl)
    (hdb : (n == ("__debug__" : Str)) = false := by decide) (he : starEach (e :: es) X.env = (false, eval e X.env) :: starEach es X.env := by rfl) (hpl : (backTo pos (starEach es X.env)).any (·.1) = false := by rfl) :
    GE X x M (.Call (.Name n p) (e :: es) [] pos) (eOwn F fa) := by
  obtain ⟨f, fd, ps, G, hm, hk, hb⟩ := C.ex
  refine PE.weak (pe_callS (E := WE x.W) G c.room hgl hm hk hb (fun σ => passAt c.take σ) ha hdb he hpl) ?_
  rintro σ H Q ⟨B, ρ, S, I, hot, R, h⟩
  refine ⟨B, ρ, S, I, hot, R, h.bind.mono ?_⟩
  rintro vs H1 ⟨I1, S1, as, R1, s1, r1, _, h1⟩
  refine ⟨as, S1, I1, hot, R1.wd, r1, ?_⟩
  cases ef : F as S1 with
  | stuck => rw [ef] at h1; exact h1
  | ok d S2 =>
    rw [ef] at h1
    exact fun v H' I' st w rv => h1 v H' I' (R1.step st w) st (.d rv)
  | exc cl S2 =>
    rw [ef] at h1
    intro H' I' st w
    have R2 := R1.step st w
    rcases hM with hM | hM
    · obtain ⟨J, _, R3⟩ := R2.freeze (M' := x.M) (by rw [hM]; intro i hi; cases hi)
      exact h1 σ H' J rfl R3
    · rw [← hM] at R2
      exact h1 σ H' I' rfl R2

/-! ### statements -/
def OutOk (K : Frag) (x : Xc) (B : Bs) (M' : List Nat) (hot : List Addr) (I : Hp) (D : Ends) (o : Out) : Prop := match o with
  | .nx ρ' S' => ∀ σ' H' I', Ext I I' → Rel K B M' σ' H' ρ' S' I' hot → D.nx σ' H'
  | .rt d S' => ∀ v H' I', Stp hot B.H B.I H' I' → Wld K H' S' I' hot → Rep I' v d → D.rt v H'
  | .xc c ρ' S' => ∀ σ' H' I', Rel K B x.M σ' H' ρ' S' I' hot → x.W (.ref (He.ga K c)) none σ' H'
  | .stuck => False
def sOf (K : Frag) (x : Xc) (M M' : List Nat) (f : Fs) : TS := fun D σ H => ∃ B ρ S I hot, Rel K B M σ H ρ S I hot ∧ OutOk K x B M' hot I D (f ρ S)
theorem OutOk.from {K : Frag} {x : Xc} {B : Bs} {M' : List Nat} {hot : List Addr} {I J : Hp} {D : Ends} {o : Out} (h : OutOk K x B M' hot I D o) (e : Ext I J) : OutOk K x B M' hot J D o := by
  cases o with
  | nx ρ' S' => exact fun σ' H' I' e' R' => h σ' H' I' (e.trans e') R'
  | rt d S' => exact h
  | xc c ρ' S' => exact h
  | stuck => exact h
def GS (X : Cx) (x : Xc) (M M' : List Nat) (st : Stmt) (f : Fs) : Prop := PS X st (sOf X.K x M M' f)
def GSs (X : Cx) (x : Xc) (M M' : List Nat) (st : List Stmt) (f : Fs) : Prop := PSs X st (sOf X.K x M M' f)
variable {M' M1 M2 : List Nat}
def sNil : Fs := fun ρ S => .nx ρ S
def sSeq (f g : Fs) : Fs := fun ρ S => match f ρ S with
  | .nx ρ' S' => g ρ' S'
  | o => o
theorem gss_nil : GSs X x M M [] sNil := by
  refine PSs.weak pss_nil ?_
  rintro D σ H ⟨B, ρ, S, I, hot, R, h⟩
  exact h σ H I (Ext.refl _) R
theorem gss_cons {st : Stmt} {rest : List Stmt} {f g : Fs} (h1 : GS X x M M1 st f) (h2 : GSs X x M1 M2 rest g) : GSs X x M M2 (st :: rest) (sSeq f g) := by
  refine PSs.weak (pss_cons h1 h2) ?_
  rintro D σ H ⟨B, ρ, S, I, hot, R, h⟩
  refine ⟨B, ρ, S, I, hot, R, ?_⟩
  unfold sSeq at h
  cases e : f ρ S with
  | nx ρ' S' => rw [e] at h; exact fun σ' H' I' e' R' => ⟨B, ρ', S', I', hot, R', OutOk.from h e'⟩
  | rt d S' => rw [e] at h; exact h
  | xc c ρ' S' => rw [e] at h; exact h
  | stuck => rw [e] at h; exact h
theorem gss_one {st : Stmt} {f : Fs} (h1 : GS X x M M1 st f) : GSs X x M M1 [st] f := pss_one h1
/-- from here on some owned ones are immutable -/
theorem gss_frz {sts : List Stmt} {f : Fs} (Mf : List Nat) (h : GSs X x Mf M2 sts f) (hs : ∀ i ∈ Mf, i ∈ M := by decide) : GSs X x M M2 sts f := by
  refine PSs.weak h ?_
  rintro D σ H ⟨B, ρ, S, I, hot, R, h⟩
  obtain ⟨J, e, R'⟩ := R.freeze hs
  exact ⟨B, ρ, S, J, hot, R', OutOk.from h e⟩
def onE (r : Res A) (ρ : Rho) (k : A → Sx → Out) : Out := match r with
  | .ok a S => k a S
  | .exc c S => .xc c ρ S
  | .stuck => .stuck
@[simp] theorem onE_ok (a : A) (S : Sx) (ρ : Rho) (k : A → Sx → Out) : onE (.ok a S) ρ k = k a S := rfl
@[simp] theorem onE_exc (c : Str) (S : Sx) (ρ : Rho) (k : A → Sx → Out) : onE (.exc c S) ρ k = .xc c ρ S := rfl
@[simp] theorem onE_stuck (ρ : Rho) (k : A → Sx → Out) : onE .stuck ρ k = .stuck := rfl
theorem onE_after {K : Frag} {B : Bs} {σ : L2.St} {H : Hp} {ρ : Rho} {I : Hp} {hot : List Addr} {r : Res A} {k : A → Sx → Out} {D : Ends} {Q : VK} (h : OutOk K x B M' hot I D (onE r ρ k))
    (q : ∀ a S1 v H' I', Rel K B M σ H' ρ S1 I' hot → Stp hot H I H' I' → RepA K hot I' v a → OutOk K x B M' hot I D (k a S1) → Q v H') : After K x B M σ ρ hot (RepA K hot) H I r Q := by
  cases r with
  | ok a S1 => exact fun v H' I' R' s' ra => q a S1 v H' I' R' s' ra h
  | exc c S1 => exact fun σ' H' I' e R' => by subst e; exact h _ H' I' R'
  | stuck => exact h.elim
/-- name = e -/
def sAsg (i : Nat) (f : Fe) : Fs := fun ρ S => onE (f ρ S) ρ fun a S1 => .nx (ρ.set i (some a)) S1
theorem gs_asg {i : Nat} {n : Str} {e : Expr} {f : Fe} {pos pos' : Pos} (hN : X.N.Nodup) (he : GE X x M e f) (hi : X.N[i]? = some n := by rfl) (hm : i ∉ M := by decide) (hx : Loc X.env.scope n := by first | exact .inl rfl | exact .inr rfl) (hs : swapsWith e (some (.Name n pos')) pos.line X.env = pure false := by rfl)
    (hf : X.fn n = true ∨ X.env.scope.names.lookup n = some .local := by first | exact .inl rfl | exact .inr rfl) : GS X x M M (.Assign [.Name n pos'] e pos) (sAsg i f) := by
  refine PS.weak (ps_set hN hi hx he hs hf) ?_
  rintro D σ H ⟨B, ρ, S, I, hot, R, h⟩
  exact ⟨B, ρ, S, I, hot, R, onE_after h fun a S1 v H' I' R' s' ra h1 => h1 _ H' I' s'.ext (R'.set ra hm)⟩
/-- name = [.. for ..] on one line -/
theorem gs_asgLc {i : Nat} {n : Str} {elt tg iter : Expr} {ifs : List Expr} {scope : Scope} {own : List (Str × Nat)} {pos spos py : Pos} {fi : Fi} {t : Tgt} {ft : Ft} {fe : Fe} (hN : X.N.Nodup) (hi : GI X x M tg iter fi) (ok : BlkOk X.N X.env.scope scope own)
    (hg : ∀ (s : Shared) (H : Hp) (C : Addr) (cl : List (Str × Addr)) (fp : List Addr), GG (X.blk s H scope (compEnvC scope cl C X.env) fp) tg t)
    (ht : ∀ (s : Shared) (H : Hp) (C : Addr) (cl : List (Str × Addr)) (fp : List Addr), GTs (X.blk s H scope (compEnvC scope cl C X.env) fp) (xc0 M) M ifs ft)
    (he : ∀ (s : Shared) (H : Hp) (C : Addr) (cl : List (Str × Addr)) (fp : List Addr), GE (X.blk s H scope (compEnvC scope cl C X.env) fp) (xc0 M) M elt fe)
    (hy : X.N[i]? = some n := by rfl) (hyl : X.env.scope.names.lookup n = some .local := by rfl) (hsw : swapsWith (.ListComp elt [⟨tg, iter, ifs, 0⟩] scope pos) (some (.Name n py)) spos.line X.env = pure true := by exact sw_true rfl rfl rfl (by decide +kernel))
    (hn : i ∉ M := by decide) (hm : ∀ i ∈ own.map (·.2), i ∉ M := by decide) (hts : ∀ i ∈ t.slots, i ∈ own.map (·.2) := by decide) (hc : X.calm = true := by rfl) (hs : ∀ y, foldedSetIterable iter X.env y = pure y := by intro _; rfl) :
    GS X x M M (.Assign [.Name n py] (.ListComp elt [⟨tg, iter, ifs, 0⟩] scope pos) spos) (sAsg i (dA (eComp fi t (own.map (·.2)) ft fe))) := by
  refine PS.weak (ps_setLc (g := gT X.K t) (tt := ttOf X.K (xc0 M) M ft) (te := tOf X.K (xc0 M) M fe) hc hN hy hyl hsw hi ok (fun s H C cl fp => hg s H C cl fp) (fun s H C cl fp => ht s H C cl fp) (fun s H C cl fp => he s H C cl fp) hs) ?_
  rintro D σ H ⟨B, ρ, S, I, hot, R, h⟩
  exact lc_of_n hm hts (n_of_t ⟨B, ρ, S, I, hot, R, onE_after h fun a S1 v H' I' R' s' ra h1 => h1 _ H' I' s'.ext (R'.set ra hn)⟩)
/-- name = (a new list or dict), which the name owns then -/
def sAsgN (i : Nat) (f : Fd) : Fs := fun ρ S => onE (dA f ρ S) ρ fun a S1 => .nx (ρ.set i (some a)) S1
theorem Rel.setOwn {K : Frag} {B : Bs} {σ : L2.St} {H : Hp} {ρ : Rho} {S : Sx} {I : Hp} {hot : List Addr} {p : Addr} {d : D} {i : Nat} (r : Rel K B M σ H ρ S I hot) (o : OwnAt hot I H p d) (hb : B.H p = none) (hn : ∀ j ∈ M, σ[j]? ≠ some (some (.ref p))) (hi : i ∉ M) (hl : i < ρ.length) :
    Rel K B (i :: M) (σ.set i (some (.ref p))) H (ρ.set i (some (.d d))) S I hot := by
  have hl' : i < σ.length := by rw [r.len]; exact hl
  have ne : ∀ j ∈ M, i ≠ j := fun j hj z => hi (z ▸ hj)
  refine ⟨r.wd, r.st, by rw [List.length_set, List.length_set]; exact r.len, fun j a e hj => ?_, fun j hj => ?_, fun j hj k hk n => ?_⟩
  · simp only [List.mem_cons, not_or] at hj
    rw [List.getElem?_set_ne (Ne.symm hj.1)] at e
    rw [List.getElem?_set_ne (Ne.symm hj.1)]
    exact r.val j a e hj.2
  · rcases List.mem_cons.mp hj with rfl | hj
    · exact ⟨d, p, List.getElem?_set_self hl, List.getElem?_set_self hl', o, hb⟩
    · rw [List.getElem?_set_ne (ne j hj), List.getElem?_set_ne (ne j hj)]
      exact r.own j hj
  · rcases List.mem_cons.mp hj with ej | hj
    · rcases List.mem_cons.mp hk with ek | hk
      · exact absurd (ej.trans ek.symm) n
      · rw [ej, List.getElem?_set_self hl', List.getElem?_set_ne (ne k hk)]
        exact fun z => hn k hk z.symm
    · rcases List.mem_cons.mp hk with ek | hk
      · rw [ek, List.getElem?_set_self hl', List.getElem?_set_ne (ne j hj)]
        exact hn j hj
      · rw [List.getElem?_set_ne (ne j hj), List.getElem?_set_ne (ne k hk)]
        exact r.sep j hj k hk n
theorem nA_after {K : Frag} {B : Bs} {σ : L2.St} {H : Hp} {ρ : Rho} {I : Hp} {hot : List Addr} {f : Fd} {S : Sx} {k : A → Sx → Out} {D : Ends} {Q : VK} (h : OutOk K x B M' hot I D (onE (dA f ρ S) ρ k))
    (q : ∀ d S1 p H' I', Rel K B M σ H' ρ S1 I' hot → Stp hot H I H' I' → OwnAt hot I' H' p d → H p = none → OutOk K x B M' hot I D (k (.d d) S1) → Q (.ref p) H') : NAfter K x B M σ ρ hot H I (f ρ S) Q := by
  unfold dA at h
  cases e : f ρ S with
  | ok d S1 => rw [e] at h; exact fun p H' I' R' s' o hp => q d S1 p H' I' R' s' o hp h
  | exc c S1 => rw [e] at h; exact fun σ' H' I' e R' => by subst e; exact h _ H' I' R'
  | stuck => rw [e] at h; exact h.elim
theorem gs_asgN {i : Nat} {n : Str} {e : Expr} {f : Fd} {pos pos' : Pos} (hN : X.N.Nodup) (he : GN X x M e f) (hi : X.N[i]? = some n := by rfl) (hm : i ∉ M := by decide) (hx : Loc X.env.scope n := by first | exact .inl rfl | exact .inr rfl) (hs : swapsWith e (some (.Name n pos')) pos.line X.env = pure false := by rfl)
    (hf : X.fn n = true ∨ X.env.scope.names.lookup n = some .local := by first | exact .inl rfl | exact .inr rfl) (hl : ∀ σ : L2.St, True := by intro _; trivial) : GS X x M (i :: M) (.Assign [.Name n pos'] e pos) (sAsgN i f) := by
  refine ⟨fun pins s σ H D In h => ?_⟩
  obtain ⟨B, ρ, S, I, hot, R, h⟩ := h
  have hlen : i < ρ.length := by
    rw [← R.len, In.len]
    exact (List.getElem?_eq_some_iff.mp hi).1
  refine (ps_set hN hi hx he hs hf).run pins s σ H D In ?_
  refine ⟨B, ρ, S, I, hot, R, nA_after h fun d S1 p H' I' R' s' o hp h1 => ?_⟩
  obtain ⟨_, _, hb, hn⟩ := R.freshB hp
  exact h1 _ H' I' s'.ext (R'.setOwn o hb hn hm hlen)
/-- if -/
def sIf (t : Ft) (f g : Fs) : Fs := fun ρ S => match t ρ S with
  | .ok b S1 => if b = true then f ρ S1 else g ρ S1
  | .exc c S1 => .xc c ρ S1
  | .stuck => .stuck
theorem gs_if {c : Expr} {a b : List Stmt} {t : Ft} {f g : Fs} {pos : Pos} (hc : GT X x M c t) (ha : GSs X x M M' a f) (hb : GSs X x M M' b g) : GS X x M M' (.If c a b pos) (sIf t f g) := by
  refine PS.weak (ps_if hc ha hb) ?_
  rintro D σ H ⟨B, ρ, S, I, hot, R, h⟩
  refine ⟨B, ρ, S, I, hot, R, ?_⟩
  unfold sIf at h
  cases e : t ρ S with
  | stuck => rw [e] at h; exact h.elim
  | exc cl S1 => rw [e] at h; exact fun σ' H' I' e R' => by subst e; exact h _ H' I' R'
  | ok k S1 =>
    rw [e] at h
    intro v H' I' R' s' ev
    cases (show v = k from ev)
    cases k with
    | true => exact ⟨B, ρ, S1, I', hot, R', OutOk.from h s'.ext⟩
    | false => exact ⟨B, ρ, S1, I', hot, R', OutOk.from h s'.ext⟩
/-- return e -/
def sRet (f : Fe) : Fs := fun ρ S => onE (f ρ S) ρ fun a S1 => match a with
  | .d u => .rt u S1
  | _ => .stuck
theorem gs_ret {e : Expr} {f : Fe} {pos : Pos} (he : GE X x M e f) : GS X x M M' (.Return (some e) pos) (sRet f) := by
  refine PS.weak (ps_ret he) ?_
  rintro D σ H ⟨B, ρ, S, I, hot, R, h⟩
  refine ⟨B, ρ, S, I, hot, R, onE_after h fun a S1 v H' I' R' s' ra h1 => ?_⟩
  cases ra with
  | d r => exact h1 v H' I' R'.st R'.wd r
  | _ => exact h1.elim
/-- e -/
def sExpr (f : Fe) : Fs := fun ρ S => onE (f ρ S) ρ fun _ S1 => .nx ρ S1
theorem gs_expr {e : Expr} {f : Fe} {pos : Pos} (he : GE X x M e f) (hs : swapsWith e none pos.line X.env = pure false := by rfl) : GS X x M M (.Expr e pos) (sExpr f) := by
  refine PS.weak (ps_expr he hs) ?_
  rintro D σ H ⟨B, ρ, S, I, hot, R, h⟩
  exact ⟨B, ρ, S, I, hot, R, onE_after h fun a S1 v H' I' R' s' ra h1 => h1 σ H' I' s'.ext R'⟩
/-- raise C('..') -/
structure ExcOk (K : Frag) (mg : Str → Option Value) (c : Str) : Prop where
  ex : PySem.W.excIn K (He.ga K c) He.veBase "ValueError.__new__" = true
  gl : mg c = some (.ref (He.ga K c))
  kp : PySem.W.keepIn K (.ref (He.ga K c)) = true
  sb : PySem.W.subIn K (.ref (He.ga K c)) (.type "BaseException") = some true
  ty : PySem.W.typeIn K (.ref (He.ga K c)) = some (.type "type")
def sRaise (c : Str) : Fs := fun ρ S => .xc c ρ S
theorem gs_raise {c m : Str} {j : Nat} {p p2 pos pos2 : Pos} (q : Cq X x k) (T : ExcOk X.K X.mg c) (hM : x.M = [] ∨ x.M = M := by first | exact .inl rfl | exact .inr rfl) (hc : X.calm = true := by rfl) (hgl : Gl X c := by rfl) (hdb : (c == ("__debug__" : Str)) = false := by decide) :
    GS X x M M' (.Raise (some (.Call (.Name c p) [.Constant (.str m) j p2] [] pos)) none pos2) (sRaise c) := by
  refine PS.weak (ps_raise hc q.take (pmk_own PySem.F.excBase_ValueError T.ex T.gl T.kp (raises_own T.sb T.ty) hgl hdb)) ?_
  rintro D σ H ⟨B, ρ, S, I, hot, R, h⟩
  rcases hM with hM | hM
  · obtain ⟨J, _, R3⟩ := R.freeze (M' := x.M) (by rw [hM]; intro i hi; cases hi)
    exact h σ H J R3
  · rw [← hM] at R
    exact h σ H I R
/-- for -/
def forF (t : Tgt) (f : Fs) : List D → Fs
  | [], ρ, S => .nx ρ S
  | d :: ds, ρ, S => match bindT t d ρ with
    | none => .stuck
    | some ρ' => match f ρ' S with
      | .nx ρ2 S2 => forF t f ds ρ2 S2
      | o => o
def sFor (fi : Fi) (t : Tgt) (f : Fs) : Fs := fun ρ S => match fi ρ S with
  | .ok ds S1 => forF t f ds ρ S1
  | .exc c S1 => .xc c ρ S1
  | .stuck => .stuck
theorem gs_for {tg it : Expr} {body : List Stmt} {fi : Fi} {t : Tgt} {f : Fs} {pos : Pos} (hp : PassesOwn (model X.prog X.w) X.A X.env X.xe) (hi : GI X x M tg it fi) (hg : GG X tg t) (hb : GSs X x M M body f) (hts : ∀ i ∈ t.slots, i ∉ M := by decide) (hc : X.calm = true := by rfl)
    (hs : ∀ y, foldedSetIterable it X.env y = pure y := by intro _; rfl) : GS X x M M (.For tg it body [] pos) (sFor fi t f) := by
  refine PS.weak (ps_for hp hc hi hg hb hs) ?_
  rintro D σ H ⟨B, ρ, S, I, hot, R, h⟩
  refine ⟨B, ρ, S, I, hot, R, ?_⟩
  unfold sFor at h
  cases e : fi ρ S with
  | stuck => rw [e] at h; exact h.elim
  | exc cl S1 => rw [e] at h; exact fun σ' H' I' e R' => by subst e; exact h _ H' I' R'
  | ok ds S1 =>
    rw [e] at h
    rintro J H1 I1 R1 s1 ⟨hz, w⟩
    have h : OutOk X.K x B M hot I1 D (forF t f ds ρ S1) := OutOk.from h s1.ext
    refine for_it w (fun i σ' H' => ∃ I' S' ρ', Rel X.K B M σ' H' ρ' S' I' hot ∧ Ext I1 I' ∧ OutOk X.K x B M hot I' D (forF t f (ds.drop i) ρ' S')) ⟨I1, S1, ρ, R1, Ext.refl _, by rw [List.drop_zero]; exact h⟩ ?_ ?_ ?_
    · rintro i σ' H' _ ⟨I', S', ρ', R', e', _⟩
      exact e'.trans R'.wd.ext
    · rintro i v σ' H' H'' hi ⟨I', S', ρ', R', e', h'⟩ ⟨rfl, d, hd, rd⟩
      rw [List.drop_eq_getElem_cons hi] at h'
      have ed : ds[i] = d := by rw [List.getElem?_eq_getElem hi] at hd; exact Option.some.inj hd
      rw [ed] at h'
      unfold forF at h'
      cases eb : bindT t d ρ' with
      | none => rw [eb] at h'; exact h'.elim
      | some ρ2 =>
        rw [eb] at h'
        refine gT_ok R' (rd.ext e') eb hts fun us Rw => ?_
        refine ⟨B, ρ2, S', I', hot, Rw, ?_⟩
        dsimp only at h'
        cases ef : f ρ2 S' with
        | nx ρ3 S3 => rw [ef] at h'; exact fun σ3 H3 I3 e3 R3 => ⟨I3, S3, ρ3, R3, e'.trans e3, OutOk.from h' e3⟩
        | rt d S3 => rw [ef] at h'; exact h'
        | xc c ρ3 S3 => rw [ef] at h'; exact h'
        | stuck => rw [ef] at h'; exact h'
    · rintro σ' H' ⟨I', S', ρ', R', e', h'⟩
      rw [List.drop_length] at h'
      exact h' σ' H' I' (Ext.refl _) R'
end
end G
namespace G
open PySem L2
open PySem.W (Frag)
open Classical

/-! ### owned lists and dicts, changed -/
def OwnObj (I : Hp) (u : HO) (d : D) : Prop := (∃ vs ds, d = .lst ds ∧ u = .lst vs ∧ vs.length ≤ sizeLine ∧ Reps I vs ds) ∨ ∃ ws kvs, d = .dct kvs ∧ u = .dK ws ∧ ws.length ≤ sizeLine ∧ Repk I ws kvs
section
variable {K : Frag} {x : Xc} {B : Bs} {M : List Nat} {σ : L2.St} {H : Hp} {ρ : Rho} {S : Sx} {I : Hp} {hot : List Addr}
theorem Rel.updOwn {i : Nat} {a : Addr} {u : HO} {d' : D} (r : Rel K B M σ H ρ S I hot) (hi : i ∈ M) (ha : σ[i]? = some (some (.ref a))) (ho : OwnObj I u d') : Rel K B M σ (upd H a u) (ρ.set i (some (.d d'))) S I hot := by
  obtain ⟨d, b, e1, e2, ⟨n1, n2, _⟩, n3⟩ := r.own i hi
  rw [ha] at e2
  cases e2
  have hl : i < ρ.length := (List.getElem?_eq_some_iff.mp e1).1
  have ne : ∀ c w, I c = some w → c ≠ a := fun c w e z => by rw [z, n1] at e; cases e
  refine ⟨⟨fun c w e => by rw [upd_ne (ne c w e)]; exact r.wd.ext c w e, r.wd.len, fun k c hv e1 e2 => (r.wd.at_ k c hv e1 e2).at fun o e => ?_, r.wd.off, r.wd.nd⟩, ⟨r.st.ext, fun c w e n => ?_, fun c w e => ?_, r.st.new⟩, by rw [List.length_set]; exact r.len, fun j d e hj => ?_, fun j hj => ?_, r.sep⟩
  · rw [upd_ne (fun z : c = a => n2 (by rw [← z]; exact List.mem_of_getElem? e1))]; exact e
  · rw [upd_ne (fun z => by rw [z, n3] at e; cases e)]; exact r.st.keep c w e n
  · rw [upd_ne (fun z => by rw [z, n3] at e; cases e)]; exact r.st.stay c w e
  · rw [List.getElem?_set_ne (fun z : i = j => hj (z ▸ hi))] at e
    exact r.val j d e hj
  · by_cases z : i = j
    · subst z
      refine ⟨d', a, List.getElem?_set_self hl, ha, ⟨n1, n2, ?_⟩, n3⟩
      rcases ho with ⟨vs, ds, rfl, rfl, h1, h2⟩ | ⟨vs, ds, rfl, rfl, h1, h2⟩
      · exact .inl ⟨vs, ds, rfl, upd_same, h1, h2⟩
      · exact .inr ⟨vs, ds, rfl, upd_same, h1, h2⟩
    · rw [List.getElem?_set_ne z]
      obtain ⟨d2, b, q1, q2, ⟨m1, m2, q3⟩, m3⟩ := r.own j hj
      have nz : b ≠ a := fun q => r.sep i hi j hj z (by rw [ha, q2, q])
      refine ⟨d2, b, q1, q2, ⟨m1, m2, ?_⟩, m3⟩
      rw [upd_ne nz]
      exact q3
end
/-! ### the D of an owned slot -/
def ownL (ρ : Rho) (i : Nat) : Option (List D) := match ρ[i]? with
  | some (some (.d (.lst xs))) => some xs
  | _ => none
def ownK (ρ : Rho) (i : Nat) : Option (List (Key × D)) := match ρ[i]? with
  | some (some (.d (.dct xs))) => some xs
  | _ => none
theorem ownL_eq {ρ : Rho} {i : Nat} {xs : List D} (h : ownL ρ i = some xs) : ρ[i]? = some (some (.d (.lst xs))) := by
  unfold ownL at h
  split at h
  · cases h; assumption
  · cases h
theorem ownK_eq {ρ : Rho} {i : Nat} {xs : List (Key × D)} (h : ownK ρ i = some xs) : ρ[i]? = some (some (.d (.dct xs))) := by
  unfold ownK at h
  split at h
  · cases h; assumption
  · cases h
theorem Rel.ownLst {K : Frag} {B : Bs} {M : List Nat} {σ : L2.St} {H : Hp} {ρ : Rho} {S : Sx} {I : Hp} {hot : List Addr} {i : Nat} {xs : List D} (r : Rel K B M σ H ρ S I hot) (hi : i ∈ M) (e : ownL ρ i = some xs) : ∃ a vs, σ[i]? = some (some (.ref a)) ∧ H a = some (.lst vs) ∧ vs.length ≤ sizeLine ∧ Reps I vs xs := by
  obtain ⟨d, a, h1, h2, ⟨_, _, h3⟩, _⟩ := r.own i hi
  rw [ownL_eq e] at h1
  cases h1
  rcases h3 with ⟨vs, ds, q1, q2, q3, q4⟩ | ⟨_, _, q1, _⟩
  · cases q1; exact ⟨a, vs, h2, q2, q3, q4⟩
  · cases q1
theorem Rel.ownDct {K : Frag} {B : Bs} {M : List Nat} {σ : L2.St} {H : Hp} {ρ : Rho} {S : Sx} {I : Hp} {hot : List Addr} {i : Nat} {xs : List (Key × D)} (r : Rel K B M σ H ρ S I hot) (hi : i ∈ M) (e : ownK ρ i = some xs) : ∃ a vs, σ[i]? = some (some (.ref a)) ∧ H a = some (.dK vs) ∧ vs.length ≤ sizeLine ∧ Repk I vs xs := by
  obtain ⟨d, a, h1, h2, ⟨_, _, h3⟩, _⟩ := r.own i hi
  rw [ownK_eq e] at h1
  cases h1
  rcases h3 with ⟨_, _, q1, _⟩ | ⟨vs, ds, q1, q2, q3, q4⟩
  · cases q1
  · cases q1; exact ⟨a, vs, h2, q2, q3, q4⟩
theorem Rel.ownRef {K : Frag} {B : Bs} {M : List Nat} {σ : L2.St} {H : Hp} {ρ : Rho} {S : Sx} {I : Hp} {hot : List Addr} {i : Nat} (r : Rel K B M σ H ρ S I hot) (hi : i ∈ M) : ∃ a, σ[i]? = some (some (.ref a)) ∧ ((∃ vs, H a = some (.lst vs)) ∨ ∃ ws, H a = some (.dK ws)) := by
  obtain ⟨d, a, h1, h2, ⟨_, _, h3⟩, _⟩ := r.own i hi
  rcases h3 with ⟨vs, ds, q1, q2, q3, q4⟩ | ⟨vs, ds, q1, q2, q3, q4⟩
  · exact ⟨a, h2, .inl ⟨vs, q2⟩⟩
  · exact ⟨a, h2, .inr ⟨vs, q2⟩⟩

section
variable {X : Cx} {x : Xc} {M M' : List Nat}
/-- xs.append(e), xs ours -/
def sApp (i : Nat) (f : Fe) : Fs := fun ρ S => match ownL ρ i with
  | none => .stuck
  | some xs => onE (f ρ S) ρ fun a S1 => match a with
    | .d u => if xs.length < sizeLine then .nx (ρ.set i (some (.d (.lst (xs ++ [u]))))) S1 else .stuck
    | _ => .stuck
theorem gs_app {i : Nat} {n : Str} {e : Expr} {f : Fe} {p apos cpos pos : Pos} (he : GE X x M e f) (hN : X.N[i]? = some n := by rfl) (hm : i ∈ M := by decide) (hv : Vis X.env.scope n := by first | exact Or.inl rfl | exact Or.inr (Or.inl rfl) | exact Or.inr (Or.inr rfl))
    (hd : (n == ("__debug__" : Str)) = false := by decide) (hcd : (n == ("__classdict__" : Str)) = false := by decide)
    (hbase : attributeBase (.Name n p) "append" X.env (eval (.Name n p) X.env) = eval (.Name n p) X.env := by rfl)
    (hfew : ((backTo cpos (starEach [e] X.env)).all (fun x => !x.1) && (backToKw cpos (keywordEach [] X.env)).all (fun x => x.1.isSome)
      && decide (([e]).length + ([] : List Keyword).length + (if ([] : List Keyword).isEmpty then 0 else 1) < 30)) = true := by rfl)
    (hline : (apos.endLine == cpos.line) = true := by rfl) (hs : starEach [e] X.env = (false, eval e X.env) :: starEach [] X.env := by rfl) (hplain : (backTo cpos (starEach [] X.env)).any (·.1) = false := by rfl)
    (hsw : swapsWith (.Call (.Attribute (.Name n p) "append" apos) [e] [] cpos) none pos.line X.env = pure false := by rfl) :
    GS X x M M (.Expr (.Call (.Attribute (.Name n p) "append" apos) [e] [] cpos) pos) (sApp i f) := by
  refine PS.weak (ps_expr (pe_bm PySem.F.plainAttrs_list PySem.F.slot_list_append PySem.F.type_list_append mt_append (pe_var hN hv hd hcd) (pa_cons he pa_nil hs) hbase hfew hline hs hplain) hsw) ?_
  rintro D σ H ⟨B, ρ, S, I, hot, R, h⟩
  unfold sApp at h
  cases eo : ownL ρ i with
  | none => rw [eo] at h; exact h.elim
  | some xs =>
    rw [eo] at h
    obtain ⟨a, vs, e1, e2, e3, e4⟩ := R.ownLst hm eo
    refine ⟨.ref a, e1, .inl ⟨rfl, vs, SqL.of e2⟩, B, ρ, S, I, hot, R, onE_after h fun u S1 v H' I' R' s' ra h1 => ?_⟩
    obtain ⟨a', vs', f1, f2, f3, f4⟩ := R'.ownLst hm eo
    rw [e1] at f1
    cases f1
    cases ra with
    | d r =>
      dsimp only at h1
      split at h1
      · rename_i hl
        have hl' : vs'.length < sizeLine := by rw [f4.length]; exact hl
        refine ⟨_, vs', v, rfl, rfl, f2, hl', h1 σ _ I' s'.ext (R'.updOwn hm e1 (.inl ⟨_, _, rfl, rfl, ?_, f4.append (Reps.one r)⟩))⟩
        rw [List.length_append, List.length_singleton]; omega
      · exact h1.elim
    | _ => exact h1.elim
/-- xs.extend(e), xs ours -/
def sExt (i : Nat) (f : Fe) : Fs := fun ρ S => match ownL ρ i with
  | none => .stuck
  | some xs => onE (f ρ S) ρ fun a S1 => match a with
    | .d (.lst ys) => if xs.length + ys.length ≤ sizeLine then .nx (ρ.set i (some (.d (.lst (xs ++ ys))))) S1 else .stuck
    | _ => .stuck
theorem gs_ext {i : Nat} {n : Str} {e : Expr} {f : Fe} {p apos cpos pos : Pos} (he : GE X x M e f) (hN : X.N[i]? = some n := by rfl) (hm : i ∈ M := by decide) (hv : Vis X.env.scope n := by first | exact Or.inl rfl | exact Or.inr (Or.inl rfl) | exact Or.inr (Or.inr rfl))
    (hd : (n == ("__debug__" : Str)) = false := by decide) (hcd : (n == ("__classdict__" : Str)) = false := by decide)
    (hbase : attributeBase (.Name n p) "extend" X.env (eval (.Name n p) X.env) = eval (.Name n p) X.env := by rfl)
    (hfew : ((backTo cpos (starEach [e] X.env)).all (fun x => !x.1) && (backToKw cpos (keywordEach [] X.env)).all (fun x => x.1.isSome)
      && decide (([e]).length + ([] : List Keyword).length + (if ([] : List Keyword).isEmpty then 0 else 1) < 30)) = true := by rfl)
    (hline : (apos.endLine == cpos.line) = true := by rfl) (hs : starEach [e] X.env = (false, eval e X.env) :: starEach [] X.env := by rfl) (hplain : (backTo cpos (starEach [] X.env)).any (·.1) = false := by rfl)
    (hsw : swapsWith (.Call (.Attribute (.Name n p) "extend" apos) [e] [] cpos) none pos.line X.env = pure false := by rfl) :
    GS X x M M (.Expr (.Call (.Attribute (.Name n p) "extend" apos) [e] [] cpos) pos) (sExt i f) := by
  refine PS.weak (ps_expr (pe_bm PySem.F.plainAttrs_list PySem.F.slot_list_extend PySem.F.type_list_extend mt_extend (pe_var hN hv hd hcd) (pa_cons he pa_nil hs) hbase hfew hline hs hplain) hsw) ?_
  rintro D σ H ⟨B, ρ, S, I, hot, R, h⟩
  unfold sExt at h
  cases eo : ownL ρ i with
  | none => rw [eo] at h; exact h.elim
  | some xs =>
    rw [eo] at h
    obtain ⟨a, vs, e1, e2, e3, e4⟩ := R.ownLst hm eo
    refine ⟨.ref a, e1, .inl ⟨rfl, vs, SqL.of e2⟩, B, ρ, S, I, hot, R, onE_after h fun u S1 v H' I' R' s' ra h1 => ?_⟩
    obtain ⟨a', vs', f1, f2, f3, f4⟩ := R'.ownLst hm eo
    rw [e1] at f1
    cases f1
    cases ra with
    | d r =>
      cases r with
      | @lst b zs ys hb hz hr =>
        dsimp only at h1
        split at h1
        · rename_i hl
          have hl' : vs'.length + zs.length ≤ sizeLine := by rw [f4.length, hr.length]; exact hl
          refine ⟨_, b, vs', zs, rfl, rfl, f2, R'.wd.ext _ _ hb, hl', h1 σ _ I' s'.ext (R'.updOwn hm e1 (.inl ⟨_, _, rfl, rfl, ?_, f4.append hr⟩))⟩
          rw [List.length_append]; omega
        · exact h1.elim
      | _ => exact h1.elim
    | _ => exact h1.elim
/-! ### dicts -/
def putD (kvs : List (Key × D)) (k : Key) (v : D) : List (Key × D) :=
  if (kvs.any fun kv => decide (kv.1 = k)) = true then kvs.map (fun kv => if kv.1 = k then (kv.1, v) else kv) else kvs ++ [(k, v)]
def dropD (kvs : List (Key × D)) (k : Key) : List (Key × D) := kvs.filter fun kv => decide (kv.1 ≠ k)
theorem repk_any {I : Hp} {k : Key} : ∀ {ws : List (Key × V)} {kvs : List (Key × D)}, Repk I ws kvs → (ws.any fun kv => decide (kv.1 = k)) = kvs.any fun kv => decide (kv.1 = k)
  | _, _, .nil => rfl
  | _, _, .cons _ _ r => by rw [List.any_cons, List.any_cons, repk_any r]
theorem repk_append {I : Hp} : ∀ {ws us : List (Key × V)} {kvs ls : List (Key × D)}, Repk I ws kvs → Repk I us ls → Repk I (ws ++ us) (kvs ++ ls)
  | _, _, _, _, .nil, s => s
  | _, _, _, _, .cons z h r, s => .cons z h (repk_append r s)
theorem repk_map {I : Hp} {k : Key} {v : V} {d : D} (hv : Rep I v d) : ∀ {ws : List (Key × V)} {kvs : List (Key × D)}, Repk I ws kvs → Repk I (ws.map (fun kv => if kv.1 = k then (kv.1, v) else kv)) (kvs.map (fun kv => if kv.1 = k then (kv.1, d) else kv))
  | _, _, .nil => .nil
  | _, _, .cons (k := j) z h r => by
    rw [List.map_cons, List.map_cons]
    by_cases e : j = k
    · simp only [if_pos e]
      exact .cons z hv (repk_map hv r)
    · simp only [if_neg e]
      exact .cons z h (repk_map hv r)
theorem repk_put {I : Hp} {k : Key} {v : V} {d : D} {ws : List (Key × V)} {kvs : List (Key × D)} (hk : keyOk k) (hv : Rep I v d) (r : Repk I ws kvs) : Repk I (putK ws k v) (putD kvs k d) := by
  unfold putK putD
  rw [repk_any r]
  split
  · exact repk_map hv r
  · exact repk_append r (.cons hk hv .nil)
theorem repk_drop {I : Hp} {k : Key} : ∀ {ws : List (Key × V)} {kvs : List (Key × D)}, Repk I ws kvs → Repk I (dropK ws k) (dropD kvs k)
  | _, _, .nil => .nil
  | _, _, .cons (k := j) (v := v) (d := d) (ws := ws) (kvs := kvs) z h r => by
    have ih := repk_drop (k := k) r
    unfold dropK dropD at ih ⊢
    by_cases e : j = k
    · rw [List.filter_cons_of_neg (by simp [e]), List.filter_cons_of_neg (by simp [e])]; exact ih
    · rw [List.filter_cons_of_pos (by simp [e]), List.filter_cons_of_pos (by simp [e])]; exact .cons z h ih
theorem keyD_ok {I : Hp} {v : V} {d : D} {k : Key} (r : Rep I v d) (h : keyD d = some k) : keyOk k := by
  cases r <;> simp [keyD] at h <;> subst h
  · trivial
  · assumption
/-- d[k] = e, d ours -/
def sPut (i : Nat) (fk f : Fe) : Fs := fun ρ S => match ownK ρ i with
  | none => .stuck
  | some kvs => onE (f ρ S) ρ fun a S1 => onE (fk ρ S1) ρ fun b S2 => match a, b with
    | .d u, .d k => (match keyD k with
      | some key => if kvs.length < sizeLine then .nx (ρ.set i (some (.d (.dct (putD kvs key u))))) S2 else .stuck
      | none => .stuck)
    | _, _ => .stuck
theorem gs_put {i : Nat} {n : Str} {ek e : Expr} {fk f : Fe} {p pos' pos : Pos} (hu : X.A.units + 1 < cLine) (hk : GE X x M ek fk) (he : GE X x M e f) (hN : X.N[i]? = some n := by rfl) (hm : i ∈ M := by decide) (hv : Vis X.env.scope n := by first | exact Or.inl rfl | exact Or.inr (Or.inl rfl) | exact Or.inr (Or.inr rfl))
    (hd : (n == ("__debug__" : Str)) = false := by decide) (hcd : (n == ("__classdict__" : Str)) = false := by decide)
    (hs : swapsWith e (some (.Subscript (.Name n p) ek pos')) pos.line X.env = pure false := by rfl) :
    GS X x M M (.Assign [.Subscript (.Name n p) ek pos'] e pos) (sPut i fk f) := by
  refine PS.weak (ps_dput hu (pe_var hN hv hd hcd) hk he hs) ?_
  rintro D σ H ⟨B, ρ, S, I, hot, R, h⟩
  unfold sPut at h
  cases eo : ownK ρ i with
  | none => rw [eo] at h; exact h.elim
  | some kvs =>
    rw [eo] at h
    obtain ⟨a, ws, e1, e2, e3, e4⟩ := R.ownDct hm eo
    refine ⟨B, ρ, S, I, hot, R, onE_after h fun u S1 v H' I' R' s' ra h1 => ?_⟩
    refine ⟨.ref a, e1, B, ρ, S1, I', hot, R', onE_after (OutOk.from h1 s'.ext) fun b S2 y H2 I2 R2 s2 rb h2 => ?_⟩
    have ra' := ra.ext s2.ext
    cases ra' with
    | d r =>
      cases rb with
      | @d _ kd rk =>
        dsimp only at h2
        cases ek : keyD kd with
        | none => rw [ek] at h2; exact h2.elim
        | some key =>
          rw [ek] at h2
          dsimp only at h2
          split at h2
          · rename_i hl
            obtain ⟨a', ws', f1, f2, f3, f4⟩ := R2.ownDct hm eo
            rw [e1] at f1
            cases f1
            have ev := keyD_rep rk ek
            subst ev
            have hl' : ws'.length < sizeLine := by rw [f4.length]; exact hl
            refine ⟨_, _, rfl, DPut.k f2 hl', h2 σ _ I2 s2.ext (R2.updOwn hm e1 (.inr ⟨_, _, rfl, rfl, ?_, repk_put (keyD_ok rk ek) r f4⟩))⟩
            have := length_putK ws' key v
            omega
          · exact h2.elim
      | _ => exact h2.elim
    | _ => cases rb <;> exact h2.elim
/-- d.pop(k), d ours -/
def sPop (i : Nat) (fk : Fe) : Fs := fun ρ S => match ownK ρ i with
  | none => .stuck
  | some kvs => onE (fk ρ S) ρ fun b S2 => match b with
    | .d k => (match keyD k with
      | some key => if (lookK kvs key).isSome = true then .nx (ρ.set i (some (.d (.dct (dropD kvs key))))) S2 else .stuck
      | none => .stuck)
    | _ => .stuck
theorem gs_pop {i : Nat} {n : Str} {ek : Expr} {fk : Fe} {p apos cpos pos : Pos} (hk : GE X x M ek fk) (hN : X.N[i]? = some n := by rfl) (hm : i ∈ M := by decide) (hv : Vis X.env.scope n := by first | exact Or.inl rfl | exact Or.inr (Or.inl rfl) | exact Or.inr (Or.inr rfl))
    (hd : (n == ("__debug__" : Str)) = false := by decide) (hcd : (n == ("__classdict__" : Str)) = false := by decide)
    (m : M1 X (.Name n p) "pop" apos ek cpos := by exact ⟨rfl, rfl, rfl, rfl⟩) (hsw : swapsWith (.Call (.Attribute (.Name n p) "pop" apos) [ek] [] cpos) none pos.line X.env = pure false := by rfl) :
    GS X x M M (.Expr (.Call (.Attribute (.Name n p) "pop" apos) [ek] [] cpos) pos) (sPop i fk) := by
  refine PS.weak (ps_expr (pe_dpop1 (pe_var hN hv hd hcd) hk m) hsw) ?_
  rintro D σ H ⟨B, ρ, S, I, hot, R, h⟩
  unfold sPop at h
  cases eo : ownK ρ i with
  | none => rw [eo] at h; exact h.elim
  | some kvs =>
    rw [eo] at h
    obtain ⟨a, ws, e1, e2, e3, e4⟩ := R.ownDct hm eo
    refine ⟨.ref a, e1, a, rfl, .inl ⟨ws, .inl e2⟩, B, ρ, S, I, hot, R, onE_after h fun b S2 y H2 I2 R2 s2 rb h2 => ?_⟩
    cases rb with
    | @d _ kd rk =>
      dsimp only at h2
      cases ek : keyD kd with
      | none => rw [ek] at h2; exact h2.elim
      | some key =>
        rw [ek] at h2
        dsimp only at h2
        split at h2
        · rename_i hl
          obtain ⟨a', ws', f1, f2, f3, f4⟩ := R2.ownDct hm eo
          rw [e1] at f1
          cases f1
          have ev := keyD_rep rk ek
          subst ev
          obtain ⟨dd, hdd⟩ := Option.isSome_iff_exists.mp hl
          obtain ⟨v, hv1, _⟩ := (look_rep f4).1 dd hdd
          refine ⟨ws', key, v, f2, rfl, hv1, h2 σ _ I2 s2.ext (R2.updOwn hm e1 (.inr ⟨_, _, rfl, rfl, ?_, repk_drop f4⟩))⟩
          exact Nat.le_trans (List.length_filter_le _ _) f3
        · exact h2.elim
    | _ => exact h2.elim
/-- a, b = e -/
def sUn (t : Tgt) (f : Fe) : Fs := fun ρ S => onE (f ρ S) ρ fun a S1 => match a with
  | .d u => (match bindT t u ρ with
    | some ρ' => .nx ρ' S1
    | none => .stuck)
  | _ => .stuck
theorem gs_un {tg e : Expr} {t : Tgt} {f : Fe} {pos : Pos} (he : GE X x M e f) (hg : GG X tg t) (hts : ∀ i ∈ t.slots, i ∉ M := by decide) (hs : swapsWithSole [tg] e pos.line X.env = pure false := by rfl) (hw : swappedStores [tg] e X.env = pure none := by rfl)
    (h1 : (assignEach [tg] X.env).map (·.2) = [assign tg X.env] := by rfl) : GS X x M M (.Assign [tg] e pos) (sUn t f) := by
  refine PS.weak (ps_asg he hg hs hw h1) ?_
  rintro D σ H ⟨B, ρ, S, I, hot, R, h⟩
  refine ⟨B, ρ, S, I, hot, R, onE_after h fun a S1 v H' I' R' s' ra h1 => ?_⟩
  cases ra with
  | @d _ u r =>
    dsimp only at h1
    cases eb : bindT t u ρ with
    | none => rw [eb] at h1; exact h1.elim
    | some ρ' =>
      rw [eb] at h1
      exact gT_ok R' r eb hts fun us Rw => h1 _ H' I' s'.ext Rw
  | _ => exact h1.elim
end
end G
namespace G
open PySem L2
open PySem.W (Frag)
open Classical

/-! ### a dict locked while it is walked -/
def updS (H : Hp) (d : Addr) (z : HO) : Hp := fun a => if a = d then (H d).map (fun _ => z) else H a
theorem updS_ne {H : Hp} {d a : Addr} {z : HO} (h : a ≠ d) : updS H d z a = H a := if_neg h
theorem updS_same {H : Hp} {d : Addr} {z : HO} : updS H d z d = (H d).map (fun _ => z) := if_pos rfl
def Bs.lk (B : Bs) (d : Addr) (z : HO) : Bs := ⟨updS B.H d z, updS B.I d z⟩
section
variable {K : Frag} {x : Xc} {B : Bs} {M : List Nat} {σ : L2.St} {H H' : Hp} {ρ : Rho} {S S' : Sx} {I I' : Hp} {hot : List Addr} {d : Addr} {ws : List (Key × V)} {od : Obj}
theorem lock_ext (hd : I d = some (.dK ws)) : ExtR I (upd I d (.frz od (.dK ws))) := by
  have ne : ∀ a o, I a = some o → (∀ ws, o ≠ .dK ws) → a ≠ d := fun a o e n z => by rw [z, hd] at e; cases e; exact n _ rfl
  refine ⟨fun a vs e => ?_, fun a vs e => ?_, fun a vs e => ?_, fun a vs e => ?_, fun a φ e => ?_⟩
  · rw [upd_ne (ne a _ e fun _ q => nomatch q)]; exact e
  · obtain ⟨o, e1, e2⟩ := e
    exact ⟨o, by rw [upd_ne (ne a _ e1 fun _ q => nomatch q)]; exact e1, e2⟩
  · by_cases z : a = d
    · subst z
      rcases e with e | ⟨o, e⟩
      · rw [hd] at e; cases e; exact .inr ⟨od, upd_same⟩
      · rw [hd] at e; cases e
    · rcases e with e | ⟨o, e⟩
      · exact .inl (by rw [upd_ne z]; exact e)
      · exact .inr ⟨o, by rw [upd_ne z]; exact e⟩
  · rcases e with e | ⟨o, e⟩
    · exact .inl (by rw [upd_ne (ne a _ e fun _ q => nomatch q)]; exact e)
    · exact .inr ⟨o, by rw [upd_ne (ne a _ e fun _ q => nomatch q)]; exact e⟩
  · rw [upd_ne (ne a _ e fun _ q => nomatch q)]; exact e
theorem unlock_ext (hd : I d = some (.frz od (.dK ws))) : ExtR I (upd I d (.dK ws)) := by
  have ne : ∀ a o, I a = some o → (∀ od ws, o ≠ .frz od (.dK ws)) → a ≠ d := fun a o e n z => by rw [z, hd] at e; cases e; exact n _ _ rfl
  refine ⟨fun a vs e => ?_, fun a vs e => ?_, fun a vs e => ?_, fun a vs e => ?_, fun a φ e => ?_⟩
  · rw [upd_ne (ne a _ e fun _ _ q => nomatch q)]; exact e
  · obtain ⟨o, e1, e2⟩ := e
    exact ⟨o, by rw [upd_ne (ne a _ e1 fun _ _ q => nomatch q)]; exact e1, e2⟩
  · by_cases z : a = d
    · subst z
      rcases e with e | ⟨o, e⟩
      · rw [hd] at e; cases e
      · rw [hd] at e; cases e; exact .inl upd_same
    · rcases e with e | ⟨o, e⟩
      · exact .inl (by rw [upd_ne z]; exact e)
      · exact .inr ⟨o, by rw [upd_ne z]; exact e⟩
  · rcases e with e | ⟨o, e⟩
    · exact .inl (by rw [upd_ne (ne a _ e fun _ _ q => nomatch q)]; exact e)
    · exact .inr ⟨o, by rw [upd_ne (ne a _ e fun _ _ q => nomatch q)]; exact e⟩
  · rw [upd_ne (ne a _ e fun _ _ q => nomatch q)]; exact e
theorem Rel.lock (r : Rel K B M σ H ρ S I hot) (hd : I d = some (.dK ws)) : Rel K (B.lk d (.frz od (.dK ws))) M σ (upd H d (.frz od (.dK ws))) ρ S (upd I d (.frz od (.dK ws))) hot := by
  have E := lock_ext (od := od) hd
  have nh : ∀ a ∈ hot, a ≠ d := fun a ha z => by have := r.wd.off a ha; rw [z, hd] at this; cases this
  refine ⟨⟨fun a o e => ?_, r.wd.len, fun k a hv e1 e2 => (r.wd.at_ k a hv e1 e2).at fun o e => ?_, fun a ha => ?_, r.wd.nd⟩, ⟨fun a o e => ?_, fun a o e n => ?_, fun a o e => ?_, fun a o e => ?_⟩, r.len, fun i a e n => ?_, fun i hi => ?_, r.sep⟩
  · by_cases z : a = d
    · subst z; rw [upd_same] at e ⊢; exact e
    · rw [upd_ne z] at e ⊢; exact r.wd.ext a o e
  · rw [upd_ne (nh a (List.mem_of_getElem? e1))]; exact e
  · rw [upd_ne (nh a ha)]; exact r.wd.off a ha
  · by_cases z : a = d
    · subst z
      have e : updS B.I a _ a = some o := e
      rw [updS_same] at e
      cases q : B.I a with
      | none => rw [q] at e; cases e
      | some u => rw [q] at e; cases e; exact upd_same
    · have e : updS B.I d _ a = some o := e
      rw [updS_ne z] at e; rw [upd_ne z]; exact r.st.ext a o e
  · by_cases z : a = d
    · subst z
      have e : updS B.H a _ a = some o := e
      rw [updS_same] at e
      cases q : B.H a with
      | none => rw [q] at e; cases e
      | some u => rw [q] at e; cases e; exact upd_same
    · have e : updS B.H d _ a = some o := e
      rw [updS_ne z] at e; rw [upd_ne z]; exact r.st.keep a o e n
  · by_cases z : a = d
    · subst z; exact ⟨_, upd_same⟩
    · have e : updS B.H d _ a = some o := e
      rw [updS_ne z] at e; rw [upd_ne z]; exact r.st.stay a o e
  · show updS B.I d _ a = some o ∨ updS B.H d _ a = none
    by_cases z : a = d
    · subst z
      rw [upd_same] at e
      cases e
      rcases r.st.new a _ hd with q | q
      · exact .inl (by rw [updS_same, q]; rfl)
      · exact .inr (by rw [updS_same, q]; rfl)
    · rw [upd_ne z] at e
      rw [updS_ne z, updS_ne z]
      exact r.st.new a o e
  · obtain ⟨v, h1, h2⟩ := r.val i a e n
    exact ⟨v, h1, h2.mono E (Pre.refl _)⟩
  · obtain ⟨d', a, h1, h2, ⟨h3, h4, h5⟩, h6⟩ := r.own i hi
    have z : a ≠ d := fun z => by rw [z, hd] at h3; cases h3
    refine ⟨d', a, h1, h2, ⟨by rw [upd_ne z]; exact h3, h4, ?_⟩, by show updS B.H d _ a = none; rw [updS_ne z]; exact h6⟩
    rw [upd_ne z]
    rcases h5 with ⟨vs, ds, e, ha, hz, hr⟩ | ⟨vs, ds, e, ha, hz, hr⟩
    · exact .inl ⟨vs, ds, e, ha, hz, hr.mono E⟩
    · exact .inr ⟨vs, ds, e, ha, hz, hr.mono E⟩
theorem Rel.unlock (r : Rel K B M σ H ρ S I hot) (hd : I d = some (.dK ws)) (r' : Rel K (B.lk d (.frz od (.dK ws))) M σ H' ρ S' I' hot) (s' : Stp hot (upd H d (.frz od (.dK ws))) (upd I d (.frz od (.dK ws))) H' I') :
    Rel K B M σ (upd H' d (.dK ws)) ρ S' (upd I' d (.dK ws)) hot ∧ Stp hot H I (upd H' d (.dK ws)) (upd I' d (.dK ws)) := by
  have hd' : I' d = some (.frz od (.dK ws)) := s'.ext d _ upd_same
  have hH' : H' d = some (.frz od (.dK ws)) := r'.wd.ext d _ hd'
  have E := unlock_ext hd'
  have nh : ∀ a ∈ hot, a ≠ d := fun a ha z => by have := r.wd.off a ha; rw [z, hd] at this; cases this
  have hH : H d = some (.dK ws) := r.wd.ext d _ hd
  have nhd : d ∉ hot := fun z => nh d z rfl
  constructor
  · refine ⟨⟨fun a o e => ?_, r'.wd.len, fun k a hv e1 e2 => (r'.wd.at_ k a hv e1 e2).at fun o e => ?_, fun a ha => ?_, r.wd.nd⟩, ⟨fun a o e => ?_, fun a o e n => ?_, fun a o e => ?_, fun a o e => ?_⟩, r.len, fun i a e n => ?_, fun i hi => ?_, r.sep⟩
    · by_cases z : a = d
      · subst z; rw [upd_same] at e ⊢; exact e
      · rw [upd_ne z] at e ⊢; exact r'.wd.ext a o e
    · rw [upd_ne (nh a (List.mem_of_getElem? e1))]; exact e
    · rw [upd_ne (nh a ha)]; exact r'.wd.off a ha
    · by_cases z : a = d
      · subst z
        have q := r.st.ext a o e
        rw [hd] at q; cases q; exact upd_same
      · rw [upd_ne z]
        exact r'.st.ext a o (by show updS B.I d _ a = _; rw [updS_ne z]; exact e)
    · by_cases z : a = d
      · subst z
        have q := r.st.keep a o e n
        rw [hH] at q; cases q; exact upd_same
      · rw [upd_ne z]
        exact r'.st.keep a o (by show updS B.H d _ a = _; rw [updS_ne z]; exact e) n
    · by_cases z : a = d
      · subst z; exact ⟨_, upd_same⟩
      · rw [upd_ne z]
        exact r'.st.stay a o (by show updS B.H d _ a = _; rw [updS_ne z]; exact e)
    · by_cases z : a = d
      · subst z
        rw [upd_same] at e; cases e
        exact r.st.new a _ hd
      · rw [upd_ne z] at e
        have q : updS B.I d _ a = some o ∨ updS B.H d _ a = none := r'.st.new a o e
        rw [updS_ne z, updS_ne z] at q
        exact q
    · obtain ⟨v, h1, h2⟩ := r'.val i a e n
      exact ⟨v, h1, h2.mono E (Pre.refl _)⟩
    · obtain ⟨d', a, h1, h2, ⟨h3, h4, h5⟩, h6⟩ := r'.own i hi
      have z : a ≠ d := fun z => by rw [z, hd'] at h3; cases h3
      have h6 : updS B.H d _ a = none := h6
      rw [updS_ne z] at h6
      refine ⟨d', a, h1, h2, ⟨by rw [upd_ne z]; exact h3, h4, ?_⟩, h6⟩
      rw [upd_ne z]
      rcases h5 with ⟨vs, ds, e, ha, hz, hr⟩ | ⟨vs, ds, e, ha, hz, hr⟩
      · exact .inl ⟨vs, ds, e, ha, hz, hr.mono E⟩
      · exact .inr ⟨vs, ds, e, ha, hz, hr.mono E⟩
  · refine ⟨fun a o e => ?_, fun a o e n => ?_, fun a o e => ?_, fun a o e => ?_⟩
    · by_cases z : a = d
      · subst z; rw [hd] at e; cases e; exact upd_same
      · rw [upd_ne z]; exact s'.ext a o (by rw [upd_ne z]; exact e)
    · by_cases z : a = d
      · subst z; rw [hH] at e; cases e; exact upd_same
      · rw [upd_ne z]; exact s'.keep a o (by rw [upd_ne z]; exact e) n
    · by_cases z : a = d
      · subst z; exact ⟨_, upd_same⟩
      · rw [upd_ne z]; exact s'.stay a o (by rw [upd_ne z]; exact e)
    · by_cases z : a = d
      · subst z; rw [upd_same] at e; cases e; exact .inl hd
      · rw [upd_ne z] at e
        have q := s'.new a o e
        rw [upd_ne z, upd_ne z] at q
        exact q
theorem NAfter.lock {r : Res D} {Q : VK} (R : Rel K B M σ H ρ S I hot) (hd : I d = some (.dK ws)) (nx : ∀ c S, r ≠ .exc c S) (h : NAfter K x B M σ ρ hot H I r Q) :
    NAfter K x (B.lk d (.frz od (.dK ws))) M σ ρ hot (upd H d (.frz od (.dK ws))) (upd I d (.frz od (.dK ws))) r fun v H' => H' d = some (.frz od (.dK ws)) ∧ Q v (upd H' d (.dK ws)) := by
  cases r with
  | stuck => exact h
  | exc c S => exact absurd rfl (nx c S)
  | ok u S' =>
    intro p H' I' R' s' o hp
    have hp' : p ≠ d := fun z => by rw [z, upd_same] at hp; cases hp
    have hd' : I' d = some (.frz od (.dK ws)) := s'.ext d _ upd_same
    have E := unlock_ext hd'
    obtain ⟨R2, s2⟩ := R.unlock hd R' s'
    refine ⟨R'.wd.ext d _ hd', h p _ _ R2 s2 ⟨by rw [upd_ne hp']; exact o.1, o.2.1, ?_⟩ (by rw [upd_ne hp'] at hp; exact hp)⟩
    rw [upd_ne hp']
    rcases o.2.2 with ⟨vs, ds, e, ha, hz, hr⟩ | ⟨vs, ds, e, ha, hz, hr⟩
    · exact .inl ⟨vs, ds, e, ha, hz, hr.mono E⟩
    · exact .inr ⟨vs, ds, e, ha, hz, hr.mono E⟩
end
def iKeyV (i : Nat) : Fi := fun ρ S => match ρ[i]? with
  | some (some (.d (.dct kvs))) => .ok (kvs.map fun kv => keyVal kv.1) S
  | _ => .stuck
theorem walkI_keys {I : Hp} {d : Addr} {o : Obj} {ws : List (Key × V)} {kvs : List (Key × D)} (h : I d = some (.frz o (.dK ws))) (hz : ws.length ≤ sizeLine) (r : Repk I ws kvs) : RepI I (Itk d o ws) (kvs.map fun kv => keyVal kv.1) := by
  have el : (kvs.map fun kv => keyVal kv.1).length = ws.length := by rw [List.length_map, r.length]
  refine ⟨by rw [el]; exact hz, ?_⟩
  rw [el]
  refine (walk_keys (d := d) (o := o) (kvs := ws)).mono (fun H e => e _ _ h) fun i H v H' _ _ ⟨e, k, y, h1, h2⟩ => ⟨e, ?_⟩
  have q := keyVal_reps r I
  obtain ⟨u, e1, e2⟩ := q.getV (i := i) (v := kV k) (by rw [List.getElem?_map, h1]; rfl)
  exact ⟨u, e1, by rw [h2]; exact e2⟩
section
variable {X : Cx} {x : Xc} {M : List Nat}
theorem gn_compK {i : Nat} {n : Str} {elt tg : Expr} {ifs : List Expr} {scope : Scope} {own : List (Str × Nat)} {pos p apos cpos : Pos} {t : Tgt} {ft : Ft} {fe : Fe} (hN : X.N.Nodup) (ok : BlkOk X.N X.env.scope scope own)
    (hg : ∀ (s : Shared) (H : Hp) (C : Addr) (cl : List (Str × Addr)) (fp : List Addr), GG (X.blk s H scope (compEnvC scope cl C X.env) fp) tg t)
    (ht : ∀ (s : Shared) (H : Hp) (C : Addr) (cl : List (Str × Addr)) (fp : List Addr), GTs (X.blk s H scope (compEnvC scope cl C X.env) fp) (xc0 M) M ifs ft)
    (he : ∀ (s : Shared) (H : Hp) (C : Addr) (cl : List (Str × Addr)) (fp : List Addr), GE (X.blk s H scope (compEnvC scope cl C X.env) fp) (xc0 M) M elt fe)
    (hi : X.N[i]? = some n := by rfl) (hv : Vis X.env.scope n := by first | exact Or.inl rfl | exact Or.inr (Or.inl rfl) | exact Or.inr (Or.inr rfl)) (hiM : i ∉ M := by decide)
    (hd : (n == ("__debug__" : Str)) = false := by decide) (hcd : (n == ("__classdict__" : Str)) = false := by decide)
    (hbase : attributeBase (.Name n p) "keys" X.env (eval (.Name n p) X.env) = eval (.Name n p) X.env := by rfl) (hline : (apos.endLine == cpos.line) = true := by rfl)
    (hm : ∀ i ∈ own.map (·.2), i ∉ M := by decide) (hts : ∀ i ∈ t.slots, i ∈ own.map (·.2) := by decide) (hc : X.calm = true := by rfl) (hs : ∀ y, foldedSetIterable (.Call (.Attribute (.Name n p) "keys" apos) [] [] cpos) X.env y = pure y := by intro _; rfl) :
    GN X x M (.ListComp elt [⟨tg, .Call (.Attribute (.Name n p) "keys" apos) [] [] cpos, ifs, 0⟩] scope pos) (eComp (iKeyV i) t (own.map (·.2)) ft fe) := by
  have base : PE X (.ListComp elt [⟨tg, .Call (.Attribute (.Name n p) "keys" apos) [] [] cpos, ifs, 0⟩] scope pos) (tLc (iKeysM (tVar i)) (gT X.K t) (ttOf X.K (xc0 M) M ft) (tOf X.K (xc0 M) M fe) (own.map (·.2))) :=
    pe_lc hc hN (pi_keysM (pe_var hi hv hd hcd) hbase hline) ok (fun s H C cl fp => hg s H C cl fp) (fun s H C cl fp => ht s H C cl fp) (fun s H C cl fp => he s H C cl fp) hs
  refine PE.weak (PE.or base (pe_lock base)) ?_
  rintro σ H Q ⟨B, ρ, S, I, hot, R, h⟩
  unfold eComp iKeyV at h
  split at h
  · rename_i kvs ek
    rw [bind_ok] at h
    obtain ⟨v, e1, r1⟩ := R.val i _ ek hiM
    have r2 := r1.dat
    cases r2 with
    | @dct d ws _ hr hz hk =>
      rcases hr with hr | ⟨od, hr⟩
      · refine .inr ⟨d, .dK ws, R.wd.ext _ _ hr, trivial, fun od => ⟨.ref d, e1, d, od, ws, rfl, upd_same, ?_⟩⟩
        have R2 := R.lock (od := od) hr
        have w := walkI_keys (I := upd I d (.frz od (.dK ws))) (d := d) (o := od) (ws := ws) (kvs := kvs) upd_same hz (hk.mono (lock_ext hr))
        refine lc_main (H := H) hm hts R2 w (NAfter.lock R hr (fun c S2 e => ?_) h)
        cases q : compF t (own.map (·.2)) ft fe ρ (kvs.map fun kv => keyVal kv.1) S with
        | ok _ _ => rw [q] at e; cases e
        | exc _ _ => exact comp_nx _ _ q
        | stuck => rw [q] at e; cases e
      · refine .inl ⟨.ref d, e1, d, od, ws, rfl, R.wd.ext _ _ hr, ?_⟩
        exact lc_main (H := H) hm hts R (walkI_keys hr hz hk) h
  · exact h.elim
end

/-! ### new lists and dicts -/
section
variable {X : Cx} {x : Xc} {M : List Nat}
theorem NAfter.new {K : Frag} {B : Bs} {σ : L2.St} {H : Hp} {ρ : Rho} {S : Sx} {I : Hp} {hot : List Addr} {p : Addr} {u : HO} {d : D} {Q : VK} (h : NAfter K x B M σ ρ hot H I (.ok d S) Q) (R : Rel K B M σ H ρ S I hot) (hp : H p = none) (o : OwnObj I u d) : Q (.ref p) (upd H p u) := by
  obtain ⟨f1, f2, f3, f4⟩ := R.freshB hp
  refine h p _ I (R.put f1 f2 f3 f4) (stp_add hp) ⟨f1, f2, ?_⟩ hp
  rcases o with ⟨vs, ds, rfl, rfl, h1, h2⟩ | ⟨vs, ds, rfl, rfl, h1, h2⟩
  · exact .inl ⟨vs, ds, rfl, upd_same, h1, h2⟩
  · exact .inr ⟨vs, ds, rfl, upd_same, h1, h2⟩
def nLst (g : Fa) : Fd := fun ρ S => (g ρ S).bind fun as S1 => match dats as with
  | some ds => if ds.length ≤ sizeLine then .ok (.lst ds) S1 else .stuck
  | none => .stuck
theorem gn_lst {es : List Expr} {g : Fa} {pos : Pos} (h : GA X x M es g) : GN X x M (.List es pos) (nLst g) := by
  refine PE.weak (pe_lst h) ?_
  rintro σ H Q ⟨B, ρ, S, I, hot, R, h⟩
  refine ⟨B, ρ, S, I, hot, R, (NAfter.bind h).mono ?_⟩
  rintro vs H1 ⟨I1, S1, as, R1, s1, r1, _, h1⟩
  cases e : dats as with
  | none => rw [e] at h1; exact h1.elim
  | some ds =>
    rw [e] at h1
    have q := dats_reps r1 e
    dsimp only at h1
    split at h1
    · have hz : vs.length ≤ sizeLine := by rw [q.length]; assumption
      exact ⟨hz, fun p hp => NAfter.new h1 R1 hp (.inl ⟨vs, ds, rfl, rfl, hz, q⟩)⟩
    · exact h1.elim
def nC (d : D) : Fd := fun _ S => .ok d S
theorem gn_dct0 {pos : Pos} : GN X x M (.Dict [] [] pos) (nC (.dct [])) := by
  refine PE.weak pe_dnewK ?_
  rintro σ H Q ⟨B, ρ, S, I, hot, R, h⟩
  exact fun p hp => NAfter.new (S := S) h R hp (.inr ⟨[], [], rfl, rfl, Nat.zero_le _, .nil⟩)
def nIf (t : Ft) (f g : Fd) : Fd := fun ρ S => (t ρ S).bind fun b S1 => if b = true then f ρ S1 else g ρ S1
theorem gn_if {a b c : Expr} {t : Ft} {f g : Fd} {pos : Pos} (hc : GT X x M c t) (ha : GN X x M a f) (hb : GN X x M b g) : GN X x M (.IfExp c a b pos) (nIf t f g) := by
  refine PE.weak (pe_ifExp hc ha hb) ?_
  rintro σ H Q ⟨B, ρ, S, I, hot, R, h⟩
  refine ⟨B, ρ, S, I, hot, R, (NAfter.bind h).mono ?_⟩
  rintro c H1 ⟨I1, S1, k, R1, s1, r1, _, h1⟩
  cases (show c = k from r1)
  cases c with
  | true => exact ⟨B, ρ, S1, I1, hot, R1, h1⟩
  | false => exact ⟨B, ρ, S1, I1, hot, R1, h1⟩
def catN (a b : A) (S : Sx) : Res D := match a, b with
  | .d (.lst xs), .d (.lst ys) => if xs.length + ys.length ≤ sizeLine then .ok (.lst (xs ++ ys)) S else .stuck
  | _, _ => .stuck
def nCat (f f' : Fe) : Fd := fun ρ S => (f ρ S).bind fun a S1 => (f' ρ S1).bind fun b S2 => catN a b S2
theorem gn_cat {a b : Expr} {f f' : Fe} {pos : Pos} (ha : GE X x M a f) (hb : GE X x M b f') : GN X x M (.BinOp a .Add b pos) (nCat f f') := by
  refine PE.weak (pe_op op_cat ha hb) ?_
  rintro σ H Q ⟨B, ρ, S, I, hot, R, h⟩
  refine ⟨B, ρ, S, I, hot, R, (NAfter.bind h).mono ?_⟩
  rintro v1 H1 ⟨I1, S1, a, R1, s1, r1, _, h1⟩
  refine ⟨B, ρ, S1, I1, hot, R1, (NAfter.bind h1).mono ?_⟩
  rintro v2 H2 ⟨I2, S2, b, R2, s2, r2, _, h2⟩
  have r1' := r1.ext s2.ext
  cases a with
  | d u =>
    cases u with
    | lst xs =>
      cases b with
      | d w =>
        cases w with
        | lst ys =>
          have q1 := r1'.dat
          have q2 := r2.dat
          cases q1 with
          | @lst p vs _ hp n1 hr =>
            cases q2 with
            | @lst p2 vs2 _ hp2 n2 hr2 =>
              have h3 : NAfter X.K x B M σ ρ hot H2 I2 (if xs.length + ys.length ≤ sizeLine then .ok (.lst (xs ++ ys)) S2 else .stuck) Q := h2
              split at h3
              · rename_i hl
                have hz : vs.length + vs2.length ≤ sizeLine := by rw [hr.length, hr2.length]; exact hl
                exact ⟨p, p2, vs, vs2, rfl, rfl, R2.wd.ext _ _ hp, R2.wd.ext _ _ hp2, hz, fun z hz' => NAfter.new h3 R2 hz' (.inl ⟨_, _, rfl, rfl, by rw [List.length_append]; exact hz, hr.append hr2⟩)⟩
              · exact h3.elim
        | _ => exact h2.elim
      | _ => exact h2.elim
    | _ => exact h2.elim
  | _ => exact h2.elim
/-- dict(d) -/
def nDict (f : Fe) : Fd := fun ρ S => (f ρ S).bind fun a S1 => match a with
  | .d (.dct kvs) => .ok (.dct kvs) S1
  | _ => .stuck
theorem gn_dict {e : Expr} {f : Fe} {p pos : Pos} (he : GE X x M e f) (hm : X.mg "dict" = none) (hgl : Gl X "dict" := by rfl) (hs : starEach [e] X.env = (false, eval e X.env) :: starEach [] X.env := by rfl) (hpl : (backTo pos (starEach [] X.env)).any (·.1) = false := by rfl) :
    GN X x M (.Call (.Name "dict" p) [e] [] pos) (nDict f) := by
  refine PE.weak (pe_callTy call_dictD hgl hm PyProof.Rows.boot_dict (pa_cons he pa_nil hs) (by decide) (by decide) hs hpl) ?_
  rintro σ H Q ⟨B, ρ, S, I, hot, R, h⟩
  refine ⟨B, ρ, S, I, hot, R, (NAfter.bind h).mono ?_⟩
  rintro v H1 ⟨I1, S1, a, R1, s1, r1, _, h1⟩
  cases r1 with
  | d q =>
    cases q with
    | @dct d ws kvs hr hz hk => exact ⟨d, ws, rfl, R1.wd.ext.rd hr, fun p hp => NAfter.new (S := S1) h1 R1 hp (.inr ⟨ws, kvs, rfl, rfl, hz, hk⟩)⟩
    | _ => exact h1.elim
  | _ => exact h1.elim
end

/-! ### town.append(0) -/
def sTown (i : Nat) : Fs := fun ρ S => match ρ[i]? with
  | some (some (.hot k)) => (match S[k]? with
    | some (.zs n) => if n < sizeLine then .nx ρ (S.set k (.zs (n + 1))) else .stuck
    | _ => .stuck)
  | _ => .stuck
theorem Rel.townUp {K : Frag} {B : Bs} {M : List Nat} {σ : L2.St} {H : Hp} {ρ : Rho} {S : Sx} {I : Hp} {hot : List Addr} {k : Nat} {a : Addr} {n : Nat} (r : Rel K B M σ H ρ S I hot) (hk : hot[k]? = some a) : Rel K B M σ (upd H a (.lst (List.replicate n (.int 0)))) ρ (S.set k (.zs n)) I hot := by
  have ha : a ∈ hot := List.mem_of_getElem? hk
  have hI : I a = none := r.wd.off a ha
  have kl : k < S.length := by rw [← r.wd.len]; exact (List.getElem?_eq_some_iff.mp hk).1
  refine ⟨⟨fun b o e => ?_, by rw [List.length_set]; exact r.wd.len, fun j b hv e1 e2 => ?_, r.wd.off, r.wd.nd⟩, ⟨r.st.ext, fun b o e nb => ?_, fun b o e => ?_, r.st.new⟩, r.len, r.val, fun i hi => ?_, r.sep⟩
  · rw [upd_ne (fun z => by rw [z, hI] at e; cases e)]; exact r.wd.ext b o e
  · by_cases z : j = k
    · subst z
      rw [hk] at e1; cases e1
      rw [List.getElem?_set_self kl] at e2; cases e2
      exact upd_same
    · rw [List.getElem?_set_ne (Ne.symm z)] at e2
      have nb : b ≠ a := fun q => by
        subst q
        obtain ⟨l1, q1⟩ := List.getElem?_eq_some_iff.mp e1
        obtain ⟨l2, q2⟩ := List.getElem?_eq_some_iff.mp hk
        exact z ((List.getElem_inj r.wd.nd).mp (q1.trans q2.symm))
      exact (r.wd.at_ j b hv e1 e2).at fun o e => by rw [upd_ne nb]; exact e
  · rw [upd_ne (fun z => nb (by rw [z]; exact ha))]; exact r.st.keep b o e nb
  · by_cases z : b = a
    · subst z; exact ⟨_, upd_same⟩
    · rw [upd_ne z]; exact r.st.stay b o e
  · obtain ⟨d, b, h1, h2, ⟨h3, h4, h5⟩, h6⟩ := r.own i hi
    refine ⟨d, b, h1, h2, ⟨h3, h4, ?_⟩, h6⟩
    rw [upd_ne (fun z => h4 (by rw [z]; exact ha))]
    exact h5
section
variable {X : Cx} {x : Xc} {M : List Nat}
theorem gs_town {i : Nat} {n : Str} {p p2 apos cpos pos : Pos} {j : Nat} (hN : X.N[i]? = some n := by rfl) (hm : i ∉ M := by decide) (hv : Vis X.env.scope n := by first | exact Or.inl rfl | exact Or.inr (Or.inl rfl) | exact Or.inr (Or.inr rfl))
    (hd : (n == ("__debug__" : Str)) = false := by decide) (hcd : (n == ("__classdict__" : Str)) = false := by decide)
    (hbase : attributeBase (.Name n p) "append" X.env (eval (.Name n p) X.env) = eval (.Name n p) X.env := by rfl)
    (hfew : ((backTo cpos (starEach [.Constant (.int 0) j p2] X.env)).all (fun x => !x.1) && (backToKw cpos (keywordEach [] X.env)).all (fun x => x.1.isSome)
      && decide (([Expr.Constant (.int 0) j p2]).length + ([] : List Keyword).length + (if ([] : List Keyword).isEmpty then 0 else 1) < 30)) = true := by rfl)
    (hline : (apos.endLine == cpos.line) = true := by rfl) (hs : starEach [.Constant (.int 0) j p2] X.env = (false, eval (.Constant (.int 0) j p2) X.env) :: starEach [] X.env := by rfl) (hplain : (backTo cpos (starEach [] X.env)).any (·.1) = false := by rfl)
    (hsw : swapsWith (.Call (.Attribute (.Name n p) "append" apos) [.Constant (.int 0) j p2] [] cpos) none pos.line X.env = pure false := by rfl) :
    GS X x M M (.Expr (.Call (.Attribute (.Name n p) "append" apos) [.Constant (.int 0) j p2] [] cpos) pos) (sTown i) := by
  refine PS.weak (ps_expr (pe_bm PySem.F.plainAttrs_list PySem.F.slot_list_append PySem.F.type_list_append mt_append (pe_var hN hv hd hcd) (pa_cons pe_int pa_nil hs) hbase hfew hline hs hplain) hsw) ?_
  rintro D σ H ⟨B, ρ, S, I, hot, R, h⟩
  unfold sTown at h
  split at h
  · rename_i k ek
    split at h
    · rename_i m em
      split at h
      · rename_i hl
        obtain ⟨v, e1, r1⟩ := R.val i _ ek hm
        cases r1 with
        | @hot a _ ha =>
          have hH : H a = some (.lst (List.replicate m (.int 0))) := R.wd.at_ k a _ ha em
          refine ⟨.ref a, e1, .inl ⟨rfl, _, SqL.of hH⟩, a, _, .int 0, rfl, rfl, hH, by rw [List.length_replicate]; exact hl, ?_⟩
          rw [← List.replicate_succ']
          exact h σ _ I (Ext.refl _) (R.townUp ha)
      · exact h.elim
    · exact h.elim
  · exact h.elim
end
end G
/-! A dict against what is no dict: == is False, != is True (printed by genGQ.py). -/
namespace G
open PySem L2
open PySem.MeetsSeq
section
variable {nm : Str}
theorem none_eq_d (l : Addr) : Gives (Builtin.«NoneType.__eq__» ⟨[.none, .ref l], []⟩) (.val (Value.notImplemented)) :=
  .of_wp fun M A E s Q h => by obtain ⟨hp, g, d, tk, os⟩ := s; wp_walk; exact ⟨_, rfl, h⟩
theorem bool_eq_d (b : Bool) (l : Addr) (es : Array DictEntry) (ep : Nat) (dd : Option Addr) (sl : Array (Option Value)) :
    Meets (Builtin.«int.__eq__» ⟨[(.bool b), .ref l], []⟩) (fun _ R s => s.heap.get? l = some { cls := .type "dict", dict := dd, data := .dict es ep, slots := sl } ∧ R (.ok (.ret .notImplemented)) s) :=
  .of_wp fun prog w A R s h => by obtain ⟨hp, g, d, tk, os⟩ := s; obtain ⟨hl, h⟩ := h; wp_walk using AutoSeq1.wpAny_loadPart' hl, wpAny_load hl; exact ⟨_, rfl, h⟩
theorem int_eq_d (b : Int) (u : Tok) (l : Addr) (es : Array DictEntry) (ep : Nat) (dd : Option Addr) (sl : Array (Option Value)) :
    Meets (Builtin.«int.__eq__» ⟨[(.int b u), .ref l], []⟩) (fun _ R s => s.heap.get? l = some { cls := .type "dict", dict := dd, data := .dict es ep, slots := sl } ∧ R (.ok (.ret .notImplemented)) s) :=
  .of_wp fun prog w A R s h => by obtain ⟨hp, g, d, tk, os⟩ := s; obtain ⟨hl, h⟩ := h; wp_walk using AutoSeq1.wpAny_loadPart' hl, wpAny_load hl; exact ⟨_, rfl, h⟩
theorem str_eq_d (b : Str) (u : Tok) (l : Addr) (es : Array DictEntry) (ep : Nat) (dd : Option Addr) (sl : Array (Option Value)) :
    Meets (Builtin.«str.__eq__» ⟨[(.str b u), .ref l], []⟩) (fun _ R s => s.heap.get? l = some { cls := .type "dict", dict := dd, data := .dict es ep, slots := sl } ∧ R (.ok (.ret .notImplemented)) s) :=
  .of_wp fun prog w A R s h => by obtain ⟨hp, g, d, tk, os⟩ := s; obtain ⟨hl, h⟩ := h; wp_walk using AutoSeq1.wpAny_loadPart' hl, wpAny_load hl; exact ⟨_, rfl, h⟩
theorem list_eq_d (l b : Addr) (its : Array Value) (n : Nat) (d2 : Option Addr) (s2 : Array (Option Value)) (es : Array DictEntry) (ep : Nat) (dd : Option Addr) (sl : Array (Option Value)) :
    Meets (Builtin.«list.__eq__» ⟨[.ref l, .ref b], []⟩) (fun _ R s => s.heap.get? l = some { cls := .type "list", dict := d2, data := .seq its n, slots := s2 } ∧ s.heap.get? b = some { cls := .type "dict", dict := dd, data := .dict es ep, slots := sl } ∧ R (.ok (.ret .notImplemented)) s) :=
  .of_wp fun prog w A R s h => by obtain ⟨hp, g, d, tk, os⟩ := s; obtain ⟨hl, hb, h⟩ := h; have f1 := F.sub_dict_list; wp_walk using AutoSeq1.wpAny_loadPart' hl, AutoSeq1.wpAny_loadPart' hb; exact ⟨_, rfl, h⟩
theorem tuple_eq_d (l b : Addr) (its : Array Value) (n : Nat) (d2 : Option Addr) (s2 : Array (Option Value)) (es : Array DictEntry) (ep : Nat) (dd : Option Addr) (sl : Array (Option Value)) :
    Meets (Builtin.«tuple.__eq__» ⟨[.ref l, .ref b], []⟩) (fun _ R s => s.heap.get? l = some { cls := .type "tuple", dict := d2, data := .seq its n, slots := s2 } ∧ s.heap.get? b = some { cls := .type "dict", dict := dd, data := .dict es ep, slots := sl } ∧ R (.ok (.ret .notImplemented)) s) :=
  .of_wp fun prog w A R s h => by obtain ⟨hp, g, d, tk, os⟩ := s; obtain ⟨hl, hb, h⟩ := h; have f1 := F.sub_dict_tuple; wp_walk using AutoSeq1.wpAny_loadPart' hl, AutoSeq1.wpAny_loadPart' hb; exact ⟨_, rfl, h⟩
theorem d_eq_other {prog : Program} {w : World} {A : Around} {E : Value → Shared → Prop} {s : Shared} {a : Addr} {v : Value} {T : String} {Q : Value → Shared → Prop} (ha : s.TypeIs (.ref a) "dict") (hv : s.TypeIs v T) (hs : isSubtype (.type T) (.type "dict") = pure false) (h : Q .notImplemented s)
    (sl : Slot "dict" nm "dict.__eq__") : wpAny (model prog w) A (call (.builtin "dict.__eq__") [.ref a, v]) Q E s := by
  refine wpAny_call_entry sl ha F.entry_dict_eq ?_ (F.args_dict_eq_2 _ _)
  show wpAny _ _ (Builtin.Dict.dictSlotArgs "__eq__" ⟨[.ref a, v], []⟩ >>= _) _ _ s
  refine wpAny_bind ?_
  unfold Builtin.Dict.dictSlotArgs
  refine wpAny_bind (wpAny_notOrdered_dict ha ?_)
  show wpAny _ _ (pure (Value.ref a, v)) _ _ s
  refine wpAny_pure (wpAny_bind (wpAny_isInstance hv hs ?_))
  first | exact wpAny_bind (wpAny_pure (wpAny_pure ⟨_, rfl, h⟩)) | exact wpAny_pure ⟨_, rfl, h⟩ | exact wpAny_bind (wpAny_rule (wpAny_pure ⟨_, rfl, h⟩)) | exact wpAny_bind (wpAny_pure ⟨_, rfl, h⟩)
theorem rceq_d_none {A : Around} {s : Shared} {a : Addr} {o : Obj} {es : Array DictEntry} {ep : Nat}  (ho : s.heap.get? a = some o) (hx : o.ExactDict) (hd : o.data = .dict es ep) (hu : A.units < cLine) : SeqAt.RcAt A s (.ref a) .none false := fun prog w E Q h => by
  obtain ⟨cls, dd, data, sl⟩ := o; obtain ⟨h1, h2, h3⟩ := hx; simp only at h1 h2 h3 hd; subst h1 h2 h3 hd
  exact SeqAt.rc_eq_decline_or (k := false) ⟨_, ho, rfl⟩ rfl (by decide) F.sub_NoneType_dict F.slot_dict_eq F.slot_NoneType_eq_refl
    (fun _ hq => d_eq_other ⟨_, ho, rfl⟩ rfl F.sub_NoneType_dict hq F.slot_dict_eq) (fun _ hq => call_gives F.slot_NoneType_eq_refl rfl F.entry_NoneType_eq (F.args_NoneType_eq_2 _ _) (none_eq_d a) hq)
    (fun _ hq => wpAny_of_eq (rfl : isSame (.ref a) .none = pure false) hq) (.inr hu) h
theorem rceq_none_d {A : Around} {s : Shared} {a : Addr} {o : Obj} {es : Array DictEntry} {ep : Nat}  (ho : s.heap.get? a = some o) (hx : o.ExactDict) (hd : o.data = .dict es ep) (hu : A.units < cLine) : SeqAt.RcAt A s .none (.ref a) false := fun prog w E Q h => by
  obtain ⟨cls, dd, data, sl⟩ := o; obtain ⟨h1, h2, h3⟩ := hx; simp only at h1 h2 h3 hd; subst h1 h2 h3 hd
  exact SeqAt.rc_eq_decline_or (k := false) rfl ⟨_, ho, rfl⟩ (by decide) F.sub_dict_NoneType F.slot_NoneType_eq F.slot_dict_eq_refl
    (fun _ hq => call_gives F.slot_NoneType_eq rfl F.entry_NoneType_eq (F.args_NoneType_eq_2 _ _) (none_eq_d a) hq) (fun _ hq => d_eq_other ⟨_, ho, rfl⟩ rfl F.sub_NoneType_dict hq F.slot_dict_eq_refl)
    (fun _ hq => wpAny_of_eq (rfl : isSame .none (.ref a) = pure false) hq) (.inr hu) h
theorem rceq_d_bool {A : Around} {s : Shared} {a : Addr} {o : Obj} {es : Array DictEntry} {ep : Nat} (b : Bool) (ho : s.heap.get? a = some o) (hx : o.ExactDict) (hd : o.data = .dict es ep) (hu : A.units < cLine) : SeqAt.RcAt A s (.ref a) (.bool b) false := fun prog w E Q h => by
  obtain ⟨cls, dd, data, sl⟩ := o; obtain ⟨h1, h2, h3⟩ := hx; simp only at h1 h2 h3 hd; subst h1 h2 h3 hd
  exact SeqAt.rc_eq_decline_or (k := false) ⟨_, ho, rfl⟩ rfl (by decide) F.sub_bool_dict F.slot_dict_eq F.slot_bool_eq_refl
    (fun _ hq => d_eq_other ⟨_, ho, rfl⟩ rfl F.sub_bool_dict hq F.slot_dict_eq) (fun _ hq => call_meets F.slot_bool_eq_refl rfl F.entry_int_eq (F.args_int_eq_2 _ _) (bool_eq_d b a es ep _ _) ⟨ho, hq⟩)
    (fun _ hq => wpAny_of_eq (rfl : isSame (.ref a) (.bool b) = pure false) hq) (.inr hu) h
theorem rceq_bool_d {A : Around} {s : Shared} {a : Addr} {o : Obj} {es : Array DictEntry} {ep : Nat} (b : Bool) (ho : s.heap.get? a = some o) (hx : o.ExactDict) (hd : o.data = .dict es ep) (hu : A.units < cLine) : SeqAt.RcAt A s (.bool b) (.ref a) false := fun prog w E Q h => by
  obtain ⟨cls, dd, data, sl⟩ := o; obtain ⟨h1, h2, h3⟩ := hx; simp only at h1 h2 h3 hd; subst h1 h2 h3 hd
  exact SeqAt.rc_eq_decline_or (k := false) rfl ⟨_, ho, rfl⟩ (by decide) F.sub_dict_bool F.slot_bool_eq F.slot_dict_eq_refl
    (fun _ hq => call_meets F.slot_bool_eq rfl F.entry_int_eq (F.args_int_eq_2 _ _) (bool_eq_d b a es ep _ _) ⟨ho, hq⟩) (fun _ hq => d_eq_other ⟨_, ho, rfl⟩ rfl F.sub_bool_dict hq F.slot_dict_eq_refl)
    (fun _ hq => wpAny_of_eq (rfl : isSame (.bool b) (.ref a) = pure false) hq) (.inr hu) h
theorem rceq_d_int {A : Around} {s : Shared} {a : Addr} {o : Obj} {es : Array DictEntry} {ep : Nat} (b : Int) (u : Tok) (ho : s.heap.get? a = some o) (hx : o.ExactDict) (hd : o.data = .dict es ep) (hu : A.units < cLine) : SeqAt.RcAt A s (.ref a) (.int b u) false := fun prog w E Q h => by
  obtain ⟨cls, dd, data, sl⟩ := o; obtain ⟨h1, h2, h3⟩ := hx; simp only at h1 h2 h3 hd; subst h1 h2 h3 hd
  exact SeqAt.rc_eq_decline_or (k := false) ⟨_, ho, rfl⟩ (typeIs_int s b u) (by decide) F.sub_int_dict F.slot_dict_eq F.slot_int_eq_refl
    (fun _ hq => d_eq_other ⟨_, ho, rfl⟩ (typeIs_int s b u) F.sub_int_dict hq F.slot_dict_eq) (fun _ hq => call_meets F.slot_int_eq_refl (typeIs_int s b u) F.entry_int_eq (F.args_int_eq_2 _ _) (int_eq_d b u a es ep _ _) ⟨ho, hq⟩)
    (fun _ hq => wpAny_of_eq (rfl : isSame (.ref a) (.int b u) = pure false) hq) (.inr hu) h
theorem rceq_int_d {A : Around} {s : Shared} {a : Addr} {o : Obj} {es : Array DictEntry} {ep : Nat} (b : Int) (u : Tok) (ho : s.heap.get? a = some o) (hx : o.ExactDict) (hd : o.data = .dict es ep) (hu : A.units < cLine) : SeqAt.RcAt A s (.int b u) (.ref a) false := fun prog w E Q h => by
  obtain ⟨cls, dd, data, sl⟩ := o; obtain ⟨h1, h2, h3⟩ := hx; simp only at h1 h2 h3 hd; subst h1 h2 h3 hd
  exact SeqAt.rc_eq_decline_or (k := false) (typeIs_int s b u) ⟨_, ho, rfl⟩ (by decide) F.sub_dict_int F.slot_int_eq F.slot_dict_eq_refl
    (fun _ hq => call_meets F.slot_int_eq (typeIs_int s b u) F.entry_int_eq (F.args_int_eq_2 _ _) (int_eq_d b u a es ep _ _) ⟨ho, hq⟩) (fun _ hq => d_eq_other ⟨_, ho, rfl⟩ (typeIs_int s b u) F.sub_int_dict hq F.slot_dict_eq_refl)
    (fun _ hq => wpAny_of_eq (rfl : isSame (.int b u) (.ref a) = pure false) hq) (.inr hu) h
theorem rceq_d_str {A : Around} {s : Shared} {a : Addr} {o : Obj} {es : Array DictEntry} {ep : Nat} (b : Str) (u : Tok) (ho : s.heap.get? a = some o) (hx : o.ExactDict) (hd : o.data = .dict es ep) (hu : A.units < cLine) : SeqAt.RcAt A s (.ref a) (.str b u) false := fun prog w E Q h => by
  obtain ⟨cls, dd, data, sl⟩ := o; obtain ⟨h1, h2, h3⟩ := hx; simp only at h1 h2 h3 hd; subst h1 h2 h3 hd
  exact SeqAt.rc_eq_decline_or (k := false) ⟨_, ho, rfl⟩ (typeIs_str s b u) (by decide) F.sub_str_dict F.slot_dict_eq F.slot_str_eq_refl
    (fun _ hq => d_eq_other ⟨_, ho, rfl⟩ (typeIs_str s b u) F.sub_str_dict hq F.slot_dict_eq) (fun _ hq => call_meets F.slot_str_eq_refl (typeIs_str s b u) F.entry_str_eq (F.args_str_eq_2 _ _) (str_eq_d b u a es ep _ _) ⟨ho, hq⟩)
    (fun _ hq => wpAny_of_eq (rfl : isSame (.ref a) (.str b u) = pure false) hq) (.inr hu) h
theorem rceq_str_d {A : Around} {s : Shared} {a : Addr} {o : Obj} {es : Array DictEntry} {ep : Nat} (b : Str) (u : Tok) (ho : s.heap.get? a = some o) (hx : o.ExactDict) (hd : o.data = .dict es ep) (hu : A.units < cLine) : SeqAt.RcAt A s (.str b u) (.ref a) false := fun prog w E Q h => by
  obtain ⟨cls, dd, data, sl⟩ := o; obtain ⟨h1, h2, h3⟩ := hx; simp only at h1 h2 h3 hd; subst h1 h2 h3 hd
  exact SeqAt.rc_eq_decline_or (k := false) (typeIs_str s b u) ⟨_, ho, rfl⟩ (by decide) F.sub_dict_str F.slot_str_eq F.slot_dict_eq_refl
    (fun _ hq => call_meets F.slot_str_eq (typeIs_str s b u) F.entry_str_eq (F.args_str_eq_2 _ _) (str_eq_d b u a es ep _ _) ⟨ho, hq⟩) (fun _ hq => d_eq_other ⟨_, ho, rfl⟩ (typeIs_str s b u) F.sub_str_dict hq F.slot_dict_eq_refl)
    (fun _ hq => wpAny_of_eq (rfl : isSame (.str b u) (.ref a) = pure false) hq) (.inr hu) h
theorem rceq_d_list {A : Around} {s : Shared} {a b : Addr} {o : Obj} {es : Array DictEntry} {ep : Nat} {its : Array Value} (ho : s.heap.get? a = some o) (hx : o.ExactDict) (hd : o.data = .dict es ep) (hl : s.heap.IsList b its) (hu : A.units < cLine) : SeqAt.RcAt A s (.ref a) (.ref b) false := fun prog w E Q h => by
  obtain ⟨cls, dd, data, sl⟩ := o; obtain ⟨h1, h2, h3⟩ := hx; simp only at h1 h2 h3 hd; subst h1 h2 h3 hd
  obtain ⟨⟨cls2, d2, data2, s2⟩, ho2, hc2, n2, hd2⟩ := id hl; simp only at hc2 hd2; subst hc2 hd2
  have hne : a ≠ b := fun e => by subst e; rw [ho] at ho2; injection ho2 with e; injection e with e1; injection e1 with e2; exact absurd e2 (by decide)
  exact SeqAt.rc_eq_decline_or (k := false) ⟨_, ho, rfl⟩ ⟨_, ho2, rfl⟩ (by decide) F.sub_list_dict F.slot_dict_eq F.slot_list_eq_refl
    (fun _ hq => d_eq_other ⟨_, ho, rfl⟩ ⟨_, ho2, rfl⟩ F.sub_list_dict hq F.slot_dict_eq) (fun _ hq => call_meets F.slot_list_eq_refl ⟨_, ho2, rfl⟩ F.entry_list_eq (F.args_list_eq_2 _ _) (list_eq_d b a its n2 _ _ es ep _ _) ⟨ho2, ho, hq⟩)
    (fun _ hq => wpAny_isSame_ref_other hne ho ho2 (by simp) hq) (.inr hu) h
theorem rceq_list_d {A : Around} {s : Shared} {a b : Addr} {o : Obj} {es : Array DictEntry} {ep : Nat} {its : Array Value} (ho : s.heap.get? a = some o) (hx : o.ExactDict) (hd : o.data = .dict es ep) (hl : s.heap.IsList b its) (hu : A.units < cLine) : SeqAt.RcAt A s (.ref b) (.ref a) false := fun prog w E Q h => by
  obtain ⟨cls, dd, data, sl⟩ := o; obtain ⟨h1, h2, h3⟩ := hx; simp only at h1 h2 h3 hd; subst h1 h2 h3 hd
  obtain ⟨⟨cls2, d2, data2, s2⟩, ho2, hc2, n2, hd2⟩ := id hl; simp only at hc2 hd2; subst hc2 hd2
  have hne : a ≠ b := fun e => by subst e; rw [ho] at ho2; injection ho2 with e; injection e with e1; injection e1 with e2; exact absurd e2 (by decide)
  exact SeqAt.rc_eq_decline_or (k := false) ⟨_, ho2, rfl⟩ ⟨_, ho, rfl⟩ (by decide) F.sub_dict_list F.slot_list_eq F.slot_dict_eq_refl
    (fun _ hq => call_meets F.slot_list_eq ⟨_, ho2, rfl⟩ F.entry_list_eq (F.args_list_eq_2 _ _) (list_eq_d b a its n2 _ _ es ep _ _) ⟨ho2, ho, hq⟩) (fun _ hq => d_eq_other ⟨_, ho, rfl⟩ ⟨_, ho2, rfl⟩ F.sub_list_dict hq F.slot_dict_eq_refl)
    (fun _ hq => SeqAt.wpAny_isSame_ref_other' (Ne.symm hne) ho2 ho (by simp) hq) (.inr hu) h
theorem rceq_d_tuple {A : Around} {s : Shared} {a b : Addr} {o : Obj} {es : Array DictEntry} {ep : Nat} {its : Array Value} (ho : s.heap.get? a = some o) (hx : o.ExactDict) (hd : o.data = .dict es ep) (hl : s.heap.IsTuple b its) (hu : A.units < cLine) : SeqAt.RcAt A s (.ref a) (.ref b) false := fun prog w E Q h => by
  obtain ⟨cls, dd, data, sl⟩ := o; obtain ⟨h1, h2, h3⟩ := hx; simp only at h1 h2 h3 hd; subst h1 h2 h3 hd
  obtain ⟨⟨cls2, d2, data2, s2⟩, ho2, hc2, n2, hd2⟩ := id hl; simp only at hc2 hd2; subst hc2 hd2
  have hne : a ≠ b := fun e => by subst e; rw [ho] at ho2; injection ho2 with e; injection e with e1; injection e1 with e2; exact absurd e2 (by decide)
  exact SeqAt.rc_eq_decline_or (k := false) ⟨_, ho, rfl⟩ ⟨_, ho2, rfl⟩ (by decide) F.sub_tuple_dict F.slot_dict_eq F.slot_tuple_eq_refl
    (fun _ hq => d_eq_other ⟨_, ho, rfl⟩ ⟨_, ho2, rfl⟩ F.sub_tuple_dict hq F.slot_dict_eq) (fun _ hq => call_meets F.slot_tuple_eq_refl ⟨_, ho2, rfl⟩ F.entry_tuple_eq (F.args_tuple_eq_2 _ _) (tuple_eq_d b a its n2 _ _ es ep _ _) ⟨ho2, ho, hq⟩)
    (fun _ hq => wpAny_isSame_ref_other hne ho ho2 (by simp) hq) (.inr hu) h
theorem rceq_tuple_d {A : Around} {s : Shared} {a b : Addr} {o : Obj} {es : Array DictEntry} {ep : Nat} {its : Array Value} (ho : s.heap.get? a = some o) (hx : o.ExactDict) (hd : o.data = .dict es ep) (hl : s.heap.IsTuple b its) (hu : A.units < cLine) : SeqAt.RcAt A s (.ref b) (.ref a) false := fun prog w E Q h => by
  obtain ⟨cls, dd, data, sl⟩ := o; obtain ⟨h1, h2, h3⟩ := hx; simp only at h1 h2 h3 hd; subst h1 h2 h3 hd
  obtain ⟨⟨cls2, d2, data2, s2⟩, ho2, hc2, n2, hd2⟩ := id hl; simp only at hc2 hd2; subst hc2 hd2
  have hne : a ≠ b := fun e => by subst e; rw [ho] at ho2; injection ho2 with e; injection e with e1; injection e1 with e2; exact absurd e2 (by decide)
  exact SeqAt.rc_eq_decline_or (k := false) ⟨_, ho2, rfl⟩ ⟨_, ho, rfl⟩ (by decide) F.sub_dict_tuple F.slot_tuple_eq F.slot_dict_eq_refl
    (fun _ hq => call_meets F.slot_tuple_eq ⟨_, ho2, rfl⟩ F.entry_tuple_eq (F.args_tuple_eq_2 _ _) (tuple_eq_d b a its n2 _ _ es ep _ _) ⟨ho2, ho, hq⟩) (fun _ hq => d_eq_other ⟨_, ho, rfl⟩ ⟨_, ho2, rfl⟩ F.sub_tuple_dict hq F.slot_dict_eq_refl)
    (fun _ hq => SeqAt.wpAny_isSame_ref_other' (Ne.symm hne) ho2 ho (by simp) hq) (.inr hu) h
theorem none_ne_d (l : Addr) : Gives (Builtin.«NoneType.__ne__» ⟨[.none, .ref l], []⟩) (.val (Value.notImplemented)) :=
  .of_wp fun M A E s Q h => by obtain ⟨hp, g, d, tk, os⟩ := s; wp_walk; exact ⟨_, rfl, h⟩
theorem bool_ne_d (b : Bool) (l : Addr) (es : Array DictEntry) (ep : Nat) (dd : Option Addr) (sl : Array (Option Value)) :
    Meets (Builtin.«int.__ne__» ⟨[(.bool b), .ref l], []⟩) (fun _ R s => s.heap.get? l = some { cls := .type "dict", dict := dd, data := .dict es ep, slots := sl } ∧ R (.ok (.ret .notImplemented)) s) :=
  .of_wp fun prog w A R s h => by obtain ⟨hp, g, d, tk, os⟩ := s; obtain ⟨hl, h⟩ := h; wp_walk using AutoSeq1.wpAny_loadPart' hl, wpAny_load hl; exact ⟨_, rfl, h⟩
theorem int_ne_d (b : Int) (u : Tok) (l : Addr) (es : Array DictEntry) (ep : Nat) (dd : Option Addr) (sl : Array (Option Value)) :
    Meets (Builtin.«int.__ne__» ⟨[(.int b u), .ref l], []⟩) (fun _ R s => s.heap.get? l = some { cls := .type "dict", dict := dd, data := .dict es ep, slots := sl } ∧ R (.ok (.ret .notImplemented)) s) :=
  .of_wp fun prog w A R s h => by obtain ⟨hp, g, d, tk, os⟩ := s; obtain ⟨hl, h⟩ := h; wp_walk using AutoSeq1.wpAny_loadPart' hl, wpAny_load hl; exact ⟨_, rfl, h⟩
theorem str_ne_d (b : Str) (u : Tok) (l : Addr) (es : Array DictEntry) (ep : Nat) (dd : Option Addr) (sl : Array (Option Value)) :
    Meets (Builtin.«str.__ne__» ⟨[(.str b u), .ref l], []⟩) (fun _ R s => s.heap.get? l = some { cls := .type "dict", dict := dd, data := .dict es ep, slots := sl } ∧ R (.ok (.ret .notImplemented)) s) :=
  .of_wp fun prog w A R s h => by obtain ⟨hp, g, d, tk, os⟩ := s; obtain ⟨hl, h⟩ := h; wp_walk using AutoSeq1.wpAny_loadPart' hl, wpAny_load hl; exact ⟨_, rfl, h⟩
theorem list_ne_d (l b : Addr) (its : Array Value) (n : Nat) (d2 : Option Addr) (s2 : Array (Option Value)) (es : Array DictEntry) (ep : Nat) (dd : Option Addr) (sl : Array (Option Value)) :
    Meets (Builtin.«list.__ne__» ⟨[.ref l, .ref b], []⟩) (fun _ R s => s.heap.get? l = some { cls := .type "list", dict := d2, data := .seq its n, slots := s2 } ∧ s.heap.get? b = some { cls := .type "dict", dict := dd, data := .dict es ep, slots := sl } ∧ R (.ok (.ret .notImplemented)) s) :=
  .of_wp fun prog w A R s h => by obtain ⟨hp, g, d, tk, os⟩ := s; obtain ⟨hl, hb, h⟩ := h; have f1 := F.sub_dict_list; wp_walk using AutoSeq1.wpAny_loadPart' hl, AutoSeq1.wpAny_loadPart' hb; exact ⟨_, rfl, h⟩
theorem tuple_ne_d (l b : Addr) (its : Array Value) (n : Nat) (d2 : Option Addr) (s2 : Array (Option Value)) (es : Array DictEntry) (ep : Nat) (dd : Option Addr) (sl : Array (Option Value)) :
    Meets (Builtin.«tuple.__ne__» ⟨[.ref l, .ref b], []⟩) (fun _ R s => s.heap.get? l = some { cls := .type "tuple", dict := d2, data := .seq its n, slots := s2 } ∧ s.heap.get? b = some { cls := .type "dict", dict := dd, data := .dict es ep, slots := sl } ∧ R (.ok (.ret .notImplemented)) s) :=
  .of_wp fun prog w A R s h => by obtain ⟨hp, g, d, tk, os⟩ := s; obtain ⟨hl, hb, h⟩ := h; have f1 := F.sub_dict_tuple; wp_walk using AutoSeq1.wpAny_loadPart' hl, AutoSeq1.wpAny_loadPart' hb; exact ⟨_, rfl, h⟩
theorem d_ne_other {prog : Program} {w : World} {A : Around} {E : Value → Shared → Prop} {s : Shared} {a : Addr} {v : Value} {T : String} {Q : Value → Shared → Prop} (ha : s.TypeIs (.ref a) "dict") (hv : s.TypeIs v T) (hs : isSubtype (.type T) (.type "dict") = pure false) (h : Q .notImplemented s)
    (sl : Slot "dict" nm "dict.__ne__") : wpAny (model prog w) A (call (.builtin "dict.__ne__") [.ref a, v]) Q E s := by
  refine wpAny_call_entry sl ha F.entry_dict_ne ?_ (F.args_dict_ne_2 _ _)
  show wpAny _ _ (Builtin.Dict.dictSlotArgs "__ne__" ⟨[.ref a, v], []⟩ >>= _) _ _ s
  refine wpAny_bind ?_
  unfold Builtin.Dict.dictSlotArgs
  refine wpAny_bind (wpAny_notOrdered_dict ha ?_)
  show wpAny _ _ (pure (Value.ref a, v)) _ _ s
  refine wpAny_pure (wpAny_bind (wpAny_isInstance hv hs ?_))
  first | exact wpAny_bind (wpAny_pure (wpAny_pure ⟨_, rfl, h⟩)) | exact wpAny_pure ⟨_, rfl, h⟩ | exact wpAny_bind (wpAny_rule (wpAny_pure ⟨_, rfl, h⟩)) | exact wpAny_bind (wpAny_pure ⟨_, rfl, h⟩)
theorem rcne_d_none {A : Around} {s : Shared} {a : Addr} {o : Obj} {es : Array DictEntry} {ep : Nat}  (ho : s.heap.get? a = some o) (hx : o.ExactDict) (hd : o.data = .dict es ep) (hu : A.units < cLine) : SeqAt.RcNeAt A s (.ref a) .none true := fun prog w E Q h => by
  obtain ⟨cls, dd, data, sl⟩ := o; obtain ⟨h1, h2, h3⟩ := hx; simp only at h1 h2 h3 hd; subst h1 h2 h3 hd
  exact SeqAt.rc_ne_decline_or (k := false) ⟨_, ho, rfl⟩ rfl (by decide) F.sub_NoneType_dict F.slot_dict_ne F.slot_NoneType_ne_refl
    (fun _ hq => d_ne_other ⟨_, ho, rfl⟩ rfl F.sub_NoneType_dict hq F.slot_dict_ne) (fun _ hq => call_gives F.slot_NoneType_ne_refl rfl F.entry_NoneType_ne (F.args_NoneType_ne_2 _ _) (none_ne_d a) hq)
    (fun _ hq => wpAny_of_eq (rfl : isSame (.ref a) .none = pure false) hq) (.inr hu) h
theorem rcne_none_d {A : Around} {s : Shared} {a : Addr} {o : Obj} {es : Array DictEntry} {ep : Nat}  (ho : s.heap.get? a = some o) (hx : o.ExactDict) (hd : o.data = .dict es ep) (hu : A.units < cLine) : SeqAt.RcNeAt A s .none (.ref a) true := fun prog w E Q h => by
  obtain ⟨cls, dd, data, sl⟩ := o; obtain ⟨h1, h2, h3⟩ := hx; simp only at h1 h2 h3 hd; subst h1 h2 h3 hd
  exact SeqAt.rc_ne_decline_or (k := false) rfl ⟨_, ho, rfl⟩ (by decide) F.sub_dict_NoneType F.slot_NoneType_ne F.slot_dict_ne_refl
    (fun _ hq => call_gives F.slot_NoneType_ne rfl F.entry_NoneType_ne (F.args_NoneType_ne_2 _ _) (none_ne_d a) hq) (fun _ hq => d_ne_other ⟨_, ho, rfl⟩ rfl F.sub_NoneType_dict hq F.slot_dict_ne_refl)
    (fun _ hq => wpAny_of_eq (rfl : isSame .none (.ref a) = pure false) hq) (.inr hu) h
theorem rcne_d_bool {A : Around} {s : Shared} {a : Addr} {o : Obj} {es : Array DictEntry} {ep : Nat} (b : Bool) (ho : s.heap.get? a = some o) (hx : o.ExactDict) (hd : o.data = .dict es ep) (hu : A.units < cLine) : SeqAt.RcNeAt A s (.ref a) (.bool b) true := fun prog w E Q h => by
  obtain ⟨cls, dd, data, sl⟩ := o; obtain ⟨h1, h2, h3⟩ := hx; simp only at h1 h2 h3 hd; subst h1 h2 h3 hd
  exact SeqAt.rc_ne_decline_or (k := false) ⟨_, ho, rfl⟩ rfl (by decide) F.sub_bool_dict F.slot_dict_ne F.slot_bool_ne_refl
    (fun _ hq => d_ne_other ⟨_, ho, rfl⟩ rfl F.sub_bool_dict hq F.slot_dict_ne) (fun _ hq => call_meets F.slot_bool_ne_refl rfl F.entry_int_ne (F.args_int_ne_2 _ _) (bool_ne_d b a es ep _ _) ⟨ho, hq⟩)
    (fun _ hq => wpAny_of_eq (rfl : isSame (.ref a) (.bool b) = pure false) hq) (.inr hu) h
theorem rcne_bool_d {A : Around} {s : Shared} {a : Addr} {o : Obj} {es : Array DictEntry} {ep : Nat} (b : Bool) (ho : s.heap.get? a = some o) (hx : o.ExactDict) (hd : o.data = .dict es ep) (hu : A.units < cLine) : SeqAt.RcNeAt A s (.bool b) (.ref a) true := fun prog w E Q h => by
  obtain ⟨cls, dd, data, sl⟩ := o; obtain ⟨h1, h2, h3⟩ := hx; simp only at h1 h2 h3 hd; subst h1 h2 h3 hd
  exact SeqAt.rc_ne_decline_or (k := false) rfl ⟨_, ho, rfl⟩ (by decide) F.sub_dict_bool F.slot_bool_ne F.slot_dict_ne_refl
    (fun _ hq => call_meets F.slot_bool_ne rfl F.entry_int_ne (F.args_int_ne_2 _ _) (bool_ne_d b a es ep _ _) ⟨ho, hq⟩) (fun _ hq => d_ne_other ⟨_, ho, rfl⟩ rfl F.sub_bool_dict hq F.slot_dict_ne_refl)
    (fun _ hq => wpAny_of_eq (rfl : isSame (.bool b) (.ref a) = pure false) hq) (.inr hu) h
theorem rcne_d_int {A : Around} {s : Shared} {a : Addr} {o : Obj} {es : Array DictEntry} {ep : Nat} (b : Int) (u : Tok) (ho : s.heap.get? a = some o) (hx : o.ExactDict) (hd : o.data = .dict es ep) (hu : A.units < cLine) : SeqAt.RcNeAt A s (.ref a) (.int b u) true := fun prog w E Q h => by
  obtain ⟨cls, dd, data, sl⟩ := o; obtain ⟨h1, h2, h3⟩ := hx; simp only at h1 h2 h3 hd; subst h1 h2 h3 hd
  exact SeqAt.rc_ne_decline_or (k := false) ⟨_, ho, rfl⟩ (typeIs_int s b u) (by decide) F.sub_int_dict F.slot_dict_ne F.slot_int_ne_refl
    (fun _ hq => d_ne_other ⟨_, ho, rfl⟩ (typeIs_int s b u) F.sub_int_dict hq F.slot_dict_ne) (fun _ hq => call_meets F.slot_int_ne_refl (typeIs_int s b u) F.entry_int_ne (F.args_int_ne_2 _ _) (int_ne_d b u a es ep _ _) ⟨ho, hq⟩)
    (fun _ hq => wpAny_of_eq (rfl : isSame (.ref a) (.int b u) = pure false) hq) (.inr hu) h
theorem rcne_int_d {A : Around} {s : Shared} {a : Addr} {o : Obj} {es : Array DictEntry} {ep : Nat} (b : Int) (u : Tok) (ho : s.heap.get? a = some o) (hx : o.ExactDict) (hd : o.data = .dict es ep) (hu : A.units < cLine) : SeqAt.RcNeAt A s (.int b u) (.ref a) true := fun prog w E Q h => by
  obtain ⟨cls, dd, data, sl⟩ := o; obtain ⟨h1, h2, h3⟩ := hx; simp only at h1 h2 h3 hd; subst h1 h2 h3 hd
  exact SeqAt.rc_ne_decline_or (k := false) (typeIs_int s b u) ⟨_, ho, rfl⟩ (by decide) F.sub_dict_int F.slot_int_ne F.slot_dict_ne_refl
    (fun _ hq => call_meets F.slot_int_ne (typeIs_int s b u) F.entry_int_ne (F.args_int_ne_2 _ _) (int_ne_d b u a es ep _ _) ⟨ho, hq⟩) (fun _ hq => d_ne_other ⟨_, ho, rfl⟩ (typeIs_int s b u) F.sub_int_dict hq F.slot_dict_ne_refl)
    (fun _ hq => wpAny_of_eq (rfl : isSame (.int b u) (.ref a) = pure false) hq) (.inr hu) h
theorem rcne_d_str {A : Around} {s : Shared} {a : Addr} {o : Obj} {es : Array DictEntry} {ep : Nat} (b : Str) (u : Tok) (ho : s.heap.get? a = some o) (hx : o.ExactDict) (hd : o.data = .dict es ep) (hu : A.units < cLine) : SeqAt.RcNeAt A s (.ref a) (.str b u) true := fun prog w E Q h => by
  obtain ⟨cls, dd, data, sl⟩ := o; obtain ⟨h1, h2, h3⟩ := hx; simp only at h1 h2 h3 hd; subst h1 h2 h3 hd
  exact SeqAt.rc_ne_decline_or (k := false) ⟨_, ho, rfl⟩ (typeIs_str s b u) (by decide) F.sub_str_dict F.slot_dict_ne F.slot_str_ne_refl
    (fun _ hq => d_ne_other ⟨_, ho, rfl⟩ (typeIs_str s b u) F.sub_str_dict hq F.slot_dict_ne) (fun _ hq => call_meets F.slot_str_ne_refl (typeIs_str s b u) F.entry_str_ne (F.args_str_ne_2 _ _) (str_ne_d b u a es ep _ _) ⟨ho, hq⟩)
    (fun _ hq => wpAny_of_eq (rfl : isSame (.ref a) (.str b u) = pure false) hq) (.inr hu) h
theorem rcne_str_d {A : Around} {s : Shared} {a : Addr} {o : Obj} {es : Array DictEntry} {ep : Nat} (b : Str) (u : Tok) (ho : s.heap.get? a = some o) (hx : o.ExactDict) (hd : o.data = .dict es ep) (hu : A.units < cLine) : SeqAt.RcNeAt A s (.str b u) (.ref a) true := fun prog w E Q h => by
  obtain ⟨cls, dd, data, sl⟩ := o; obtain ⟨h1, h2, h3⟩ := hx; simp only at h1 h2 h3 hd; subst h1 h2 h3 hd
  exact SeqAt.rc_ne_decline_or (k := false) (typeIs_str s b u) ⟨_, ho, rfl⟩ (by decide) F.sub_dict_str F.slot_str_ne F.slot_dict_ne_refl
    (fun _ hq => call_meets F.slot_str_ne (typeIs_str s b u) F.entry_str_ne (F.args_str_ne_2 _ _) (str_ne_d b u a es ep _ _) ⟨ho, hq⟩) (fun _ hq => d_ne_other ⟨_, ho, rfl⟩ (typeIs_str s b u) F.sub_str_dict hq F.slot_dict_ne_refl)
    (fun _ hq => wpAny_of_eq (rfl : isSame (.str b u) (.ref a) = pure false) hq) (.inr hu) h
theorem rcne_d_list {A : Around} {s : Shared} {a b : Addr} {o : Obj} {es : Array DictEntry} {ep : Nat} {its : Array Value} (ho : s.heap.get? a = some o) (hx : o.ExactDict) (hd : o.data = .dict es ep) (hl : s.heap.IsList b its) (hu : A.units < cLine) : SeqAt.RcNeAt A s (.ref a) (.ref b) true := fun prog w E Q h => by
  obtain ⟨cls, dd, data, sl⟩ := o; obtain ⟨h1, h2, h3⟩ := hx; simp only at h1 h2 h3 hd; subst h1 h2 h3 hd
  obtain ⟨⟨cls2, d2, data2, s2⟩, ho2, hc2, n2, hd2⟩ := id hl; simp only at hc2 hd2; subst hc2 hd2
  have hne : a ≠ b := fun e => by subst e; rw [ho] at ho2; injection ho2 with e; injection e with e1; injection e1 with e2; exact absurd e2 (by decide)
  exact SeqAt.rc_ne_decline_or (k := false) ⟨_, ho, rfl⟩ ⟨_, ho2, rfl⟩ (by decide) F.sub_list_dict F.slot_dict_ne F.slot_list_ne_refl
    (fun _ hq => d_ne_other ⟨_, ho, rfl⟩ ⟨_, ho2, rfl⟩ F.sub_list_dict hq F.slot_dict_ne) (fun _ hq => call_meets F.slot_list_ne_refl ⟨_, ho2, rfl⟩ F.entry_list_ne (F.args_list_ne_2 _ _) (list_ne_d b a its n2 _ _ es ep _ _) ⟨ho2, ho, hq⟩)
    (fun _ hq => wpAny_isSame_ref_other hne ho ho2 (by simp) hq) (.inr hu) h
theorem rcne_list_d {A : Around} {s : Shared} {a b : Addr} {o : Obj} {es : Array DictEntry} {ep : Nat} {its : Array Value} (ho : s.heap.get? a = some o) (hx : o.ExactDict) (hd : o.data = .dict es ep) (hl : s.heap.IsList b its) (hu : A.units < cLine) : SeqAt.RcNeAt A s (.ref b) (.ref a) true := fun prog w E Q h => by
  obtain ⟨cls, dd, data, sl⟩ := o; obtain ⟨h1, h2, h3⟩ := hx; simp only at h1 h2 h3 hd; subst h1 h2 h3 hd
  obtain ⟨⟨cls2, d2, data2, s2⟩, ho2, hc2, n2, hd2⟩ := id hl; simp only at hc2 hd2; subst hc2 hd2
  have hne : a ≠ b := fun e => by subst e; rw [ho] at ho2; injection ho2 with e; injection e with e1; injection e1 with e2; exact absurd e2 (by decide)
  exact SeqAt.rc_ne_decline_or (k := false) ⟨_, ho2, rfl⟩ ⟨_, ho, rfl⟩ (by decide) F.sub_dict_list F.slot_list_ne F.slot_dict_ne_refl
    (fun _ hq => call_meets F.slot_list_ne ⟨_, ho2, rfl⟩ F.entry_list_ne (F.args_list_ne_2 _ _) (list_ne_d b a its n2 _ _ es ep _ _) ⟨ho2, ho, hq⟩) (fun _ hq => d_ne_other ⟨_, ho, rfl⟩ ⟨_, ho2, rfl⟩ F.sub_list_dict hq F.slot_dict_ne_refl)
    (fun _ hq => SeqAt.wpAny_isSame_ref_other' (Ne.symm hne) ho2 ho (by simp) hq) (.inr hu) h
theorem rcne_d_tuple {A : Around} {s : Shared} {a b : Addr} {o : Obj} {es : Array DictEntry} {ep : Nat} {its : Array Value} (ho : s.heap.get? a = some o) (hx : o.ExactDict) (hd : o.data = .dict es ep) (hl : s.heap.IsTuple b its) (hu : A.units < cLine) : SeqAt.RcNeAt A s (.ref a) (.ref b) true := fun prog w E Q h => by
  obtain ⟨cls, dd, data, sl⟩ := o; obtain ⟨h1, h2, h3⟩ := hx; simp only at h1 h2 h3 hd; subst h1 h2 h3 hd
  obtain ⟨⟨cls2, d2, data2, s2⟩, ho2, hc2, n2, hd2⟩ := id hl; simp only at hc2 hd2; subst hc2 hd2
  have hne : a ≠ b := fun e => by subst e; rw [ho] at ho2; injection ho2 with e; injection e with e1; injection e1 with e2; exact absurd e2 (by decide)
  exact SeqAt.rc_ne_decline_or (k := false) ⟨_, ho, rfl⟩ ⟨_, ho2, rfl⟩ (by decide) F.sub_tuple_dict F.slot_dict_ne F.slot_tuple_ne_refl
    (fun _ hq => d_ne_other ⟨_, ho, rfl⟩ ⟨_, ho2, rfl⟩ F.sub_tuple_dict hq F.slot_dict_ne) (fun _ hq => call_meets F.slot_tuple_ne_refl ⟨_, ho2, rfl⟩ F.entry_tuple_ne (F.args_tuple_ne_2 _ _) (tuple_ne_d b a its n2 _ _ es ep _ _) ⟨ho2, ho, hq⟩)
    (fun _ hq => wpAny_isSame_ref_other hne ho ho2 (by simp) hq) (.inr hu) h
theorem rcne_tuple_d {A : Around} {s : Shared} {a b : Addr} {o : Obj} {es : Array DictEntry} {ep : Nat} {its : Array Value} (ho : s.heap.get? a = some o) (hx : o.ExactDict) (hd : o.data = .dict es ep) (hl : s.heap.IsTuple b its) (hu : A.units < cLine) : SeqAt.RcNeAt A s (.ref b) (.ref a) true := fun prog w E Q h => by
  obtain ⟨cls, dd, data, sl⟩ := o; obtain ⟨h1, h2, h3⟩ := hx; simp only at h1 h2 h3 hd; subst h1 h2 h3 hd
  obtain ⟨⟨cls2, d2, data2, s2⟩, ho2, hc2, n2, hd2⟩ := id hl; simp only at hc2 hd2; subst hc2 hd2
  have hne : a ≠ b := fun e => by subst e; rw [ho] at ho2; injection ho2 with e; injection e with e1; injection e1 with e2; exact absurd e2 (by decide)
  exact SeqAt.rc_ne_decline_or (k := false) ⟨_, ho2, rfl⟩ ⟨_, ho, rfl⟩ (by decide) F.sub_dict_tuple F.slot_tuple_ne F.slot_dict_ne_refl
    (fun _ hq => call_meets F.slot_tuple_ne ⟨_, ho2, rfl⟩ F.entry_tuple_ne (F.args_tuple_ne_2 _ _) (tuple_ne_d b a its n2 _ _ es ep _ _) ⟨ho2, ho, hq⟩) (fun _ hq => d_ne_other ⟨_, ho, rfl⟩ ⟨_, ho2, rfl⟩ F.sub_tuple_dict hq F.slot_dict_ne_refl)
    (fun _ hq => SeqAt.wpAny_isSame_ref_other' (Ne.symm hne) ho2 ho (by simp) hq) (.inr hu) h
end
end G
/-! == and != of data with dicts whose keys are texts. -/
namespace G
open PySem L2
open PySem.SeqAt (EqAt RcAt RcNeAt)
open PySem.W (Frag)

/-! ### the plain functions -/
mutual
def eqvD : D → D → Bool
  | .lst xs, .lst ys => eqvL xs ys
  | .tup xs, .tup ys => eqvL xs ys
  | .dct xs, .dct ys => xs.length == ys.length && eqvK xs ys
  | .non, .non => true
  | .bl a, .bl b => a == b
  | .bl a, .int b => (if a then 1 else 0) == b
  | .int a, .bl b => a == (if b then 1 else 0)
  | .int a, .int b => a == b
  | .str a, .str b => a == b
  | _, _ => false
def eqvL : List D → List D → Bool
  | [], [] => true
  | x :: xs, y :: ys => eqvD x y && eqvL xs ys
  | _, _ => false
def eqvK : List (Key × D) → List (Key × D) → Bool
  | [], _ => true
  | (k, v) :: r, ys => (match lookK ys k with
    | some u => eqvD v u
    | none => false) && eqvK r ys
end
mutual
def depthD : D → Nat
  | .lst xs => depthL xs + 1
  | .tup xs => depthL xs + 1
  | .dct kvs => depthK kvs + 1
  | _ => 0
def depthL : List D → Nat
  | [] => 0
  | x :: xs => max (depthD x) (depthL xs)
def depthK : List (Key × D) → Nat
  | [] => 0
  | (_, v) :: r => max (depthD v) (depthK r)
end
/-! the keys of all dicts are texts -/
mutual
def strK : D → Bool
  | .lst xs => strKL xs
  | .tup xs => strKL xs
  | .dct kvs => strKK kvs
  | _ => true
def strKL : List D → Bool
  | [] => true
  | x :: xs => strK x && strKL xs
def strKK : List (Key × D) → Bool
  | [] => true
  | (k, v) :: r => k.isRight && strK v && strKK r
end
def eqD (a b : D) : Option Bool := if strK a = true ∧ strK b = true ∧ min (depthD a) (depthD b) ≤ 100 then some (eqvD a b) else match a, b with
  | .lst xs, .lst ys => if xs.length = ys.length then none else some false
  | .dct xs, .dct ys => if xs.length = ys.length then (if xs.isEmpty = true then some true else none) else some false
  | _, _ => none
def eqO (a b : D) : Option D := (eqD a b).map .bl
def neO (a b : D) : Option D := (eqD a b).map fun k => .bl (!k)

/-! ### what a value is in the heap -/
mutual
inductive Rds (h : Heap) : Value → D → Prop
  | non : Rds h .none .non
  | bl (b : Bool) : Rds h (.bool b) (.bl b)
  | int (i : Int) (t : Tok) : Rds h (.int i t) (.int i)
  | str (z : Str) (t : Tok) : Rds h (.str z t) (.str z)
  | lst {a : Addr} {its : Array Value} {ds : List D} : h.IsList a its → RdsL h its.toList ds → Rds h (.ref a) (.lst ds)
  | tup {a : Addr} {its : Array Value} {ds : List D} : h.IsTuple a its → RdsL h its.toList ds → Rds h (.ref a) (.tup ds)
  | dct {a : Addr} {o : Obj} {es : Array DictEntry} {ep : Nat} {kvs : List (Key × D)} : h.get? a = some o → o.ExactDict → o.data = .dict es ep → (a == sysModules) = false → (kvs.map (·.1)).Nodup → RdsK h es.toList kvs → Rds h (.ref a) (.dct kvs)
inductive RdsL (h : Heap) : List Value → List D → Prop
  | nil : RdsL h [] []
  | cons {v : Value} {vs : List Value} {d : D} {ds : List D} : Rds h v d → RdsL h vs ds → RdsL h (v :: vs) (d :: ds)
inductive RdsK (h : Heap) : List DictEntry → List (Key × D) → Prop
  | nil : RdsK h [] []
  | cons {e : DictEntry} {es : List DictEntry} {z : Str} {t : Tok} {d : D} {kvs : List (Key × D)} : e.key = .str z t → Rds h e.val d → RdsK h es kvs → RdsK h (e :: es) ((.inr z, d) :: kvs)
end
theorem RdsL.length {h : Heap} : ∀ {vs : List Value} {ds : List D}, RdsL h vs ds → vs.length = ds.length
  | _, _, .nil => rfl
  | _, _, .cons _ r => by simp [RdsL.length r]
theorem RdsK.length {h : Heap} : ∀ {vs : List DictEntry} {ds : List (Key × D)}, RdsK h vs ds → vs.length = ds.length
  | _, _, .nil => rfl
  | _, _, .cons _ _ r => by simp [RdsK.length r]
theorem RdsK.strs {h : Heap} : ∀ {es : List DictEntry} {ds : List (Key × D)}, RdsK h es ds → (es.all fun e => isExactStrKey e.key) = true
  | _, _, .nil => rfl
  | _, _, .cons hk _ r => by
    rw [List.all_cons, RdsK.strs r, hk]; rfl
mutual
theorem Rds.one {h : Heap} : ∀ {v : Value} {d e : D}, Rds h v d → Rds h v e → d = e
  | _, _, _, .non, q => by cases q; rfl
  | _, _, _, .bl b, q => by cases q; rfl
  | _, _, _, .int i t, q => by cases q; rfl
  | _, _, _, .str z t, q => by cases q; rfl
  | _, _, _, .lst (a := a) (its := its) h1 r, q => by
    obtain ⟨o, e1, c1, n1, d1⟩ := h1
    cases q with
    | lst h2 r2 =>
      obtain ⟨o2, e2, c2, n2, d2⟩ := h2
      rw [e1] at e2; cases e2
      rw [d1] at d2; cases d2
      rw [RdsL.one r r2]
    | tup h2 r2 =>
      obtain ⟨o2, e2, c2, n2, d2⟩ := h2
      rw [e1] at e2; cases e2
      exact absurd (c1.symm.trans c2) (by intro z; injection z with z; exact absurd z (by decide))
    | dct e2 hx d2 _ _ _ =>
      rw [e1] at e2; cases e2
      rw [d1] at d2; cases d2
  | _, _, _, .tup (a := a) (its := its) h1 r, q => by
    obtain ⟨o, e1, c1, n1, d1⟩ := h1
    cases q with
    | tup h2 r2 =>
      obtain ⟨o2, e2, c2, n2, d2⟩ := h2
      rw [e1] at e2; cases e2
      rw [d1] at d2; cases d2
      rw [RdsL.one r r2]
    | lst h2 r2 =>
      obtain ⟨o2, e2, c2, n2, d2⟩ := h2
      rw [e1] at e2; cases e2
      exact absurd (c1.symm.trans c2) (by intro z; injection z with z; exact absurd z (by decide))
    | dct e2 hx d2 _ _ _ =>
      rw [e1] at e2; cases e2
      rw [d1] at d2; cases d2
  | _, _, _, .dct e1 x1 d1 _ _ r, q => by
    cases q with
    | lst h2 r2 =>
      obtain ⟨o2, e2, c2, n2, d2⟩ := h2
      rw [e1] at e2; cases e2
      rw [d1] at d2; cases d2
    | tup h2 r2 =>
      obtain ⟨o2, e2, c2, n2, d2⟩ := h2
      rw [e1] at e2; cases e2
      rw [d1] at d2; cases d2
    | dct e2 hx d2 _ _ r2 =>
      rw [e1] at e2; cases e2
      rw [d1] at d2; cases d2
      rw [RdsK.one r r2]
theorem RdsL.one {h : Heap} : ∀ {v : List Value} {d e : List D}, RdsL h v d → RdsL h v e → d = e
  | _, _, _, .nil, q => by cases q; rfl
  | _, _, _, .cons h1 r, q => by
    cases q with
    | cons h2 r2 => rw [Rds.one h1 h2, RdsL.one r r2]
theorem RdsK.one {h : Heap} : ∀ {v : List DictEntry} {d e : List (Key × D)}, RdsK h v d → RdsK h v e → d = e
  | _, _, _, .nil, q => by cases q; rfl
  | _, _, _, .cons k1 h1 r, q => by
    cases q with
    | cons k2 h2 r2 =>
      rw [k1] at k2
      injection k2 with e1 e2
      rw [e1, Rds.one h1 h2, RdsK.one r r2]
end
theorem look_mem : ∀ {kvs : List (Key × D)} {k : Key} {v : D}, (kvs.map (·.1)).Nodup → (k, v) ∈ kvs → lookK kvs k = some v
  | [], _, _, _, h => by cases h
  | (k', v') :: r, k, v, nd, h => by
    rw [List.map_cons, List.nodup_cons] at nd
    rcases List.mem_cons.mp h with e | h
    · cases e; simp [lookK]
    · have ne : k' ≠ k := fun e => nd.1 (by rw [e]; exact List.mem_map.mpr ⟨_, h, rfl⟩)
      have := look_mem nd.2 h
      simp [lookK, ne] at this ⊢
      exact this
mutual
theorem eqvD_refl {h : Heap} : ∀ {v : Value} {d : D}, Rds h v d → eqvD d d = true
  | _, _, .non => by simp [eqvD]
  | _, _, .bl b => by simp [eqvD]
  | _, _, .int i t => by simp [eqvD]
  | _, _, .str z t => by simp [eqvD]
  | _, _, .lst _ r => by simp [eqvD, eqvL_refl r]
  | _, _, .tup _ r => by simp [eqvD, eqvL_refl r]
  | _, _, .dct _ _ _ _ nd r => by simp [eqvD, eqvK_refl r fun kv hk => look_mem nd hk]
theorem eqvL_refl {h : Heap} : ∀ {v : List Value} {d : List D}, RdsL h v d → eqvL d d = true
  | _, _, .nil => by simp [eqvL]
  | _, _, .cons h r => by simp [eqvL, eqvD_refl h, eqvL_refl r]
theorem eqvK_refl {h : Heap} {ys : List (Key × D)} : ∀ {v : List DictEntry} {d : List (Key × D)}, RdsK h v d → (∀ kv ∈ d, lookK ys kv.1 = some kv.2) → eqvK d ys = true
  | _, _, .nil, _ => by simp [eqvK]
  | _, _, .cons k h r, hl => by
    have e := hl _ (List.mem_cons_self ..)
    dsimp only at e
    simp [eqvK, e, eqvD_refl h, eqvK_refl r fun kv hk => hl kv (List.mem_cons_of_mem _ hk)]
end
end G
namespace G
open PySem L2
open PySem.SeqAt (EqAt RcAt RcNeAt)
open PySem.W (Frag)

/-- what the walk over the pairs of the one dict meets in the other -/
inductive Hits (A : Around) (s : Shared) (es' : Array DictEntry) : List DictEntry → Bool → Prop
  | nil : Hits A s es' [] true
  | miss {e : DictEntry} {z : Str} {t : Tok} {r : List DictEntry} : e.key = .str z t → (es'.findIdx? fun f => f.key.isStr z) = none → Hits A s es' (e :: r) false
  | hit {e : DictEntry} {z : Str} {t : Tok} {r : List DictEntry} {j : Nat} {k b : Bool} (hj : j < es'.size) : e.key = .str z t → (es'.findIdx? fun f => f.key.isStr z) = some j → EqAt A s e.val es'[j].val k → Hits A s es' r b → Hits A s es' (e :: r) (k && b)
section
variable {A : Around} {s : Shared} {a b : Addr} {oa ob : Obj} {es es' : Array DictEntry} {ep ep' : Nat} {r : Bool}
theorem pairs_S {prog : Program} {w : World} {E : Value → Shared → Prop} {nm : String} {Q : Bool → Shared → Prop} (ha : (a == sysModules) = false) (hb : (b == sysModules) = false) (hoa : s.heap.get? a = some oa) (hda : oa.data = .dict es ep) (hob : s.heap.get? b = some ob) (hdb : ob.data = .dict es' ep')
    (hS : (es'.all fun e => isExactStrKey e.key) = true) (hits : es.size = es'.size → Hits A s es' es.toList r) (h : Q (es.size == es'.size && r) s) : wpAny (model prog w) A (Builtin.Dict.samePairs nm a b) Q E s := by
  unfold Builtin.Dict.samePairs Builtin.Dict.showsAll
  rw [if_neg (by rw [ha]; exact Bool.false_ne_true), if_neg (by rw [hb]; exact Bool.false_ne_true)]
  refine wpAny_bind (wpAny_pure (wpAny_bind (wpAny_pure (wpAny_bind (wpAny_dictEntries hoa hda ?_)))))
  dsimp only
  refine wpAny_bind (wpAny_dictEntries hob hdb ?_)
  by_cases hsz : es.size = es'.size
  · have hq : Q r s := by simpa [hsz] using h
    have hh := hits hsz
    rw [if_neg (by rw [hsz]; simp)]
    refine wpAny_bind (wpAny_dictEpoch hoa hda (wpAny_bind ?_))
    rw [Std.Legacy.Range.forIn_eq_forIn_range']
    simp only [Std.Legacy.Range.size, Nat.sub_zero, Nat.add_sub_cancel, Nat.div_one]
    refine wpAny_forIn_list _ (fun rest q s' => s' = s ∧ q = (none, ()) ∧ ∃ i, rest = List.range' i (es.size - i) ∧ i ≤ es.size ∧ Hits A s es' (es.toList.drop i) r) _ ?_ ?_ _ _ ⟨rfl, rfl, 0, by simp, Nat.zero_le _, hh⟩
    · rintro x rest q s' ⟨rfl, rfl, i, hr, hi, hp⟩
      have hlt : i < es.size := by
        rcases Nat.lt_or_ge i es.size with z | z
        · exact z
        · rw [Nat.sub_eq_zero_of_le z] at hr; simp at hr
      rw [show es.size - i = (es.size - (i + 1)) + 1 by omega, List.range'_succ] at hr
      injection hr with hx hrest
      subst hx
      refine wpAny_bind (wpAny_dictEntries hoa hda ?_)
      rw [Array.getElem?_eq_getElem hlt]
      have hd : es.toList.drop x = es[x] :: es.toList.drop (x + 1) := by
        have := List.drop_eq_getElem_cons (l := es.toList) (i := x) (by simpa using hlt)
        simpa using this
      rw [hd] at hp
      show wpAny _ _ (holding [es[x].key, es[x].val] _ >>= _) _ _ _
      cases hp with
      | miss hk hn =>
        rw [hk]
        refine wpAny_bind (wpAny_holding (wpAny_bind (PyProof.Rows.KTD.kt_dictFind_strs hob hdb hS ?_)))
        rw [hn]
        refine wpAny_pure ?_
        show wpAny _ _ (if (!false) = true then _ else _) _ _ _
        rw [if_pos (by decide)]
        exact wpAny_pure (wpAny_pure hq)
      | @hit _ z t _ j k b' hj hk hf he hr' =>
        rw [hk]
        refine wpAny_bind (wpAny_holding (wpAny_bind (PyProof.Rows.KTD.kt_dictFind_strs hob hdb hS ?_)))
        rw [hf]
        refine wpAny_bind (wpAny_dictEntries hob hdb ?_)
        rw [Array.getElem?_eq_getElem hj]
        refine wpAny_holding (he prog w _ _ ?_)
        cases k with
        | false =>
          show wpAny _ _ (if (!false) = true then _ else _) _ _ _
          rw [if_pos (by decide)]
          exact wpAny_pure (wpAny_pure hq)
        | true =>
          show wpAny _ _ (if (!true) = true then _ else _) _ _ _
          rw [if_neg (by decide)]
          refine wpAny_bind (wpAny_dictEpoch hoa hda ?_)
          rw [if_neg (by simp)]
          exact wpAny_pure ⟨rfl, rfl, x + 1, hrest, hlt, by simpa using hr'⟩
    · rintro q s' ⟨rfl, rfl, i, hr, hi, hp⟩
      have hin : i = es.size := by
        rcases Nat.lt_or_ge i es.size with z | z
        · rw [show es.size - i = (es.size - (i + 1)) + 1 by omega, List.range'_succ] at hr; exact nomatch hr
        · omega
      refine wpAny_pure ?_
      have hdr : es.toList.drop i = [] := by rw [hin]; simp
      rw [hdr] at hp
      cases hp
      exact hq
  · rw [if_pos (by simpa using hsz)]
    have hbf : (es.size == es'.size) = false := by simpa using hsz
    rw [hbf, Bool.false_and] at h
    exact wpAny_bind (wpAny_rule (wpAny_pure h))
theorem rc_dicts (ha : (a == sysModules) = false) (hb : (b == sysModules) = false) (hoa : s.heap.get? a = some oa) (xa : oa.ExactDict) (hda : oa.data = .dict es ep) (hob : s.heap.get? b = some ob) (xb : ob.ExactDict) (hdb : ob.data = .dict es' ep')
    (hS : (es'.all fun e => isExactStrKey e.key) = true) (hu : A.units < cLine) (hits : es.size = es'.size → Hits A.in1 s es' es.toList r) : RcAt A s (.ref a) (.ref b) (es.size == es'.size && r) := fun prog w E Q h => by
  have ta : s.TypeIs (.ref a) "dict" := ⟨oa, hoa, xa.1⟩
  have tb : s.TypeIs (.ref b) "dict" := ⟨ob, hob, xb.1⟩
  refine wpAny_richCompare_same_room (op := .Eq) ta tb F.slot_dict_eq (wpAny_call_entry F.slot_dict_eq ta F.entry_dict_eq ?_ (F.args_dict_eq_2 _ _)) hu
  show wpAny _ _ (Builtin.Dict.dictSlotArgs "__eq__" ⟨[.ref a, .ref b], []⟩ >>= _) _ _ s
  refine wpAny_bind ?_
  unfold Builtin.Dict.dictSlotArgs
  refine wpAny_bind (wpAny_notOrdered_dict ta ?_)
  show wpAny _ _ (pure (Value.ref a, Value.ref b)) _ _ s
  refine wpAny_pure (wpAny_bind (wpAny_isInstance (T := "dict") tb F.sub_dict_dict ?_))
  simp only [Bool.not_true, Bool.false_eq_true, if_false]
  refine wpAny_bind (wpAny_pure (wpAny_bind (wpAny_pure (wpAny_bind (pairs_S ha hb hoa hda hob hdb hS hits ?_)))))
  exact wpAny_pure ⟨_, rfl, ⟨(fun x => nomatch x), by simpa using h⟩⟩
theorem rcne_dicts (ha : (a == sysModules) = false) (hb : (b == sysModules) = false) (hoa : s.heap.get? a = some oa) (xa : oa.ExactDict) (hda : oa.data = .dict es ep) (hob : s.heap.get? b = some ob) (xb : ob.ExactDict) (hdb : ob.data = .dict es' ep')
    (hS : (es'.all fun e => isExactStrKey e.key) = true) (hu : A.units < cLine) (hits : es.size = es'.size → Hits A.in1 s es' es.toList r) : RcNeAt A s (.ref a) (.ref b) (!(es.size == es'.size && r)) := fun prog w E Q h => by
  have ta : s.TypeIs (.ref a) "dict" := ⟨oa, hoa, xa.1⟩
  have tb : s.TypeIs (.ref b) "dict" := ⟨ob, hob, xb.1⟩
  refine wpAny_richCompare_same_room (op := .NotEq) ta tb F.slot_dict_ne (wpAny_call_entry F.slot_dict_ne ta F.entry_dict_ne ?_ (F.args_dict_ne_2 _ _)) hu
  show wpAny _ _ (Builtin.Dict.dictSlotArgs "__ne__" ⟨[.ref a, .ref b], []⟩ >>= _) _ _ s
  refine wpAny_bind ?_
  unfold Builtin.Dict.dictSlotArgs
  refine wpAny_bind (wpAny_notOrdered_dict ta ?_)
  show wpAny _ _ (pure (Value.ref a, Value.ref b)) _ _ s
  refine wpAny_pure (wpAny_bind (wpAny_isInstance (T := "dict") tb F.sub_dict_dict ?_))
  simp only [Bool.not_true, Bool.false_eq_true, if_false]
  refine wpAny_bind (wpAny_pure (wpAny_bind (wpAny_pure (wpAny_bind (pairs_S ha hb hoa hda hob hdb hS hits ?_)))))
  exact wpAny_pure ⟨_, rfl, ⟨(fun x => nomatch x), by simpa using h⟩⟩
end
end G
namespace G
open PySem L2
open PySem.SeqAt (EqAt RcAt RcNeAt)
open PySem.W (Frag)
theorem nref {l b : Addr} (h : l ≠ b) : ((Value.ref l) == (Value.ref b)) = false := by simpa using h
def pairQ (xs ys : List D) (j : Nat) : Bool := match xs[j]?, ys[j]? with
  | some x, some y => eqvD x y
  | _, _ => false
theorem eqvL_range : ∀ xs ys : List D, ((List.range (min xs.length ys.length)).all (pairQ xs ys) && xs.length == ys.length) = eqvL xs ys
  | [], [] => rfl
  | [], _ :: _ => by simp [eqvL]
  | _ :: _, [] => by simp [eqvL]
  | x :: xs, y :: ys => by
    have ih := eqvL_range xs ys
    simp only [List.length_cons, Nat.succ_min_succ, eqvL, ← ih]
    rw [List.range_succ_eq_map, List.all_cons, List.all_map]
    have e : (pairQ (x :: xs) (y :: ys) ∘ Nat.succ) = pairQ xs ys := by funext j; simp [pairQ]
    rw [e]
    simp [pairQ, Bool.and_assoc]
theorem eqvL_same {xs ys : List D} (h : xs.length = ys.length) : (List.range xs.length).all (pairQ xs ys) = eqvL xs ys := by
  have := eqvL_range xs ys
  rw [← h, Nat.min_self] at this
  simpa using this
theorem eqvL_other {xs ys : List D} (h : xs.length ≠ ys.length) : eqvL xs ys = false := by
  rw [← eqvL_range xs ys]; simp [h]
theorem depthK_mem : ∀ {kvs : List (Key × D)} {kv : Key × D}, kv ∈ kvs → depthD kv.2 ≤ depthK kvs
  | (k, v) :: r, kv, h => by
    rcases List.mem_cons.mp h with e | h
    · subst e; simp only [depthK]; omega
    · have := depthK_mem h
      simp only [depthK]; omega
theorem find_look {h : Heap} {z : Str} : ∀ {es : List DictEntry} {kvs : List (Key × D)}, RdsK h es kvs → (∀ d, lookK kvs (.inr z) = some d → ∃ (j : Nat) (hj : j < es.length), es.findIdx? (fun f => f.key.isStr z) = some j ∧ Rds h es[j].val d) ∧ (lookK kvs (.inr z) = none → es.findIdx? (fun f => f.key.isStr z) = none)
  | _, _, .nil => ⟨fun d e => by simp [lookK] at e, fun _ => rfl⟩
  | _, _, .cons (e := e) (es := es) (z := y) (t := t) (d := dv) (kvs := kvs) hk hv r => by
    obtain ⟨i1, i2⟩ := find_look (z := z) r
    have hb : e.key.isStr z = decide (y = z) := by rw [hk]; simp only [Value.isStr]; rw [Bool.eq_iff_iff]; simp
    by_cases c : y = z
    · subst c
      refine ⟨fun d q => ?_, fun q => by simp [lookK] at q⟩
      have ed : dv = d := by simpa [lookK] using q
      subst ed
      exact ⟨0, by simp, by rw [List.findIdx?_cons, hb]; simp, hv⟩
    · have e2 : lookK ((.inr y, dv) :: kvs) (.inr z) = lookK kvs (.inr z) := by simp [lookK, c]
      rw [e2]
      refine ⟨fun d q => ?_, fun q => ?_⟩
      · obtain ⟨j, hj, f1, f2⟩ := i1 d q
        exact ⟨j + 1, by simpa using hj, by rw [List.findIdx?_cons, hb]; simp [c, f1], by simpa using f2⟩
      · rw [List.findIdx?_cons, hb]; simp [c, i2 q]

theorem ne_cls {s : Shared} {a b : Addr} {o : Obj} {its : Array Value} (h1 : s.heap.get? a = some o) (h2 : o.cls = .type "dict") (h3 : s.heap.IsList b its ∨ s.heap.IsTuple b its) : a ≠ b := fun e => by
  subst e
  rcases h3 with ⟨o2, e2, c2, _⟩ | ⟨o2, e2, c2, _⟩
  all_goals
    rw [h1] at e2; cases e2
    rw [h2] at c2
    injection c2 with z
    exact absurd z (by decide)
mutual
theorem eqAtD : ∀ (d e : D) (A : Around) (s : Shared) (a b : Value), Rds s.heap a d → Rds s.heap b e → A.units + min (depthD d) (depthD e) < cLine → EqAt A s a b (eqvD d e)
  | .non, e, A, s, _, _, ra, rb, hu => by
    have hu0 : A.units < cLine := by omega
    cases ra with
    | non =>
      cases rb with
      | non => simp only [eqvD]; exact EqAt.same _
      | bl b2 => simp only [eqvD]; exact EqAt.none_bool b2
      | int i2 t2 => simp only [eqvD]; exact EqAt.none_int i2 t2
      | str z2 t2 => simp only [eqvD]; exact EqAt.none_str z2 t2
      | lst h2 r2 => simp only [eqvD]; exact EqAt.none_list h2 hu0
      | tup h2 r2 => simp only [eqvD]; exact EqAt.none_tuple h2 hu0
      | dct o2 x2 d2 s2 n2 r2 => simp only [eqvD]; exact fun prog w E Q q => by unfold eqBool; refine wpAny_holding (wpAny_ite_split (fun e => absurd (eq_of_beq e) nofun) fun _ => ?_); exact wpAny_bind ((rceq_none_d o2 x2 d2 hu0) prog w E _ (wpAny_truthy_bool q))
  | .bl b1, e, A, s, _, _, ra, rb, hu => by
    have hu0 : A.units < cLine := by omega
    cases ra with
    | bl _ =>
      cases rb with
      | non => simp only [eqvD]; exact EqAt.bool_none b1
      | bl b2 => simp only [eqvD]; exact EqAt.bool_bool b1 b2
      | int i2 t2 => simp only [eqvD]; exact EqAt.bool_int b1 i2 t2
      | str z2 t2 => simp only [eqvD]; exact EqAt.bool_str b1 z2 t2
      | lst h2 r2 => simp only [eqvD]; exact EqAt.bool_list b1 h2 hu0
      | tup h2 r2 => simp only [eqvD]; exact EqAt.bool_tuple b1 h2 hu0
      | dct o2 x2 d2 s2 n2 r2 => simp only [eqvD]; exact fun prog w E Q q => by unfold eqBool; refine wpAny_holding (wpAny_ite_split (fun e => absurd (eq_of_beq e) nofun) fun _ => ?_); exact wpAny_bind ((rceq_bool_d b1 o2 x2 d2 hu0) prog w E _ (wpAny_truthy_bool q))
  | .int i1, e, A, s, _, _, ra, rb, hu => by
    have hu0 : A.units < cLine := by omega
    cases ra with
    | int _ t1 =>
      cases rb with
      | non => simp only [eqvD]; exact EqAt.int_none i1 t1
      | bl b2 => simp only [eqvD]; exact EqAt.int_bool i1 t1 b2
      | int i2 t2 => simp only [eqvD]; exact EqAt.int_int i1 t1 i2 t2
      | str z2 t2 => simp only [eqvD]; exact EqAt.int_str i1 t1 z2 t2
      | lst h2 r2 => simp only [eqvD]; exact EqAt.int_list i1 t1 h2 hu0
      | tup h2 r2 => simp only [eqvD]; exact EqAt.int_tuple i1 t1 h2 hu0
      | dct o2 x2 d2 s2 n2 r2 => simp only [eqvD]; exact fun prog w E Q q => by unfold eqBool; refine wpAny_holding (wpAny_ite_split (fun e => absurd (eq_of_beq e) nofun) fun _ => ?_); exact wpAny_bind ((rceq_int_d i1 t1 o2 x2 d2 hu0) prog w E _ (wpAny_truthy_bool q))
  | .str z1, e, A, s, _, _, ra, rb, hu => by
    have hu0 : A.units < cLine := by omega
    cases ra with
    | str _ t1 =>
      cases rb with
      | non => simp only [eqvD]; exact EqAt.str_none z1 t1
      | bl b2 => simp only [eqvD]; exact EqAt.str_bool z1 t1 b2
      | int i2 t2 => simp only [eqvD]; exact EqAt.str_int z1 t1 i2 t2
      | str z2 t2 => simp only [eqvD]; exact EqAt.str_str z1 t1 z2 t2
      | lst h2 r2 => simp only [eqvD]; exact EqAt.str_list z1 t1 h2 hu0
      | tup h2 r2 => simp only [eqvD]; exact EqAt.str_tuple z1 t1 h2 hu0
      | dct o2 x2 d2 s2 n2 r2 => simp only [eqvD]; exact fun prog w E Q q => by unfold eqBool; refine wpAny_holding (wpAny_ite_split (fun e => absurd (eq_of_beq e) nofun) fun _ => ?_); exact wpAny_bind ((rceq_str_d z1 t1 o2 x2 d2 hu0) prog w E _ (wpAny_truthy_bool q))
  | .lst xs, e, A, s, _, _, ra, rb, hu => by
    have hu0 : A.units < cLine := by omega
    cases ra with
    | lst h1 r1 =>
      cases rb with
      | non => simp only [eqvD]; exact EqAt.list_none h1 hu0
      | bl b2 => simp only [eqvD]; exact EqAt.list_bool b2 h1 hu0
      | int i2 t2 => simp only [eqvD]; exact EqAt.list_int i2 t2 h1 hu0
      | str z2 t2 => simp only [eqvD]; exact EqAt.list_str z2 t2 h1 hu0
      | @lst l2 its2 ys h2 r2 =>
        rename_i l1 its1
        have n1 : its1.size = xs.length := by simpa using RdsL.length r1
        have n2 : its2.size = ys.length := by simpa using RdsL.length r2
        have hd : A.in1.units + min (depthL xs) (depthL ys) < cLine := SeqAt.room_in (by simpa [depthD] using hu)
        have hj : ∀ j (j1 : j < its1.size) (j2 : j < its2.size), EqAt A.in1 s its1[j] its2[j] (pairQ xs ys j) := fun j j1 j2 => by
          have z := eqAtL xs ys A.in1 s its1.toList its2.toList r1 r2 hd j (by simpa using j1) (by simpa using j2)
          simpa using z
        show EqAt A s (.ref l1) (.ref l2) (eqvL xs ys)
        by_cases hl : l1 = l2
        · subst hl
          have e := Rds.one (.lst h1 r1) (.lst h2 r2)
          injection e with e
          subst e
          rw [eqvL_refl r1]; exact EqAt.same _
        · by_cases hz : its1.size = its2.size
          · rw [← eqvL_same (by omega : xs.length = ys.length), ← n1]
            exact EqAt.of_refs hl (RcAt.lists h1 h2 hz hu0 hj)
          · rw [eqvL_other (by omega : xs.length ≠ ys.length)]
            exact EqAt.of_refs hl (RcAt.lists_lengths h1 h2 (by simpa using hz) hu0)
      | tup h2 r2 => simp only [eqvD]; exact EqAt.list_tuple h1 h2 hu0
      | dct o2 x2 d2 s2 n2 r2 => simp only [eqvD]; exact EqAt.of_refs (Ne.symm (ne_cls o2 x2.1 (.inl h1))) (rceq_list_d o2 x2 d2 h1 hu0)
  | .tup xs, e, A, s, _, _, ra, rb, hu => by
    have hu0 : A.units < cLine := by omega
    cases ra with
    | tup h1 r1 =>
      cases rb with
      | non => simp only [eqvD]; exact EqAt.tuple_none h1 hu0
      | bl b2 => simp only [eqvD]; exact EqAt.tuple_bool b2 h1 hu0
      | int i2 t2 => simp only [eqvD]; exact EqAt.tuple_int i2 t2 h1 hu0
      | str z2 t2 => simp only [eqvD]; exact EqAt.tuple_str z2 t2 h1 hu0
      | lst h2 r2 => simp only [eqvD]; exact EqAt.tuple_list h1 h2 hu0
      | @tup l2 its2 ys h2 r2 =>
        rename_i l1 its1
        have n1 : its1.size = xs.length := by simpa using RdsL.length r1
        have n2 : its2.size = ys.length := by simpa using RdsL.length r2
        have hd : A.in1.units + min (depthL xs) (depthL ys) < cLine := SeqAt.room_in (by simpa [depthD] using hu)
        have hj : ∀ j (j1 : j < its1.size) (j2 : j < its2.size), EqAt A.in1 s its1[j] its2[j] (pairQ xs ys j) := fun j j1 j2 => by
          have z := eqAtL xs ys A.in1 s its1.toList its2.toList r1 r2 hd j (by simpa using j1) (by simpa using j2)
          simpa using z
        show EqAt A s (.ref l1) (.ref l2) (eqvL xs ys)
        by_cases hl : l1 = l2
        · subst hl
          have e := Rds.one (.tup h1 r1) (.tup h2 r2)
          injection e with e
          subst e
          rw [eqvL_refl r1]; exact EqAt.same _
        · rw [← eqvL_range xs ys, ← n1, ← n2]
          exact EqAt.of_refs hl (RcAt.tuples h1 h2 hu0 hj)
      | dct o2 x2 d2 s2 n2 r2 => simp only [eqvD]; exact EqAt.of_refs (Ne.symm (ne_cls o2 x2.1 (.inr h1))) (rceq_tuple_d o2 x2 d2 h1 hu0)
  | .dct xs, e, A, s, _, _, ra, rb, hu => by
    have hu0 : A.units < cLine := by omega
    cases ra with
    | dct o1 x1 d1 s1 nn1 r1 =>
      cases rb with
      | non => simp only [eqvD]; exact fun prog w E Q q => by unfold eqBool; refine wpAny_holding (wpAny_ite_split (fun e => absurd (eq_of_beq e) nofun) fun _ => ?_); exact wpAny_bind ((rceq_d_none o1 x1 d1 hu0) prog w E _ (wpAny_truthy_bool q))
      | bl b2 => simp only [eqvD]; exact fun prog w E Q q => by unfold eqBool; refine wpAny_holding (wpAny_ite_split (fun e => absurd (eq_of_beq e) nofun) fun _ => ?_); exact wpAny_bind ((rceq_d_bool b2 o1 x1 d1 hu0) prog w E _ (wpAny_truthy_bool q))
      | int i2 t2 => simp only [eqvD]; exact fun prog w E Q q => by unfold eqBool; refine wpAny_holding (wpAny_ite_split (fun e => absurd (eq_of_beq e) nofun) fun _ => ?_); exact wpAny_bind ((rceq_d_int i2 t2 o1 x1 d1 hu0) prog w E _ (wpAny_truthy_bool q))
      | str z2 t2 => simp only [eqvD]; exact fun prog w E Q q => by unfold eqBool; refine wpAny_holding (wpAny_ite_split (fun e => absurd (eq_of_beq e) nofun) fun _ => ?_); exact wpAny_bind ((rceq_d_str z2 t2 o1 x1 d1 hu0) prog w E _ (wpAny_truthy_bool q))
      | lst h2 r2 => simp only [eqvD]; exact EqAt.of_refs (ne_cls o1 x1.1 (.inl h2)) (rceq_d_list o1 x1 d1 h2 hu0)
      | tup h2 r2 => simp only [eqvD]; exact EqAt.of_refs (ne_cls o1 x1.1 (.inr h2)) (rceq_d_tuple o1 x1 d1 h2 hu0)
      | @dct l2 ob2 es2 ep2 ys o2 x2 d2 s2 n2 r2 =>
        rename_i l1 ob1 es1 ep1
        have n1 : es1.size = xs.length := by simpa using RdsK.length r1
        have m2 : es2.size = ys.length := by simpa using RdsK.length r2
        have hd : A.in1.units + min (depthK xs) (depthK ys) < cLine := SeqAt.room_in (by simpa [depthD] using hu)
        show EqAt A s (.ref l1) (.ref l2) (xs.length == ys.length && eqvK xs ys)
        by_cases hl : l1 = l2
        · subst hl
          have e := Rds.one (.dct o1 x1 d1 s1 nn1 r1) (.dct o2 x2 d2 s2 n2 r2)
          injection e with e
          subst e
          rw [eqvK_refl r1 fun kv hk => look_mem nn1 hk]; simp only [beq_self_eq_true, Bool.and_true]; exact EqAt.same _
        · rw [← n1, ← m2]
          have hS : (es2.all fun e => isExactStrKey e.key) = true := by have := RdsK.strs r2; simpa using this
          exact EqAt.of_refs hl (rc_dicts s1 s2 o1 x1 d1 o2 x2 d2 hS hu0 fun _ => eqAtK xs ys A.in1 s es1.toList es2 r1 r2 hd)
theorem eqAtL : ∀ (xs ys : List D) (A : Around) (s : Shared) (vs ws : List Value), RdsL s.heap vs xs → RdsL s.heap ws ys → A.units + min (depthL xs) (depthL ys) < cLine → ∀ j (h1 : j < vs.length) (h2 : j < ws.length), EqAt A s vs[j] ws[j] (pairQ xs ys j)
  | [], _, _, _, _, _, ra, _, _, j, h1, _ => by cases ra; exact absurd h1 (Nat.not_lt_zero _)
  | _ :: _, [], _, _, _, _, _, rb, _, j, _, h2 => by cases rb; exact absurd h2 (Nat.not_lt_zero _)
  | x :: xs, y :: ys, A, s, _, _, ra, rb, hu, j, h1, h2 => by
    cases ra with
    | cons q1 r1 =>
      cases rb with
      | cons q2 r2 =>
        have hx : A.units + min (depthD x) (depthD y) < cLine := SeqAt.room_head (by simpa [depthL] using hu)
        have hy : A.units + min (depthL xs) (depthL ys) < cLine := SeqAt.room_tail (by simpa [depthL] using hu)
        cases j with
        | zero => simpa [pairQ] using eqAtD x y A s _ _ q1 q2 hx
        | succ j => simpa [pairQ] using eqAtL xs ys A s _ _ r1 r2 hy j (Nat.lt_of_succ_lt_succ h1) (Nat.lt_of_succ_lt_succ h2)
theorem eqAtK : ∀ (xs ys : List (Key × D)) (A : Around) (s : Shared) (es : List DictEntry) (es2 : Array DictEntry), RdsK s.heap es xs → RdsK s.heap es2.toList ys → A.units + min (depthK xs) (depthK ys) < cLine → Hits A s es2 es (eqvK xs ys)
  | [], ys, A, s, _, _, ra, _, _ => by cases ra; simp only [eqvK]; exact .nil
  | (k, v) :: r, ys, A, s, _, es2, ra, rb, hu => by
    cases ra with
    | @cons e es z t _ _ hk hv hr =>
      obtain ⟨f1, f2⟩ := find_look (z := z) rb
      have hx : A.units + min (depthK r) (depthK ys) < cLine := by simp only [depthK] at hu; omega
      have ih := eqAtK r ys A s es es2 hr rb hx
      cases el : lookK ys (.inr z) with
      | none =>
        simp only [eqvK, el, Bool.false_and]
        exact .miss hk (by have := f2 el; rw [← Array.toArray_toList (xs := es2), List.findIdx?_toArray]; exact this)
      | some u =>
        obtain ⟨j, hj, g1, g2⟩ := f1 u el
        have hm : (Sum.inr z, u) ∈ ys := by
          unfold lookK at el
          cases ef : ys.find? (fun kv => decide (kv.1 = Sum.inr z)) with
          | none => rw [ef] at el; cases el
          | some kv =>
            rw [ef] at el
            have e1 := List.find?_some ef
            have e2 := List.mem_of_find?_eq_some ef
            simp at e1 el
            obtain ⟨k1, d1⟩ := kv
            simp at e1 el
            subst e1 el
            exact e2
        have hd : A.units + min (depthD v) (depthD u) < cLine := by
          have := depthK_mem hm
          simp only [depthK] at hu; dsimp only at this; omega
        have hj' : j < es2.size := by simpa using hj
        simp only [eqvK, el]
        refine .hit hj' hk (by rw [← Array.toArray_toList (xs := es2), List.findIdx?_toArray]; exact g1) (eqAtD v u A s _ _ hv (by simpa using g2) hd) ih
end
theorem rcD {d e : D} {A : Around} {s : Shared} {a b : Value} (ra : Rds s.heap a d) (rb : Rds s.heap b e) (hu : A.units + min (depthD d) (depthD e) < cLine) : RcAt A s a b (eqvD d e) := by
  have hu0 : A.units < cLine := by omega
  cases ra with
  | non =>
    cases rb with
    | non => simp only [eqvD]; exact RcAt.none_none
    | bl b2 => simp only [eqvD]; exact RcAt.none_bool b2
    | int i2 t2 => simp only [eqvD]; exact RcAt.none_int i2 t2
    | str z2 t2 => simp only [eqvD]; exact RcAt.none_str z2 t2
    | lst h2 r2 => simp only [eqvD]; exact RcAt.none_list h2 hu0
    | tup h2 r2 => simp only [eqvD]; exact RcAt.none_tuple h2 hu0
    | dct o2 x2 d2 s2 n2 r2 => simp only [eqvD]; exact rceq_none_d o2 x2 d2 hu0
  | bl b1 =>
    cases rb with
    | non => simp only [eqvD]; exact RcAt.bool_none b1
    | bl b2 => simp only [eqvD]; exact RcAt.bool_bool b1 b2
    | int i2 t2 => simp only [eqvD]; exact RcAt.bool_int b1 i2 t2
    | str z2 t2 => simp only [eqvD]; exact RcAt.bool_str b1 z2 t2
    | lst h2 r2 => simp only [eqvD]; exact RcAt.bool_list b1 h2 hu0
    | tup h2 r2 => simp only [eqvD]; exact RcAt.bool_tuple b1 h2 hu0
    | dct o2 x2 d2 s2 n2 r2 => simp only [eqvD]; exact rceq_bool_d b1 o2 x2 d2 hu0
  | int i1 t1 =>
    cases rb with
    | non => simp only [eqvD]; exact RcAt.int_none i1 t1
    | bl b2 => simp only [eqvD]; exact RcAt.int_bool i1 t1 b2
    | int i2 t2 => simp only [eqvD]; exact RcAt.int_int i1 t1 i2 t2
    | str z2 t2 => simp only [eqvD]; exact RcAt.int_str i1 t1 z2 t2
    | lst h2 r2 => simp only [eqvD]; exact RcAt.int_list i1 t1 h2 hu0
    | tup h2 r2 => simp only [eqvD]; exact RcAt.int_tuple i1 t1 h2 hu0
    | dct o2 x2 d2 s2 n2 r2 => simp only [eqvD]; exact rceq_int_d i1 t1 o2 x2 d2 hu0
  | str z1 t1 =>
    cases rb with
    | non => simp only [eqvD]; exact RcAt.str_none z1 t1
    | bl b2 => simp only [eqvD]; exact RcAt.str_bool z1 t1 b2
    | int i2 t2 => simp only [eqvD]; exact RcAt.str_int z1 t1 i2 t2
    | str z2 t2 => simp only [eqvD]; exact RcAt.str_str z1 t1 z2 t2
    | lst h2 r2 => simp only [eqvD]; exact RcAt.str_list z1 t1 h2 hu0
    | tup h2 r2 => simp only [eqvD]; exact RcAt.str_tuple z1 t1 h2 hu0
    | dct o2 x2 d2 s2 n2 r2 => simp only [eqvD]; exact rceq_str_d z1 t1 o2 x2 d2 hu0
  | @lst l1 its1 xs h1 r1 =>
    cases rb with
    | non => simp only [eqvD]; exact RcAt.list_none h1 hu0
    | bl b2 => simp only [eqvD]; exact RcAt.list_bool b2 h1 hu0
    | int i2 t2 => simp only [eqvD]; exact RcAt.list_int i2 t2 h1 hu0
    | str z2 t2 => simp only [eqvD]; exact RcAt.list_str z2 t2 h1 hu0
    | @lst l2 its2 ys h2 r2 =>
      have n1 : its1.size = xs.length := by simpa using RdsL.length r1
      have n2 : its2.size = ys.length := by simpa using RdsL.length r2
      have hd : A.in1.units + min (depthL xs) (depthL ys) < cLine := SeqAt.room_in (by simpa [depthD] using hu)
      have hj : ∀ j (j1 : j < its1.size) (j2 : j < its2.size), EqAt A.in1 s its1[j] its2[j] (pairQ xs ys j) := fun j j1 j2 => by
        have z := eqAtL xs ys A.in1 s its1.toList its2.toList r1 r2 hd j (by simpa using j1) (by simpa using j2)
        simpa using z
      show RcAt A s (.ref l1) (.ref l2) (eqvL xs ys)
      by_cases hz : its1.size = its2.size
      · rw [← eqvL_same (by omega : xs.length = ys.length), ← n1]
        exact RcAt.lists h1 h2 hz hu0 hj
      · rw [eqvL_other (by omega : xs.length ≠ ys.length)]
        exact RcAt.lists_lengths h1 h2 (by simpa using hz) hu0
    | tup h2 r2 => simp only [eqvD]; exact RcAt.list_tuple h1 h2 hu0
    | dct o2 x2 d2 s2 n2 r2 => simp only [eqvD]; exact rceq_list_d o2 x2 d2 h1 hu0
  | @tup l1 its1 xs h1 r1 =>
    cases rb with
    | non => simp only [eqvD]; exact RcAt.tuple_none h1 hu0
    | bl b2 => simp only [eqvD]; exact RcAt.tuple_bool b2 h1 hu0
    | int i2 t2 => simp only [eqvD]; exact RcAt.tuple_int i2 t2 h1 hu0
    | str z2 t2 => simp only [eqvD]; exact RcAt.tuple_str z2 t2 h1 hu0
    | lst h2 r2 => simp only [eqvD]; exact RcAt.tuple_list h1 h2 hu0
    | @tup l2 its2 ys h2 r2 =>
      have n1 : its1.size = xs.length := by simpa using RdsL.length r1
      have n2 : its2.size = ys.length := by simpa using RdsL.length r2
      have hd : A.in1.units + min (depthL xs) (depthL ys) < cLine := SeqAt.room_in (by simpa [depthD] using hu)
      have hj : ∀ j (j1 : j < its1.size) (j2 : j < its2.size), EqAt A.in1 s its1[j] its2[j] (pairQ xs ys j) := fun j j1 j2 => by
        have z := eqAtL xs ys A.in1 s its1.toList its2.toList r1 r2 hd j (by simpa using j1) (by simpa using j2)
        simpa using z
      show RcAt A s (.ref l1) (.ref l2) (eqvL xs ys)
      rw [← eqvL_range xs ys, ← n1, ← n2]
      exact RcAt.tuples h1 h2 hu0 hj
    | dct o2 x2 d2 s2 n2 r2 => simp only [eqvD]; exact rceq_tuple_d o2 x2 d2 h1 hu0
  | @dct l1 ob1 es1 ep1 xs o1 x1 d1 s1 nn1 r1 =>
    cases rb with
    | non => simp only [eqvD]; exact rceq_d_none o1 x1 d1 hu0
    | bl b2 => simp only [eqvD]; exact rceq_d_bool b2 o1 x1 d1 hu0
    | int i2 t2 => simp only [eqvD]; exact rceq_d_int i2 t2 o1 x1 d1 hu0
    | str z2 t2 => simp only [eqvD]; exact rceq_d_str z2 t2 o1 x1 d1 hu0
    | lst h2 r2 => simp only [eqvD]; exact rceq_d_list o1 x1 d1 h2 hu0
    | tup h2 r2 => simp only [eqvD]; exact rceq_d_tuple o1 x1 d1 h2 hu0
    | @dct l2 ob2 es2 ep2 ys o2 x2 d2 s2 n2 r2 =>
      have n1 : es1.size = xs.length := by simpa using RdsK.length r1
      have m2 : es2.size = ys.length := by simpa using RdsK.length r2
      have hd : A.in1.units + min (depthK xs) (depthK ys) < cLine := SeqAt.room_in (by simpa [depthD] using hu)
      show RcAt A s (.ref l1) (.ref l2) ((xs.length == ys.length && eqvK xs ys))
      rw [← n1, ← m2]
      have hS : (es2.all fun e => isExactStrKey e.key) = true := by have := RdsK.strs r2; simpa using this
      exact rc_dicts s1 s2 o1 x1 d1 o2 x2 d2 hS hu0 fun _ => eqAtK xs ys A.in1 s es1.toList es2 r1 r2 hd
theorem rcneD {d e : D} {A : Around} {s : Shared} {a b : Value} (ra : Rds s.heap a d) (rb : Rds s.heap b e) (hu : A.units + min (depthD d) (depthD e) < cLine) : RcNeAt A s a b (!eqvD d e) := by
  have hu0 : A.units < cLine := by omega
  cases ra with
  | non =>
    cases rb with
    | non => simp only [eqvD, Bool.not_false, Bool.not_true]; exact RcNeAt.none_none
    | bl b2 => simp only [eqvD, Bool.not_false, Bool.not_true]; exact RcNeAt.none_bool b2
    | int i2 t2 => simp only [eqvD, Bool.not_false, Bool.not_true]; exact RcNeAt.none_int i2 t2
    | str z2 t2 => simp only [eqvD, Bool.not_false, Bool.not_true]; exact RcNeAt.none_str z2 t2
    | lst h2 r2 => simp only [eqvD, Bool.not_false, Bool.not_true]; exact RcNeAt.none_list h2 hu0
    | tup h2 r2 => simp only [eqvD, Bool.not_false, Bool.not_true]; exact RcNeAt.none_tuple h2 hu0
    | dct o2 x2 d2 s2 n2 r2 => simp only [eqvD, Bool.not_false, Bool.not_true]; exact rcne_none_d o2 x2 d2 hu0
  | bl b1 =>
    cases rb with
    | non => simp only [eqvD, Bool.not_false, Bool.not_true]; exact RcNeAt.bool_none b1
    | bl b2 => simp only [eqvD, Bool.not_false, Bool.not_true]; exact RcNeAt.bool_bool b1 b2
    | int i2 t2 => simp only [eqvD, Bool.not_false, Bool.not_true]; exact RcNeAt.bool_int b1 i2 t2
    | str z2 t2 => simp only [eqvD, Bool.not_false, Bool.not_true]; exact RcNeAt.bool_str b1 z2 t2
    | lst h2 r2 => simp only [eqvD, Bool.not_false, Bool.not_true]; exact RcNeAt.bool_list b1 h2 hu0
    | tup h2 r2 => simp only [eqvD, Bool.not_false, Bool.not_true]; exact RcNeAt.bool_tuple b1 h2 hu0
    | dct o2 x2 d2 s2 n2 r2 => simp only [eqvD, Bool.not_false, Bool.not_true]; exact rcne_bool_d b1 o2 x2 d2 hu0
  | int i1 t1 =>
    cases rb with
    | non => simp only [eqvD, Bool.not_false, Bool.not_true]; exact RcNeAt.int_none i1 t1
    | bl b2 => simp only [eqvD, Bool.not_false, Bool.not_true]; exact RcNeAt.int_bool i1 t1 b2
    | int i2 t2 => simp only [eqvD, Bool.not_false, Bool.not_true]; exact RcNeAt.int_int i1 t1 i2 t2
    | str z2 t2 => simp only [eqvD, Bool.not_false, Bool.not_true]; exact RcNeAt.int_str i1 t1 z2 t2
    | lst h2 r2 => simp only [eqvD, Bool.not_false, Bool.not_true]; exact RcNeAt.int_list i1 t1 h2 hu0
    | tup h2 r2 => simp only [eqvD, Bool.not_false, Bool.not_true]; exact RcNeAt.int_tuple i1 t1 h2 hu0
    | dct o2 x2 d2 s2 n2 r2 => simp only [eqvD, Bool.not_false, Bool.not_true]; exact rcne_int_d i1 t1 o2 x2 d2 hu0
  | str z1 t1 =>
    cases rb with
    | non => simp only [eqvD, Bool.not_false, Bool.not_true]; exact RcNeAt.str_none z1 t1
    | bl b2 => simp only [eqvD, Bool.not_false, Bool.not_true]; exact RcNeAt.str_bool z1 t1 b2
    | int i2 t2 => simp only [eqvD, Bool.not_false, Bool.not_true]; exact RcNeAt.str_int z1 t1 i2 t2
    | str z2 t2 => simp only [eqvD, Bool.not_false, Bool.not_true]; exact RcNeAt.str_str z1 t1 z2 t2
    | lst h2 r2 => simp only [eqvD, Bool.not_false, Bool.not_true]; exact RcNeAt.str_list z1 t1 h2 hu0
    | tup h2 r2 => simp only [eqvD, Bool.not_false, Bool.not_true]; exact RcNeAt.str_tuple z1 t1 h2 hu0
    | dct o2 x2 d2 s2 n2 r2 => simp only [eqvD, Bool.not_false, Bool.not_true]; exact rcne_str_d z1 t1 o2 x2 d2 hu0
  | @lst l1 its1 xs h1 r1 =>
    cases rb with
    | non => simp only [eqvD, Bool.not_false, Bool.not_true]; exact RcNeAt.list_none h1 hu0
    | bl b2 => simp only [eqvD, Bool.not_false, Bool.not_true]; exact RcNeAt.list_bool b2 h1 hu0
    | int i2 t2 => simp only [eqvD, Bool.not_false, Bool.not_true]; exact RcNeAt.list_int i2 t2 h1 hu0
    | str z2 t2 => simp only [eqvD, Bool.not_false, Bool.not_true]; exact RcNeAt.list_str z2 t2 h1 hu0
    | @lst l2 its2 ys h2 r2 =>
      have n1 : its1.size = xs.length := by simpa using RdsL.length r1
      have n2 : its2.size = ys.length := by simpa using RdsL.length r2
      have hd : A.in1.units + min (depthL xs) (depthL ys) < cLine := SeqAt.room_in (by simpa [depthD] using hu)
      have hj : ∀ j (j1 : j < its1.size) (j2 : j < its2.size), EqAt A.in1 s its1[j] its2[j] (pairQ xs ys j) := fun j j1 j2 => by
        have z := eqAtL xs ys A.in1 s its1.toList its2.toList r1 r2 hd j (by simpa using j1) (by simpa using j2)
        simpa using z
      show RcNeAt A s (.ref l1) (.ref l2) (!eqvL xs ys)
      by_cases hz : its1.size = its2.size
      · rw [← eqvL_same (by omega : xs.length = ys.length), ← n1]
        exact RcNeAt.lists h1 h2 hz hu0 hj
      · rw [eqvL_other (by omega : xs.length ≠ ys.length)]
        exact RcNeAt.lists_lengths h1 h2 (by simpa using hz) hu0
    | tup h2 r2 => simp only [eqvD, Bool.not_false, Bool.not_true]; exact RcNeAt.list_tuple h1 h2 hu0
    | dct o2 x2 d2 s2 n2 r2 => simp only [eqvD, Bool.not_false, Bool.not_true]; exact rcne_list_d o2 x2 d2 h1 hu0
  | @tup l1 its1 xs h1 r1 =>
    cases rb with
    | non => simp only [eqvD, Bool.not_false, Bool.not_true]; exact RcNeAt.tuple_none h1 hu0
    | bl b2 => simp only [eqvD, Bool.not_false, Bool.not_true]; exact RcNeAt.tuple_bool b2 h1 hu0
    | int i2 t2 => simp only [eqvD, Bool.not_false, Bool.not_true]; exact RcNeAt.tuple_int i2 t2 h1 hu0
    | str z2 t2 => simp only [eqvD, Bool.not_false, Bool.not_true]; exact RcNeAt.tuple_str z2 t2 h1 hu0
    | lst h2 r2 => simp only [eqvD, Bool.not_false, Bool.not_true]; exact RcNeAt.tuple_list h1 h2 hu0
    | @tup l2 its2 ys h2 r2 =>
      have n1 : its1.size = xs.length := by simpa using RdsL.length r1
      have n2 : its2.size = ys.length := by simpa using RdsL.length r2
      have hd : A.in1.units + min (depthL xs) (depthL ys) < cLine := SeqAt.room_in (by simpa [depthD] using hu)
      have hj : ∀ j (j1 : j < its1.size) (j2 : j < its2.size), EqAt A.in1 s its1[j] its2[j] (pairQ xs ys j) := fun j j1 j2 => by
        have z := eqAtL xs ys A.in1 s its1.toList its2.toList r1 r2 hd j (by simpa using j1) (by simpa using j2)
        simpa using z
      show RcNeAt A s (.ref l1) (.ref l2) (!eqvL xs ys)
      rw [← eqvL_range xs ys, ← n1, ← n2]
      exact RcNeAt.tuples h1 h2 hu0 hj
    | dct o2 x2 d2 s2 n2 r2 => simp only [eqvD, Bool.not_false, Bool.not_true]; exact rcne_tuple_d o2 x2 d2 h1 hu0
  | @dct l1 ob1 es1 ep1 xs o1 x1 d1 s1 nn1 r1 =>
    cases rb with
    | non => simp only [eqvD, Bool.not_false, Bool.not_true]; exact rcne_d_none o1 x1 d1 hu0
    | bl b2 => simp only [eqvD, Bool.not_false, Bool.not_true]; exact rcne_d_bool b2 o1 x1 d1 hu0
    | int i2 t2 => simp only [eqvD, Bool.not_false, Bool.not_true]; exact rcne_d_int i2 t2 o1 x1 d1 hu0
    | str z2 t2 => simp only [eqvD, Bool.not_false, Bool.not_true]; exact rcne_d_str z2 t2 o1 x1 d1 hu0
    | lst h2 r2 => simp only [eqvD, Bool.not_false, Bool.not_true]; exact rcne_d_list o1 x1 d1 h2 hu0
    | tup h2 r2 => simp only [eqvD, Bool.not_false, Bool.not_true]; exact rcne_d_tuple o1 x1 d1 h2 hu0
    | @dct l2 ob2 es2 ep2 ys o2 x2 d2 s2 n2 r2 =>
      have n1 : es1.size = xs.length := by simpa using RdsK.length r1
      have m2 : es2.size = ys.length := by simpa using RdsK.length r2
      have hd : A.in1.units + min (depthK xs) (depthK ys) < cLine := SeqAt.room_in (by simpa [depthD] using hu)
      show RcNeAt A s (.ref l1) (.ref l2) (!(xs.length == ys.length && eqvK xs ys))
      rw [← n1, ← m2]
      have hS : (es2.all fun e => isExactStrKey e.key) = true := by have := RdsK.strs r2; simpa using this
      exact rcne_dicts s1 s2 o1 x1 d1 o2 x2 d2 hS hu0 fun _ => eqAtK xs ys A.in1 s es1.toList es2 r1 r2 hd
end G
namespace G
open PySem L2
open PySem.W (Frag)
open Classical

/-! ### == and != -/
section
variable {X : Cx} {pins : List (Addr × Obj)} {σ : L2.St} {H Im : Hp} {s : Shared}
mutual
theorem rep_rds (I : Inv X pins σ H s) (e : Ext Im H) : ∀ {v : V} {d : D} {u : Value}, Rep Im v d → RelV v u → strK d = true → Rds s.heap u d
  | _, _, _, .non, r, _ => by cases r; exact .non
  | _, _, _, .bl b, r, _ => by cases r; exact .bl b
  | _, _, _, .int i, r, _ => by obtain ⟨t, rfl⟩ := r; exact .int i t
  | _, _, _, .str z _, r, _ => by obtain ⟨t, rfl⟩ := r; exact .str z t
  | _, _, _, .lst (a := a) (vs := vs) h z q, r, k => by
    cases r
    obtain ⟨_, its, n, rv, ho⟩ := (show ObjOk X.prog X.w H s.heap a (.lst vs) from I.hok a _ (e _ _ h))
    exact .lst (its := its.toArray) ⟨_, ho, rfl, n, rfl⟩ (by simpa using reps_rds I e q rv (by simpa [strK] using k))
  | _, _, _, .tup (a := a) (vs := vs) h z q, r, k => by
    cases r
    obtain ⟨o, h1, _⟩ := h
    obtain ⟨_, _, its, rv, ht⟩ := (show ObjOk X.prog X.w H s.heap a (.frz o (.tup vs)) from I.hok a _ (e _ _ h1))
    exact .tup (its := its.toArray) ht (by simpa using reps_rds I e q rv (by simpa [strK] using k))
  | _, _, _, .dct (a := a) (ws := ws) h z q, r, k => by
    cases r
    obtain ⟨_, ya, va, ra, o, es, ep, ho, hx, hd, _, hp, hn⟩ := dk_rd I.hok (e.rd h)
    have hk := repk_rds I e (es := es.toList) q ra hp (by simpa [strK] using k)
    exact .dct ho hx hd ya (by rw [← hk.2]; exact hn) hk.1
theorem reps_rds (I : Inv X pins σ H s) (e : Ext Im H) : ∀ {vs : List V} {ds : List D} {us : List Value}, Reps Im vs ds → Vals vs us → strKL ds = true → RdsL s.heap us ds
  | _, _, _, .nil, r, _ => by cases r; exact .nil
  | _, _, _, .cons h q, r, k => by
    cases r with
    | cons r1 r2 =>
      simp only [strKL, Bool.and_eq_true] at k
      exact .cons (rep_rds I e h r1 k.1) (reps_rds I e q r2 k.2)
theorem repk_rds (I : Inv X pins σ H s) (e : Ext Im H) : ∀ {ws : List (Key × V)} {kvs : List (Key × D)} {us : List (Key × Value)} {es : List DictEntry}, Repk Im ws kvs → KV ws us → Pairs (mixKind X.prog X.w) es us → strKK kvs = true → RdsK s.heap es kvs ∧ us.map (·.1) = kvs.map (·.1)
  | _, _, _, _, .nil, r, p, _ => by cases r; cases p; exact ⟨.nil, rfl⟩
  | _, _, _, _, .cons (k := key) hz h q, r, p, k => by
    cases r with
    | cons r1 r2 =>
      rename_i u us
      cases p with
      | cons p1 p2 p3 =>
        simp only [strKK, Bool.and_eq_true] at k
        obtain ⟨g1, g2⟩ := repk_rds I e q r2 p3 k.2
        obtain ⟨e1, r1⟩ := r1
        dsimp only at e1 r1
        cases key with
        | inl i => simp at k
        | inr z =>
          refine ⟨?_, by simp [g2, e1]⟩
          rw [← e1] at p1
          rcases keyIs_shape (show keyIs (Sum.inr z) _ = true from p1) with ⟨i, t, e3, _⟩ | ⟨y, t, e3, e4⟩
          · cases e3
          · cases e3
            exact .cons e4 (by rw [p2]; exact rep_rds I e h r1 k.1.2) g1
end
end
def rEqG (K : Frag) (neg : Bool) : R2 := fun v w H Q => (∃ (Im : Hp) (d e : D), Ext Im H ∧ Rep Im v d ∧ Rep Im w e ∧ strK d = true ∧ strK e = true ∧ min (depthD d) (depthD e) ≤ 100 ∧ Q (.bl (if neg then !eqvD d e else eqvD d e)) H) ∨
  (∃ a b xs ys, v = .ref a ∧ w = .ref b ∧ SqL K H a xs ∧ SqL K H b ys ∧ xs.length ≠ ys.length ∧ Q (.bl neg) H) ∨
  (∃ a b ks ls, v = .ref a ∧ w = .ref b ∧ Rd H a (.dK ks) ∧ Rd H b (.dK ls) ∧ ((ks.length ≠ ls.length ∧ Q (.bl neg) H) ∨ (ks = [] ∧ ls = [] ∧ Q (.bl (!neg)) H)))
section
variable {X : Cx}
theorem isL_of {s : Shared} {a : Addr} {its : Array Value} (h : PlainL s.heap a its) : s.heap.IsList a its := by
  obtain ⟨o, n, h1, h2, _, h3⟩ := h
  exact ⟨o, h1, h2, n, h3⟩
theorem op_eqG (hu : X.A.units + 101 < cLine) : OpR X (compareOp .Eq) (rEqG X.K false) := by
  intro pins s σ H x y v u Q I rx ry h
  rcases h with ⟨Im, d, e, hI, h1, h2, k1, k2, hm, q⟩ | ⟨a, b, xs, ys, rfl, rfl, h1, h2, hn, q⟩ | ⟨a, b, ks, ls, rfl, rfl, h1, h2, h⟩
  · exact rcD (rep_rds I hI h1 rx k1) (rep_rds I hI h2 ry k2) (by omega) X.prog X.w _ _ ⟨.bl _, H, I, rfl, q⟩
  · cases rx; cases ry
    obtain ⟨i1, v1, p1, _⟩ := I.list h1
    obtain ⟨i2, v2, p2, _⟩ := I.list h2
    have hne : (i1.toArray.size != i2.toArray.size) = true := by
      rw [List.size_toArray, List.size_toArray, ← v1.length, ← v2.length]; simpa using hn
    exact SeqAt.RcAt.lists_lengths (isL_of p1) (isL_of p2) hne (by omega) X.prog X.w _ _ ⟨.bl _, H, I, rfl, q⟩
  · cases rx; cases ry
    obtain ⟨_, ya, va, ra, da⟩ := dk_rd I.hok h1
    obtain ⟨_, yb, vb, rb, db⟩ := dk_rd I.hok h2
    have la : ks.length = va.length := Paired.length ra
    have lb : ls.length = vb.length := Paired.length rb
    rcases h with ⟨hn, q⟩ | ⟨rfl, rfl, q⟩
    · have hne : (va.length == vb.length) = false := by simpa [← la, ← lb] using hn
      refine PySem.W.keq_eq (knd := mixKind X.prog X.w) (r := true) ya yb da db (by omega) (fun e => absurd (by rw [la, lb]; exact e) hn) ?_
      rw [hne]
      exact ⟨.bl _, H, I, rfl, q⟩
    · cases ra; cases rb
      exact PySem.W.keq_eq (knd := mixKind X.prog X.w) (r := true) ya yb da db (by omega) (fun e => .nil) ⟨.bl _, H, I, rfl, q⟩
theorem op_neG (hu : X.A.units + 101 < cLine) : OpR X (compareOp .NotEq) (rEqG X.K true) := by
  intro pins s σ H x y v u Q I rx ry h
  rcases h with ⟨Im, d, e, hI, h1, h2, k1, k2, hm, q⟩ | ⟨a, b, xs, ys, rfl, rfl, h1, h2, hn, q⟩ | ⟨a, b, ks, ls, rfl, rfl, h1, h2, h⟩
  · exact rcneD (rep_rds I hI h1 rx k1) (rep_rds I hI h2 ry k2) (by omega) X.prog X.w _ _ ⟨.bl _, H, I, rfl, q⟩
  · cases rx; cases ry
    obtain ⟨i1, v1, p1, _⟩ := I.list h1
    obtain ⟨i2, v2, p2, _⟩ := I.list h2
    have hne : (i1.toArray.size != i2.toArray.size) = true := by
      rw [List.size_toArray, List.size_toArray, ← v1.length, ← v2.length]; simpa using hn
    exact SeqAt.RcNeAt.lists_lengths (isL_of p1) (isL_of p2) hne (by omega) X.prog X.w _ _ ⟨.bl _, H, I, rfl, q⟩
  · cases rx; cases ry
    obtain ⟨_, ya, va, ra, da⟩ := dk_rd I.hok h1
    obtain ⟨_, yb, vb, rb, db⟩ := dk_rd I.hok h2
    have la : ks.length = va.length := Paired.length ra
    have lb : ls.length = vb.length := Paired.length rb
    rcases h with ⟨hn, q⟩ | ⟨rfl, rfl, q⟩
    · have hne : (va.length == vb.length) = false := by simpa [← la, ← lb] using hn
      refine PySem.W.keq_ne (knd := mixKind X.prog X.w) (r := true) ya yb da db (by omega) (fun e => absurd (by rw [la, lb]; exact e) hn) ?_
      rw [hne]
      exact ⟨.bl _, H, I, rfl, q⟩
    · cases ra; cases rb
      exact PySem.W.keq_ne (knd := mixKind X.prog X.w) (r := true) ya yb da db (by omega) (fun e => .nil) ⟨.bl _, H, I, rfl, q⟩
end
theorem eqG_main {K : Frag} {neg : Bool} {y : Xc} {B : Bs} {M : List Nat} {σ : L2.St} {H : Hp} {ρ : Rho} {S : Sx} {I : Hp} {hot : List Addr} {v w : V} {d1 d2 : D} {k : Bool} {Q : VK} (R : Rel K B M σ H ρ S I hot) (r1 : Rep I v d1) (r2 : Rep I w d2) (e : eqD d1 d2 = some k)
    (q : After K y B M σ ρ hot (RepA K hot) H I (.ok (.d (.bl (if neg then !k else k))) S) Q) : rEqG K neg v w H Q := by
  unfold eqD at e
  split at e
  · rename_i hp
    cases e
    exact .inl ⟨I, d1, d2, R.wd.ext, r1, r2, hp.1, hp.2.1, hp.2.2, q.ok R (.d (.bl _))⟩
  · split at e
    · split at e
      · cases e
      · rename_i hn
        cases e
        cases r1 with
        | lst h1 z1 q1 =>
          cases r2 with
          | lst h2 z2 q2 =>
            refine .inr (.inl ⟨_, _, _, _, rfl, rfl, SqL.of (R.wd.ext _ _ h1), SqL.of (R.wd.ext _ _ h2), by rw [q1.length, q2.length]; exact hn, ?_⟩)
            have := q.ok R (.d (.bl _))
            cases neg <;> exact this
    · cases r1 with
      | dct h1 z1 q1 =>
        cases r2 with
        | dct h2 z2 q2 =>
          refine .inr (.inr ⟨_, _, _, _, rfl, rfl, R.wd.ext.rd h1, R.wd.ext.rd h2, ?_⟩)
          split at e
          · rename_i hl
            split at e
            · rename_i he
              cases e
              have e1 := List.isEmpty_iff.mp he
              subst e1
              have e2 : _ = ([] : List (Key × D)) := List.eq_nil_of_length_eq_zero hl.symm
              subst e2
              cases q1; cases q2
              refine .inr ⟨rfl, rfl, ?_⟩
              have := q.ok R (.d (.bl _))
              cases neg <;> exact this
            · cases e
          · rename_i hl
            cases e
            refine .inl ⟨by rw [q1.length, q2.length]; exact hl, ?_⟩
            have := q.ok R (.d (.bl _))
            cases neg <;> exact this
    · cases e
theorem og_eq {K : Frag} : OpG K (rEqG K false) eqO := by
  intro y B M σ H ρ S I hot v w d1 d2 d Q R r1 r2 e q
  unfold eqO at e
  cases e2 : eqD d1 d2 with
  | none => rw [e2] at e; cases e
  | some k => rw [e2] at e; cases e; exact eqG_main (neg := false) R r1 r2 e2 q
theorem og_ne {K : Frag} : OpG K (rEqG K true) neO := by
  intro y B M σ H ρ S I hot v w d1 d2 d Q R r1 r2 e q
  unfold neO at e
  cases e2 : eqD d1 d2 with
  | none => rw [e2] at e; cases e
  | some k => rw [e2] at e; cases e; exact eqG_main (neg := true) R r1 r2 e2 q
theorem Cq.hq {X : Cx} {x : Xc} {k : Nat} (c : Cq X x k) : X.A.units + 101 < cLine := by have := c.room.un; omega
end G
namespace G
open PySem PySem.Spec L2 PyProof.Rows
open PySem.W (Frag)
open Classical

/-! ### len(set(xs)), xs texts -/
/-- how many different ones are among the first i -/
def ndU (xs : List Str) : Nat → Nat
  | 0 => 0
  | i + 1 => if (xs.take i).any (· == xs.getD i Str.empty) = true then ndU xs i else ndU xs i + 1
theorem ndU_le (xs : List Str) : ∀ i, ndU xs i ≤ i
  | 0 => Nat.le_refl _
  | i + 1 => by
    unfold ndU
    have := ndU_le xs i
    split <;> omega
def distinct (xs : List Str) : Nat := ndU xs xs.length
abbrev sObj (led : Bool) : Obj := { cls := .type "set", dict := none, data := .set #[] 0 (.fresh 0 0 led) }
abbrev SS1 (P : Program) (w : World) (h : Heap) (a : Addr) (xs : List Str) (i : Nat) : Prop := h.SetOf (PySem.strKind P w) a (fun z => (xs.take i).any (· == z)) (ndU xs i)
theorem SS1.keep {P : Program} {w : World} {h h2 : Heap} {a : Addr} {xs : List Str} {i : Nat} (x : SS1 P w h a xs i) (k : ∀ o, h.get? a = some o → h2.get? a = some o) : SS1 P w h2 a xs i := by
  obtain ⟨o, es, ep, t, ho, r⟩ := x
  exact ⟨o, es, ep, t, k o ho, r⟩
section
variable {P : Program} {w : World} {A : Around} {R : Result → Shared → Prop} {it : Addr} {fp wr : List Addr} {Gn : Array GenState → Array GenState → Prop} {n : Nat} {Pv : Nat → Value → Prop} {St : Nat → Shared → Prop}
theorem upd_texts (W : WalksS P w A.in1 it fp wr Gn n Pv St) (a : Addr) (ha : a ∉ fp) (xs : List Str) (hz : xs.length = n) (hb : n + 1 < 4096) (hv : ∀ i v, Pv i v → ∃ t, v = .str (xs.getD i Str.empty) t) :
    ∀ (m i : Nat) (s : Shared), n - i = m → i ≤ n → St i s → SS1 P w s.heap a xs i → (∀ s2, Moved (a :: wr) Gn s s2 → SS1 P w s2.heap a xs n → R (.ok (.ret .none)) s2) → codeAny (model P w) A (.builtin "set.update.loop" ⟨[.ref a, .ref it], []⟩) R s := by
  have aw : a ∉ wr := fun z => ha (W.sub _ z)
  have sb : ∀ b ∈ wr, b ∈ a :: wr := fun b z => List.mem_cons_of_mem _ z
  intro m
  induction m with
  | zero =>
    intro i s em hi st hs kR
    obtain rfl : i = n := by omega
    refine codeAny_builtin PyProof.Rows.F.entry_set_update_loop (by
      rw [Around.under_plainId PyProof.Rows.F.plain_set_update_loop _]
      refine wpAny_bind (W.done s _ _ st fun s2 mv => ?_)
      exact wpAny_pure (kR s2 (mv.mono sb) (hs.keep fun o e => mv.heap a o aw e)))
  | succ m ih =>
    intro i s em hi st hs kR
    have lt : i < n := by omega
    refine codeAny_builtin PyProof.Rows.F.entry_set_update_loop (by
      rw [Around.under_plainId PyProof.Rows.F.plain_set_update_loop _]
      refine wpAny_bind (W.item i s _ _ lt st fun v s2 pv st2 mv => ?_)
      obtain ⟨t, rfl⟩ := hv i v pv
      have hs2 : SS1 P w s2.heap a xs i := hs.keep fun o e => mv.heap a o aw e
      refine wpAny_bind (wpAny_holding (show wpAny _ A.in1 (setAdd a (.str (xs.getD i Str.empty) t)) _ _ s2 from ?_))
      unfold setAdd
      refine wpAny_holding (wpAny_bind ((PySem.strKind P w).pyHash (k := xs.getD i Str.empty) (strKind_is _ _ _ _) ?_))
      have rm : ndU xs i + 1 < scanBound := by unfold scanBound; have := ndU_le xs i; omega
      refine wpAny_setAddHashed_of (knd := PySem.strKind P w) (s := { s2 with toks := s2.toks + 1 }) (strKind_is _ _ _ _) rfl hs2 rm fun h2 same hs3 => ?_
      have hs4 : SS1 P w h2 a xs (i + 1) := by
        have gi : xs[i]? = some (xs.getD i Str.empty) := by
          rw [List.getD_eq_getElem?_getD, List.getElem?_eq_getElem (by omega)]; rfl
        refine SetOf_congr hs3 (fun z => ?_) rfl
        rw [List.take_add_one, gi, List.any_append]
        by_cases e : z = xs.getD i Str.empty
        · subst e; simp
        · have hb : (xs.getD i Str.empty == z) = false := beq_eq_false_iff_ne.mpr fun q => e q.symm
          simp only [Option.toList, List.any_cons, List.any_nil, hb, decide_eq_false e, Bool.or_false]
      refine wpAny_pure ⟨plainId_quiet PyProof.Rows.F.plain_set_update_loop _, ih (i + 1) _ (by omega) lt (W.frame _ s2 _ _ st2 (Nat.le_succ _) fun b z o e => ?_) hs4 fun s3 mv3 hs5 => kR s3 (Moved.trans W.gtrans ((mv.mono sb).then_heap (Nat.le_succ _) fun b o z e => ?_) mv3) hs5⟩
      · rw [same.2 b (fun q : b = a => ha (q ▸ z))]; exact e
      · rw [same.2 b (fun q : b = a => z (q ▸ List.mem_cons_self))]; exact e)
end
section
variable {P : Program} {w : World} {A : Around} {E : Value → Shared → Prop} {s : Shared}
theorem set_seqS {cn ic : String} (n1 : isSubtype (.type cn) (.type "set") = pure false) (n2 : isSubtype (.type cn) (.type "frozenset") = pure false) (n3 : (Value.type cn == Value.type "dict") = false)
    {l : Addr} {its : Array Value} {nl : Nat} {od : Option Addr} {os : Array (Option Value)} {xs : List Str} {Q : Value → Shared → Prop} (hh : A.handled = none) (h1 : s.heap.get? l = some { cls := .type cn, dict := od, data := .seq its nl, slots := os }) (hi : StrsAre its.toList xs) (hb : xs.length + 1 < 4096)
    (hit : ∀ {A2 : Around} {E2 : Value → Shared → Prop} {s2 : Shared} {Q2 : Value → Shared → Prop}, s2.heap.get? l = some { cls := .type cn, dict := od, data := .seq its nl, slots := os } → Q2 (.ref s2.heap.objs.size) { s2 with heap := s2.heap.push { cls := .type ic, data := .fields #[.ref l, .int 0 0] } } → wpAny (model P w) A2 (pyIter (.ref l)) Q2 E2 s2)
    (hws : ∀ (A2 : Around) (I : Addr), A2.handled = none → l ≠ I → ∃ St : Nat → Shared → Prop, WalksS P w A2 I [I, l] [I] (fun a b => b = a) its.size (fun i v => its[i]? = some v) St ∧ ∀ s2 : Shared, s2.heap.get? I = some { cls := .type ic, data := .fields #[.ref l, .int 0 0] } → s2.heap.get? l = some { cls := .type cn, dict := od, data := .seq its nl, slots := os } → St 0 s2)
    (k : ∀ (h2 : Heap) (tk : Nat), SS1 P w h2 s.heap.objs.size xs xs.length → (∀ b o, b < s.heap.objs.size → s.heap.get? b = some o → h2.get? b = some o) → Q (.ref s.heap.objs.size) { s with heap := h2, toks := tk }) : wpAny (model P w) A (call (.type "set") [.ref l]) Q E s := by
  have hz : xs.length = its.size := by rw [← StrsAre.len_eq hi, Array.length_toList]
  obtain ⟨c0, t0, m0⟩ := PySem.F.called_set.mro
  have m1 := PySem.F.called_set.made; have m2 := PySem.F.called_set.sub
  refine wpAny_call (codeAny_of_tree (show wpAny _ _ (callAny (.type "set") _) _ _ _ from ?_))
  refine wpAny_pure ⟨Code.quiet_builtin _ (by decide +kernel), codeAny_builtin PySem.F.entry_type_call (by
    rw [Around.under_plain (weight_type_call_type "set" [.ref l] []) rfl]
    have m3 := PySem.F.called_set.notType; have m4 := PySem.F.called_set.canCreate; have m5 := PySem.F.typeCall_set_1 (.ref l)
    repeat (any_goals (first | assumption | wp_step))
    refine codeAny_mono (code_set_new_1 (.ref l) (E := E) (Q₁ := fun ob s1 => ∃ led : Bool, ob = .ref s.heap.objs.size ∧ s1 = { s with heap := s.heap.push (sObj led) }) fun led => ⟨led, rfl, rfl⟩) fun r s1 hr => ?_
    cases r with
    | error e => exact hr
    | ok fl =>
      cases fl with
      | ret ob =>
        obtain ⟨led, rfl, rfl⟩ := hr
        have g1 : (s.heap.push (sObj led)).get? s.heap.objs.size = some (sObj led) := Heap.get?_push_size _ rfl
        have g2 : Shared.TypeIs { s with heap := s.heap.push (sObj led) } (.ref s.heap.objs.size) "set" := ⟨_, g1, rfl⟩
        have m6 := PySem.F.called_set.init.lookup; have m7 := PySem.F.called_set.init.bind (.ref s.heap.objs.size)
        repeat (any_goals (first | assumption | wp_step))
        refine codeAny_mono (codeAny_call_builtin (R := wants (fun r s2 => r = .none ∧ ∃ h2 tk, s2 = { s with heap := h2, toks := tk } ∧ SS1 P w h2 s.heap.objs.size xs xs.length ∧ ∀ b o, b < s.heap.objs.size → s.heap.get? b = some o → h2.get? b = some o) E)
          PySem.F.called_set.init.plain PySem.F.entry_set_init (check_set_init_1 g2 ?_)) fun r2 s2 hr2 => ?_
        · have h1' : (s.heap.push (sObj led)).get? l = some { cls := .type cn, dict := od, data := .seq its nl, slots := os } := Heap.get?_push_of_some _ h1
          unfold Builtin.«set.__init__» noKeywords Builtin.Frozenset.updateFrom
          generalize hPI : pyIter = PI
          wp_walk
          subst hPI
          refine hit h1' (wpAny_bind (wpAny_runValue ?_))
          have lS : l < s.heap.objs.size := Heap.lt_size h1
          have h4 : A.in1.in1.in1.handled = none := by simp [hh]
          have ne1 : l ≠ (s.heap.push (sObj led)).objs.size := by rw [Heap.size_push]; exact Nat.ne_of_lt (Nat.lt_succ_of_lt lS)
          have ne2 : s.heap.objs.size ∉ [(s.heap.push (sObj led)).objs.size, l] := by
            rw [Heap.size_push]; simp only [List.mem_cons, List.not_mem_nil, or_false, not_or]
            exact ⟨Nat.ne_of_lt (Nat.lt_succ_self _), Nat.ne_of_gt lS⟩
          obtain ⟨St5, W5, st5⟩ := hws _ _ h4 ne1
          refine upd_texts W5 s.heap.objs.size ne2 xs hz (by omega) (fun i v hv => SS.strs_at hi i v (by rw [Array.getElem?_toList]; exact hv)) (its.size - 0) 0 _ (by omega) (Nat.zero_le _) (st5 _ (Heap.get?_push_size _ rfl) (Heap.get?_push_of_some _ h1')) ?z0 ?zR
          case z0 =>
            have g3 : ((s.heap.push (sObj led)).push { cls := .type ic, data := .fields #[.ref l, .int 0 0] }).get? s.heap.objs.size = some (sObj led) := Heap.get?_push_of_some _ g1
            exact PyProof.Rows.SetOf_congr ((PyProof.Rows.setObjOf_fresh (knd := PySem.strKind P w) led).setOf g3 (by unfold scanBound; omega)) (fun _ => rfl) rfl
          case zR =>
            rintro ⟨h5, g5, d5, t5, o5⟩ mv hs5
            obtain rfl : g5 = s.gens := mv.gens
            obtain rfl : d5 = s.drawn := mv.drawn
            obtain rfl : o5 = s.os := mv.os
            refine wpAny_pure (show wpAny _ _ (ret Value.none) _ _ _ from wpAny_pure ⟨rfl, h5, t5, rfl, by rw [hz]; exact hs5, fun b o hb e => ?_⟩)
            have b1 : b ≠ s.heap.objs.size := Nat.ne_of_lt hb
            have b2 : b ≠ (s.heap.push (sObj led)).objs.size := by rw [Heap.size_push]; exact Nat.ne_of_lt (Nat.lt_succ_of_lt hb)
            exact mv.heap b o (by simp only [List.mem_cons, List.not_mem_nil, or_false, not_or]; exact ⟨b1, b2⟩) (Heap.get?_push_of_some _ (Heap.get?_push_of_some _ e))
        · cases r2 with
          | error e => exact hr2
          | ok fl2 =>
            cases fl2 with
            | ret r =>
              obtain ⟨rfl, h2, tk, rfl, hs2, hk2⟩ := hr2
              repeat (any_goals (first | assumption | wp_step))
              exact k _ _ hs2 hk2
            | _ => exact hr2.elim
      | _ => exact hr.elim)⟩
theorem set_listS {l : Addr} {its : Array Value} {xs : List Str} {Q : Value → Shared → Prop} (hh : A.handled = none) (hl : s.heap.IsList l its) (hi : StrsAre its.toList xs) (hb : xs.length + 1 < 4096)
    (k : ∀ (h2 : Heap) (tk : Nat), SS1 P w h2 s.heap.objs.size xs xs.length → (∀ b o, b < s.heap.objs.size → s.heap.get? b = some o → h2.get? b = some o) → Q (.ref s.heap.objs.size) { s with heap := h2, toks := tk }) : wpAny (model P w) A (call (.type "set") [.ref l]) Q E s := by
  obtain ⟨⟨oc, od, oo, os⟩, h1, h2, nl, h3⟩ := hl
  simp only at h2 h3
  subst h2; subst h3
  exact set_seqS (ic := "list_iterator") PySem.F.sub_list_set PySem.F.sub_list_frozenset (by decide) hh h1 hi hb (fun h q => wpAny_pyIter_list ⟨_, h, rfl, nl, rfl⟩ q) (fun A2 I h4 ne => ⟨_, (Walks.list h4 I l ne its).toS, fun s2 a b => ⟨⟨_, a, rfl, rfl⟩, ⟨_, b, rfl, nl, rfl⟩⟩⟩) k
theorem set_tupleS {l : Addr} {its : Array Value} {xs : List Str} {Q : Value → Shared → Prop} (hh : A.handled = none) (hl : s.heap.IsTuple l its) (hi : StrsAre its.toList xs) (hb : xs.length + 1 < 4096)
    (k : ∀ (h2 : Heap) (tk : Nat), SS1 P w h2 s.heap.objs.size xs xs.length → (∀ b o, b < s.heap.objs.size → s.heap.get? b = some o → h2.get? b = some o) → Q (.ref s.heap.objs.size) { s with heap := h2, toks := tk }) : wpAny (model P w) A (call (.type "set") [.ref l]) Q E s := by
  obtain ⟨⟨oc, od, oo, os⟩, h1, h2, nl, h3⟩ := hl
  simp only at h2 h3
  subst h2; subst h3
  exact set_seqS (ic := "tuple_iterator") PySem.F.sub_tuple_set PySem.F.sub_tuple_frozenset (by decide) hh h1 hi hb (fun h q => wpAny_pyIter_tuple ⟨_, h, rfl, nl, rfl⟩ q) (fun A2 I h4 ne => ⟨_, (Walks.tuple h4 I l ne its).toS, fun s2 a b => ⟨⟨_, a, rfl, rfl⟩, ⟨_, b, rfl, nl, rfl⟩⟩⟩) k
end
def strsD : List D → Option (List Str)
  | [] => some []
  | .str z :: r => (strsD r).map (z :: ·)
  | _ :: _ => none
@[simp] theorem strsD_nil : strsD [] = some [] := rfl
@[simp] theorem strsD_cons (z : Str) (r : List D) : strsD (.str z :: r) = (strsD r).map (z :: ·) := rfl
theorem strsD_rep {I : Hp} : ∀ {vs : List V} {ds : List D} {zs : List Str}, Reps I vs ds → strsD ds = some zs → vs = zs.map V.str
  | _, _, _, .nil, e => by cases e; rfl
  | _, _, _, .cons (d := d) h r, e => by
    cases h with
    | str z hz =>
      rw [strsD_cons] at e
      cases e2 : strsD _ with
      | none => rw [e2] at e; cases e
      | some zs => rw [e2] at e; cases e; rw [strsD_rep r e2]; rfl
    | _ => cases e
def lenSetD (a : A) (S : Sx) : Res A := match itemsOf a with
  | some ds => (match strsD ds with
    | some zs => if zs.length + 1 < 4096 then .ok (.d (.int (distinct zs : Nat))) S else .stuck
    | none => .stuck)
  | none => .stuck
def isSeq : A → Bool
  | .d (.lst _) => true
  | .d (.tup _) => true
  | _ => false
def eLenSet (f : Fe) : Fe := fun ρ S => (f ρ S).bind fun a S1 => if isSeq a = true then lenSetD a S1 else .stuck
def tLenSetG (K : Frag) (ta : TE) : TE := fun σ H Q => ta σ H fun v H1 => ∃ l, ∃ xs : List Str, v = .ref l ∧ (SqL K H1 l (xs.map V.str) ∨ SqT K H1 l (xs.map V.str)) ∧ xs.length + 1 < 4096 ∧ Q (.int (distinct xs : Nat)) H1
section
variable {X : Cx} {x : Xc} {M : List Nat}
theorem pe_lenSetG {a : Expr} {ta : TE} {p p2 q pos : Pos} (hc : X.calm = true) (hg : Gl X "len") (hm : X.mg "len" = none) (hg2 : Gl X "set") (hm2 : X.mg "set" = none) (ha : PE X a ta)
    (na : starEach [a] X.env = (false, eval a X.env) :: starEach [] X.env) : PE X (.Call (.Name "len" p) [.Call (.Name "set" p2) [a] [] q] [] pos) (tLenSetG X.K ta) := by
  refine ⟨fun pins s σ H Q I h => Call_ (ld_blt I hg hm boot_len (PyProof.Rows.callWith_builtin1 (PyProof.Rows.args_cons (Call_ (ld_blt I hg2 hm2 boot_set ?_)) rfl) rfl rfl))⟩
  refine PyProof.Rows.callWith_type1 (PyProof.Rows.args_cons (thn (ha.run pins s σ H _ I h) fun v s1 ⟨y, H1, I1, r1, q1⟩ => PyProof.Rows.args_nil ?_) na) na rfl
  obtain ⟨l, xs, rfl, hq, hb, q1⟩ := q1
  cases r1
  have fin : ∀ (h2 : Heap) (tk : Nat), SS1 X.prog X.w h2 s1.heap.objs.size xs xs.length → (∀ b o, b < s1.heap.objs.size → s1.heap.get? b = some o → h2.get? b = some o) →
      wpAny (model X.prog X.w) X.A (spliced (backTo pos (starEach [] X.env))) (fun vs s2 => wpAny (model X.prog X.w) X.A (call (.builtin "len") (Value.ref s1.heap.objs.size :: vs)) (EP X pins σ Q) X.xe s2) X.xe { s1 with heap := h2, toks := tk } := fun h2 tk hS hk => by
    obtain ⟨o, es, ep, t, ho, hex, hd, _, _, _, hf, hn⟩ := hS
    have I2 : Inv X pins σ H1 { s1 with heap := h2, toks := tk } := I1.kept fun b o e => hk b o (Heap.lt_size e) e
    have le := ndU_le xs xs.length
    exact PyProof.Rows.args_nil (call_len_set ho hex hd hf (by rw [hn]; omega) ⟨.int (distinct xs : Nat), H1, I2.tok _, ⟨_, by rw [hn]; rfl⟩, q1⟩)
  rcases hq with hq | hq
  · obtain ⟨its, r, pl, hz⟩ := I1.list hq
    exact set_listS (I1.ok.hd hc) pl.isList (by simpa using strsAre_of r) hb fin
  · obtain ⟨its, r, pl, hz⟩ := I1.tuple hq
    exact set_tupleS (I1.ok.hd hc) pl (by simpa using strsAre_of r) hb fin
theorem ge_lenSet {a : Expr} {f : Fe} {p p2 q pos : Pos} (ha : GE X x M a f) (hm : X.mg "len" = none) (hm2 : X.mg "set" = none) (hc : X.calm = true := by rfl) (hg : Gl X "len" := by rfl) (hg2 : Gl X "set" := by rfl)
    (na : starEach [a] X.env = (false, eval a X.env) :: starEach [] X.env := by rfl) : GE X x M (.Call (.Name "len" p) [.Call (.Name "set" p2) [a] [] q] [] pos) (eLenSet f) := by
  refine PE.weak (pe_lenSetG hc hg hm hg2 hm2 ha na) ?_
  rintro σ H Q ⟨B, ρ, S, I, hot, R, h⟩
  refine ⟨B, ρ, S, I, hot, R, h.bind.mono ?_⟩
  rintro v H1 ⟨I1, S1, a1, R1, s1, r1, _, h1⟩
  cases r1 with
  | d r =>
    cases r with
    | @lst b vs ds hb hz hr =>
      have h2 : After X.K x B M σ ρ hot (RepA X.K hot) H1 I1 (match strsD ds with
        | some zs => if zs.length + 1 < 4096 then .ok (.d (.int (distinct zs : Nat))) S1 else .stuck
        | none => .stuck) Q := h1
      cases es : strsD ds with
      | none => rw [es] at h2; exact h2.elim
      | some zs =>
        rw [es] at h2
        dsimp only at h2
        split at h2
        · rename_i hl
          refine ⟨b, zs, rfl, .inl ?_, hl, h2.ok R1 (.d (.int _))⟩
          rw [← strsD_rep hr es]
          exact SqL.of (R1.wd.ext _ _ hb)
        · exact h2.elim
    | @tup b vs ds hb hz hr =>
      have h2 : After X.K x B M σ ρ hot (RepA X.K hot) H1 I1 (match strsD ds with
        | some zs => if zs.length + 1 < 4096 then .ok (.d (.int (distinct zs : Nat))) S1 else .stuck
        | none => .stuck) Q := h1
      cases es : strsD ds with
      | none => rw [es] at h2; exact h2.elim
      | some zs =>
        rw [es] at h2
        dsimp only at h2
        split at h2
        · rename_i hl
          refine ⟨b, zs, rfl, .inr ?_, hl, h2.ok R1 (.d (.int _))⟩
          rw [← strsD_rep hr es]
          exact hb.sq R1.wd.ext
        · exact h2.elim
    | _ => exact h1.elim
  | _ => exact h1.elim
end
end G
namespace G
open PySem PySem.Spec PyProof.Rows L2
open PySem.W (Frag)
open Classical

/-! ### a def -/
def outF (o : Out) : Res D := match o with
  | .nx _ S => .ok .non S
  | .rt d S => .ok d S
  | .xc c _ S => .exc c S
  | .stuck => .stuck
def runF (n m : Nat) (f : Fs) : Fn := fun as S => if as.length = n then outF (f (as.map some ++ List.replicate m none) S) else .stuck
theorem paired_len {K : Frag} {hot : List Addr} {I : Hp} : ∀ {vs : List V} {as : List A}, RepsA K hot I vs as → vs.length = as.length
  | _, _, .nil => rfl
  | _, _, .cons _ r => by simp [paired_len r]
theorem paired_get {K : Frag} {hot : List Addr} {I : Hp} : ∀ {vs : List V} {as : List A}, RepsA K hot I vs as → ∀ {i : Nat} {a : A}, as[i]? = some a → ∃ v, vs[i]? = some v ∧ RepA K hot I v a
  | _, _, .nil, i, a, e => by simp at e
  | _, _, .cons h r, 0, a, e => by simp at e; subst e; exact ⟨_, rfl, h⟩
  | _, _, .cons h r, i + 1, a, e => by
    obtain ⟨v, h1, h2⟩ := paired_get r (i := i) (a := a) (by simpa using e)
    exact ⟨v, by simpa using h1, h2⟩
theorem rel_start {K : Frag} {hot : List Addr} {I H : Hp} {S : Sx} {N : List Str} {vs : List V} {as : List A} {m : Nat} (w : Wld K H S I hot) (r : RepsA K hot I vs as) (hN : N.length = as.length + m) :
    Rel K ⟨H, I⟩ [] (L2.start N vs) H (as.map some ++ List.replicate m none) S I hot := by
  have hl := paired_len r
  have em : N.length - vs.length = m := by omega
  refine ⟨w, Stp.refl _ _ _, by unfold L2.start; simp; omega, fun i a e _ => ?_, fun i hi => by simp at hi, fun i hi => by simp at hi⟩
  unfold L2.start
  rw [em]
  by_cases hi : i < as.length
  · rw [List.getElem?_append_left (by rw [List.length_map]; exact hi), List.getElem?_map] at e
    rw [List.getElem?_append_left (by rw [List.length_map]; omega), List.getElem?_map]
    cases q : as[i]? with
    | none => rw [q] at e; cases e
    | some b =>
      rw [q] at e
      cases e
      obtain ⟨v, h1, h2⟩ := paired_get r q
      exact ⟨v, by rw [h1]; rfl, h2⟩
  · rw [List.getElem?_append_right (by rw [List.length_map]; omega), List.getElem?_replicate] at e
    split at e <;> cases e
/-- the wish of a def's body about exceptions -/
def xcE (E : XK) : Xc := ⟨fun cls d _ H => E cls d H, []⟩
abbrev DfD (K : Frag) (st : Stmt) (x : Str) (f : Addr) (fd : FuncData) : Prop := FunD K x x (defArgs st) (defBody st) (defScope st) [] [] f fd
/-- what a body's derivation is over -/
structure Bd (P : Program) (w : World) (K : Frag) (mg : Str → Option Value) (base : Heap) (k : Nat) (N : List Str) (x : Str) (sc : Scope) (body : List Stmt) (fs : Fs) : Prop where
  run : ∀ (f : Addr) (cdv : Value) (A : Around) (outer : List Env) (s : Shared) (H : Hp) (E : XK), Cq (cxOf (L2.CX P w) P w K mg base N x sc f cdv A outer s H E) (xcE E) k →
    PassesOwn (model P w) (cxOf (L2.CX P w) P w K mg base N x sc f cdv A outer s H E).A (cxOf (L2.CX P w) P w K mg base N x sc f cdv A outer s H E).env (cxOf (L2.CX P w) P w K mg base N x sc f cdv A outer s H E).xe →
    ∃ M', GSs (cxOf (L2.CX P w) P w K mg base N x sc f cdv A outer s H E) (xcE E) [] M' body fs
section
variable {P : Program} {w : World} {K : Frag} {mg : Str → Option Value} {base : Heap}
theorem fn_G {k n m : Nat} {st : Stmt} {x : Str} {f : Addr} {fd : FuncData} {N ps : List Str} {fs : Fs} (F : DfD K st x f fd) (S : FnScope N ps (defScope st)) (hn : ps.length = n) (hN : N.length = n + m) (b : Bd P w K mg base k N x (defScope st) (defBody st) fs) :
    FnOk P w K mg base (L2.CX P w) (k + 1) f fd ps (spOf K (runF n m fs)) := by
  refine FunD.ok (CX := L2.CX P w) F S (fun vs H Q E h => ?_) fun cdv A outer s H vs Q E hr h => ?_
  · obtain ⟨as, S1, I, hot, w1, r, h⟩ := h
    unfold runF at h
    split at h
    · rename_i q
      split at q
      · rename_i hl; rw [paired_len r, hl, hn]
      · cases q
    · rename_i q
      split at q
      · rename_i hl; rw [paired_len r, hl, hn]
      · cases q
    · exact h.elim
  · have T : Takes (cxOf (L2.CX P w) P w K mg base N x (defScope st) f cdv A outer s H E) (xcE E).W := takes_of rfl rfl rfl rfl
    obtain ⟨M', g⟩ := b.run f cdv A outer s H E ⟨hr, T⟩ (passes_of rfl)
    refine ⟨_, g, ?_⟩
    obtain ⟨as, S1, I, hot, w1, r, h⟩ := h
    unfold runF at h
    by_cases hl : as.length = n
    · rw [if_pos hl] at h
      refine ⟨⟨H, I⟩, as.map some ++ List.replicate m none, S1, I, hot, rel_start w1 r (by rw [hN, hl]), ?_⟩
      cases e : fs (as.map some ++ List.replicate m none) S1 with
      | nx ρ2 S2 => rw [e] at h; exact fun σ' H' I' _ R' => h .non H' I' R'.st R'.wd .non
      | rt d S2 => rw [e] at h; exact fun v H' I' st w rv => h v H' I' st w rv
      | xc c ρ2 S2 => rw [e] at h; exact fun σ' H' I' R' => h H' I' R'.st R'.wd
      | stuck => rw [e] at h; exact h.elim
    · rw [if_neg hl] at h
      exact h.elim
/-- where a def stands -/
structure At (K : Frag) (mg : Str → Option Value) (st : Stmt) (x : Str) (ps : List Str) : Prop where
  ex : ∃ f fd, DfD K st x f fd ∧ mg x = some (.ref f) ∧ Binds K fd ps []
theorem callee_G {k n m : Nat} {st : Stmt} {x : Str} {N ps : List Str} {fs : Fs} (a : At K mg st x ps) (S : FnScope N ps (defScope st)) (hn : ps.length = n) (hN : N.length = n + m) (b : Bd P w K mg base k N x (defScope st) (defBody st) fs) : Callee P w K mg base (k + 1) x (runF n m fs) := by
  obtain ⟨f, fd, F, hm, hb⟩ := a.ex
  exact ⟨f, fd, ps, fn_G F S hn hN b, hm, F.kp, hb⟩
theorem callee_0 {st : Stmt} {x : Str} {ps : List Str} (a : At K mg st x ps) : Callee P w K mg base 0 x (fun _ _ => .stuck) := by
  obtain ⟨f, fd, F, hm, hb⟩ := a.ex
  refine ⟨f, fd, ps, ⟨fun vs H Q E h => ?_, fun A outer s H args us vs Q E _ _ _ _ h => ?_⟩, hm, F.kp, hb⟩
  · obtain ⟨_, _, _, _, _, _, h⟩ := h; exact h.elim
  · obtain ⟨_, _, _, _, _, _, h⟩ := h; exact h.elim
end
end G
namespace G
open PySem L2
open PySem.W (Frag)
open Classical

/-! ### the law's own def: town = [], then the rest -/
def spLaw (K : Frag) : Sp := fun vs H Q _ => ∃ (a : Addr) (ns : List Int), vs = [.ref a] ∧ SqL K H a (ns.map V.int) ∧ ns.length ≤ 63 ∧ ∀ H', Q (.bl true) H'
section
variable {P : Program} {w : World} {K : Frag} {mg : Str → Option Value} {base : Heap}
theorem law_G {k m : Nat} {st : Stmt} {f : Addr} {fd : FuncData} {N : List Str} {fs : Fs} {p1 p2 p3 : Pos} {rest : List Stmt} (F : DfD K st "law" f fd) (Sc : FnScope N ["script"] (defScope st)) (hN : N.length = 2 + m) (ht : N[1]? = some ("town" : Str))
    (hl : Loc (defScope st) "town") (eb : defBody st = .Assign [.Name "town" p1] (.List [] p2) p3 :: rest)
    (hs : ∀ (fa : Addr) (cdv : Value) (A : Around) (outer : List Env) (s : Shared) (H : Hp) (E : XK), swapsWith (.List [] p2) (some (.Name "town" p1)) p3.line (cxOf (L2.CX P w) P w K mg base N "law" (defScope st) fa cdv A outer s H E).env = pure false)
    (b : Bd P w K mg base k N "law" (defScope st) rest fs)
    (mt : ∀ ns : List Int, ns.length ≤ 63 → ∃ S, outF (fs (some (.scr ns) :: some (.hot 0) :: List.replicate m none) [.zs 0]) = .ok (.bl true) S) : FnOk P w K mg base (L2.CX P w) (k + 1) f fd ["script"] (spLaw K) := by
  refine FunD.ok (CX := L2.CX P w) F Sc (fun vs H Q E h => ?_) fun cdv A outer s H vs Q E hr h => ?_
  · obtain ⟨a, ns, rfl, _⟩ := h; rfl
  · have T : Takes (cxOf (L2.CX P w) P w K mg base N "law" (defScope st) f cdv A outer s H E) (xcE E).W := takes_of rfl rfl rfl rfl
    obtain ⟨M', g⟩ := b.run f cdv A outer s H E ⟨hr, T⟩ (passes_of rfl)
    rw [eb]
    refine ⟨_, pss_cons (ps_set (i := 1) Sc.nd ht hl (pe_lst pa_nil) (hs f cdv A outer s H E) (.inl rfl)) g, ?_⟩
    obtain ⟨a, ns, rfl, hS, h63, hQ⟩ := h
    refine ⟨Nat.zero_le _, fun p hp => ?_⟩
    have e0 : L2.start N [.ref a] = some (.ref a) :: List.replicate (1 + m) none := by
      unfold L2.start
      have : N.length - [V.ref a].length = 1 + m := by simp; omega
      rw [this]; rfl
    rw [e0]
    have e1 : (some (V.ref a) :: List.replicate (1 + m) none).set 1 (some (V.ref p)) = some (.ref a) :: some (.ref p) :: List.replicate m none := by
      rw [Nat.add_comm, List.replicate_succ]; rfl
    show sOf K (xcE E) [] M' fs _ ((some (V.ref a) :: List.replicate (1 + m) none).set 1 (some (V.ref p))) (upd H p (.lst []))
    rw [e1]
    obtain ⟨S2, e2⟩ := mt ns h63
    refine ⟨⟨upd H p (.lst []), H⟩, some (.scr ns) :: some (.hot 0) :: List.replicate m none, [.zs 0], H, [p], ⟨⟨upd_ext hp, rfl, fun k b hv h1 h2 => ?_, fun b hb => ?_, by simp⟩, Stp.refl _ _ _, by simp, fun i d h1 _ => ?_, fun i hi => by simp at hi, fun i hi => by simp at hi⟩, ?_⟩
    · cases k with
      | zero => simp at h1 h2; subst h1; subst h2; exact upd_same
      | succ k => simp at h1
    · simp at hb; subst hb; exact hp
    · match i, h1 with
      | 0, h1 => simp at h1; subst h1; exact ⟨_, rfl, .scr hS⟩
      | 1, h1 => simp at h1; subst h1; exact ⟨_, rfl, .hot rfl⟩
      | i + 2, h1 =>
        simp only [List.getElem?_cons_succ, List.getElem?_replicate] at h1
        split at h1 <;> cases h1
    · cases e : fs (some (.scr ns) :: some (.hot 0) :: List.replicate m none) [.zs 0] with
      | nx ρ2 S3 => rw [e] at e2; cases e2
      | rt d S3 =>
        rw [e] at e2
        cases e2
        intro v H' I' _ _ rv
        cases rv
        exact hQ H'
      | xc c ρ2 S3 => rw [e] at e2; cases e2
      | stuck => rw [e] at e2; cases e2
theorem cx_no {H : Hp} {s : Shared} {e : Value} {s' : Shared} (h : L2.CX P w [] H s (fun _ _ _ => False) e s') : False := by
  obtain ⟨_, _, _, _, _, _, _, _, _, _, _, _, z⟩ := h
  exact z
/-- what a def lets out, whatever the world -/
def CX1 : CXT := fun outer H s E u s' => ∃ (P : Program) (w : World), L2.CX P w outer H s E u s'
theorem fn_cx1 {k : Nat} {f : Addr} {fd : FuncData} {ps : List Str} {sp : Sp} (F : FnOk P w K mg base (L2.CX P w) k f fd ps sp) : FnOk P w K mg base CX1 k f fd ps sp := by
  refine ⟨F.len, fun A outer s H args us vs Q E hr he hb hv hs => codeAny_mono (F.run A outer s H args us vs Q E hr he hb hv hs) fun r s' h => ?_⟩
  cases r with
  | ok v => cases v <;> exact h
  | error e => exact ⟨P, w, h⟩
theorem cx1_no {H : Hp} {s : Shared} {e : Value} {s' : Shared} (h : CX1 [] H s (fun _ _ _ => False) e s') : False := by
  obtain ⟨_, _, h⟩ := h
  exact cx_no h
end
end G
namespace G
open PySem L2
open PySem.W (Frag)
open Classical

/-! ### facts of the head -/
theorem find_ent (z : Str) : ∀ {l : List DictEntry} {tab : List (Str × Int)}, l.map entB = tab.map some →
    (match tab.find? (fun p => decide (p.1 = z)) with
      | some p => ∃ e t, l.find? (fun e => e.key.isStr z) = some e ∧ e.val = .int p.2 t
      | none => l.find? (fun e => e.key.isStr z) = none) ∧ l.any (fun e => e.refKey) = false
  | [], [], _ => ⟨rfl, rfl⟩
  | [], _ :: _, h => by cases h
  | _ :: _, [], h => by cases h
  | e :: l, p :: tab, h => by
    have h1 : entB e = some p ∧ l.map entB = tab.map some := by simpa using h
    obtain ⟨h2, h3⟩ := h1
    obtain ⟨i1, i2⟩ := find_ent z h3
    unfold entB at h2
    split at h2
    · rename_i x t i u ek ev
      cases h2
      have er : e.refKey = false := by unfold DictEntry.refKey; rw [ek]
      have es : e.key.isStr z = decide (x = z) := by
        rw [ek]; unfold Value.isStr; simp [Bool.beq_eq_decide_eq]
      refine ⟨?_, by rw [List.any_cons, er, i2]; rfl⟩
      by_cases q : x = z
      · simp only [List.find?_cons, es, q, decide_true]
        exact ⟨e, u, rfl, ev⟩
      · simp only [List.find?_cons, es, q, decide_false]
        exact i1
    · cases h2
theorem tabl_of {K : Frag} {w : World} {a : Str} {tab : List (Str × Int)} (h1 : ∃ es n, KDict K w (He.ga K a) es n) (h2 : tabB a tab K = true) : Tabl K w (He.ga K a) tab := by
  refine ⟨h1, fun z => ?_⟩
  unfold tabB at h2
  unfold PySem.W.nsIn
  split at h2
  · rename_i es _ _ el
    rw [el]
    obtain ⟨f1, f2⟩ := find_ent z (of_decide_eq_true h2)
    dsimp only
    cases q : tab.find? (fun p => decide (p.1 = z)) with
    | none =>
      rw [q] at f1
      dsimp only at f1
      rw [f1]
      refine ⟨none, ?_, rfl⟩
      dsimp only
      rw [f2]; rfl
    | some p =>
      rw [q] at f1
      obtain ⟨e, t, f3, f4⟩ := f1
      rw [f3]
      exact ⟨some e.val, rfl, t, by rw [f4]⟩
  · cases h2
theorem exc_of {K : Frag} {h : Heap} {mg : Str → Option Value} {c : Str} (X : K.In h) (Gn : h.Ns mainGlobals mg) (h1 : (He.Fa.exc c).ok K = true) (h2 : (He.Fa.glo c).ok K = true) : ExcOk K mg c := by
  obtain ⟨a, b, d, e⟩ := He.exc_ok h1
  exact ⟨a, He.glo_ok X Gn h2, b, d, e⟩
end G
namespace G
open PySem PySem.Spec L2 PyProof.Rows HT
open PySem.W (Frag)
open Classical

/-! ### t[::-1] of a tuple -/
section
variable {P : Program} {w : World} {A : Around} {E : Value → Shared → Prop} {s : Shared}
theorem places_rev (n : Nat) : Builtin.Slice.slicePlaces ((n : Int) - 1) (-1) (-1) = n := by
  unfold Builtin.Slice.slicePlaces
  rw [if_neg (by decide)]
  by_cases h : (n : Int) - 1 > -1
  · rw [if_pos h, show (- (-1 : Int)) = 1 from rfl, Int.ediv_one]; omega
  · rw [if_neg h]; omega
theorem applied_rev {sl : Addr} {vl vu vs : Value} {n : Nat} {Q : Int × Int × Nat → Shared → Prop} (hs : s.heap.IsSliceOf sl vl vu vs) (pl : IsPart vl none) (pu : IsPart vu none) (ps : IsPart vs (some (-1))) (h : Q ((n : Int) - 1, -1, n) s) :
    wpAny (model P w) A (Builtin.Slice.sliceApplied (.ref sl) (pure (n : Int))) Q E s := by
  obtain ⟨o, ho, hc, hd⟩ := id hs
  unfold Builtin.Slice.sliceApplied Builtin.Slice.sliceFields
  refine wpAny_bind (wpAny_bind (wpAny_field ho hd (x := vl) rfl (wpAny_bind (wpAny_field ho hd (x := vu) rfl (wpAny_bind (wpAny_field ho hd (x := vs) rfl (wpAny_pure ?_)))))))
  refine wpAny_bind (slicePart_ ps ?_)
  show wpAny _ _ (if ((-1 : Int) == 0) = true then _ else _) _ _ s
  rw [if_neg (by decide)]
  refine wpAny_bind (slicePart_ pl (wpAny_bind (slicePart_ pu (wpAny_bind (wpAny_pure ?_)))))
  show wpAny _ _ (pure ((n : Int) - 1, (-1 : Int), Builtin.Slice.slicePlaces ((n : Int) - 1) (-1) (-1))) _ _ s
  rw [places_rev]
  exact wpAny_pure h
theorem fm_map {α β : Type} {f : α → Option β} {g : α → β} : ∀ {l : List α}, (∀ x ∈ l, f x = some (g x)) → l.filterMap f = l.map g
  | [], _ => rfl
  | x :: l, h => by rw [List.filterMap_cons, h x List.mem_cons_self, List.map_cons, fm_map fun y hy => h y (List.mem_cons_of_mem _ hy)]
theorem pick_rev (xs : Array Value) : ((List.range xs.size).filterMap fun (m : Nat) => xs[((xs.size : Int) - 1 + (m : Int) * (-1)).toNat]?).toArray = xs.toList.reverse.toArray := by
  congr 1
  refine List.ext_getElem? fun i => ?_
  have e : ((List.range xs.size).filterMap fun (m : Nat) => xs[((xs.size : Int) - 1 + (m : Int) * (-1)).toNat]?) = (List.range xs.size).map fun m => xs.getD (xs.size - 1 - m) .none := by
    refine fm_map fun m hm => ?_
    rw [List.mem_range] at hm
    have e1 : ((xs.size : Int) - 1 + (m : Int) * (-1)).toNat = xs.size - 1 - m := by omega
    have hl : xs.size - 1 - m < xs.size := by omega
    rw [e1]
    simp [hl]
  rw [e]
  by_cases hi : i < xs.size
  · have hl : xs.size - 1 - i < xs.size := by omega
    rw [List.getElem?_map, List.getElem?_range hi, List.getElem?_reverse (by simpa using hi)]
    simp [hl]
  · rw [List.getElem?_eq_none (by simp; omega), List.getElem?_eq_none (by simp; omega)]
theorem item_rev {t sl : Addr} {items : Array Value} {vl vu vs : Value} {Q : Value → Shared → Prop} (ht : IsTup s.heap t items) (hs : s.heap.IsSliceOf sl vl vu vs) (pl : IsPart vl none) (pu : IsPart vu none) (ps : IsPart vs (some (-1)))
    (h : Q (.ref s.heap.objs.size) { s with heap := s.heap.push { cls := .type "tuple", data := .seq items.toList.reverse.toArray } }) (hz : items.size ≤ sizeLine) : wpAny (model P w) A (getItem (.ref t) (.ref sl)) Q E s := by
  have ok : sizeOk (.seq items.toList.reverse.toArray) := by
    show items.toList.reverse.toArray.size ≤ sizeLine
    rw [List.size_toArray, List.length_reverse, Array.length_toList]; exact hz
  obtain ⟨o, ho, hc, hd⟩ := id hs
  have ty : s.TypeIs (.ref sl) "slice" := ⟨o, ho, hc⟩
  unfold getItem
  try with_reducible refine wpAny_holding ?_
  first | refine wpAny_bind (wpAny_pure ?_) | skip
  refine wpAny_bind (wpAny_sequenceKey ht.typeIs (by decide) (wpAny_bind (wpAny_callSpecial?_slot (name := Str.ofString "__getitem__") ht.typeIs PyProof.Rows.slot_tuple_getitem (wpAny_call_entry PyProof.Rows.slot_tuple_getitem ht.typeIs entry_tuple_getitem ?_ (args_tuple_getitem _ _)))))
  show wpAny _ _ (Builtin.Tuple.tupleItemsOf (.ref t) >>= _) _ _ s
  refine wpAny_bind (tupleItemsOf_ ht (wpAny_bind (wpAny_typeOf ty ?_)))
  rw [if_pos (by decide)]
  refine wpAny_bind (applied_rev hs pl pu ps ?_)
  show wpAny _ _ (if (((items.size : Int) - 1) == 0 && (-1 : Int) == 1 && items.size == items.size) = true then _ else _) _ _ s
  rw [if_neg (by simp), pick_rev]
  first
    | exact wpAny_bind (m := Builtin.Tuple.tupleExact _) (wpAny_newObj_type (wpAny_pure ⟨_, rfl, wpAny_pure h⟩) ok)
    | exact wpAny_bind (m := Builtin.Tuple.tupleExact _) (wpAny_newObj_type (wpAny_bind (wpAny_pure (wpAny_pure ⟨_, rfl, wpAny_pure h⟩))) ok)
    | exact wpAny_bind (wpAny_bind (m := Builtin.Tuple.tupleExact _) (wpAny_newObj_type (wpAny_pure (wpAny_pure ⟨_, rfl, wpAny_pure h⟩)) ok))
    | exact wpAny_bind (wpAny_bind (m := Builtin.Tuple.tupleExact _) (wpAny_newObj_type (wpAny_pure ⟨_, rfl, wpAny_pure h⟩) ok))
end
def tRevT (K : Frag) (te : TE) : TE := fun σ H Q => te σ H fun v H1 => ∃ a xs, v = .ref a ∧ SqT K H1 a xs ∧ ∀ p ob, H1 p = none → ob.dict = none → Q (.ref p) (upd H1 p (.frz ob (.tup xs.reverse)))
section
variable {X : Cx} {x : Xc} {M : List Nat}
theorem pe_revT {e : Expr} {te : TE} {k : Nat} {p1 p2 p3 pos : Pos} (he : PE X e te) : PE X (.Subscript e (.Slice none none (some (.UnaryOp .USub (.Constant (.int 1) k p1) p2)) p3) pos) (tRevT X.K te) := by
  refine ⟨fun pins s σ H Q I h => Subscript_ (thn (he.run pins s σ H _ I h) fun v s1 ⟨y, H1, I1, r1, a, xs, ey, hx, q⟩ => ?_)⟩
  subst ey
  cases r1
  have st : PO X (some (.UnaryOp .USub (.Constant (.int 1) k p1) p2)) (tPart (tUn (rU fun i => .int (-i)) (tC (.int 1)))) := po_some (pe_un un_neg pe_int)
  refine wpAny_Slice (thn (po_none.run pins s1 σ H1 (fun o G2 => o = none ∧ G2 = H1) I1 ⟨rfl, rfl⟩) fun vl s2 ⟨l, H2, I2, pl, el, e2⟩ => ?_)
  subst el e2
  refine thn (po_none.run pins s2 σ H2 (fun o G3 => o = none ∧ G3 = H2) I2 ⟨rfl, rfl⟩) fun vu s3 ⟨u, H3, I3, pu, eu, e3⟩ => ?_
  subst eu e3
  refine thn (st.run pins s3 σ H3 (fun o G4 => o = some (-1) ∧ G4 = H3) I3 ⟨1, rfl, -1, rfl, rfl, rfl⟩) fun vs s4 ⟨o, H4, I4, ps, eo, e4⟩ => ?_
  subst eo e4
  have I5 := I4.kept (h' := s4.heap.push { cls := .type "slice", data := .fields #[vl, vu, vs] }) (t' := s4.toks) fun b ob q => Heap.get?_push_of_some _ q
  obtain ⟨its, r, ht, hz⟩ := I5.tuple hx
  have hl := r.length
  refine tail_any (ops := [.ref a, .ref s4.heap.objs.size]) ht.typeIs PyProof.Rows.slot_tuple_getitem.lookup (item_rev ht (Heap.IsSliceOf.new _ vl vu vs) pl pu ps ?_ (by rw [List.size_toArray]; omega)) (by with_unfolding_all rfl)
  refine ⟨.ref _, _, I5.laid (t' := s4.toks) (o := .frz _ (.tup xs.reverse)) (fun b ob q => Heap.get?_push_of_some _ q) (Nat.le_refl _) ⟨Heap.get?_push_size _ rfl, by rw [List.length_reverse]; exact hz, its.reverse, r.reverse, IsTup.new _ _⟩, rfl, q _ _ (I5.hok.fresh (Nat.le_refl _)) rfl⟩
def revX : D → Option D
  | .lst xs => some (.lst xs.reverse)
  | .tup xs => some (.tup xs.reverse)
  | _ => none
def eRevX (f : Fe) : Fe := fun ρ S => (f ρ S).bind fun a S1 => match a with
  | .d u => ofO (revX u) S1
  | _ => .stuck
theorem ge_revX {e : Expr} {f : Fe} {k : Nat} {p1 p2 p3 pos : Pos} (he : GE X x M e f) : GE X x M (.Subscript e (.Slice none none (some (.UnaryOp .USub (.Constant (.int 1) k p1) p2)) p3) pos) (eRevX f) := by
  refine PE.weak (PE.or (pe_revL he) (pe_revT he)) ?_
  rintro σ H Q ⟨B, ρ, S, I, hot, R, h⟩
  by_cases k1 : kindOf (f ρ S) = 1
  · refine .inl ⟨B, ρ, S, I, hot, R, h.bind.mono ?_⟩
    rintro v H1 ⟨I1, S1, a, R1, s1, r1, e1, h1⟩
    rw [e1] at k1
    cases r1 with
    | d q =>
      cases q with
      | lst hp n hr => exact ⟨_, _, rfl, SqL.of (R1.wd.ext _ _ hp), fun p hz => After.new (S := S1) h1 R1 hz (.d (.lst upd_same (by rw [List.length_reverse]; exact n) (hr.reverse.ext (upd_ext (R1.wd.none hz).1))))⟩
      | _ => simp [kindOf] at k1
    | _ => simp [kindOf] at k1
  · refine .inr ⟨B, ρ, S, I, hot, R, h.bind.mono ?_⟩
    rintro v H1 ⟨I1, S1, a, R1, s1, r1, e1, h1⟩
    rw [e1] at k1
    cases r1 with
    | d q =>
      cases q with
      | tup hp n hr => exact ⟨_, _, rfl, hp.sq R1.wd.ext, fun p ob hz hob => After.new (S := S1) h1 R1 hz (.d (.tup (TupIn.new hob) (by rw [List.length_reverse]; exact n) (hr.reverse.ext (upd_ext (R1.wd.none hz).1))))⟩
      | lst _ _ _ => exact absurd rfl k1
      | _ => exact h1.elim
    | _ => exact h1.elim
/-! ### sum -/
def intsOf : List D → Option (List Int)
  | [] => some []
  | .int i :: r => (intsOf r).map (i :: ·)
  | _ :: _ => none
@[simp] theorem intsOf_map (ns : List Int) : intsOf (ns.map .int) = some ns := by
  induction ns with
  | nil => rfl
  | cons b r ih => simp [intsOf, ih]
theorem ints_reps {I : Hp} : ∀ {vs : List V} {ds : List D} {ns : List Int}, Reps I vs ds → intsOf ds = some ns → vs = ns.map V.int
  | _, _, _, .nil, e => by cases e; rfl
  | _, _, _, .cons h r, e => by
    cases h with
    | int i =>
      simp only [intsOf] at e
      cases e2 : intsOf _ with
      | none => rw [e2] at e; cases e
      | some ns => rw [e2] at e; cases e; rw [ints_reps r e2]; rfl
    | _ => cases e
def sumG (_ : Sx) : List A → Option D
  | [.d (.lst ds)] => (intsOf ds).map fun ns => .int ns.sum
  | _ => none
theorem cg_sum {K : Frag} : CallG K (rSum K) sumG := by
  intro y B M σ H ρ S I hot vs as d Q R r e q
  unfold sumG at e
  split at e
  · rename_i ds
    cases e2 : intsOf ds with
    | none => rw [e2] at e; cases e
    | some ns =>
      rw [e2] at e; cases e
      obtain ⟨v, rfl, h⟩ := paired1 r
      have h := h.dat
      cases h with
      | lst hp n hr =>
        refine ⟨_, ns, rfl, ?_, q.ok R (.d (.int _))⟩
        rw [← ints_reps hr e2]
        exact SqL.of (R.wd.ext _ _ hp)
  · cases e
end
end G
namespace G
open PySem L2
open PySem.W (Frag)
open Classical

/-! ### dict(xs), xs a dict or a list of pairs -/
def mergeD (acc : List (Key × D)) (kvs : List (Key × D)) : List (Key × D) := kvs.foldl (fun a kv => putD a kv.1 kv.2) acc
def pairsOf : List D → Option (List (Key × D))
  | [] => some []
  | .tup [k, v] :: r => (keyD k).bind fun key => (pairsOf r).map ((key, v) :: ·)
  | _ :: _ => none
theorem pairs_reps {K : Frag} {H I : Hp} (e : Ext I H) : ∀ {vs : List V} {ds : List D} {kvs : List (Key × D)}, Reps I vs ds → pairsOf ds = some kvs → ∃ (ps : List Addr) (ws : List (Key × V)), vs = ps.map V.ref ∧ Paired (fun p kv => SqT K H p [kV kv.1, kv.2]) ps ws ∧ Repk I ws kvs
  | _, _, _, .nil, q => by cases q; exact ⟨[], [], rfl, .nil, .nil⟩
  | _, _, _, .cons (d := d) (ds := ds) h r, q => by
    unfold pairsOf at q
    split at q
    · rename_i e0; cases e0
    · rename_i k v r' e1
      cases e1
      cases h with
      | @tup a us _ hp n hr =>
        cases hr with
        | @cons uk _ _ _ h1 hr2 =>
          cases hr2 with
          | @cons uv _ _ _ h2 hr3 =>
            cases hr3
            cases ek : keyD k with
            | none => rw [ek] at q; cases q
            | some key =>
              rw [ek] at q
              dsimp only [Option.bind_some] at q
              cases ep : pairsOf ds with
              | none => rw [ep] at q; cases q
              | some kvs2 =>
                rw [ep] at q
                cases q
                obtain ⟨ps, ws, rfl, g1, g2⟩ := pairs_reps e r ep
                have ev := keyD_rep h1 ek
                subst ev
                exact ⟨a :: ps, (key, uv) :: ws, rfl, .cons (hp.sq e) g1, .cons (keyD_ok h1 ek) h2 g2⟩
    · cases q
theorem merge_rep {I : Hp} : ∀ {ws : List (Key × V)} {kvs : List (Key × D)} {wa : List (Key × V)} {ka : List (Key × D)}, Repk I ws kvs → Repk I wa ka → Repk I (mergeK wa ws) (mergeD ka kvs)
  | _, _, _, _, .nil, h => h
  | _, _, _, _, .cons (k := k) (v := v) (ws := ws) (d := d) (kvs := kvs) z hv r, h => show Repk I (mergeK (putK _ k v) ws) (mergeD (putD _ k d) kvs) from merge_rep r (repk_put z hv h)
def nDictX (f : Fe) : Fd := fun ρ S => (f ρ S).bind fun a S1 => match a with
  | .d (.dct kvs) => .ok (.dct kvs) S1
  | .d (.lst ds) => (match pairsOf ds with
    | some kvs => .ok (.dct (mergeD [] kvs)) S1
    | none => .stuck)
  | _ => .stuck
section
variable {X : Cx} {x : Xc} {M : List Nat}
theorem gn_dictX {e : Expr} {f : Fe} {p pos : Pos} (he : GE X x M e f) (hm : X.mg "dict" = none) (hc : X.calm = true := by rfl) (hgl : Gl X "dict" := by rfl) (hs : starEach [e] X.env = (false, eval e X.env) :: starEach [] X.env := by rfl) (hpl : (backTo pos (starEach [] X.env)).any (·.1) = false := by rfl) :
    GN X x M (.Call (.Name "dict" p) [e] [] pos) (nDictX f) := by
  refine PE.weak (PE.or (pe_callTy call_dictD hgl hm PyProof.Rows.boot_dict (pa_cons he pa_nil hs) (by decide) (by decide) hs hpl) (pe_callTy (call_dictP hc) hgl hm PyProof.Rows.boot_dict (pa_cons he pa_nil hs) (by decide) (by decide) hs hpl)) ?_
  rintro σ H Q ⟨B, ρ, S, I, hot, R, h⟩
  by_cases k1 : kindOf (f ρ S) = 1
  · refine .inr ⟨B, ρ, S, I, hot, R, (NAfter.bind h).mono ?_⟩
    rintro v H1 ⟨I1, S1, a, R1, s1, r1, e1, h1⟩
    rw [e1] at k1
    cases r1 with
    | d q =>
      cases q with
      | @lst b vs ds hb hz hr =>
        have h2 : NAfter X.K x B M σ ρ hot H1 I1 (match pairsOf ds with
          | some kvs => .ok (.dct (mergeD [] kvs)) S1
          | none => .stuck) Q := h1
        cases ep : pairsOf ds with
        | none => rw [ep] at h2; exact h2.elim
        | some kvs =>
          rw [ep] at h2
          obtain ⟨ps, ws, rfl, g1, g2⟩ := pairs_reps (K := X.K) R1.wd.ext hr ep
          refine ⟨b, ps, ws, rfl, SqL.of (R1.wd.ext _ _ hb), g1, fun p hp => NAfter.new (S := S1) h2 R1 hp (.inr ⟨_, _, rfl, rfl, ?_, merge_rep g2 .nil⟩)⟩
          have := length_mergeK ws []
          have l1 : ps.length = ws.length := Paired.length g1
          simp at this hz
          simp
          omega
      | _ => simp [kindOf] at k1
    | _ => simp [kindOf] at k1
  · refine .inl ⟨B, ρ, S, I, hot, R, (NAfter.bind h).mono ?_⟩
    rintro v H1 ⟨I1, S1, a, R1, s1, r1, e1, h1⟩
    rw [e1] at k1
    cases r1 with
    | d q =>
      cases q with
      | @dct d ws kvs hr hz hk => exact ⟨d, ws, rfl, R1.wd.ext.rd hr, fun p hp => NAfter.new (S := S1) h1 R1 hp (.inr ⟨ws, kvs, rfl, rfl, hz, hk⟩)⟩
      | lst _ _ _ => exact absurd rfl k1
      | _ => exact h1.elim
    | _ => exact h1.elim
end
end G
namespace G
open PySem L2
open PySem.W (Frag)
open Classical

/-! ### while -/
def whileF (t : Ft) (f : Fs) : Nat → Fs
  | 0, _, _ => .stuck
  | n + 1, ρ, S => match t ρ S with
    | .ok b S1 => if b = true then (match f ρ S1 with
      | .nx ρ2 S2 => whileF t f n ρ2 S2
      | o => o) else .nx ρ S1
    | .exc c S1 => .xc c ρ S1
    | .stuck => .stuck
def sWhile (t : Ft) (f : Fs) : Fs := whileF t f 1000000000
section
variable {X : Cx} {x : Xc} {M : List Nat} {k : Nat}
theorem while_out {K : Frag} {B : Bs} {hot : List Addr} {D : Ends} {t : Ft} {f : Fs} {n : Nat} {I : Hp} {ρ : Rho} {S : Sx} (h : OutOk K x B M hot I D (whileF t f n ρ S)) : ∃ m, n = m + 1 := by
  cases n with
  | zero => exact h.elim
  | succ m => exact ⟨m, rfl⟩
theorem gs_while {c : Expr} {body : List Stmt} {t : Ft} {f : Fs} {pos : Pos} (hp : PassesOwn (model X.prog X.w) X.A X.env X.xe) (hc : GT X x M c t) (hb : GSs X x M M body f) : GS X x M M (.While c body [] pos) (sWhile t f) := by
  refine PS.weak (ps_while hp hc hb) ?_
  rintro D σ H ⟨B, ρ, S, I, hot, R, h⟩
  refine ⟨fun m σ' H' => ∃ I' S' ρ', Rel X.K B M σ' H' ρ' S' I' hot ∧ OutOk X.K x B M hot I' D (whileF t f m ρ' S'), ⟨1000000000, I, S, ρ, R, h⟩, ?_⟩
  rintro m σ' H' ⟨I', S', ρ', R', h'⟩
  obtain ⟨n, rfl⟩ := while_out h'
  refine ⟨B, ρ', S', I', hot, R', ?_⟩
  unfold whileF at h'
  cases e : t ρ' S' with
  | stuck => rw [e] at h'; exact h'.elim
  | exc cl S1 => rw [e] at h'; exact fun σ2 H2 I2 e2 R2 => by subst e2; exact h' _ H2 I2 R2
  | ok b S1 =>
    rw [e] at h'
    intro v H2 I2 R2 s2 ev
    cases (show v = b from ev)
    cases b with
    | false => exact (show OutOk X.K x B M hot I' D (.nx ρ' S1) from h') σ' H2 I2 s2.ext R2
    | true =>
      rw [if_pos rfl]
      simp only [if_pos] at h'
      refine ⟨fun σ3 H3 => ∃ m', m' < n + 1 ∧ ∃ I3 S3 ρ3, Rel X.K B M σ3 H3 ρ3 S3 I3 hot ∧ OutOk X.K x B M hot I3 D (whileF t f m' ρ3 S3), fun σ3 H3 q => q, ⟨B, ρ', S1, I2, hot, R2, ?_⟩⟩
      have h' := OutOk.from h' s2.ext
      cases ef : f ρ' S1 with
      | nx ρ3 S3 => rw [ef] at h'; exact fun σ3 H3 I3 e3 R3 => ⟨n, Nat.lt_succ_self n, I3, S3, ρ3, R3, OutOk.from h' e3⟩
      | rt d S3 => rw [ef] at h'; exact h'
      | xc c ρ3 S3 => rw [ef] at h'; exact h'
      | stuck => rw [ef] at h'; exact h'

/-! ### methods of builtin types, by values -/
def tyF (K : Frag) (T : String) (v : V) (H : Hp) : Prop := tyV K T v H ∨ (T = "tuple" ∧ ∃ p o vs, v = .ref p ∧ H p = some (.frz o (.tup vs)) ∧ o.dict = none) ∨ (T = "dict" ∧ ∃ p o kvs, v = .ref p ∧ H p = some (.frz o (.dK kvs)))
theorem tyF_is {pins : List (Addr × Obj)} {σ : L2.St} {H : Hp} {s : Shared} {T : String} {v : V} {u : Value} (I : Inv X pins σ H s) (r : RelV v u) (ty : tyF X.K T v H) :
    s.TypeIs u T ∧ ∀ a, u = .ref a → ∃ ob, s.heap.get? a = some ob ∧ ob.dict = none := by
  rcases ty with ty | ⟨rfl, p, o, vs, rfl, h1, h2⟩ | ⟨rfl, p, o, kvs, rfl, h1⟩
  · exact tyV_is I r ty
  · cases r
    obtain ⟨e, _, its, _, ht⟩ := (show ObjOk X.prog X.w H s.heap p (.frz o (.tup vs)) from I.hok p _ h1)
    exact ⟨ht.typeIs, fun a ea => by cases ea; exact ⟨o, e, h2⟩⟩
  · cases r
    obtain ⟨_, _, _, _, _, o2, _, _, e, ex, _⟩ := (show ObjOk X.prog X.w H s.heap p (.frz o (.dK kvs)) from I.hok p _ h1)
    exact ⟨⟨o2, e, ex.1⟩, fun a ea => by cases ea; exact ⟨o2, e, ex.2.1⟩⟩
def tBMF (K : Frag) (T : String) (r : V → List V → Hp → VK → Prop) (to : TE) (t : TA) : TE := fun σ H Q => to σ H fun v H1 => tyF K T v H1 ∧ t σ H1 fun vs H2 => r v vs H2 Q
section
variable {o e : Expr} {es : List Expr} {to : TE} {t : TA} {name : Str} {apos cpos : Pos} {T id : String} {r : V → List V → Hp → VK → Prop}
theorem pe_bmF (pa : PlainAttrs T) (slot : Slot T name id) (hty : typeOf (.builtin id) = pure (.type "method_descriptor")) (hm : MtR X id r) (ho : PE X o to) (ha : PA X (e :: es) t)
    (hbase : attributeBase o name X.env (eval o X.env) = eval o X.env := by rfl)
    (hfew : ((backTo cpos (starEach (e :: es) X.env)).all (fun x => !x.1) && (backToKw cpos (keywordEach [] X.env)).all (fun x => x.1.isSome)
      && decide ((e :: es).length + ([] : List Keyword).length + (if ([] : List Keyword).isEmpty then 0 else 1) < 30)) = true := by rfl)
    (hline : (apos.endLine == cpos.line) = true := by rfl) (hs : starEach (e :: es) X.env = (false, eval e X.env) :: starEach es X.env := by rfl) (hplain : (backTo cpos (starEach es X.env)).any (·.1) = false := by rfl) :
    PE X (.Call (.Attribute o name apos) (e :: es) [] cpos) (tBMF X.K T r to t) := by
  refine ⟨fun pins s σ H Q I h => ?_⟩
  refine wpAny_Call_method_late hbase hfew hline rfl (thn (ho.run pins s σ H _ I h) fun v s1 ⟨x, H1, I1, r1, ty, q1⟩ => ?_)
  obtain ⟨h1, h2⟩ := tyF_is I1 r1 ty
  refine ⟨T, id, pa, slot, hty, h1, h2, ?_⟩
  have hA := ha.run cpos pins s1 σ H1 _ I1 q1
  rw [hs] at hA ⊢
  refine Calls.callWith_builtin (by show (false || (backTo cpos (starEach es X.env)).any (·.1)) = false; rw [hplain] <;> rfl) (Calls.evalArgs_plain ?_)
  exact thn hA fun us s2 ⟨vs, H2, I2, r2, q2⟩ => hm pins s2 σ H2 x vs v us Q I2 r1 r2 q2
theorem pe_bmF0 (pa : PlainAttrs T) (slot : Slot T name id) (hty : typeOf (.builtin id) = pure (.type "method_descriptor")) (hm : MtR X id r) (ho : PE X o to)
    (hbase : attributeBase o name X.env (eval o X.env) = eval o X.env := by rfl) (hline : (apos.endLine == cpos.line) = true := by rfl) : PE X (.Call (.Attribute o name apos) [] [] cpos) (fun σ H Q => to σ H fun v H1 => tyF X.K T v H1 ∧ r v [] H1 Q) := by
  refine ⟨fun pins s σ H Q I h => ?_⟩
  refine wpAny_Call_method0_late hbase hline (thn (ho.run pins s σ H _ I h) fun v s1 ⟨x, H1, I1, r1, ty, q1⟩ => ?_)
  obtain ⟨h1, h2⟩ := tyF_is I1 r1 ty
  exact ⟨T, id, pa, slot, hty, h1, h2, Calls.callWith_builtin rfl (PySem.evalArgs_none (hm pins s1 σ H1 x [] v [] Q I1 r1 .nil q1))⟩
end
/-- what is of that type -/
def tyA (T : String) : A → Bool
  | .d (.str _) => T == "str"
  | .d (.lst _) => T == "list"
  | .d (.tup _) => T == "tuple"
  | .d (.dct _) => T == "dict"
  | _ => false
theorem tyA_ok {K : Frag} {B : Bs} {σ : L2.St} {H : Hp} {ρ : Rho} {S : Sx} {I : Hp} {hot : List Addr} {T : String} {v : V} {a : A} (R : Rel K B M σ H ρ S I hot) (h : RepA K hot I v a) (e : tyA T a = true) : tyF K T v H := by
  cases h with
  | d h =>
    cases h with
    | str z _ => exact .inl (show T = "str" by simpa [tyA] using e)
    | lst hp _ _ => exact .inl (.inl ⟨by simpa [tyA] using e, _, SqL.of (R.wd.ext _ _ hp)⟩)
    | tup hp _ _ => obtain ⟨o, h1, h2⟩ := hp; exact .inr (.inl ⟨by simpa [tyA] using e, _, o, _, rfl, R.wd.ext _ _ h1, h2⟩)
    | dct hp _ _ =>
      have eT : T = "dict" := by simpa [tyA] using e
      rcases R.wd.ext.rd hp with h | ⟨o, h⟩
      · exact .inl (.inr (.inr (.inl ⟨eT, .inl ⟨_, h⟩⟩)))
      · exact .inr (.inr ⟨eT, _, o, _, rfl, h⟩)
    | _ => cases e
  | _ => cases e
def eMt (T : String) (g : A → List A → Option D) (f : Fe) (fa : Fa) : Fe := fun ρ S => (f ρ S).bind fun a S1 => if tyA T a = true then (fa ρ S1).bind fun as S2 => ofO (g a as) S2 else .stuck
def MtG (K : Frag) (r : V → List V → Hp → VK → Prop) (g : A → List A → Option D) : Prop := ∀ (y : Xc) (B : Bs) (M : List Nat) (σ : L2.St) (H : Hp) (ρ : Rho) (S : Sx) (I : Hp) (hot : List Addr) (v : V) (vs : List V) (a : A) (as : List A) (d : D) (Q : VK), Rel K B M σ H ρ S I hot → RepA K hot I v a → RepsA K hot I vs as →
  g a as = some d → After K y B M σ ρ hot (RepA K hot) H I (.ok (.d d) S) Q → r v vs H Q
theorem ge_mt {T id : String} {r : V → List V → Hp → VK → Prop} {g : A → List A → Option D} {o e : Expr} {es : List Expr} {f : Fe} {fa : Fa} {name : Str} {apos cpos : Pos} (pa : PlainAttrs T) (slot : Slot T name id) (hty : typeOf (.builtin id) = pure (.type "method_descriptor")) (hm : MtR X id r) (hg : MtG X.K r g)
    (ho : GE X x M o f) (ha : GA X x M (e :: es) fa) (hbase : attributeBase o name X.env (eval o X.env) = eval o X.env := by rfl)
    (hfew : ((backTo cpos (starEach (e :: es) X.env)).all (fun x => !x.1) && (backToKw cpos (keywordEach [] X.env)).all (fun x => x.1.isSome)
      && decide ((e :: es).length + ([] : List Keyword).length + (if ([] : List Keyword).isEmpty then 0 else 1) < 30)) = true := by rfl)
    (hline : (apos.endLine == cpos.line) = true := by rfl) (hs : starEach (e :: es) X.env = (false, eval e X.env) :: starEach es X.env := by rfl) (hplain : (backTo cpos (starEach es X.env)).any (·.1) = false := by rfl) :
    GE X x M (.Call (.Attribute o name apos) (e :: es) [] cpos) (eMt T g f fa) := by
  refine PE.weak (pe_bmF pa slot hty hm ho ha hbase hfew hline hs hplain) ?_
  rintro σ H Q ⟨B, ρ, S, I, hot, R, h⟩
  refine ⟨B, ρ, S, I, hot, R, h.bind.mono ?_⟩
  rintro v H1 ⟨I1, S1, a, R1, s1, r1, _, h1⟩
  by_cases et : tyA T a = true
  · rw [if_pos et] at h1
    refine ⟨tyA_ok R1 r1 et, B, ρ, S1, I1, hot, R1, h1.bind.mono ?_⟩
    rintro vs H2 ⟨I2, S2, as, R2, s2, r2, _, h2⟩
    cases eg : g a as with
    | none => rw [eg] at h2; exact h2.elim
    | some d => rw [eg] at h2; exact hg x B M σ H2 ρ S2 I2 hot v vs a as d Q R2 (r1.ext s2.ext) r2 eg h2
  · rw [if_neg et] at h1; exact h1.elim
/-- the first place of a text -/
def idxStr (z : Str) : List Str → Option Nat
  | [] => none
  | y :: r => if y = z then some 0 else (idxStr z r).map (· + 1)
theorem idxStr_ok {z : Str} : ∀ {ys : List Str} {j : Nat}, idxStr z ys = some j → ys[j]? = some z ∧ ∀ m, m < j → ys[m]? ≠ some z
  | [], _, h => by cases h
  | y :: r, j, h => by
    unfold idxStr at h
    split at h
    · rename_i e; cases h; subst e; exact ⟨rfl, fun m hm => absurd hm (Nat.not_lt_zero m)⟩
    · rename_i ne
      cases e : idxStr z r with
      | none => rw [e] at h; cases h
      | some i =>
        rw [e] at h; cases h
        obtain ⟨h1, h2⟩ := idxStr_ok e
        refine ⟨by simpa using h1, fun m hm => ?_⟩
        cases m with
        | zero => simpa using ne
        | succ m => simpa using h2 m (by dsimp only at hm; omega)
def idxT : A → List A → Option D
  | .d (.tup ds), [.d (.str z)] => (strsOf ds).bind fun ys => (idxStr z ys).map fun j => .int (j : Nat)
  | _, _ => none
theorem mg_idxT {K : Frag} : MtG K (fun x xs H Q => ∃ p, ∃ ys : List Str, ∃ z j, x = .ref p ∧ xs = [.str z] ∧ SqT K H p (ys.map V.str) ∧ ys[j]? = some z ∧ (∀ m, m < j → ys[m]? ≠ some z) ∧ Q (.int (j : Nat)) H) idxT := by
  intro y B M σ H ρ S I hot v vs a as d Q R r1 r2 e q
  unfold idxT at e
  split at e
  · rename_i ds z
    cases es : strsOf ds with
    | none => rw [es] at e; cases e
    | some ys =>
      rw [es] at e
      dsimp only [Option.bind_some] at e
      cases ej : idxStr z ys with
      | none => rw [ej] at e; cases e
      | some j =>
        rw [ej] at e
        cases e
        obtain ⟨u, rfl, h2⟩ := paired1 r2
        have h2 := h2.dat; cases h2
        have h1 := r1.dat
        cases h1 with
        | tup hp n hr =>
          obtain ⟨g1, g2⟩ := idxStr_ok ej
          exact ⟨_, ys, z, j, rfl, rfl, by rw [← strs_reps hr es]; exact hp.sq R.wd.ext, g1, g2, q.ok R (.d (.int _))⟩
  · cases e
def idxS : A → List A → Option D
  | .d (.str a), [.d (.str b)] => (match Builtin.Str.occurrences a b 0 a.length 1 with
    | i :: _ => some (.int (i : Nat))
    | [] => none)
  | _, _ => none
theorem mg_idxS {K : Frag} : MtG K (fun x xs H Q => ∃ a b i rest, x = .str a ∧ xs = [.str b] ∧ Builtin.Str.occurrences a b 0 a.length 1 = i :: rest ∧ Q (.int (i : Nat)) H) idxS := by
  intro y B M σ H ρ S I hot v vs a as d Q R r1 r2 e q
  unfold idxS at e
  split at e
  · rename_i z w
    cases eo : Builtin.Str.occurrences z w 0 z.length 1 with
    | nil => rw [eo] at e; cases e
    | cons i rest =>
      rw [eo] at e; cases e
      obtain ⟨u, rfl, h2⟩ := paired1 r2
      have h2 := h2.dat; cases h2
      have h1 := r1.dat; cases h1
      exact ⟨z, w, i, rest, rfl, rfl, eo, q.ok R (.d (.int _))⟩
  · cases e
/-- the first place of a flat value in a list of such -/
def idxF (d : D) : List D → Option Nat
  | [] => none
  | y :: r => if eqF y d = true then some 0 else (idxF d r).map (· + 1)
def idxL : A → List A → Option D
  | .d (.lst ds), [.d y] => if flatD y = true ∧ ds.all flatD = true then (idxF y ds).map fun j => .int (j : Nat) else none
  | _, _ => none
theorem idxF_ok {I : Hp} {w : V} {e : D} (k : Rep I w e) (he : flatD e = true) : ∀ {vs : List V} {ds : List D} {j : Nat}, Reps I vs ds → ds.all flatD = true → idxF e ds = some j → ∃ z, vs[j]? = some z ∧ eqV z w = true ∧ ∀ (m : Nat) (z' : V), m < j → vs[m]? = some z' → eqV z' w = false
  | _, _, _, .nil, _, h => by cases h
  | _, _, j, .cons (v := v) (vs := vs) (d := d) (ds := ds) h r, hf, q => by
    simp only [List.all_cons, Bool.and_eq_true] at hf
    unfold idxF at q
    split at q
    · rename_i c; cases q
      exact ⟨v, rfl, by rw [eqF_eq h k hf.1 he]; exact c, fun m z' hm => absurd hm (Nat.not_lt_zero m)⟩
    · rename_i c
      cases e2 : idxF e ds with
      | none => rw [e2] at q; cases q
      | some i =>
        rw [e2] at q; cases q
        obtain ⟨z, h1, h2, h3⟩ := idxF_ok k he r hf.2 e2
        refine ⟨z, by simpa using h1, h2, fun m z' hm hz => ?_⟩
        cases m with
        | zero =>
          simp at hz; subst hz
          rw [eqF_eq h k hf.1 he]; simpa using c
        | succ m => exact h3 m z' (by dsimp only at hm; omega) (by simpa using hz)
theorem mg_idxL {K : Frag} : MtG K (rIndex K) idxL := by
  intro y B M σ H ρ S I hot v vs a as d Q R r1 r2 e q
  unfold idxL at e
  split at e
  · rename_i ds w
    split at e
    · rename_i hf
      cases ej : idxF w ds with
      | none => rw [ej] at e; cases e
      | some j =>
        rw [ej] at e; cases e
        obtain ⟨u, rfl, h2⟩ := paired1 r2
        have h1 := r1.dat
        cases h1 with
        | lst hp n hr =>
          obtain ⟨z, g1, g2, g3⟩ := idxF_ok h2.dat hf.1 hr hf.2 ej
          exact ⟨_, _, u, j, z, rfl, rfl, SqL.of (R.wd.ext _ _ hp), flat_v h2.dat hf.1, flat_vs hr hf.2, g1, g2, g3, q.ok R (.d (.int _))⟩
    · cases e
  · cases e
end
end G
namespace G
open PySem PySem.Spec L2 PyProof.Rows
open PySem.W (Frag)
open Classical

/-! ### an exception caught by a name and kept -/
def XZ (cls : Value) (d : Option Addr) (a : Addr) : HO := .ext fun h => ∃ (oe : Obj) (vs : Array Value), h.get? a = some oe ∧ Zc cls d oe ∧ oe.data = .fields vs
section
variable {X : Cx} {pins : List (Addr × Obj)} {σ : L2.St} {H : Hp} {s : Shared}
/-- a pinned object, ours, is tracked from here on -/
theorem Inv_adopt {a : Addr} {oe : Obj} {cls : Value} {d : Option Addr} {vs : Array Value} (I : Inv X ((a, oe) :: pins) σ H s) (hz : Zc cls d oe) (hd : oe.data = .fields vs) (h0 : ∀ o, X.s_0.heap.get? a = some o → a ∈ X.ex) (hp : ∀ p ∈ X.pn ++ pins, p.1 ≠ a) :
    Inv X pins σ (upd H a (XZ cls d a)) s := by
  obtain ⟨e1, e2, e3, e4, e5⟩ := I.pin (a, oe) (by simp)
  dsimp only at e1 e2 e3 e4 e5
  refine ⟨I.ok, I.os, I.bare, ⟨I.base.keep, I.base.slot, fun b o q n hx => ?_, I.base.there, fun b xs q => ?_, fun b o u q => ?_, fun b ps q => ?_⟩, I.loc, I.cell, ?_, fun y c q => ?_, fun p hp' => ?_, I.hok.laidN (fun _ _ q => q) e2 ?_, I.len⟩
  · rw [upd_ne (fun z => hx (by rw [z]; exact h0 o (z ▸ q)))]; exact I.base.free b o q n hx
  · have := I.base.tups b xs q
    rw [upd_ne (ne_of_none this e2)]; exact this
  · have := I.base.frzs b o u q
    rw [upd_ne (ne_of_none this e2)]; exact this
  · obtain ⟨more, this⟩ := I.base.tbls b ps q
    exact ⟨more, by rw [upd_ne (ne_of_none this e2)]; exact this⟩
  · rw [upd_ne (Ne.symm e3)]; exact I.free
  · have ne : c ≠ a := fun z => by
      obtain ⟨v, hv⟩ := I.cell y c q
      rw [z] at hv
      obtain ⟨o, k1, k2⟩ := hv
      rw [e1] at k1; cases k1
      exact e5 _ k2
    rw [upd_ne ne]; exact I.freeC y c q
  · have q : p ∈ X.pn ++ (a, oe) :: pins := by
      rcases List.mem_append.mp hp' with z | z
      · exact List.mem_append_left _ z
      · exact List.mem_append_right _ (List.mem_cons_of_mem _ z)
    obtain ⟨f1, f2, f3, f4, f5⟩ := I.pin p q
    exact ⟨f1, by rw [upd_ne (hp p hp')]; exact f2, f3, f4, f5⟩
  · exact ⟨⟨oe, vs, e1, hz, hd⟩, ⟨oe, e1⟩, fun _ _ ⟨o, v, q, r⟩ k => ⟨o, v, k o q, r⟩⟩
end
/-- what 'except x as n' wishes, the exception tracked behind the suite -/
def wAsK (K : Frag) (c : Value) (i : Nat) (ts : Addr → Value → Option Addr → TS) (Wout : WX) (D : Ends) : WX := fun cls d σ H =>
  ∃ b, PySem.W.exmOne K cls c = some b ∧ (b = true → ∀ a, H a = none → ts a cls d { nx := fun σ' H' => H' a = none → D.nx (σ'.set i none) (upd H' a (XZ cls d a)), rt := fun _ _ => False } (σ.set i (some (.ref a))) H) ∧ (b = false → Wout cls d σ H)
section
variable {X : Cx} {x n : Str} {c : Value} {i : Nat} {body suite : List Stmt} {b₀ : Stmt} {np pos pos' : Pos} {tb : WX → TS} {ts : Addr → Value → Option Addr → TS} {Wout : WX}
theorem ps_try_asK (hs : X.stack = X.env :: X.outer) (hf : X.env.frame = some X.env.locals) (hN : X.N.Nodup) (hi : X.N[i]? = some n) (hln : X.env.kindOf n = some .local) (hc : Names X x c) (tk : Takes X Wout)
    (hb : ∀ (W : WX) (pn : List (Addr × Obj)) (xe : Value → Shared → Prop), Takes (X.tr pn xe) W → PassesOwn (model X.prog X.w) X.A X.env xe → PSs (X.tr pn xe) body (tb W))
    (hsu : ∀ (a : Addr) (oe : Obj) (cls : Value) (d : Option Addr) (pn : List (Addr × Obj)), Zc cls d oe → (∃ vs, oe.data = .fields vs) → PSs (X.suite a ((a, oe) :: pn)) (b₀ :: suite) (ts a cls d)) :
    PS X (.Try body [.ExceptHandler (some (.Name x np)) (some n) (b₀ :: suite) pos'] [] [] pos) (fun D σ H => tb (wAsK X.K c i ts Wout D) D σ H) := by
  refine ⟨fun pins s σ H D I h => ?_⟩
  have ok := I.ok
  have hfr : X.A.frames = some (X.env :: X.outer) := by rw [ok.frames, hs]
  have hloc : Loc X.env.scope n := .inl hln
  refine wpAny_Try_except (wpAny_mono ((hb (wAsK X.K c i ts Wout D) (X.pn ++ pins) (fun e s₁ => wpAny (model X.prog X.w) X.A (noteFrame e X.env) (fun _ s₂ => wpAny (model X.prog X.w) X.A (setFlight e none) (fun _ s₃ =>
    wpAny (model X.prog X.w) X.A (handleBy e X.env [.ExceptHandler (some (.Name x np)) (some n) (b₀ :: suite) pos']) (SP X pins D) X.xe s₃) X.xe s₂) X.xe s₁) (fun u s' xx => ?_) PassesOwn.looking).run [] s σ H D (I.toTry _) h) (fun f s1 hsp => ?_) (fun e s1 he => he))
  · obtain ⟨a, B, sI, pins', σ', H', cls, d, rfl, J', nb, up, sky, na, os, ag, b, hb1, hyes, hno⟩ := xx
    have J : Inv X pins σ' H' sI := J'.ofTry ok
    have sky' : Sky B (X.env :: X.outer) a (Zc cls d) X.env.locals s'.heap := by rw [← hs]; exact sky
    show wpAny (model X.prog X.w) X.A (noteFrame (.ref a) X.env) _ _ _
    refine Sky.land Zc.steady hfr hf sky' fun h3 fl3 up3 => ?_
    have J3 : Inv X pins σ' H' { s' with heap := h3 } := J.landed nb fl3.1 (up.trans up3) os ag
    obtain ⟨oe3, vs3, he3, hz3, hd3⟩ := fl3.there
    have nfr : a ∉ frs (X.env :: X.outer) := fun hm => by
      obtain ⟨_, o', e', hnf⟩ := fl3.2.2.1.mem hm
      rw [he3] at e'; cases e'
      exact hnf _ hd3
    have nL : a ≠ X.env.locals := fun z => nfr (List.mem_filterMap.mpr ⟨X.env, List.mem_cons_self, by rw [hf, z]⟩)
    have nF : a ∉ X.fs := fun hm => by
      obtain ⟨e, he, q⟩ := List.mem_filterMap.mp hm
      exact nfr (List.mem_filterMap.mpr ⟨e, List.mem_cons_of_mem _ he, q⟩)
    have nsI : sI.heap.get? a = none := by
      cases e : sI.heap.get? a with
      | none => rfl
      | some o =>
        have := nb a o e (by rw [hs]; exact nfr)
        rw [fl3.2.1] at this; cases this
    have h0 : ∀ o, X.s_0.heap.get? a = some o → a ∈ X.ex := fun o e => by
      by_cases hx : a ∈ X.ex
      · exact hx
      · obtain ⟨o', e'⟩ := J.base.there a o e hx
        rw [nsI] at e'; cases e'
    have hpn : ∀ p ∈ X.pn ++ pins, p.1 ≠ a := fun p hp z => by
      have := (J.pin p hp).1
      rw [z, nsI] at this; cases this
    have S3 := J3.suite he3 hd3 na nL nF
    refine wpAny_handleBy_cons (codeAny_handlers_test ?_) (by intro q; cases q)
    have LT : PySem.W.Looks (model X.prog X.w) h3 (typeOf (.ref a)) cls := fun A Q E s k q => wpAny_typeOf_ref (k _ _ he3) (by rw [hz3.1]; exact q)
    have LM := PySem.W.exm_one (M := model X.prog X.w) (J3.kIn) LT hb1
    have test : ∀ {Q : Value → Shared → Prop} {E : Value → Shared → Prop}, Q c { s' with heap := h3 } → wpAny (model X.prog X.w) (X.A.mark (some (.ref a))) (eval (.Name x np) X.env) Q E { s' with heap := h3 } := fun {Q E} q => by
      obtain ⟨hg, hdbg, hm | ⟨hm, hv, hnn⟩⟩ := hc
      · exact ld_glob (X := X.suite a ((a, oe3) :: (X.pn ++ pins))) S3 hg hm q hdbg
      · exact ld_blt (X := X.suite a ((a, oe3) :: (X.pn ++ pins))) S3 hg hm hv q hnn hdbg
    refine test (LM.here ?_)
    cases b with
    | true =>
      refine codeAny_handlers_suite_as (HandSPX.lands_againZ fl3 fun h4 fl4 up4 => ?_)
      have J4 : Inv X pins σ' H' { s' with heap := h4 } := J.landed nb fl4.1 ((up.trans up3).trans up4) os ag
      obtain ⟨oe4, vs4, he4, hz4, hd4⟩ := fl4.there
      have S4 := J4.suite he4 hd4 na nL nF
      refine store_ok (X := X.suite a ((a, oe4) :: (X.pn ++ pins))) (v := .ref a) S4 hN hi hloc rfl (fun s5 S5 => ?_) (.inr hln)
      refine wpAny_mono ((hsu a oe4 cls d (X.pn ++ pins) hz4 ⟨_, hd4⟩).run [] s5 _ H' _ S5 (hyes rfl a na)) (fun f s6 hsp => ?_) (fun _ _ z => False.elim z)
      cases f with
      | next =>
        obtain ⟨σ6, H6, S6, q6⟩ := hsp
        have P6 : Inv X ((a, oe4) :: pins) σ6 H6 s6 := ⟨ok, S6.os, S6.bare, S6.base, S6.loc, S6.cell, S6.free, S6.freeC, fun p hp => by
          refine S6.pin p ?_
          rw [List.append_nil]
          rcases List.mem_append.mp hp with z | z
          · exact List.mem_cons_of_mem _ (List.mem_append_left _ z)
          · rcases List.mem_cons.mp z with rfl | z
            · exact List.mem_cons_self
            · exact List.mem_cons_of_mem _ (List.mem_append_right _ z), S6.hok, S6.len⟩
        have na6 : H6 a = none := (P6.pin (a, oe4) (by simp)).2.1
        exact gone_ok P6 hN hi hln fun s7 J7 => ⟨_, _, Inv_adopt J7 hz4 hd4 h0 hpn, q6 na6⟩
      | brk => obtain ⟨_, _, _, q6⟩ := hsp; exact q6.elim
      | cont => obtain ⟨_, _, _, q6⟩ := hsp; exact q6.elim
      | ret u => obtain ⟨_, _, _, _, _, q6⟩ := hsp; exact q6.elim
    | false =>
      show wpAny _ X.A (handleBy (.ref a) X.env []) _ _ _
      refine wpAny_handleBy_nil ?_
      obtain ⟨k1, k2, k3, oe, vs, T, oT, ts', he, hz, hd, h1, hr⟩ := id fl3
      unfold PySem.passOn
      refine wpAny_bind (wpAny_field he hd h1 ?_)
      rw [if_neg (show ¬ ((Value.ref T == Value.none) = true) from by simp)]
      have fin : wpAny (model X.prog X.w) X.A (setFlight (.ref a) X.env.frame) (fun _ s4 => wpAny (model X.prog X.w) X.A (throw (.ref a) : Sem Flow) (SP X pins D) X.xe s4) X.xe { s' with heap := h3 } := by
        rw [hf]
        refine HandSPX.setFlight_upZ fl3 fun h4 hh4 up4 => wpAny_throw (tk _ _ ?_)
        exact ⟨a, B, sI, pins, σ', H', cls, d, rfl, J, nb, (up.trans up3).trans up4, .inr (.inr (by rw [hs]; exact hh4)), na, os, ag, hno rfl⟩
      first
        | exact wpAny_bind (wpAny_pure (wpAny_bind fin))
        | exact wpAny_bind fin
  · cases f with
    | next =>
      obtain ⟨σ', H', J', q⟩ := hsp
      exact wpAny_execs_nil ⟨σ', H', J'.ofTry ok, q⟩
    | brk =>
      obtain ⟨σ', H', J', q⟩ := hsp
      exact ⟨σ', H', J'.ofTry ok, q⟩
    | cont =>
      obtain ⟨σ', H', J', q⟩ := hsp
      exact ⟨σ', H', J'.ofTry ok, q⟩
    | ret u =>
      obtain ⟨v, σ', H', J', r, q⟩ := hsp
      exact ⟨v, σ', H', J'.ofTry ok, r, q⟩
end
end G
namespace G
open PySem PySem.Spec L2 PyProof.Rows
open PySem.W (Frag)
open Classical
/-- try: .. except C as e: caught = e -/
def sTryK (cs : List Str) (k i : Nat) (f : Fs) : Fs := fun ρ S => match f ρ S with
  | .xc c ρ' S' => if c ∈ cs ∧ i < ρ'.length then .nx (((ρ'.set i (some (.exc c))).set k (some (.exc c))).set i none) S' else .stuck
  | o => o
section
variable {X : Cx} {x : Xc} {kk : Nat}
theorem gs_tryK {cs : List Str} {k i : Nat} {n m C : Str} {body : List Stmt} {f : Fs} {np p1 p2 p3 pos pos' : Pos} (c : Cq X x kk) (hN : X.N.Nodup) (hex : ∀ y ∈ cs, PySem.W.exmOne X.K (.ref (He.ga X.K y)) (.ref (He.ga X.K C)) = some true) (hC : X.mg C = some (.ref (He.ga X.K C)))
    (hb : ∀ (W : WX) (pn : List (Addr × Obj)) (xe : Value → Shared → Prop), Cq (X.tr pn xe) ⟨W, []⟩ kk → PassesOwn (model X.prog X.w) X.A X.env xe → GSs (X.tr pn xe) ⟨W, []⟩ [] [] body f)
    (hi : X.N[i]? = some n := by rfl) (hk : X.N[k]? = some m := by rfl) (hs : X.stack = X.env :: X.outer := by rfl) (hf : X.env.frame = some X.env.locals := by rfl) (hln : X.env.kindOf n = some .local := by rfl) (hgC : Gl X C := by rfl) (hdC : (C == ("__debug__" : Str)) = false := by decide)
    (hvn : Vis X.env.scope n := by first | exact .inl rfl | exact .inr rfl) (hlm : Loc X.env.scope m := by first | exact .inl rfl | exact .inr rfl) (hd : (n == ("__debug__" : Str)) = false := by decide) (hcd : (n == ("__classdict__" : Str)) = false := by decide)
    (hsw : ∀ env : Env, env = X.env → swapsWith (.Name n p2) (some (.Name m p1)) p3.line env = pure false := by intro _ e; subst e; rfl) (hfm : X.fn m = true ∨ X.env.scope.names.lookup m = some .local := by first | exact .inl rfl | exact .inr rfl) :
    GS X x [] [] (.Try body [.ExceptHandler (some (.Name C np)) (some n) [.Assign [.Name m p1] (.Name n p2) p3] pos'] [] [] pos) (sTryK cs k i f) := by
  refine PS.weak (ps_try_asK (tb := fun W => sOf X.K ⟨W, []⟩ [] [] f) (ts := fun _ _ _ => tAsg (tVar i) (gName k)) hs hf hN hi hln ⟨hgC, hdC, .inl hC⟩ c.take (fun W pn xe tk hp => hb W pn xe ⟨c.room, tk⟩ hp) (fun a oe cls d pn _ _ => pss_one (ps_set hN hk hlm (pe_var hi hvn hd hcd) (hsw _ rfl) hfm))) ?_
  rintro D σ H ⟨B, ρ, S, I, hot, R, h⟩
  have R0 : Rel X.K ⟨H, I⟩ [] σ H ρ S I hot := ⟨R.wd, Stp.refl _ _ _, R.len, R.val, fun i hi => (by cases hi), fun i hi => (by cases hi)⟩
  have up : ∀ {σ' : L2.St} {H' I' : Hp} {ρ' : Rho} {S' : Sx}, Rel X.K ⟨H, I⟩ [] σ' H' ρ' S' I' hot → Rel X.K B [] σ' H' ρ' S' I' hot := fun R' => ⟨R'.wd, R.st.trans R'.st, R'.len, R'.val, fun i hi => (by cases hi), fun i hi => (by cases hi)⟩
  refine ⟨⟨H, I⟩, ρ, S, I, hot, R0, ?_⟩
  unfold sTryK at h
  cases e : f ρ S with
  | nx ρ' S' => rw [e] at h; exact fun σ' H' I' e' R' => h σ' H' I' e' (up R')
  | rt d S' => rw [e] at h; exact fun v H' I' st w rv => h v H' I' (R.st.trans st) w rv
  | stuck => rw [e] at h; exact h.elim
  | xc y ρ' S' =>
    rw [e] at h
    intro σ' H' I' R'
    dsimp only at h
    by_cases hy : y ∈ cs ∧ i < ρ'.length
    · rw [if_pos hy] at h
      have hl : i < σ'.length := by
        rw [R'.len]; exact hy.2
      refine ⟨true, hex y hy.1, fun _ a na => ?_, fun z => absurd z (by decide)⟩
      refine ⟨.ref a, List.getElem?_set_self hl, fun na2 => ?_⟩
      have na' := (R'.wd.none na).1
      have R1 := R'.step (stp_new (o := XZ (.ref (He.ga X.K y)) none a) na na') (R'.wd.new na)
      have ra : RepA X.K hot (upd I' a (XZ (.ref (He.ga X.K y)) none a)) (.ref a) (.exc y) := .exc upd_same
      have R2 := ((R1.set (i := i) ra (by simp)).set (i := k) ra (by simp)).unset (i := i) (by simp)
      exact h _ _ _ (R'.st.ext.trans (upd_ext na')) (up R2)
    · rw [if_neg hy] at h; exact h.elim
end
end G
namespace G
open PySem PySem.Spec L2 PyProof.Rows
open PySem.W (Frag)
open Classical
/-! ### isinstance(e, C), e a caught exception -/
structure ExcIs (K : Frag) (C : Addr) : Prop where
  cl : (PySem.W.clsIn K C).isSome = true
  ga : PySem.W.findIn K (.ref C) "__getattribute__" = some (some (.builtin "BaseException.__getattribute__"))
  gt : ∃ gt, PySem.W.findIn K (.ref C) "__getattr__" = some gt
  sb : PySem.W.subIn K (.ref C) (.type "BaseException") = some true
  ha : PySem.W.findIn K (.ref C) "__class__" = some (some (.builtin "object.__class__"))
  hn : PySem.W.specialIn K (.builtin "object.__class__") "__get__" = some (some (.builtin "getset_descriptor.__get__"))
  htk : PySem.W.takesIn K (.builtin "object.__class__") = some true
  hm : PySem.W.mroIn K C (.type "object") = some true
theorem excIs_of {K : Frag} {C : Addr} (h : excIsB K C = true) : ExcIs K C := by
  unfold excIsB at h
  simp only [Bool.and_eq_true, beq_iff_eq] at h
  obtain ⟨⟨⟨⟨⟨⟨⟨h1, h2⟩, h3⟩, h4⟩, h5⟩, h6⟩, h7⟩, h8⟩ := h
  exact ⟨h1, h2, Option.isSome_iff_exists.mp h3, h4, h5, h6, h7, h8⟩
def rIsX (K : Frag) : List V → Hp → VK → Prop := fun xs H Q => ∃ (a C : Addr) (cv : V) (u : Value) (b : Bool), xs = [.ref a, cv] ∧ ClsV cv u ∧ H a = some (XZ (.ref C) none a) ∧ ExcIs K C ∧ PySem.W.kitOne K (.ref C) u = some b ∧ Q (.bl b) H
section
variable {X : Cx} {x : Xc} {M : List Nat}
theorem call_isX : CallR X (.builtin "isinstance") (rIsX X.K) := by
  intro pins s σ H xs us Q I r h
  obtain ⟨a, C, cv, u, b, rfl, k, ha, T, e, q⟩ := h
  obtain ⟨u1, u2, rfl, r1, r2⟩ := vals2 r
  cases (show u1 = Value.ref a from r1)
  have e2 := k.eq r2
  subst e2
  obtain ⟨⟨oe, vs, h1, h2, h3⟩, _⟩ := (show ObjOk X.prog X.w H s.heap a (XZ (.ref C) none a) from I.hok a _ ha)
  obtain ⟨gt, hgt⟩ := T.gt
  have J : PySem.W.InstAt s.heap a oe C none := ⟨h1, h2.1, by unfold PySem.W.notCls; rw [h3], by rw [h2.2]; trivial⟩
  exact PySem.W.kia_one (PySem.W.kitx_exc (ox := oe) (od := none) T.cl T.ga hgt T.sb T.ha T.hn T.htk T.hm) I.kIn J e (fun z => nomatch z) fun tk => ⟨.bl b, H, I.tok tk, rfl, q⟩
noncomputable def eIsx (cs ds : List Str) (f : Fe) : Fe := fun ρ S => (f ρ S).bind fun a S1 => match a with
  | .exc c => if c ∈ cs then .ok (.d (.bl true)) S1 else if c ∈ ds then .ok (.d (.bl false)) S1 else .stuck
  | _ => .stuck
theorem ge_isx {cs ds : List Str} {e ce : Expr} {f : Fe} {cv : V} {u : Value} {p pos : Pos} (he : GE X x M e f) (hce : PE X ce (tC cv)) (hcv : ClsV cv u) (hT : ∀ c ∈ cs, ExcIs X.K (He.ga X.K c) ∧ PySem.W.kitOne X.K (.ref (He.ga X.K c)) u = some true) (hF : ∀ c ∈ ds, ExcIs X.K (He.ga X.K c) ∧ PySem.W.kitOne X.K (.ref (He.ga X.K c)) u = some false)
    (hm : X.mg "isinstance" = none) (hgl : Gl X "isinstance" := by rfl) (hs : starEach [e, ce] X.env = (false, eval e X.env) :: starEach [ce] X.env := by rfl) (hs2 : starEach [ce] X.env = (false, eval ce X.env) :: starEach [] X.env := by rfl) (hpl : (backTo pos (starEach [ce] X.env)).any (·.1) = false := by rfl) :
    GE X x M (.Call (.Name "isinstance" p) [e, ce] [] pos) (eIsx cs ds f) := by
  refine PE.weak (pe_callB call_isX hgl hm PyProof.Rows.boot_isinstance (pa_cons he (pa_cons hce pa_nil hs2) hs) (by decide) (by decide) hs hpl) ?_
  rintro σ H Q ⟨B, ρ, S, I, hot, R, h⟩
  refine ⟨B, ρ, S, I, hot, R, h.bind.mono ?_⟩
  rintro v H1 ⟨I1, S1, a, R1, s1, r1, _, h1⟩
  cases r1 with
  | @exc p c hp =>
    dsimp only at h1
    by_cases hc : c ∈ cs
    · rw [if_pos hc] at h1
      exact ⟨p, He.ga X.K c, cv, u, true, rfl, hcv, R1.wd.ext _ _ hp, (hT c hc).1, (hT c hc).2, After.ok (S := S1) h1 R1 (.d (.bl _))⟩
    · rw [if_neg hc] at h1
      by_cases hd : c ∈ ds
      · rw [if_pos hd] at h1
        exact ⟨p, He.ga X.K c, cv, u, false, rfl, hcv, R1.wd.ext _ _ hp, (hF c hd).1, (hF c hd).2, After.ok (S := S1) h1 R1 (.d (.bl _))⟩
      · rw [if_neg hd] at h1; exact h1.elim
  | _ => exact h1.elim
/-- the class, by its name -/
theorem pe_cls {C : Str} {a : Addr} {pos : Pos} (hm : X.mg C = some (.ref a)) (hg : Gl X C := by rfl) (hd : (C == ("__debug__" : Str)) = false := by decide) : PE X (.Name C pos) (tC (.ref a)) := pe_glob (v := .ref a) hg hm rfl hd
theorem pe_bcls {C : Str} {T : String} {pos : Pos} (hm : X.mg C = none) (hv : bootBuiltins C = some (.type T)) (hg : Gl X C := by rfl) (hn : C ≠ "__name__" := by decide) (hd : (C == ("__debug__" : Str)) = false := by decide) : PE X (.Name C pos) (tC (.ty T)) := pe_bltn hg hm hv rfl hn hd
/-! ### xs.count(True) -/
def boolsO : List D → Option (List Bool)
  | [] => some []
  | .bl b :: r => (boolsO r).map (b :: ·)
  | _ :: _ => none
theorem boolsO_reps {I : Hp} : ∀ {vs : List V} {ds : List D} {bs : List Bool}, Reps I vs ds → boolsO ds = some bs → vs = bs.map V.bl
  | _, _, _, .nil, e => by cases e; rfl
  | _, _, _, .cons (ds := ds) h r, e => by
    cases h with
    | bl b =>
      simp only [boolsO] at e
      cases e2 : boolsO ds with
      | none => rw [e2] at e; cases e
      | some bs => rw [e2] at e; cases e; rw [boolsO_reps r e2]; rfl
    | _ => cases e
def cntB : A → List A → Option D
  | .d (.lst ds), [.d (.bl k)] => (boolsO ds).map fun bs => .int ((bs.count k : Nat) : Int)
  | _, _ => none
theorem vals_bools : ∀ {bs : List Bool} {us : List Value}, Vals (bs.map V.bl) us → us = bs.map Value.bool
  | [], _, .nil => rfl
  | b :: bs, _, .cons r t => by
    cases (show _ = Value.bool b from r)
    rw [vals_bools t]; rfl
theorem mt_countB : MtR X "list.count" (fun v xs H Q => ∃ (p : Addr) (bs : List Bool) (k : Bool), v = .ref p ∧ xs = [.bl k] ∧ SqL X.K H p (bs.map V.bl) ∧ Q (.int ((bs.count k : Nat) : Int)) H) := by
  intro pins s σ H v xs u us Q I rx rxs h
  obtain ⟨p, bs, k, rfl, rfl, hs, q⟩ := h
  cases rx
  obtain ⟨w, rfl, rw1⟩ := vals1 rxs
  cases (show w = Value.bool k from rw1)
  obtain ⟨its, rv, ⟨⟨cls, dd, data, sl⟩, n, ho, hc, hdn, hd⟩, hlen⟩ := I.list hs
  simp only at hc hd
  subst hc hd
  have ei := vals_bools rv
  subst ei
  refine call_meets PySem.F.slot_list_count ⟨_, ho, rfl⟩ PySem.F.entry_list_count (PySem.F.args_list_count_2 _ _) (SeqAt.list_countAt p (bs.map Value.bool).toArray n dd sl (.bool k) (fun y => match y with
    | .bool b => b == k
    | _ => false)) ⟨ho, fun y hy => ?_, ?_⟩
  · obtain ⟨b, _, rfl⟩ : ∃ b, b ∈ bs ∧ Value.bool b = y := by simpa using hy
    exact SeqAt.EqAt.bool_bool b k
  · have ec : ((bs.map Value.bool).toArray.toList.countP fun y => match y with
      | .bool b => b == k
      | _ => false) = bs.count k := by
      simp only [List.countP_map, List.count]
      congr 1
    exact ⟨.int _, H, I.tok _, ⟨s.toks, by rw [ec]⟩, q⟩
theorem mg_cntB {K : Frag} : MtG K (fun v xs H Q => ∃ (p : Addr) (bs : List Bool) (k : Bool), v = .ref p ∧ xs = [.bl k] ∧ SqL K H p (bs.map V.bl) ∧ Q (.int ((bs.count k : Nat) : Int)) H) cntB := by
  intro y B M σ H ρ S I hot v vs a as d Q R r1 r2 e q
  unfold cntB at e
  split at e
  · rename_i ds k
    cases eb : boolsO ds with
    | none => rw [eb] at e; cases e
    | some bs =>
      rw [eb] at e; cases e
      obtain ⟨u, rfl, h2⟩ := paired1 r2
      have h2 := h2.dat; cases h2
      have h1 := r1.dat
      cases h1 with
      | lst hp n hr => exact ⟨_, bs, k, rfl, rfl, by rw [← boolsO_reps hr eb]; exact SqL.of (R.wd.ext _ _ hp), q.ok R (.d (.int _))⟩
  · cases e
end
end G
namespace G
open PySem PySem.Spec L2 PyProof.Rows
open PySem.W (Frag)
open Classical
/-! ### list(range(a, b)) -/
noncomputable def lrgC (i j : Int) (S : Sx) : Res A := @ite _ (RgOk i j) (Classical.propDecidable _) (.ok (.d (.lst (rangeD i (j - i).toNat))) S) .stuck
noncomputable def eListRg (f g : Fe) : Fe := fun ρ S => (f ρ S).bind fun a S1 => (g ρ S1).bind fun b S2 => match a, b with
  | .d (.int i), .d (.int j) => lrgC i j S2
  | _, _ => .stuck
theorem rgV_reps {I : Hp} (a b : Int) : Reps I (rgV a b) (rangeD a (b - a).toNat) := by
  unfold rgV rangeD
  generalize (b - a).toNat = n
  have : ∀ l : List Nat, Reps I (l.map fun i => V.int (a + (i : Nat))) (l.map fun i => D.int (a + (i : Nat))) := by
    intro l
    induction l with
    | nil => exact .nil
    | cons x r ih => exact .cons (.int _) ih
  exact this _
section
variable {X : Cx} {x : Xc} {M : List Nat}
theorem ge_listRg {a b : Expr} {f g : Fe} {p p2 pos pos2 : Pos} (ha : GE X x M a f) (hb : GE X x M b g) (hm : X.mg "list" = none) (hm2 : X.mg "range" = none) (hc : X.calm = true := by rfl) (hgl : Gl X "list" := by rfl) (hgr : Gl X "range" := by rfl)
    (na : starEach [a, b] X.env = (false, eval a X.env) :: starEach [b] X.env := by rfl) (nb : starEach [b] X.env = (false, eval b X.env) :: starEach [] X.env := by rfl) (hp : (backTo pos2 (starEach [b] X.env)).any (·.1) = false := by rfl)
    (nl : starEach [.Call (.Name "range" p2) [a, b] [] pos2] X.env = (false, eval (.Call (.Name "range" p2) [a, b] [] pos2) X.env) :: starEach [] X.env := by rfl) :
    GE X x M (.Call (.Name "list" p) [.Call (.Name "range" p2) [a, b] [] pos2] [] pos) (eListRg f g) := by
  refine PE.weak (pe_listRg hc hgl hm (prg_2 hgr hm2 ha hb na nb hp) nl) ?_
  rintro σ H Q ⟨B, ρ, S, I, hot, R, h⟩
  refine ⟨B, ρ, S, I, hot, R, h.bind.mono ?_⟩
  rintro v H1 ⟨I1, S1, a, R1, s1, r1, _, h1⟩
  refine ⟨B, ρ, S1, I1, hot, R1, h1.bind.mono ?_⟩
  rintro w H2 ⟨I2, S2, b, R2, s2, r2, _, h2⟩
  cases r1 with
  | d q1 =>
    cases q1 with
    | int i =>
      cases r2 with
      | d q2 =>
        cases q2 with
        | int j =>
          have h3 : After X.K x B M σ ρ hot (RepA X.K hot) H2 I2 (lrgC i j S2) Q := h2
          unfold lrgC at h3
          split at h3
          · rename_i ok
            refine ⟨i, j, rfl, rfl, ok, fun q hq => After.new (S := S2) h3 R2 hq (.d (.lst upd_same ?_ (rgV_reps i j)))⟩
            rw [rgV_length, sizeLine_eq]; exact ok.2.2.2.2
          · exact h3.elim
        | _ => exact h2.elim
      | _ => exact h2.elim
    | _ => cases r2 <;> exact h2.elim
  | _ => exact h2.elim
end
end G
namespace G
open PySem PySem.Spec L2 PyProof.Rows
open PySem.W (Frag)
open Classical
/-! ### max, min, abs, str, int of a text, sorted -/
section
variable {K : Frag}
def max2G (_ : Sx) : List A → Option D
  | [.d (.int i), .d (.int j)] => some (.int (if j > i then j else i))
  | _ => none
def min2G (_ : Sx) : List A → Option D
  | [.d (.int i), .d (.int j)] => some (.int (if j < i then j else i))
  | _ => none
def absG (_ : Sx) : List A → Option D
  | [.d (.int i)] => some (.int (if i < 0 then -i else i))
  | _ => none
theorem cg_max2 : CallG K (fun xs H Q => ∃ i j, xs = [.int i, .int j] ∧ Q (.int (if j > i then j else i)) H) max2G := by
  intro y B M σ H ρ S I hot vs as d Q R r e q
  unfold max2G at e
  split at e
  · cases e
    obtain ⟨v, w, rfl, h1, h2⟩ := paired2 r
    have h1 := h1.dat; cases h1
    have h2 := h2.dat; cases h2
    exact ⟨_, _, rfl, q.ok R (.d (.int _))⟩
  · cases e
theorem cg_min2 : CallG K (fun xs H Q => ∃ i j, xs = [.int i, .int j] ∧ Q (.int (if j < i then j else i)) H) min2G := by
  intro y B M σ H ρ S I hot vs as d Q R r e q
  unfold min2G at e
  split at e
  · cases e
    obtain ⟨v, w, rfl, h1, h2⟩ := paired2 r
    have h1 := h1.dat; cases h1
    have h2 := h2.dat; cases h2
    exact ⟨_, _, rfl, q.ok R (.d (.int _))⟩
  · cases e
theorem cg_abs : CallG K (fun xs H Q => ∃ i, xs = [.int i] ∧ Q (.int (if i < 0 then -i else i)) H) absG := by
  intro y B M σ H ρ S I hot vs as d Q R r e q
  unfold absG at e
  split at e
  · cases e
    obtain ⟨v, rfl, h1⟩ := paired1 r
    have h1 := h1.dat; cases h1
    exact ⟨_, rfl, q.ok R (.d (.int _))⟩
  · cases e
def maxI : List Int → Int
  | [] => 0
  | [a] => a
  | a :: r => if maxI r > a then maxI r else a
def minI : List Int → Int
  | [] => 0
  | [a] => a
  | a :: r => if minI r < a then minI r else a
theorem maxI_ok : ∀ {ns : List Int}, ns ≠ [] → maxI ns ∈ ns ∧ ∀ y ∈ ns, y ≤ maxI ns
  | [], h => absurd rfl h
  | [a], _ => by simp [maxI]
  | a :: b :: r, _ => by
    obtain ⟨h1, h2⟩ := maxI_ok (ns := b :: r) (by simp)
    unfold maxI
    split
    · rename_i c
      refine ⟨List.mem_cons_of_mem _ h1, fun y hy => ?_⟩
      rcases List.mem_cons.mp hy with rfl | hy
      · omega
      · exact h2 y hy
    · rename_i c
      refine ⟨List.mem_cons_self, fun y hy => ?_⟩
      rcases List.mem_cons.mp hy with rfl | hy
      · omega
      · have := h2 y hy; omega
theorem minI_ok : ∀ {ns : List Int}, ns ≠ [] → minI ns ∈ ns ∧ ∀ y ∈ ns, minI ns ≤ y
  | [], h => absurd rfl h
  | [a], _ => by simp [minI]
  | a :: b :: r, _ => by
    obtain ⟨h1, h2⟩ := minI_ok (ns := b :: r) (by simp)
    unfold minI
    split
    · rename_i c
      refine ⟨List.mem_cons_of_mem _ h1, fun y hy => ?_⟩
      rcases List.mem_cons.mp hy with rfl | hy
      · omega
      · exact h2 y hy
    · rename_i c
      refine ⟨List.mem_cons_self, fun y hy => ?_⟩
      rcases List.mem_cons.mp hy with rfl | hy
      · omega
      · have := h2 y hy; omega
def maxG (_ : Sx) : List A → Option D
  | [.d (.lst ds)] => (intsOf ds).bind fun ns => if ns.isEmpty then none else some (.int (maxI ns))
  | _ => none
def minG (_ : Sx) : List A → Option D
  | [.d (.lst ds)] => (intsOf ds).bind fun ns => if ns.isEmpty then none else some (.int (minI ns))
  | _ => none
theorem cg_max : CallG K (rMax K) maxG := by
  intro y B M σ H ρ S I hot vs as d Q R r e q
  unfold maxG at e
  split at e
  · rename_i ds
    cases e2 : intsOf ds with
    | none => rw [e2] at e; cases e
    | some ns =>
      rw [e2] at e
      dsimp only [Option.bind_some] at e
      split at e
      · cases e
      · rename_i hn
        cases e
        have hne : ns ≠ [] := fun z => hn (by rw [z]; rfl)
        obtain ⟨v, rfl, h⟩ := paired1 r
        have h := h.dat
        cases h with
        | lst hp n hr =>
          obtain ⟨m1, m2⟩ := maxI_ok hne
          refine ⟨_, ns, rfl, ?_, List.length_pos_iff.mpr hne, fun m h1 h2 => ?_⟩
          · rw [← ints_reps hr e2]; exact SqL.of (R.wd.ext _ _ hp)
          · have : m = maxI ns := by have a := h2 _ m1; have b := m2 _ h1; omega
            rw [this]; exact q.ok R (.d (.int _))
  · cases e
theorem cg_min : CallG K (rMin K) minG := by
  intro y B M σ H ρ S I hot vs as d Q R r e q
  unfold minG at e
  split at e
  · rename_i ds
    cases e2 : intsOf ds with
    | none => rw [e2] at e; cases e
    | some ns =>
      rw [e2] at e
      dsimp only [Option.bind_some] at e
      split at e
      · cases e
      · rename_i hn
        cases e
        have hne : ns ≠ [] := fun z => hn (by rw [z]; rfl)
        obtain ⟨v, rfl, h⟩ := paired1 r
        have h := h.dat
        cases h with
        | lst hp n hr =>
          obtain ⟨m1, m2⟩ := minI_ok hne
          refine ⟨_, ns, rfl, ?_, List.length_pos_iff.mpr hne, fun m h1 h2 => ?_⟩
          · rw [← ints_reps hr e2]; exact SqL.of (R.wd.ext _ _ hp)
          · have : m = minI ns := by have a := h2 _ m1; have b := m2 _ h1; omega
            rw [this]; exact q.ok R (.d (.int _))
  · cases e
/-- str of an int or a text -/
noncomputable def strG (_ : Sx) : List A → Option D
  | [.d (.int i)] => if i.natAbs.log2 < 1920 ∧ (Str.ofString (toString i)).length ≤ sizeLine then some (.str (toString i)) else none
  | [.d (.str z)] => some (.str z)
  | _ => none
theorem call_strG {X : Cx} : CallR X (.type "str") (fun xs H Q => (∃ i, xs = [.int i] ∧ i.natAbs.log2 < 1920 ∧ Q (.str (toString i)) H) ∨ ∃ a, xs = [.str a] ∧ Q (.str a) H) := by
  intro pins s σ H xs us Q I r h
  rcases h with h | h
  · exact call_str_int pins s σ H xs us Q I r h
  · exact SkE.call_str_str pins s σ H xs us Q I r h
theorem cg_str : CallG K (fun xs H Q => (∃ i : Int, xs = [.int i] ∧ i.natAbs.log2 < 1920 ∧ Q (.str (toString i)) H) ∨ ∃ a, xs = [.str a] ∧ Q (.str a) H) strG := by
  intro y B M σ H ρ S I hot vs as d Q R r e q
  unfold strG at e
  split at e
  · split at e
    · rename_i hc
      cases e
      obtain ⟨v, rfl, h1⟩ := paired1 r
      have h1 := h1.dat; cases h1
      exact .inl ⟨_, rfl, hc.1, q.ok R (.d (.str _ hc.2))⟩
    · cases e
  · cases e
    obtain ⟨v, rfl, h1⟩ := paired1 r
    have h1 := h1.dat
    cases h1 with
    | str _ hz => exact .inr ⟨_, rfl, q.ok R (.d (.str _ hz))⟩
  · cases e
/-- int of a text -/
def intSG (_ : Sx) : List A → Option D
  | [.d (.str z)] => if z.length ≤ 640 then (PySem.intText? z).map .int else none
  | _ => none
theorem cg_intS : CallG K (fun xs H Q => ∃ a n, xs = [.str a] ∧ PySem.intText? a = some n ∧ a.length ≤ 640 ∧ Q (.int n) H) intSG := by
  intro y B M σ H ρ S I hot vs as d Q R r e q
  unfold intSG at e
  split at e
  · rename_i z
    split at e
    · rename_i hz
      cases en : PySem.intText? z with
      | none => rw [en] at e; cases e
      | some n =>
        rw [en] at e; cases e
        obtain ⟨v, rfl, h1⟩ := paired1 r
        have h1 := h1.dat; cases h1
        exact ⟨z, n, rfl, en, hz, q.ok R (.d (.int _))⟩
    · cases e
  · cases e
end
end G
namespace G
open PySem PySem.Spec L2 PyProof.Rows
open PySem.W (Frag)
variable {X : Cx} {x : Xc} {M : List Nat}
/-! ### x or y, x and y by truth -/
theorem truA_V {K : Frag} {B : Bs} {σ : L2.St} {H : Hp} {ρ : Rho} {S : Sx} {I : Hp} {hot : List Addr} {v : V} {a : A} {b : Bool} (R1 : Rel K B M σ H ρ S I hot) (r1 : RepA K hot I v a) (e : truA S a = some b) : TruV K v H b := by
  cases r1 with
  | d r =>
    cases r with
    | non => simp [truA] at e; exact e
    | bl c => simp [truA] at e; exact e.symm
    | int i => simp [truA] at e; exact e.symm
    | str z hz =>
      simp only [truA] at e
      exact ⟨hz, (Option.some.inj e).symm⟩
    | lst hl _ hr =>
      simp only [truA, Option.some.injEq] at e
      refine .inl ⟨_, SqL.of (R1.wd.ext _ _ hl), ?_⟩
      rw [← e]; cases hr <;> rfl
    | tup hl _ hr =>
      simp only [truA, Option.some.injEq] at e
      refine .inr (.inl ⟨_, hl.sq R1.wd.ext, ?_⟩)
      rw [← e]; cases hr <;> rfl
    | dct hl _ hr => simp [truA] at e
  | @scr p ns hs =>
    simp only [truA, Option.some.injEq] at e
    refine .inl ⟨ns.map V.int, ?_, ?_⟩
    · rcases hs with hs | hs
      · exact .inl (R1.wd.ext.rd hs)
      · exact .inr hs
    · rw [← e]; cases ns <;> rfl
  | hot _ => simp [truA] at e
  | exc _ => simp [truA] at e
def eOrT (f g : Fe) : Fe := fun ρ S => (f ρ S).bind fun a S1 => match truA S1 a with
  | some true => .ok a S1
  | some false => g ρ S1
  | none => .stuck
def eAndT (f g : Fe) : Fe := fun ρ S => (f ρ S).bind fun a S1 => match truA S1 a with
  | some true => g ρ S1
  | some false => .ok a S1
  | none => .stuck
section
variable {a b : Expr} {rest : List Expr} {f g : Fe} {pos : Pos}
theorem ge_orT (ha : GE X x M a f) (hb : GE X x M (.BoolOp .Or (b :: rest) pos) g) : GE X x M (.BoolOp .Or (a :: b :: rest) pos) (eOrT f g) := by
  refine PE.weak (pe_orT ha hb) ?_
  rintro σ H Q ⟨B, ρ, S, I, hot, R, h⟩
  refine ⟨B, ρ, S, I, hot, R, h.bind.mono ?_⟩
  rintro v H1 ⟨I1, S1, k, R1, s1, r1, _, h1⟩
  cases e : truA S1 k with
  | none => rw [e] at h1; exact h1.elim
  | some c =>
    rw [e] at h1
    refine ⟨c, truA_V R1 r1 e, ?_⟩
    cases c with
    | false => exact ⟨B, ρ, S1, I1, hot, R1, h1⟩
    | true => exact h1.ok R1 r1
theorem ge_andT (ha : GE X x M a f) (hb : GE X x M (.BoolOp .And (b :: rest) pos) g) : GE X x M (.BoolOp .And (a :: b :: rest) pos) (eAndT f g) := by
  refine PE.weak (pe_andT ha hb) ?_
  rintro σ H Q ⟨B, ρ, S, I, hot, R, h⟩
  refine ⟨B, ρ, S, I, hot, R, h.bind.mono ?_⟩
  rintro v H1 ⟨I1, S1, k, R1, s1, r1, _, h1⟩
  cases e : truA S1 k with
  | none => rw [e] at h1; exact h1.elim
  | some c =>
    rw [e] at h1
    refine ⟨c, truA_V R1 r1 e, ?_⟩
    cases c with
    | true => exact ⟨B, ρ, S1, I1, hot, R1, h1⟩
    | false => exact h1.ok R1 r1
end
section
variable {ρ : Rho} {S : Sx}
@[simp] theorem ev_orT {f g : Fe} : eOrT f g ρ S = (f ρ S).bind fun a S1 => (match truA S1 a with
  | some true => .ok a S1
  | some false => g ρ S1
  | none => .stuck) := rfl
@[simp] theorem ev_andT {f g : Fe} : eAndT f g ρ S = (f ρ S).bind fun a S1 => (match truA S1 a with
  | some true => g ρ S1
  | some false => .ok a S1
  | none => .stuck) := rfl
end
end G
namespace G
open PySem PySem.Spec L2 PyProof.Rows
open PySem.W (Frag)
variable {X : Cx} {x : Xc} {M M' : List Nat}
/-! ### what is not told: stuck -/
def eStk : Fe := fun _ _ => .stuck
theorem ge_stk {e : Expr} : GE X x M e eStk := ⟨fun pins s σ H Q I q => by obtain ⟨_, _, _, _, _, _, h⟩ := q; exact h.elim⟩
def tStk : Ft := fun _ _ => .stuck
theorem gt_stk {e : Expr} : GT X x M e tStk := ⟨fun pins s σ H Q I q => by obtain ⟨_, _, _, _, _, _, h⟩ := q; exact h.elim⟩
def sStk : Fs := fun _ _ => .stuck
theorem gs_stk {e : Stmt} : GS X x M M' e sStk := ⟨fun pins s σ H D I q => by obtain ⟨_, _, _, _, _, _, h⟩ := q; exact h.elim⟩
theorem callee_stk {P : Program} {w : World} {K : Frag} {mg : Str → Option Value} {base : Heap} {k : Nat} {st : Stmt} {x : Str} {ps : List Str} (a : At K mg st x ps) : Callee P w K mg base k x (fun _ _ => .stuck) := by
  obtain ⟨f, fd, F, hm, hb⟩ := a.ex
  refine ⟨f, fd, ps, ⟨fun vs H Q E h => ?_, fun A outer s H args us vs Q E _ _ _ _ h => ?_⟩, hm, F.kp, hb⟩
  · obtain ⟨_, _, _, _, _, _, h⟩ := h; exact h.elim
  · obtain ⟨_, _, _, _, _, _, h⟩ := h; exact h.elim
end G
namespace G
open PySem PySem.Spec L2 PyProof.Rows
open PySem.W (Frag)
/-! ### results that nobody else holds -/
def mutD : D → Bool
  | .lst _ => true
  | .dct _ => true
  | _ => false
def FrV (H I : Hp) (v : V) (d : D) : Prop := ∀ a, v = .ref a → mutD d = true → H a = none ∧ ∀ o u, I a ≠ some (.frz o u)
def FrA (H I : Hp) (v : V) (a : A) : Prop := ∀ d, a = .d d → FrV H I v d
theorem FrV.flat {H I : Hp} {v : V} {d : D} (h : mutD d = false) : FrV H I v d := fun a _ z => by rw [h] at z; cases z
theorem FrV.back {hot : List Addr} {H I H' I' J : Hp} {v : V} {d : D} (h : FrV H' J v d) (s : Stp hot H I H' I') : FrV H J v d := fun a e z => ⟨s.back (h a e z).1, (h a e z).2⟩
/-- an expression whose value is new, where it can be changed at all -/
def tOfF (K : Frag) (x : Xc) (M : List Nat) (f : Fe) : TE := fun σ H Q => ∃ B ρ S I hot, Rel K B M σ H ρ S I hot ∧ After K x B M σ ρ hot (fun I' v a => RepA K hot I' v a ∧ FrA H I' v a) H I (f ρ S) Q
def GF (X : Cx) (x : Xc) (M : List Nat) (e : Expr) (f : Fe) : Prop := PE X e (tOfF X.K x M f)
def flatA : A → Bool
  | .d d => !mutD d
  | _ => false
def eFlat (f : Fe) : Fe := fun ρ S => (f ρ S).bind fun a S1 => if flatA a = true then .ok a S1 else .stuck
section
variable {X : Cx} {x : Xc} {M M' M1 M2 : List Nat} {k : Nat}
theorem ge_flat {e : Expr} {f : Fe} (h : GE X x M e f) : GE X x M e (eFlat f) := by
  refine PE.weak h ?_
  rintro σ H Q ⟨B, ρ, S, I, hot, R, h⟩
  refine ⟨B, ρ, S, I, hot, R, ?_⟩
  unfold eFlat at h
  cases e : f ρ S with
  | stuck => rw [e] at h; exact h.elim
  | exc c S1 => rw [e] at h; exact h
  | ok a S1 =>
    rw [e] at h
    simp only [bind_ok] at h
    by_cases c : flatA a = true
    · rw [if_pos c] at h; exact h
    · rw [if_neg c] at h; exact h.elim
theorem gf_flat {e : Expr} {f : Fe} (h : GE X x M e f) : GF X x M e (eFlat f) := by
  refine PE.weak h ?_
  rintro σ H Q ⟨B, ρ, S, I, hot, R, h⟩
  refine ⟨B, ρ, S, I, hot, R, ?_⟩
  unfold eFlat at h
  cases e : f ρ S with
  | stuck => rw [e] at h; exact h.elim
  | exc c S1 => rw [e] at h; exact h
  | ok a S1 =>
    rw [e] at h
    simp only [bind_ok] at h
    by_cases c : flatA a = true
    · rw [if_pos c] at h
      intro v H' I' R' s' ra
      refine h v H' I' R' s' ⟨ra, fun d ed => FrV.flat ?_⟩
      subst ed
      simpa [flatA] using c
    · rw [if_neg c] at h; exact h.elim
theorem gf_new {e : Expr} {f : Fd} (h : GN X x M e f) : GF X x M e (dA f) := by
  refine PE.weak h ?_
  rintro σ H Q ⟨B, ρ, S, I, hot, R, h⟩
  refine ⟨B, ρ, S, I, hot, R, ?_⟩
  unfold dA at h
  cases ef : f ρ S with
  | stuck => rw [ef] at h; exact h
  | exc c S' => rw [ef] at h; exact h
  | ok d S' =>
    rw [ef] at h
    intro p H' I' R' s' o hp
    obtain ⟨_, _, hb, hn⟩ := R.freshB hp
    obtain ⟨J, e1, nw, RJ, rp⟩ := own_rep (K := X.K) (S := S') (H := H') (I := I') R' R' o hb hn
    refine h (.ref p) H' J RJ ⟨s'.ext.trans e1, s'.keep, s'.stay, fun a u q => ?_⟩ ⟨.d rp, fun d' _ a ea _ => ?_⟩
    · rcases nw a u q with q | q
      · exact s'.new a u q
      · subst q; exact .inr hp
    · cases ea
      refine ⟨hp, fun oo u q => ?_⟩
      have q := RJ.wd.ext _ _ q
      rcases o.2.2 with ⟨vs, ds, _, w2, _⟩ | ⟨ws, kvs, _, w2, _⟩
      · rw [w2] at q; cases q
      · rw [w2] at q; cases q
theorem gf_if {a b c : Expr} {t : Ft} {f g : Fe} {pos : Pos} (hc : GT X x M c t) (ha : GF X x M a f) (hb : GF X x M b g) : GF X x M (.IfExp c a b pos) (eIf t f g) := by
  refine PE.weak (pe_ifExp hc ha hb) ?_
  rintro σ H Q ⟨B, ρ, S, I, hot, R, h⟩
  refine ⟨B, ρ, S, I, hot, R, h.bind.mono ?_⟩
  rintro c H1 ⟨I1, S1, k, R1, s1, r1, _, h1⟩
  cases (show c = k from r1)
  have wk : ∀ r : Res A, After X.K x B M σ ρ hot (fun I' v a => RepA X.K hot I' v a ∧ FrA H I' v a) H1 I1 r Q → After X.K x B M σ ρ hot (fun I' v a => RepA X.K hot I' v a ∧ FrA H1 I' v a) H1 I1 r Q := fun r h => by
    cases r with
    | ok a S => exact fun v H' I' R' s' ⟨ra, fr⟩ => h v H' I' R' s' ⟨ra, fun d e => (fr d e).back s1⟩
    | exc c S => exact h
    | stuck => exact h
  cases c with
  | true => exact ⟨B, ρ, S1, I1, hot, R1, wk _ h1⟩
  | false => exact ⟨B, ρ, S1, I1, hot, R1, wk _ h1⟩
/-! ### defs whose results are new -/
def spOfF (K : Frag) (F : Fn) : Sp := fun vs H Q E => ∃ as S I hot, Wld K H S I hot ∧ RepsA K hot I vs as ∧ match F as S with
  | .ok d S' => ∀ v H' I', Stp hot H I H' I' → Wld K H' S' I' hot → Rep I' v d → FrV H I' v d → Q v H'
  | .exc c S' => ∀ H' I', Stp hot H I H' I' → Wld K H' S' I' hot → E (.ref (He.ga K c)) none H'
  | .stuck => False
structure CalleeF (P : Program) (w : World) (K : Frag) (mg : Str → Option Value) (base : Heap) (k : Nat) (x : Str) (F : Fn) : Prop where
  ex : ∃ f fd ps, FnOk P w K mg base (L2.CX P w) k f fd ps (spOfF K F) ∧ mg x = some (.ref f) ∧ PySem.W.keepIn K (.ref f) = true ∧ Binds K fd ps []
theorem gf_own {F : Fn} {fa : Fa} {n : Str} {e : Expr} {es : List Expr} {p pos : Pos} (c : Cq X x k) (C : CalleeF X.prog X.w X.K X.mg X.base k n F) (ha : GA X x M (e :: es) fa) (hM : x.M = [] ∨ x.M = M := by first | exact .inl rfl | exact .inr rfl) (hgl : Gl X n := by rfl)
    (hdb : (n == ("__debug__" : Str)) = false := by decide) (he : starEach (e :: es) X.env = (false, eval e X.env) :: starEach es X.env := by rfl) (hpl : (backTo pos (starEach es X.env)).any (·.1) = false := by rfl) :
    GF X x M (.Call (.Name n p) (e :: es) [] pos) (eOwn F fa) := by
  obtain ⟨f, fd, ps, G, hm, hk, hb⟩ := C.ex
  refine PE.weak (pe_callS (E := WE x.W) G c.room hgl hm hk hb (fun σ => passAt c.take σ) ha hdb he hpl) ?_
  rintro σ H Q ⟨B, ρ, S, I, hot, R, h⟩
  refine ⟨B, ρ, S, I, hot, R, h.bind.mono ?_⟩
  rintro vs H1 ⟨I1, S1, as, R1, s1, r1, _, h1⟩
  refine ⟨as, S1, I1, hot, R1.wd, r1, ?_⟩
  cases ef : F as S1 with
  | stuck => rw [ef] at h1; exact h1
  | ok d S2 =>
    rw [ef] at h1
    intro v H' I' st w rv fr
    refine h1 v H' I' (R1.step st w) st ⟨.d rv, fun d' ed => ?_⟩
    cases ed
    exact fr.back s1
  | exc cl S2 =>
    rw [ef] at h1
    intro H' I' st w
    have R2 := R1.step st w
    rcases hM with hM | hM
    · obtain ⟨J, _, R3⟩ := R2.freeze (M' := x.M) (by rw [hM]; intro i hi; cases hi)
      exact h1 σ H' J rfl R3
    · rw [← hM] at R2
      exact h1 σ H' I' rfl R2
/-! ### statements of such defs -/
def OutOkF (K : Frag) (x : Xc) (B : Bs) (M' : List Nat) (hot : List Addr) (I : Hp) (D : Ends) (o : Out) : Prop := match o with
  | .nx ρ' S' => ∀ σ' H' I', Ext I I' → Rel K B M' σ' H' ρ' S' I' hot → D.nx σ' H'
  | .rt d S' => ∀ v H' I', Stp hot B.H B.I H' I' → Wld K H' S' I' hot → Rep I' v d → FrV B.H I' v d → D.rt v H'
  | .xc c ρ' S' => ∀ σ' H' I', Rel K B x.M σ' H' ρ' S' I' hot → x.W (.ref (He.ga K c)) none σ' H'
  | .stuck => False
theorem OutOkF.from {K : Frag} {x : Xc} {B : Bs} {M' : List Nat} {hot : List Addr} {I J : Hp} {D : Ends} {o : Out} (h : OutOkF K x B M' hot I D o) (e : Ext I J) : OutOkF K x B M' hot J D o := by
  cases o with
  | nx ρ' S' => exact fun σ' H' I' e' R' => h σ' H' I' (e.trans e') R'
  | rt d S' => exact h
  | xc c ρ' S' => exact h
  | stuck => exact h
def sOfF (K : Frag) (x : Xc) (M M' : List Nat) (f : Fs) : TS := fun D σ H => ∃ B ρ S I hot, Rel K B M σ H ρ S I hot ∧ OutOkF K x B M' hot I D (f ρ S)
def HS (X : Cx) (x : Xc) (M M' : List Nat) (st : Stmt) (f : Fs) : Prop := PS X st (sOfF X.K x M M' f)
def HSs (X : Cx) (x : Xc) (M M' : List Nat) (st : List Stmt) (f : Fs) : Prop := PSs X st (sOfF X.K x M M' f)
/-- a statement that returns nothing -/
theorem hs_of {st : Stmt} {f : Fs} (h : GS X x M M' st f) (hn : ∀ ρ S d S', f ρ S ≠ .rt d S') : HS X x M M' st f := by
  refine PS.weak h ?_
  rintro D σ H ⟨B, ρ, S, I, hot, R, h⟩
  refine ⟨B, ρ, S, I, hot, R, ?_⟩
  cases e : f ρ S with
  | nx ρ' S' => rw [e] at h; exact h
  | rt d S' => exact absurd e (hn ρ S d S')
  | xc c ρ' S' => rw [e] at h; exact h
  | stuck => rw [e] at h; exact h
theorem hss_nil : HSs X x M M [] sNil := by
  refine PSs.weak pss_nil ?_
  rintro D σ H ⟨B, ρ, S, I, hot, R, h⟩
  exact h σ H I (Ext.refl _) R
theorem hss_cons {st : Stmt} {rest : List Stmt} {f g : Fs} (h1 : HS X x M M1 st f) (h2 : HSs X x M1 M2 rest g) : HSs X x M M2 (st :: rest) (sSeq f g) := by
  refine PSs.weak (pss_cons h1 h2) ?_
  rintro D σ H ⟨B, ρ, S, I, hot, R, h⟩
  refine ⟨B, ρ, S, I, hot, R, ?_⟩
  unfold sSeq at h
  cases e : f ρ S with
  | nx ρ' S' => rw [e] at h; exact fun σ' H' I' e' R' => ⟨B, ρ', S', I', hot, R', OutOkF.from h e'⟩
  | rt d S' => rw [e] at h; exact h
  | xc c ρ' S' => rw [e] at h; exact h
  | stuck => rw [e] at h; exact h
theorem hss_one {st : Stmt} {f : Fs} (h1 : HS X x M M1 st f) : HSs X x M M1 [st] f := pss_one h1
theorem hss_frz {sts : List Stmt} {f : Fs} (Mf : List Nat) (h : HSs X x Mf M2 sts f) (hs : ∀ i ∈ Mf, i ∈ M := by decide) : HSs X x M M2 sts f := by
  refine PSs.weak h ?_
  rintro D σ H ⟨B, ρ, S, I, hot, R, h⟩
  obtain ⟨J, e, R'⟩ := R.freeze hs
  exact ⟨B, ρ, S, J, hot, R', OutOkF.from h e⟩
theorem hs_if {c : Expr} {a b : List Stmt} {t : Ft} {f g : Fs} {pos : Pos} (hc : GT X x M c t) (ha : HSs X x M M' a f) (hb : HSs X x M M' b g) : HS X x M M' (.If c a b pos) (sIf t f g) := by
  refine PS.weak (ps_if hc ha hb) ?_
  rintro D σ H ⟨B, ρ, S, I, hot, R, h⟩
  refine ⟨B, ρ, S, I, hot, R, ?_⟩
  unfold sIf at h
  cases e : t ρ S with
  | stuck => rw [e] at h; exact h.elim
  | exc cl S1 => rw [e] at h; exact fun σ' H' I' e R' => by subst e; exact h _ H' I' R'
  | ok k S1 =>
    rw [e] at h
    intro v H' I' R' s' ev
    cases (show v = k from ev)
    cases k with
    | true => exact ⟨B, ρ, S1, I', hot, R', OutOkF.from h s'.ext⟩
    | false => exact ⟨B, ρ, S1, I', hot, R', OutOkF.from h s'.ext⟩
theorem hs_ret {e : Expr} {f : Fe} {pos : Pos} (he : GF X x M e f) : HS X x M M' (.Return (some e) pos) (sRet f) := by
  refine PS.weak (ps_ret he) ?_
  rintro D σ H ⟨B, ρ, S, I, hot, R, h⟩
  refine ⟨B, ρ, S, I, hot, R, ?_⟩
  unfold sRet at h
  cases e : f ρ S with
  | stuck => rw [e] at h; exact h.elim
  | exc c S1 => rw [e] at h; exact fun σ' H' I' e R' => by subst e; exact h _ H' I' R'
  | ok a S1 =>
    rw [e] at h
    rintro v H' I' R' s' ⟨ra, fr⟩
    cases ra with
    | d r => exact h v H' I' R'.st R'.wd r ((fr _ rfl).back R.st)
    | _ => exact h.elim
theorem hs_for {tg it : Expr} {body : List Stmt} {fi : Fi} {t : Tgt} {f : Fs} {pos : Pos} (hp : PassesOwn (model X.prog X.w) X.A X.env X.xe) (hi : GI X x M tg it fi) (hg : GG X tg t) (hb : HSs X x M M body f) (hts : ∀ i ∈ t.slots, i ∉ M := by decide) (hc : X.calm = true := by rfl)
    (hs : ∀ y, foldedSetIterable it X.env y = pure y := by intro _; rfl) : HS X x M M (.For tg it body [] pos) (sFor fi t f) := by
  refine PS.weak (ps_for hp hc hi hg hb hs) ?_
  rintro D σ H ⟨B, ρ, S, I, hot, R, h⟩
  refine ⟨B, ρ, S, I, hot, R, ?_⟩
  unfold sFor at h
  cases e : fi ρ S with
  | stuck => rw [e] at h; exact h.elim
  | exc cl S1 => rw [e] at h; exact fun σ' H' I' e R' => by subst e; exact h _ H' I' R'
  | ok ds S1 =>
    rw [e] at h
    rintro J H1 I1 R1 s1 ⟨hz, w⟩
    have h : OutOkF X.K x B M hot I1 D (forF t f ds ρ S1) := OutOkF.from h s1.ext
    refine for_it w (fun i σ' H' => ∃ I' S' ρ', Rel X.K B M σ' H' ρ' S' I' hot ∧ Ext I1 I' ∧ OutOkF X.K x B M hot I' D (forF t f (ds.drop i) ρ' S')) ⟨I1, S1, ρ, R1, Ext.refl _, by rw [List.drop_zero]; exact h⟩ ?_ ?_ ?_
    · rintro i σ' H' _ ⟨I', S', ρ', R', e', _⟩
      exact e'.trans R'.wd.ext
    · rintro i v σ' H' H'' hi ⟨I', S', ρ', R', e', h'⟩ ⟨rfl, d, hd, rd⟩
      rw [List.drop_eq_getElem_cons hi] at h'
      have ed : ds[i] = d := by rw [List.getElem?_eq_getElem hi] at hd; exact Option.some.inj hd
      rw [ed] at h'
      unfold forF at h'
      cases eb : bindT t d ρ' with
      | none => rw [eb] at h'; exact h'.elim
      | some ρ2 =>
        rw [eb] at h'
        refine gT_ok R' (rd.ext e') eb hts fun us Rw => ?_
        refine ⟨B, ρ2, S', I', hot, Rw, ?_⟩
        dsimp only at h'
        cases ef : f ρ2 S' with
        | nx ρ3 S3 => rw [ef] at h'; exact fun σ3 H3 I3 e3 R3 => ⟨I3, S3, ρ3, R3, e'.trans e3, OutOkF.from h' e3⟩
        | rt d S3 => rw [ef] at h'; exact h'
        | xc c ρ3 S3 => rw [ef] at h'; exact h'
        | stuck => rw [ef] at h'; exact h'
    · rintro σ' H' ⟨I', S', ρ', R', e', h'⟩
      rw [List.drop_length] at h'
      exact h' σ' H' I' (Ext.refl _) R'
theorem noRt_asg {i : Nat} {f : Fe} : ∀ ρ S d S', sAsg i f ρ S ≠ .rt d S' := fun ρ S d S' => by
  unfold sAsg; cases f ρ S <;> simp [onE]
theorem noRt_asgN {i : Nat} {f : Fd} : ∀ ρ S d S', sAsgN i f ρ S ≠ .rt d S' := fun ρ S d S' => by
  unfold sAsgN; cases dA f ρ S <;> simp [onE]
theorem noRt_expr {f : Fe} : ∀ ρ S d S', sExpr f ρ S ≠ .rt d S' := fun ρ S d S' => by
  unfold sExpr; cases f ρ S <;> simp [onE]
theorem noRt_raise {c : Str} : ∀ ρ S d S', sRaise c ρ S ≠ .rt d S' := fun ρ S d S' => by simp [sRaise]
theorem noRt_nil : ∀ ρ S d S', sNil ρ S ≠ .rt d S' := fun ρ S d S' => by simp [sNil]
theorem noRt_app {i : Nat} {f : Fe} : ∀ ρ S d S', sApp i f ρ S ≠ .rt d S' := fun ρ S d S' => by
  unfold sApp
  cases ownL ρ i with
  | none => simp
  | some xs =>
    dsimp only
    cases f ρ S with
    | ok a S1 =>
      cases a with
      | d u => simp only [onE_ok]; split <;> simp
      | _ => simp [onE]
    | _ => simp [onE]
theorem noRt_if {t : Ft} {f g : Fs} (hf : ∀ ρ S d S', f ρ S ≠ .rt d S') (hg : ∀ ρ S d S', g ρ S ≠ .rt d S') : ∀ ρ S d S', sIf t f g ρ S ≠ .rt d S' := fun ρ S d S' => by
  unfold sIf
  cases t ρ S with
  | ok b S1 => cases b <;> simp <;> first | exact hf _ _ _ _ | exact hg _ _ _ _
  | _ => simp
theorem noRt_seq {f g : Fs} (hf : ∀ ρ S d S', f ρ S ≠ .rt d S') (hg : ∀ ρ S d S', g ρ S ≠ .rt d S') : ∀ ρ S d S', sSeq f g ρ S ≠ .rt d S' := fun ρ S d S' => by
  unfold sSeq
  cases e : f ρ S with
  | nx ρ' S1 => exact hg _ _ _ _
  | rt d1 S1 => exact absurd e (hf _ _ _ _)
  | xc c ρ' S1 => simp
  | stuck => simp
theorem noRt_for {fi : Fi} {t : Tgt} {f : Fs} (hf : ∀ ρ S d S', f ρ S ≠ .rt d S') : ∀ ρ S d S', sFor fi t f ρ S ≠ .rt d S' := by
  have main : ∀ (ds : List D) ρ S d S', forF t f ds ρ S ≠ .rt d S' := by
    intro ds
    induction ds with
    | nil => intro ρ S d S'; simp [forF]
    | cons x r ih =>
      intro ρ S d S'
      simp only [forF]
      cases bindT t x ρ with
      | none => simp
      | some ρ1 =>
        dsimp only
        cases e : f ρ1 S with
        | nx ρ2 S2 => exact ih _ _ _ _
        | rt d1 S1 => exact absurd e (hf _ _ _ _)
        | xc c ρ' S1 => simp
        | stuck => simp
  intro ρ S d S'
  unfold sFor
  cases fi ρ S with
  | ok ds S1 => exact main ds _ _ _ _
  | _ => simp
end
structure BdF (P : Program) (w : World) (K : Frag) (mg : Str → Option Value) (base : Heap) (k : Nat) (N : List Str) (x : Str) (sc : Scope) (body : List Stmt) (fs : Fs) : Prop where
  run : ∀ (f : Addr) (cdv : Value) (A : Around) (outer : List Env) (s : Shared) (H : Hp) (E : XK), Cq (cxOf (L2.CX P w) P w K mg base N x sc f cdv A outer s H E) (xcE E) k →
    PassesOwn (model P w) (cxOf (L2.CX P w) P w K mg base N x sc f cdv A outer s H E).A (cxOf (L2.CX P w) P w K mg base N x sc f cdv A outer s H E).env (cxOf (L2.CX P w) P w K mg base N x sc f cdv A outer s H E).xe →
    ∃ M', HSs (cxOf (L2.CX P w) P w K mg base N x sc f cdv A outer s H E) (xcE E) [] M' body fs
section
variable {P : Program} {w : World} {K : Frag} {mg : Str → Option Value} {base : Heap}
theorem fn_GF {k n m : Nat} {st : Stmt} {x : Str} {f : Addr} {fd : FuncData} {N ps : List Str} {fs : Fs} (F : DfD K st x f fd) (S : FnScope N ps (defScope st)) (hn : ps.length = n) (hN : N.length = n + m) (b : BdF P w K mg base k N x (defScope st) (defBody st) fs) :
    FnOk P w K mg base (L2.CX P w) (k + 1) f fd ps (spOfF K (runF n m fs)) := by
  refine FunD.ok (CX := L2.CX P w) F S (fun vs H Q E h => ?_) fun cdv A outer s H vs Q E hr h => ?_
  · obtain ⟨as, S1, I, hot, w1, r, h⟩ := h
    unfold runF at h
    split at h
    · rename_i q
      split at q
      · rename_i hl; rw [paired_len r, hl, hn]
      · cases q
    · rename_i q
      split at q
      · rename_i hl; rw [paired_len r, hl, hn]
      · cases q
    · exact h.elim
  · have T : Takes (cxOf (L2.CX P w) P w K mg base N x (defScope st) f cdv A outer s H E) (xcE E).W := takes_of rfl rfl rfl rfl
    obtain ⟨M', g⟩ := b.run f cdv A outer s H E ⟨hr, T⟩ (passes_of rfl)
    refine ⟨_, g, ?_⟩
    obtain ⟨as, S1, I, hot, w1, r, h⟩ := h
    unfold runF at h
    by_cases hl : as.length = n
    · rw [if_pos hl] at h
      refine ⟨⟨H, I⟩, as.map some ++ List.replicate m none, S1, I, hot, rel_start w1 r (by rw [hN, hl]), ?_⟩
      cases e : fs (as.map some ++ List.replicate m none) S1 with
      | nx ρ2 S2 => rw [e] at h; exact fun σ' H' I' _ R' => h .non H' I' R'.st R'.wd .non (FrV.flat rfl)
      | rt d S2 => rw [e] at h; exact fun v H' I' st w rv fr => h v H' I' st w rv fr
      | xc c ρ2 S2 => rw [e] at h; exact fun σ' H' I' R' => h H' I' R'.st R'.wd
      | stuck => rw [e] at h; exact h.elim
    · rw [if_neg hl] at h
      exact h.elim
theorem callee_GF {k n m : Nat} {st : Stmt} {x : Str} {N ps : List Str} {fs : Fs} (a : At K mg st x ps) (S : FnScope N ps (defScope st)) (hn : ps.length = n) (hN : N.length = n + m) (b : BdF P w K mg base k N x (defScope st) (defBody st) fs) : CalleeF P w K mg base (k + 1) x (runF n m fs) := by
  obtain ⟨f, fd, F, hm, hb⟩ := a.ex
  exact ⟨f, fd, ps, fn_GF F S hn hN b, hm, F.kp, hb⟩
theorem callee_F0 {st : Stmt} {x : Str} {ps : List Str} (a : At K mg st x ps) : CalleeF P w K mg base 0 x (fun _ _ => .stuck) := by
  obtain ⟨f, fd, F, hm, hb⟩ := a.ex
  refine ⟨f, fd, ps, ⟨fun vs H Q E h => ?_, fun A outer s H args us vs Q E _ _ _ _ h => ?_⟩, hm, F.kp, hb⟩
  · obtain ⟨_, _, _, _, _, _, h⟩ := h; exact h.elim
  · obtain ⟨_, _, _, _, _, _, h⟩ := h; exact h.elim
end
section
variable {ρ : Rho} {S : Sx}
@[simp] theorem ev_flat {f : Fe} : eFlat f ρ S = (f ρ S).bind fun a S1 => if flatA a = true then .ok a S1 else .stuck := rfl
@[simp] theorem flatA_non : flatA (.d .non) = true := rfl
@[simp] theorem flatA_bl {b : Bool} : flatA (.d (.bl b)) = true := rfl
@[simp] theorem flatA_int {i : Int} : flatA (.d (.int i)) = true := rfl
@[simp] theorem flatA_str {z : Str} : flatA (.d (.str z)) = true := rfl
@[simp] theorem flatA_tup {xs : List D} : flatA (.d (.tup xs)) = true := rfl
end
end G
namespace G
open PySem PySem.Spec L2 PyProof.Rows
open PySem.W (Frag)
open Classical
/-! ### what is new may be changed -/
noncomputable def wo (I : Hp) (a : Addr) : Hp := fun b => if b = a then none else I b
theorem wo_ne {I : Hp} {a b : Addr} (h : b ≠ a) : wo I a b = I b := if_neg h
theorem wo_self {I : Hp} {a : Addr} : wo I a a = none := if_pos rfl
theorem depL {x : D} : ∀ {xs : List D}, x ∈ xs → depthD x ≤ depthL xs
  | y :: ys, h => by
    simp only [depthL]
    rcases List.mem_cons.mp h with rfl | h
    · omega
    · have := depL h; omega
mutual
theorem Rep.wo {I : Hp} {a : Addr} {n : Nat} (ha : ∀ d, Rep I (.ref a) d → n ≤ depthD d) : ∀ {v : V} {d : D}, Rep I v d → depthD d < n → Rep (wo I a) v d
  | _, _, .non, _ => .non
  | _, _, .bl b, _ => .bl b
  | _, _, .int i, _ => .int i
  | _, _, .str z h, _ => .str z h
  | _, _, .lst (a := b) (vs := vs) (ds := ds) h1 h2 h3, hn => by
    have ne : b ≠ a := fun e => by
      subst e
      have := ha _ (.lst h1 h2 h3); omega
    simp only [depthD] at hn
    exact .lst (by rw [wo_ne ne]; exact h1) h2 (Reps.wo ha h3 (by omega))
  | _, _, .tup (a := b) (vs := vs) (ds := ds) h1 h2 h3, hn => by
    have ne : b ≠ a := fun e => by
      subst e
      have := ha _ (.tup h1 h2 h3); omega
    simp only [depthD] at hn
    obtain ⟨o, e1, e2⟩ := h1
    exact .tup ⟨o, by rw [wo_ne ne]; exact e1, e2⟩ h2 (Reps.wo ha h3 (by omega))
  | _, _, .dct (a := b) (ws := ws) (kvs := kvs) h1 h2 h3, hn => by
    have ne : b ≠ a := fun e => by
      subst e
      have := ha _ (.dct h1 h2 h3); omega
    simp only [depthD] at hn
    refine .dct ?_ h2 (Repk.wo ha h3 (by omega))
    rcases h1 with h1 | ⟨o, h1⟩
    · exact .inl (by rw [wo_ne ne]; exact h1)
    · exact .inr ⟨o, by rw [wo_ne ne]; exact h1⟩
theorem Reps.wo {I : Hp} {a : Addr} {n : Nat} (ha : ∀ d, Rep I (.ref a) d → n ≤ depthD d) : ∀ {vs : List V} {ds : List D}, Reps I vs ds → depthL ds < n → Reps (wo I a) vs ds
  | _, _, .nil, _ => .nil
  | _, _, .cons h r, hn => by
    simp only [depthL] at hn
    exact .cons (Rep.wo ha h (by omega)) (Reps.wo ha r (by omega))
theorem Repk.wo {I : Hp} {a : Addr} {n : Nat} (ha : ∀ d, Rep I (.ref a) d → n ≤ depthD d) : ∀ {ws : List (Key × V)} {kvs : List (Key × D)}, Repk I ws kvs → depthK kvs < n → Repk (wo I a) ws kvs
  | _, _, .nil, _ => .nil
  | _, _, .cons z h r, hn => by
    simp only [depthK] at hn
    exact .cons z (Rep.wo ha h (by omega)) (Repk.wo ha r (by omega))
end
/-- what a value stands for is one thing -/
theorem Rd.inj {I : Hp} {a : Addr} {u w : List (Key × V)} (h : Rd I a (.dK u)) (g : Rd I a (.dK w)) : u = w := by
  rcases h with h | ⟨o, h⟩ <;> rcases g with g | ⟨o', g⟩ <;> rw [h] at g <;> cases g <;> rfl
mutual
theorem Rep.inj {I : Hp} : ∀ {v : V} {d e : D}, Rep I v d → Rep I v e → d = e
  | _, _, _, .non, h => by cases h; rfl
  | _, _, _, .bl b, h => by cases h; rfl
  | _, _, _, .int i, h => by cases h; rfl
  | _, _, _, .str z _, h => by cases h; rfl
  | _, _, _, .lst h1 h2 h3, h => by
    cases h with
    | lst g1 g2 g3 => rw [h1] at g1; cases g1; rw [Reps.inj h3 g3]
    | tup g1 g2 g3 => obtain ⟨o, g1, _⟩ := g1; rw [h1] at g1; cases g1
    | dct g1 g2 g3 =>
      rcases g1 with g1 | ⟨o, g1⟩
      · rw [h1] at g1; cases g1
      · rw [h1] at g1; cases g1
  | _, _, _, .tup h1 h2 h3, h => by
    obtain ⟨o, h1, _⟩ := h1
    cases h with
    | lst g1 g2 g3 => rw [h1] at g1; cases g1
    | tup g1 g2 g3 => obtain ⟨o', g1, _⟩ := g1; rw [h1] at g1; cases g1; rw [Reps.inj h3 g3]
    | dct g1 g2 g3 =>
      rcases g1 with g1 | ⟨o, g1⟩
      · rw [h1] at g1; cases g1
      · rw [h1] at g1; cases g1
  | _, _, _, .dct h1 h2 h3, h => by
    cases h with
    | lst g1 g2 g3 =>
      rcases h1 with h1 | ⟨o, h1⟩
      · rw [h1] at g1; cases g1
      · rw [h1] at g1; cases g1
    | tup g1 g2 g3 =>
      obtain ⟨o', g1, _⟩ := g1
      rcases h1 with h1 | ⟨o, h1⟩
      · rw [h1] at g1; cases g1
      · rw [h1] at g1; cases g1
    | dct g1 g2 g3 =>
      have := Rd.inj h1 g1
      subst this
      rw [Repk.inj h3 g3]
theorem Reps.inj {I : Hp} : ∀ {vs : List V} {ds es : List D}, Reps I vs ds → Reps I vs es → ds = es
  | _, _, _, .nil, h => by cases h; rfl
  | _, _, _, .cons a r, h => by
    cases h with
    | cons b q => rw [Rep.inj a b, Reps.inj r q]
theorem Repk.inj {I : Hp} : ∀ {ws : List (Key × V)} {ds es : List (Key × D)}, Repk I ws ds → Repk I ws es → ds = es
  | _, _, _, .nil, h => by cases h; rfl
  | _, _, _, .cons _ a r, h => by
    cases h with
    | cons _ b q => rw [Rep.inj a b, Repk.inj r q]
end
/-- a new value may be owned -/
theorem Rel.thaw {K : Frag} {B : Bs} {M : List Nat} {σ : L2.St} {H : Hp} {ρ : Rho} {S : Sx} {I : Hp} {hot : List Addr} {H2 I2 : Hp} {S2 : Sx} {a : Addr} {d : D} {i : Nat} (R : Rel K B M σ H ρ S I hot) (s : Stp hot H I H2 I2) (w : Wld K H2 S2 I2 hot) (r : Rep I2 (.ref a) d) (hd : mutD d = true) (fr : FrV H I2 (.ref a) d) (hi : i ∉ M) (hl : i < ρ.length) :
    ∃ J, Ext I J ∧ Rel K B (i :: M) (σ.set i (some (.ref a))) H2 (ρ.set i (some (.d d))) S2 J hot := by
  obtain ⟨hH, nf⟩ := fr a rfl hd
  obtain ⟨f1, f2, f3, f4⟩ := R.freshB hH
  have hx : ∀ d', Rep I2 (.ref a) d' → depthD d ≤ depthD d' := fun d' h => by rw [Rep.inj r h]; exact Nat.le_refl _
  have ext : Ext I (wo I2 a) := fun b o e => by
    have ne : b ≠ a := fun z => by rw [z, f1] at e; cases e
    rw [wo_ne ne]; exact s.ext b o e
  have sub : ∀ b o, wo I2 a b = some o → I2 b = some o := fun b o e => by
    by_cases z : b = a
    · rw [z, wo_self] at e; cases e
    · rw [wo_ne z] at e; exact e
  have off : ∀ b ∈ hot, wo I2 a b = none := fun b hb => by
    cases q : wo I2 a b with
    | none => rfl
    | some o =>
      have := sub b o q
      rw [w.off b hb] at this
      cases this
  have w' : Wld K H2 S2 (wo I2 a) hot := ⟨fun b o e => w.ext b o (sub b o e), w.len, w.at_, off, w.nd⟩
  have s' : Stp hot H I H2 (wo I2 a) := ⟨ext, s.keep, s.stay, fun b o e => s.new b o (sub b o e)⟩
  have o : OwnAt hot (wo I2 a) H2 a d := by
    refine ⟨wo_self, f2, ?_⟩
    cases r with
    | lst h1 h2 h3 => exact .inl ⟨_, _, rfl, w.ext _ _ h1, h2, Reps.wo hx h3 (by simp only [depthD]; omega)⟩
    | dct h1 h2 h3 =>
      rcases h1 with h1 | ⟨o, h1⟩
      · exact .inr ⟨_, _, rfl, w.ext _ _ h1, h2, Repk.wo hx h3 (by simp only [depthD]; omega)⟩
      · exact absurd h1 (nf _ _)
    | tup => cases hd
  exact ⟨wo I2 a, ext, (R.step s' w').setOwn o f3 f4 hi hl⟩
/-! ### other = f(..); other.append("late") or other["late"] = 1 -/
def sLate (i : Nat) (f : Fe) : Fs := fun ρ S => onE (f ρ S) ρ fun a S1 => match a with
  | .d (.lst xs) => if xs.length < sizeLine then .nx (ρ.set i (some (.d (.lst (xs ++ [.str "late"]))))) S1 else .stuck
  | .d (.dct kvs) => if kvs.length < sizeLine then .nx (ρ.set i (some (.d (.dct (putD kvs (.inr "late") (.int 1)))))) S1 else .stuck
  | .d d => .nx (ρ.set i (some (.d d))) S1
  | _ => .stuck
section
variable {X : Cx} {x : Xc} {M M' M1 M2 : List Nat}
theorem isi_set {T : PyT} {i : Nat} {ρ : Rho} {d : D} {S : Sx} (h : i < ρ.length) : tst (eIsi T (eVar i)) (ρ.set i (some (.d d))) S = .ok (isi T d) S := by
  unfold tst eIsi eVar
  rw [List.getElem?_set_self h]
  rfl
theorem gss_late {i : Nat} {n : Str} {e c1 c2 : Expr} {sa sp : Stmt} {rest : List Stmt} {f : Fe} {g : Fs} {pos pos' q1 q2 : Pos} (hN : X.N.Nodup) (he : GF X x M e f)
    (hl : GT X x M c1 (tst (eIsi .list (eVar i)))) (ha : GS X x (i :: M) (i :: M) sa (sApp i (eC (.str "late")))) (hd : GT X x M c2 (tst (eIsi .dict (eVar i)))) (hp : GS X x (i :: M) (i :: M) sp (sPut i (eC (.str "late")) (eC (.int 1)))) (h2 : GSs X x M M2 rest g)
    (hi : X.N[i]? = some n := by rfl) (hm : i ∉ M := by decide) (hx : Loc X.env.scope n := by first | exact .inl rfl | exact .inr rfl) (hs : swapsWith e (some (.Name n pos')) pos.line X.env = pure false := by rfl)
    (hf : X.fn n = true ∨ X.env.scope.names.lookup n = some .local := by first | exact .inl rfl | exact .inr rfl) :
    GSs X x M M2 (.Assign [.Name n pos'] e pos :: .If c1 [sa] [] q1 :: .If c2 [sp] [] q2 :: rest) (sSeq (sLate i f) g) := by
  refine ⟨fun pins s σ H Dd In h => ?_⟩
  obtain ⟨B, ρ, S, I, hot, R, h⟩ := h
  have hlen : i < ρ.length := by
    rw [← R.len, In.len]
    exact (List.getElem?_eq_some_iff.mp hi).1
  refine (pss_cons (ps_set hN hi hx he hs hf) (pss_cons (ps_if hl (pss_one ha) pss_nil) (pss_cons (ps_if hd (pss_one hp) pss_nil) h2))).run pins s σ H Dd In ?_
  refine ⟨B, ρ, S, I, hot, R, ?_⟩
  unfold sSeq sLate at h
  cases ef : f ρ S with
  | stuck => rw [ef] at h; exact h.elim
  | exc c S1 => rw [ef] at h; exact fun σ' H' I' e R' => by subst e; exact h _ H' I' R'
  | ok a S1 =>
    rw [ef] at h
    simp only [onE_ok] at h
    rintro v H1 I1 R1 s1 ⟨ra, fr⟩
    cases ra with
    | @d _ d r =>
      have fr := fr d rfl
      have Rs := R1.set (i := i) (.d r) hm
      -- the tests, at a state
      have test : ∀ (T : PyT) (d' : D) (ρ0 : Rho) (σ1 : L2.St) (Ha Ia : Hp) (S' : Sx) (Q : Bool → Hp → Prop), i < ρ0.length → Rel X.K B M σ1 Ha (ρ0.set i (some (.d d'))) S' Ia hot → (∀ Hb Ib, Rel X.K B M σ1 Hb (ρ0.set i (some (.d d'))) S' Ib hot → Stp hot Ha Ia Hb Ib → Q (isi T d') Hb) → ttOf X.K x M (tst (eIsi T (eVar i))) σ1 Ha Q := by
        intro T d' ρ0 σ1 Ha Ia S' Q hl0 Ra q
        refine ⟨B, _, S', Ia, hot, Ra, ?_⟩
        rw [isi_set hl0]
        rintro b Hb Ib Rb sb eb
        cases (show b = isi T d' from eb)
        exact q Hb Ib Rb sb
      have flat : isi .list d = false → isi .dict d = false → OutOk X.K x B M2 hot I Dd (g (ρ.set i (some (.d d))) S1) → (tSeq (tIfS (ttOf X.K x M (tst (eIsi .list (eVar i)))) (sOf X.K x (i :: M) (i :: M) (sApp i (eC (.str "late")))) tNext) (tSeq (tIfS (ttOf X.K x M (tst (eIsi .dict (eVar i)))) (sOf X.K x (i :: M) (i :: M) (sPut i (eC (.str "late")) (eC (.int 1)))) tNext) (sOf X.K x M M2 g))) Dd (σ.set i (some v)) H1 := by
        intro e1 e2 hh
        refine test .list d ρ _ H1 I1 S1 _ hlen Rs fun Hb Ib Rb sb => ?_
        rw [e1]
        refine test .dict d ρ _ Hb Ib S1 _ hlen Rb fun Hc Ic Rc sc => ?_
        rw [e2]
        exact ⟨B, _, S1, Ic, hot, Rc, OutOk.from hh ((s1.ext.trans sb.ext).trans sc.ext)⟩
      cases d with
      | non => exact flat rfl rfl h
      | bl b => exact flat rfl rfl h
      | int k => exact flat rfl rfl h
      | str z => exact flat rfl rfl h
      | tup ds => exact flat rfl rfl h
      | lst ds =>
        dsimp only at h
        by_cases hz : ds.length < sizeLine
        · rw [if_pos hz] at h
          cases r with
          | @lst a vs _ h1 h2' h3 =>
            refine test .list _ ρ _ H1 I1 S1 _ hlen Rs fun Hb Ib Rb sb => ?_
            rw [show isi .list (D.lst ds) = true from rfl]
            obtain ⟨J, eJ, RJ⟩ := R.thaw (i := i) (s1.trans sb) Rb.wd ((Rep.lst h1 h2' h3).ext sb.ext) rfl (fun b eb mb => ⟨(fr b eb mb).1, fun o u q => by
              cases eb
              rw [sb.ext _ _ h1] at q; cases q⟩) hm hlen
            refine ⟨B, _, S1, J, hot, RJ, ?_⟩
            have eo : ownL (ρ.set i (some (.d (.lst ds)))) i = some ds := by unfold ownL; rw [List.getElem?_set_self hlen]
            have es : sApp i (eC (.str "late")) (ρ.set i (some (.d (.lst ds)))) S1 = .nx (ρ.set i (some (.d (.lst (ds ++ [.str "late"]))))) S1 := by
              unfold sApp
              rw [eo]
              simp only [eC, onE_ok, if_pos hz, List.set_set]
            rw [es]
            intro σ' H' I' e' R'
            obtain ⟨J', ej, RF⟩ := R'.freeze (M' := M) (fun j hj => List.mem_cons_of_mem _ hj)
            refine test .dict _ ρ σ' H' J' S1 _ hlen RF fun Hc Ic Rc sc => ?_
            rw [show isi .dict (D.lst (ds ++ [D.str "late"])) = false from rfl]
            exact ⟨B, _, S1, Ic, hot, Rc, OutOk.from h (((eJ.trans e').trans ej).trans sc.ext)⟩
        · rw [if_neg hz] at h; exact h.elim
      | dct kvs =>
        dsimp only at h
        by_cases hz : kvs.length < sizeLine
        · rw [if_pos hz] at h
          cases r with
          | @dct a ws _ h1 h2' h3 =>
            refine test .list _ ρ _ H1 I1 S1 _ hlen Rs fun Ha Ia Ra sa' => ?_
            rw [show isi .list (D.dct kvs) = false from rfl]
            refine test .dict _ ρ _ Ha Ia S1 _ hlen Ra fun Hb Ib Rb sb => ?_
            rw [show isi .dict (D.dct kvs) = true from rfl]
            have sab := sa'.trans sb
            obtain ⟨J, eJ, RJ⟩ := R.thaw (i := i) (s1.trans sab) Rb.wd ((Rep.dct h1 h2' h3).ext sab.ext) rfl (fun b eb mb => ⟨(fr b eb mb).1, fun o u q => by
              cases eb
              rcases h1 with h1 | ⟨o', h1⟩
              · rw [sab.ext _ _ h1] at q; cases q
              · exact (fr a rfl mb).2 _ _ h1⟩) hm hlen
            refine ⟨B, _, S1, J, hot, RJ, ?_⟩
            have eo : ownK (ρ.set i (some (.d (.dct kvs)))) i = some kvs := by unfold ownK; rw [List.getElem?_set_self hlen]
            have es : sPut i (eC (.str "late")) (eC (.int 1)) (ρ.set i (some (.d (.dct kvs)))) S1 = .nx (ρ.set i (some (.d (.dct (putD kvs (.inr "late") (.int 1)))))) S1 := by
              unfold sPut
              rw [eo]
              simp only [eC, onE_ok, keyD, if_pos hz, List.set_set]
            rw [es]
            intro σ' H' I' e' R'
            obtain ⟨J', ej, RF⟩ := R'.freeze (M' := M) (fun j hj => List.mem_cons_of_mem _ hj)
            exact ⟨B, _, S1, J', hot, RF, OutOk.from h ((eJ.trans e').trans ej)⟩
        · rw [if_neg hz] at h; exact h.elim
    | _ => exact h.elim
end
end G
namespace G
open PySem PySem.Spec L2 PyProof.Rows
open PySem.W (Frag)
/-! ### truths by `is` -/
def rTruth (g : Bool → Bool → Bool) : R2 := fun v w H Q => ∃ i j, v = .bl i ∧ w = .bl j ∧ Q (.bl (g i j)) H
theorem op_isntB {X : Cx} : OpR X (compareOp .IsNot) (rTruth fun i j => !(i == j)) := by
  intro pins s σ H y z v u Q In ry rz h
  obtain ⟨i, j, rfl, rfl, q⟩ := h
  cases ry
  cases rz
  have e : ((Value.bool i) == Value.bool j) = (i == j) := by cases i <;> cases j <;> rfl
  refine wpAny_pure ⟨.bl _, H, In, ?_, q⟩
  rw [e]; rfl
def isntD : D → D → Option D
  | .bl i, .bl j => some (.bl (!(i == j)))
  | _, _ => none
theorem og_isntB {K : Frag} : OpG K (rTruth fun i j => !(i == j)) isntD := by
  intro y B M σ H ρ S I hot v w d1 d2 d Q R r1 r2 e h
  unfold isntD at e
  split at e
  · cases e
    cases r1
    cases r2
    exact ⟨_, _, rfl, rfl, h.ok R (.d (.bl _))⟩
  · cases e
@[simp] theorem isntD_bl {i j : Bool} : isntD (.bl i) (.bl j) = some (.bl (!(i == j))) := rfl
end G
namespace G
open PySem PySem.Spec L2 PyProof.Rows
open PySem.W (Frag)
open Classical
/-! ### sorted(xs), xs a list of texts or of numbers -/
noncomputable def sortI (ns : List Int) : List Int := if h : ∃ ms : List Int, ms.Perm ns ∧ ms.Pairwise (· ≤ ·) then Classical.choose h else ns
theorem sortI_eq {ns ms : List Int} (p : ms.Perm ns) (h : ms.Pairwise (· ≤ ·)) : sortI ns = ms := by
  have ex : ∃ ms : List Int, ms.Perm ns ∧ ms.Pairwise (· ≤ ·) := ⟨ms, p, h⟩
  unfold sortI
  rw [dif_pos ex]
  have c := Classical.choose_spec ex
  exact (c.1.trans p.symm).eq_of_pairwise (fun a b _ _ h1 h2 => Int.le_antisymm h1 h2) c.2 h
noncomputable def sortG (_ : Sx) : List A → Option D
  | [.d (.lst ds)] => (match strsD ds with
    | some zs => if zs.length < 64 then some (.lst ((sortK zs).map .str)) else none
    | none => (match intsOf ds with
      | some ns => if ns.length < 64 then some (.lst ((sortI ns).map .int)) else none
      | none => none))
  | _ => none
def rSortG (K : Frag) : List V → Hp → VK → Prop := fun vs H Q => rSortedS K vs H Q ∨ rSorted K vs H Q
theorem call_sortG {X : Cx} : CallR X (.builtin "sorted") (rSortG X.K) := cr_sortedS.or cr_sorted
theorem strsD_reps {I : Hp} : ∀ {vs : List V} {ds : List D} {zs : List Str}, Reps I vs ds → strsD ds = some zs → vs = zs.map V.str ∧ ∀ z ∈ zs, z.length ≤ sizeLine
  | _, _, _, .nil, e => by cases e; exact ⟨rfl, by simp⟩
  | _, _, _, .cons (d := d) h r, e => by
    cases h with
    | str z hz =>
      simp only [strsD] at e
      cases e2 : strsD _ with
      | none => rw [e2] at e; cases e
      | some ys =>
        rw [e2] at e
        cases e
        obtain ⟨h1, h2⟩ := strsD_reps r e2
        refine ⟨by rw [h1]; rfl, fun y hy => ?_⟩
        rcases List.mem_cons.mp hy with rfl | hy
        · exact hz
        · exact h2 y hy
    | _ => cases e
theorem cg_sort {K : Frag} : CallG K (rSortG K) sortG := by
  intro y B M σ H ρ S I hot vs as d Q R r e q
  unfold sortG at e
  split at e
  · rename_i ds
    obtain ⟨v, rfl, h⟩ := paired1 r
    have h := h.dat
    cases h with
    | lst hp n hr =>
      cases e1 : strsD ds with
      | some zs =>
        rw [e1] at e
        dsimp only at e
        split at e
        · rename_i hl
          cases e
          obtain ⟨ev, hz⟩ := strsD_reps hr e1
          refine .inl ⟨_, zs, rfl, by rw [← ev]; exact SqL.of (R.wd.ext _ _ hp), hl, fun ys p pm sr hn => ?_⟩
          rw [sortK_eq pm sr] at q
          refine q.new R hn (.d (.lst upd_same ?_ (strs_rep _ ys fun z hz' => hz z (pm.mem_iff.mp hz'))))
          rw [List.length_map, pm.length_eq]
          exact small64 hl
        · cases e
      | none =>
        rw [e1] at e
        dsimp only at e
        cases e2 : intsOf ds with
        | none => rw [e2] at e; cases e
        | some ns =>
          rw [e2] at e
          dsimp only at e
          split at e
          · rename_i hl
            cases e
            have ev := ints_reps hr e2
            refine .inr ⟨_, ns, rfl, by rw [← ev]; exact SqL.of (R.wd.ext _ _ hp), hl, fun ms p pm sr hn => ?_⟩
            rw [sortI_eq pm sr] at q
            have ir : ∀ (J : Hp) (l : List Int), Reps J (l.map V.int) (l.map .int) := fun J l => by
              induction l with
              | nil => exact .nil
              | cons a r ih => exact .cons (.int a) ih
            refine q.new R hn (.d (.lst upd_same ?_ (ir _ ms)))
            rw [List.length_map, pm.length_eq]
            exact small64 hl
          · cases e
  · cases e
/-! ### another base -/
section
variable {K : Frag} {B : Bs} {M : List Nat} {σ : L2.St} {H : Hp} {ρ : Rho} {S : Sx} {I : Hp} {hot : List Addr}
/-- the base that is here and now, but for what is owned -/
noncomputable def bsNow (M : List Nat) (σ : L2.St) (H I : Hp) : Bs := ⟨fun a => if ∃ i ∈ M, σ[i]? = some (some (.ref a)) then none else H a, I⟩
theorem bsNow_own {a : Addr} {i : Nat} (hi : i ∈ M) (e : σ[i]? = some (some (.ref a))) : (bsNow M σ H I).H a = none := if_pos ⟨i, hi, e⟩
theorem bsNow_some {a : Addr} {o : HO} (h : (bsNow M σ H I).H a = some o) : H a = some o := by
  unfold bsNow at h
  dsimp only at h
  split at h
  · cases h
  · exact h
theorem Rel.rebase (R : Rel K B M σ H ρ S I hot) : Rel K (bsNow M σ H I) M σ H ρ S I hot :=
  ⟨R.wd, ⟨Ext.refl _, fun a o h _ => bsNow_some h, fun a o h => ⟨o, bsNow_some h⟩, fun a o h => .inl h⟩, R.len, R.val, fun i hi => by
    obtain ⟨d, a, h1, h2, h3, _⟩ := R.own i hi
    exact ⟨d, a, h1, h2, h3, bsNow_own hi h2⟩, R.sep⟩
theorem bsNow_back (R : Rel K B M σ H ρ S I hot) {a : Addr} (h : (bsNow M σ H I).H a = none) : B.H a = none := by
  unfold bsNow at h
  dsimp only at h
  split at h
  · rename_i q
    obtain ⟨i, hi, e⟩ := q
    obtain ⟨d, b, _, h2, _, h4⟩ := R.own i hi
    rw [e] at h2
    cases h2
    exact h4
  · exact R.st.back h
theorem bsNow_st (R : Rel K B M σ H ρ S I hot) {H' I' : Hp} (s : Stp hot (bsNow M σ H I).H (bsNow M σ H I).I H' I') : Stp hot B.H B.I H' I' := by
  have fw : ∀ a o o', B.H a = some o → H a = some o' → (bsNow M σ H I).H a = some o' := fun a o o' h h' => by
    cases e : (bsNow M σ H I).H a with
    | none => rw [bsNow_back R e] at h; cases h
    | some u => rw [bsNow_some e] at h'; exact h'
  refine ⟨R.st.ext.trans s.ext, fun a o h n => s.keep a o (fw a o o h (R.st.keep a o h n)) n, fun a o h => ?_, fun a o h => ?_⟩
  · obtain ⟨o1, h1⟩ := R.st.stay a o h
    exact s.stay a o1 (fw a o o1 h h1)
  · rcases s.new a o h with q | q
    · exact R.st.new a o q
    · exact .inr (bsNow_back R q)
theorem Rel.unbase {σ' : L2.St} {H' : Hp} {ρ' : Rho} {S' : Sx} {I' : Hp} {M' : List Nat} (R : Rel K B M σ H ρ S I hot) (R' : Rel K (bsNow M σ H I) M' σ' H' ρ' S' I' hot) : Rel K B M' σ' H' ρ' S' I' hot :=
  ⟨R'.wd, bsNow_st R R'.st, R'.len, R'.val, fun i hi => by
    obtain ⟨d, a, h1, h2, h3, h4⟩ := R'.own i hi
    exact ⟨d, a, h1, h2, h3, bsNow_back R h4⟩, R'.sep⟩
end
/-! ### try: .. except C: .. -/
def sTryO (cs : List Str) (f g : Fs) : Fs := fun ρ S => match f ρ S with
  | .xc c ρ' S' => if c ∈ cs then (match g ρ' S' with
    | .xc _ _ _ => .stuck
    | o => o) else .stuck
  | o => o
section
variable {X : Cx} {x : Xc} {kk : Nat} {M M' : List Nat}
theorem gs_tryO {cs : List Str} {C : Str} {body suite : List Stmt} {b₀ : Stmt} {f g : Fs} {np pos pos' : Pos} (c : Cq X x kk) (hex : ∀ y ∈ cs, PySem.W.exmOne X.K (.ref (He.ga X.K y)) (.ref (He.ga X.K C)) = some true) (hC : X.mg C = some (.ref (He.ga X.K C)))
    (hb : ∀ (W : WX) (pn : List (Addr × Obj)) (xe : Value → Shared → Prop), Cq (X.tr pn xe) ⟨W, M⟩ kk → PassesOwn (model X.prog X.w) X.A X.env xe → GSs (X.tr pn xe) ⟨W, M⟩ M M' body f)
    (hg : ∀ (a : Addr) (pn : List (Addr × Obj)), GSs (X.suite a pn) (xc0 M) M M' (b₀ :: suite) g)
    (hs : X.stack = X.env :: X.outer := by rfl) (hf : X.env.frame = some X.env.locals := by rfl) (hgC : Gl X C := by rfl) (hdC : (C == ("__debug__" : Str)) = false := by decide) :
    GS X x M M' (.Try body [.ExceptHandler (some (.Name C np)) none (b₀ :: suite) pos'] [] [] pos) (sTryO cs f g) := by
  refine PS.weak (ps_try_only (tb := fun W => sOf X.K ⟨W, M⟩ M M' f) (ts := fun _ _ _ => sOf X.K (xc0 M) M M' g) hs hf ⟨hgC, hdC, .inl hC⟩ c.take (fun W pn xe tk hp => hb W pn xe ⟨c.room, tk⟩ hp) (fun a oe cls d pn _ _ => hg a ((a, oe) :: pn))) ?_
  rintro D σ H ⟨B, ρ, S, I, hot, R, h⟩
  refine ⟨bsNow M σ H I, ρ, S, I, hot, R.rebase, ?_⟩
  unfold sTryO at h
  cases e : f ρ S with
  | nx ρ' S' => rw [e] at h; exact fun σ' H' I' e' R' => h σ' H' I' e' (R.unbase R')
  | rt d S' => rw [e] at h; exact fun v H' I' st w rv => h v H' I' (bsNow_st R st) w rv
  | stuck => rw [e] at h; exact h.elim
  | xc y ρ' S' =>
    rw [e] at h
    intro σ' H' I' R'
    dsimp only at h
    by_cases hy : y ∈ cs
    · rw [if_pos hy] at h
      refine ⟨true, hex y hy, fun _ a na => ?_, fun z => absurd z (by decide)⟩
      refine ⟨bsNow M σ H I, ρ', S', I', hot, R', ?_⟩
      cases eg : g ρ' S' with
      | nx ρ2 S2 => rw [eg] at h; exact fun σ2 H2 I2 e2 R2 => h σ2 H2 I2 (R'.st.ext.trans e2) (R.unbase R2)
      | rt d S2 => rw [eg] at h; exact fun v H' I' st w rv => h v H' I' (bsNow_st R st) w rv
      | xc c2 ρ2 S2 => rw [eg] at h; exact h.elim
      | stuck => rw [eg] at h; exact h.elim
    · rw [if_neg hy] at h; exact h.elim
end
/-! ### owned things, read: what is told is no part of them -/
section
variable {K : Frag} {B : Bs} {M M' : List Nat} {σ : L2.St} {H : Hp} {ρ : Rho} {S : Sx} {I : Hp} {hot : List Addr}
mutual
def immD : D → Bool
  | .lst _ => false
  | .dct _ => false
  | .tup xs => immL xs
  | _ => true
def immL : List D → Bool
  | [] => true
  | x :: xs => immD x && immL xs
end
noncomputable def woO (M : List Nat) (σ : L2.St) (I : Hp) : Hp := fun a => if ∃ i ∈ M, σ[i]? = some (some (.ref a)) then none else I a
theorem woO_some {a : Addr} {o : HO} (h : woO M σ I a = some o) : I a = some o := by
  unfold woO at h
  split at h
  · cases h
  · exact h
theorem woO_of {a : Addr} {o : HO} (h : I a = some o) (n : ¬ ∃ i ∈ M, σ[i]? = some (some (.ref a))) : woO M σ I a = some o := by
  unfold woO
  rw [if_neg n]; exact h
mutual
theorem Rep.woO (hn : ∀ a vs o, (∃ i ∈ M, σ[i]? = some (some (.ref a))) → I a ≠ some (.frz o (.tup vs))) : ∀ {v : V} {d : D}, Rep I v d → immD d = true → Rep (G.woO M σ I) v d
  | _, _, .non, _ => .non
  | _, _, .bl b, _ => .bl b
  | _, _, .int i, _ => .int i
  | _, _, .str z h, _ => .str z h
  | _, _, .lst _ _ _, h => by simp [immD] at h
  | _, _, .dct _ _ _, h => by simp [immD] at h
  | _, _, .tup h1 h2 h3, h => by
    obtain ⟨o, e1, e2⟩ := h1
    simp only [immD] at h
    exact .tup ⟨o, woO_of e1 fun q => hn _ _ _ q e1, e2⟩ h2 (Reps.woO hn h3 h)
theorem Reps.woO (hn : ∀ a vs o, (∃ i ∈ M, σ[i]? = some (some (.ref a))) → I a ≠ some (.frz o (.tup vs))) : ∀ {vs : List V} {ds : List D}, Reps I vs ds → immL ds = true → Reps (G.woO M σ I) vs ds
  | _, _, .nil, _ => .nil
  | _, _, .cons h r, e => by
    simp only [immL, Bool.and_eq_true] at e
    exact .cons (Rep.woO hn h e.1) (Reps.woO hn r e.2)
end
theorem Rel.freezeX {K : Frag} {B : Bs} {M M' : List Nat} {σ : L2.St} {H : Hp} {ρ : Rho} {S : Sx} {I : Hp} {hot : List Addr} (r : Rel K B M σ H ρ S I hot) (h : ∀ i ∈ M', i ∈ M) : ∃ J, Ext I J ∧ (∀ a o, J a = some o → I a = some o ∨ ∃ i ∈ M, σ[i]? = some (some (.ref a))) ∧ Rel K B M' σ H ρ S J hot := by
  classical
  let O : Addr → Prop := fun a => ∃ i ∈ M, i ∉ M' ∧ σ[i]? = some (some (.ref a))
  let J : Hp := fun a => if O a then H a else I a
  have hO : ∀ a, O a → I a = none ∧ a ∉ hot ∧ B.H a = none := fun a ⟨i, hi, _, e⟩ => by
    obtain ⟨d, b, _, h2, h3, h4⟩ := r.own i hi
    rw [e] at h2
    cases h2
    exact ⟨h3.1, h3.2.1, h4⟩
  have jO : ∀ a, O a → J a = H a := fun a o => if_pos o
  have jN : ∀ a, ¬ O a → J a = I a := fun a o => if_neg o
  have ext : Ext I J := fun a o e => by
    have n : ¬ O a := fun z => by rw [(hO a z).1] at e; cases e
    rw [jN a n]; exact e
  refine ⟨J, ext, fun a o e => ?_, ⟨⟨fun a o e => ?_, r.wd.len, r.wd.at_, fun a ha => ?_, r.wd.nd⟩, ⟨r.st.ext.trans ext, r.st.keep, r.st.stay, fun a o e => ?_⟩, r.len, fun i d e hn => ?_, fun i hi => ?_, fun i hi j hj => r.sep i (h i hi) j (h j hj)⟩⟩
  · by_cases z : O a
    · obtain ⟨i, hi, _, q⟩ := z
      exact .inr ⟨i, hi, q⟩
    · rw [jN a z] at e; exact .inl e
  · by_cases z : O a
    · rw [jO a z] at e; exact e
    · rw [jN a z] at e; exact r.wd.ext a o e
  · rw [jN a fun z => (hO a z).2.1 ha]; exact r.wd.off a ha
  · by_cases z : O a
    · exact .inr (hO a z).2.2
    · rw [jN a z] at e; exact r.st.new a o e
  · by_cases hm : i ∈ M
    · obtain ⟨d', a, e1, e2, ⟨_, _, e3⟩, _⟩ := r.own i hm
      rw [e] at e1
      cases e1
      have z : O a := ⟨i, hm, hn, e2⟩
      refine ⟨.ref a, e2, .d ?_⟩
      rcases e3 with ⟨vs, ds, rfl, ha, hz, hr⟩ | ⟨ws, kvs, rfl, ha, hz, hr⟩
      · exact .lst ((jO a z).trans ha) hz (hr.ext ext)
      · exact .dct (.inl ((jO a z).trans ha)) hz (hr.ext ext)
    · obtain ⟨v, e1, e2⟩ := r.val i d e hm
      exact ⟨v, e1, e2.ext ext⟩
  · obtain ⟨d, a, e1, e2, ⟨n1, n2, e3⟩, n3⟩ := r.own i (h i hi)
    have z : ¬ O a := fun ⟨j, hj, hj', e⟩ => r.sep i (h i hi) j hj (fun q => hj' (q ▸ hi)) (e2.trans e.symm)
    refine ⟨d, a, e1, e2, ⟨(jN a z).trans n1, n2, ?_⟩, n3⟩
    rcases e3 with ⟨vs, ds, e, ha, hz, hr⟩ | ⟨ws, kvs, e, ha, hz, hr⟩
    · exact .inl ⟨vs, ds, e, ha, hz, hr.ext ext⟩
    · exact .inr ⟨ws, kvs, e, ha, hz, hr.ext ext⟩
/-- behind a piece run with some owned ones frozen, they are owned again -/
theorem Rel.refrost (R : Rel K B M σ H ρ S I hot) {J H' I' : Hp} {S' : Sx} (eJ : Ext I J) (nJ : ∀ a o, J a = some o → I a = some o ∨ ∃ i ∈ M, σ[i]? = some (some (.ref a))) (R' : Rel K B M' σ H' ρ S' I' hot) (s' : Stp hot H J H' I') : ∃ I2, Rel K B M σ H' ρ S' I2 hot ∧ Stp hot H I H' I2 ∧ (∀ v d, Rep I' v d → immD d = true → Rep I2 v d) := by
  have own : ∀ a, (∃ i ∈ M, σ[i]? = some (some (.ref a))) → I a = none ∧ a ∉ hot ∧ ∃ u, H a = some u ∧ ∀ o vs, u ≠ .frz o (.tup vs) := fun a ⟨i, hi, e⟩ => by
    obtain ⟨d, b, _, h2, ⟨h3, h4, h5⟩, _⟩ := R.own i hi
    rw [e] at h2
    cases h2
    refine ⟨h3, h4, ?_⟩
    rcases h5 with ⟨vs, ds, _, ha, _⟩ | ⟨ws, kvs, _, ha, _⟩
    · exact ⟨_, ha, fun _ _ z => by cases z⟩
    · exact ⟨_, ha, fun _ _ z => by cases z⟩
  have ext : Ext I (woO M σ I') := fun a o e => woO_of (s'.ext a o (eJ a o e)) fun q => by rw [(own a q).1] at e; cases e
  have w : Wld K H' S' (woO M σ I') hot := by
    refine ⟨fun a o e => R'.wd.ext a o (woO_some e), R'.wd.len, R'.wd.at_, fun a ha => ?_, R'.wd.nd⟩
    cases q : woO M σ I' a with
    | none => rfl
    | some o =>
      have := woO_some q
      rw [R'.wd.off a ha] at this
      cases this
  have st : Stp hot H I H' (woO M σ I') := by
    refine ⟨ext, s'.keep, s'.stay, fun a o e => ?_⟩
    have e' := woO_some e
    rcases s'.new a o e' with q | q
    · rcases nJ a o q with z | z
      · exact .inl z
      · unfold woO at e
        rw [if_pos z] at e
        cases e
    · exact .inr q
  refine ⟨woO M σ I', R.step st w, st, fun v d r hd => Rep.woO (fun a vs o q z => ?_) r hd⟩
  obtain ⟨_, nh, u, hu, hne⟩ := own a q
  have h1 := s'.keep a u hu nh
  have h2 := R'.wd.ext a _ z
  rw [h1] at h2
  cases h2
  exact hne _ _ rfl
end
section
variable {X : Cx} {x : Xc} {M M' : List Nat}
/-- a test may read what is owned -/
theorem gt_unf {e : Expr} {t : Ft} (Mf : List Nat) (h : GT X x Mf e t) (hs : ∀ i ∈ Mf, i ∈ M := by decide) : GT X x M e t := by
  refine PT.weak h ?_
  rintro σ H Q ⟨B, ρ, S, I, hot, R, h⟩
  obtain ⟨J, eJ, nJ, RJ⟩ := R.freezeX hs
  refine ⟨B, ρ, S, J, hot, RJ, ?_⟩
  cases e : t ρ S with
  | stuck => rw [e] at h; exact h.elim
  | exc c S1 => rw [e] at h; exact h
  | ok b S1 =>
    rw [e] at h
    intro v H' I' R' s' ev
    obtain ⟨I2, R2, s2, _⟩ := R.refrost eJ nJ R' s'
    exact h v H' I2 R2 s2 ev
/-- .. and a value, where it is a tree of tuples -/
def eImm (f : Fe) : Fe := fun ρ S => (f ρ S).bind fun a S1 => match a with
  | .d d => if immD d = true then .ok (.d d) S1 else .stuck
  | _ => .stuck
theorem ge_unf {e : Expr} {f : Fe} (Mf : List Nat) (h : GE X x Mf e f) (hs : ∀ i ∈ Mf, i ∈ M := by decide) : GE X x M e (eImm f) := by
  refine PE.weak h ?_
  rintro σ H Q ⟨B, ρ, S, I, hot, R, h⟩
  obtain ⟨J, eJ, nJ, RJ⟩ := R.freezeX hs
  refine ⟨B, ρ, S, J, hot, RJ, ?_⟩
  unfold eImm at h
  cases e : f ρ S with
  | stuck => rw [e] at h; exact h.elim
  | exc c S1 => rw [e] at h; exact h
  | ok a S1 =>
    rw [e] at h
    simp only [bind_ok] at h
    intro v H' I' R' s' ra
    cases ra with
    | @d _ d r =>
      dsimp only at h
      by_cases c : immD d = true
      · rw [if_pos c] at h
        obtain ⟨I2, R2, s2, k⟩ := R.refrost eJ nJ R' s'
        exact h v H' I2 R2 s2 (.d (k v d r c))
      · rw [if_neg c] at h; exact h.elim
    | _ => exact h.elim
@[simp] theorem ev_imm {f : Fe} {ρ : Rho} {S : Sx} : eImm f ρ S = (f ρ S).bind fun a S1 => (match a with
  | .d d => if immD d = true then .ok (.d d) S1 else .stuck
  | _ => .stuck) := rfl
end
end G
/-! Evaluation of the mirrors. -/
namespace G
open PySem L2
section
variable {ρ : Rho} {S : Sx}
@[simp] theorem ev_var {i : Nat} : eVar i ρ S = (match ρ[i]? with
  | some (some a) => .ok a S
  | _ => .stuck) := rfl
@[simp] theorem ev_c {d : D} : eC d ρ S = .ok (.d d) S := rfl
@[simp] theorem ev_op {g : D → D → Option D} {f f' : Fe} : eOp g f f' ρ S = (f ρ S).bind fun a S1 => (f' ρ S1).bind fun b S2 => op2 g a b S2 := rfl
@[simp] theorem ev_and {f g : Fe} : eAndF f g ρ S = (f ρ S).bind fun a S1 => (toB a S1).bind fun b S2 => if b = true then g ρ S2 else .ok (.d (.bl false)) S2 := rfl
@[simp] theorem ev_or {f g : Fe} : eOrF f g ρ S = (f ρ S).bind fun a S1 => (toB a S1).bind fun b S2 => if b = true then .ok (.d (.bl true)) S2 else g ρ S2 := rfl
@[simp] theorem ev_not {f : Fe} : eNotF f ρ S = (f ρ S).bind fun a S1 => (toB a S1).bind fun b S2 => .ok (.d (.bl (!b))) S2 := rfl
@[simp] theorem ev_if {t : Ft} {f g : Fe} : eIf t f g ρ S = (t ρ S).bind fun b S1 => if b = true then f ρ S1 else g ρ S1 := rfl
@[simp] theorem ev_chain {g g' : D → D → Option D} {f1 f2 f3 : Fe} : eChain g g' f1 f2 f3 ρ S = (f1 ρ S).bind fun a S1 => (f2 ρ S1).bind fun b S2 => (op2 g a b S2).bind fun z S3 => (toB z S3).bind fun k S4 =>
  if k = true then (f3 ρ S4).bind fun c S5 => op2 g' b c S5 else .ok (.d (.bl false)) S4 := rfl
@[simp] theorem ev_isN {f : Fe} : eIsN f ρ S = (f ρ S).bind fun a S1 => .ok (.d (.bl (isN a))) S1 := rfl
@[simp] theorem ev_notN {f : Fe} : eNotN f ρ S = (f ρ S).bind fun a S1 => .ok (.d (.bl (!isN a))) S1 := rfl
@[simp] theorem ev_tst {f : Fe} : tst f ρ S = (f ρ S).bind toB := rfl
@[simp] theorem ev_tru {f : Fe} : tTru f ρ S = (f ρ S).bind fun a S1 => (match truA S1 a with
  | some b => .ok b S1
  | none => .stuck) := rfl
@[simp] theorem ev_tand {t u : Ft} : tAndF t u ρ S = (t ρ S).bind fun b S1 => if b = true then u ρ S1 else .ok false S1 := rfl
@[simp] theorem ev_tor {t u : Ft} : tOrF t u ρ S = (t ρ S).bind fun b S1 => if b = true then .ok true S1 else u ρ S1 := rfl
@[simp] theorem ev_tnot {t : Ft} : tNotF t ρ S = (t ρ S).bind fun b S1 => .ok (!b) S1 := rfl
@[simp] theorem ev_yes : tYesF ρ S = .ok true S := rfl
@[simp] theorem ev_nil : aNil ρ S = .ok [] S := rfl
@[simp] theorem ev_cons {f : Fe} {g : Fa} : aCons f g ρ S = (f ρ S).bind fun a S1 => (g ρ S1).bind fun as S2 => .ok (a :: as) S2 := rfl
@[simp] theorem ev_tup {g : Fa} : eTup g ρ S = (g ρ S).bind (mkSeq .tup) := rfl
@[simp] theorem ev_lst {g : Fa} : eLst g ρ S = (g ρ S).bind (mkSeq .lst) := rfl
@[simp] theorem ev_ix {f f' : Fe} : eIx f f' ρ S = (f ρ S).bind fun a S1 => (f' ρ S1).bind fun b S2 => ixA a b S2 := rfl
@[simp] theorem ev_sl {f : Fe} {fl fh : Rho → Sx → Res (Option Int)} : eSl f fl fh ρ S = (f ρ S).bind fun a S1 => (fl ρ S1).bind fun lo S2 => (fh ρ S2).bind fun hi S3 => slA a lo hi S3 := rfl
@[simp] theorem ev_onone : oNone ρ S = .ok none S := rfl
@[simp] theorem ev_osome {f : Fe} : oSome f ρ S = (f ρ S).bind toI := rfl
@[simp] theorem toI_int {i : Int} : toI (.d (.int i)) S = .ok (some i) S := rfl
@[simp] theorem ev_rev {f : Fe} : eRev f ρ S = (f ρ S).bind fun a S1 => (match a with
  | .d u => ofO (revD u) S1
  | _ => .stuck) := rfl
@[simp] theorem ev_neg {f : Fe} : eNeg f ρ S = (f ρ S).bind fun a S1 => (match a with
  | .d u => ofO (negD u) S1
  | _ => .stuck) := rfl
@[simp] theorem ev_call {g : Sx → List A → Option D} {fa : Fa} : eCall g fa ρ S = (fa ρ S).bind fun as S1 => ofO (g S1 as) S1 := rfl
@[simp] theorem ev_isi {T : PyT} {f : Fe} : eIsi T f ρ S = (f ρ S).bind fun a S1 => (match a with
  | .d u => .ok (.d (.bl (isi T u))) S1
  | _ => .stuck) := rfl
@[simp] theorem ev_join {f f' : Fe} : eJoin f f' ρ S = (f ρ S).bind fun a S1 => (match a with
  | .d (.str z) => (f' ρ S1).bind fun b S2 => op2 joinD (.d (.str z)) b S2
  | _ => .stuck) := rfl
@[simp] theorem ev_tab {tab : List (Str × Int)} {f : Fe} {n : Int} : eTab tab f n ρ S = (f ρ S).bind fun a S1 => (match a with
  | .d (.str z) => .ok (.d (.int (tabGet tab z n))) S1
  | _ => .stuck) := rfl
@[simp] theorem ev_keys {f : Fe} : eKeys f ρ S = (f ρ S).bind fun a S1 => (match a with
  | .d u => ofO (keysD u) S1
  | _ => .stuck) := rfl
@[simp] theorem ev_sortKeys {f : Fe} : eSortKeys f ρ S = (f ρ S).bind fun a S1 => (match a with
  | .d u => ofO (sortKeysD u) S1
  | _ => .stuck) := rfl
@[simp] theorem ev_lenSet {f : Fe} : eLenSet f ρ S = (f ρ S).bind fun a S1 => if isSeq a = true then lenSetD a S1 else .stuck := rfl
@[simp] theorem ev_dA {f : Fd} : dA f ρ S = (f ρ S).bind fun d S1 => .ok (.d d) S1 := rfl
@[simp] theorem ev_comp {fi : Fi} {t : Tgt} {W : List Nat} {ft : Ft} {fe : Fe} : eComp fi t W ft fe ρ S = (fi ρ S).bind fun ds S1 => (compF t W ft fe ρ ds S1).bind fun ys S2 => .ok (.lst ys) S2 := rfl
@[simp] theorem ev_iseq {f : Fe} : iSeq f ρ S = (f ρ S).bind fun a S1 => (match itemsOf a with
  | some ds => .ok ds S1
  | none => .stuck) := rfl
@[simp] theorem ev_rng1 {f : Fe} : iRng1 f ρ S = (f ρ S).bind fun a S1 => (match a with
  | .d (.int j) => rng1C j S1
  | _ => .stuck) := rfl
@[simp] theorem ev_rng2 {f g : Fe} : iRng2 f g ρ S = (f ρ S).bind fun a S1 => (g ρ S1).bind fun b S2 => (match a, b with
  | .d (.int i), .d (.int j) => rng2C i j S2
  | _, _ => .stuck) := rfl
theorem rng1C_le {j : Int} (h1 : -1073741824 ≤ j) (h2 : j ≤ 16777216) : rng1C j S = .ok (rangeD 0 j.toNat) S := by
  unfold rng1C
  have e : sizeLine = 16777216 := sizeLine_eq
  rw [if_pos ⟨by omega, by omega⟩]
theorem rng2C_le {i j : Int} (h1 : -1073741824 ≤ i) (h2 : i ≤ 1073741824) (h3 : -1073741824 ≤ j) (h4 : j ≤ 1073741824) (h5 : j - i ≤ 16777216) : rng2C i j S = .ok (rangeD i (j - i).toNat) S := by
  unfold rng2C
  have e : sizeLine = 16777216 := sizeLine_eq
  rw [if_pos ⟨by omega, by omega, by omega, by omega, by omega⟩]
@[simp] theorem ev_keyV {i : Nat} : iKeyV i ρ S = (match ρ[i]? with
  | some (some (.d (.dct kvs))) => .ok (kvs.map fun kv => keyVal kv.1) S
  | _ => .stuck) := rfl
@[simp] theorem ev_own {F : Fn} {fa : Fa} : eOwn F fa ρ S = (fa ρ S).bind fun as S1 => (F as S1).bind fun d S2 => .ok (.d d) S2 := rfl
@[simp] theorem ev_snil : sNil ρ S = .nx ρ S := rfl
@[simp] theorem ev_sasg {i : Nat} {f : Fe} : sAsg i f ρ S = onE (f ρ S) ρ fun a S1 => .nx (ρ.set i (some a)) S1 := rfl
@[simp] theorem ev_sasgN {i : Nat} {f : Fd} : sAsgN i f ρ S = onE (dA f ρ S) ρ fun a S1 => .nx (ρ.set i (some a)) S1 := rfl
@[simp] theorem ev_sret {f : Fe} : sRet f ρ S = onE (f ρ S) ρ fun a S1 => (match a with
  | .d u => .rt u S1
  | _ => .stuck) := rfl
@[simp] theorem ev_sexpr {f : Fe} : sExpr f ρ S = onE (f ρ S) ρ fun _ S1 => .nx ρ S1 := rfl
@[simp] theorem ev_sraise {c : Str} : sRaise c ρ S = .xc c ρ S := rfl
def onT (r : Res Bool) (ρ : Rho) (k : Bool → Sx → Out) : Out := match r with
  | .ok b S => k b S
  | .exc c S => .xc c ρ S
  | .stuck => .stuck
@[simp] theorem onT_ok {b : Bool} {k : Bool → Sx → Out} : onT (.ok b S) ρ k = k b S := rfl
@[simp] theorem ev_sif {t : Ft} {f g : Fs} : sIf t f g ρ S = onT (t ρ S) ρ fun b S1 => if b = true then f ρ S1 else g ρ S1 := rfl
def onI (r : Res (List D)) (ρ : Rho) (k : List D → Sx → Out) : Out := match r with
  | .ok b S => k b S
  | .exc c S => .xc c ρ S
  | .stuck => .stuck
@[simp] theorem onI_ok {b : List D} {k : List D → Sx → Out} : onI (.ok b S) ρ k = k b S := rfl
@[simp] theorem ev_sfor {fi : Fi} {t : Tgt} {f : Fs} : sFor fi t f ρ S = onI (fi ρ S) ρ fun ds S1 => forF t f ds ρ S1 := rfl
def thenS (o : Out) (g : Fs) : Out := match o with
  | .nx ρ' S' => g ρ' S'
  | o => o
@[simp] theorem then_nx {g : Fs} : thenS (.nx ρ S) g = g ρ S := rfl
@[simp] theorem then_rt {d : D} {g : Fs} : thenS (.rt d S) g = .rt d S := rfl
@[simp] theorem then_xc {c : Str} {g : Fs} : thenS (.xc c ρ S) g = .xc c ρ S := rfl
@[simp] theorem then_stuck {g : Fs} : thenS .stuck g = .stuck := rfl
@[simp] theorem ev_seq {f g : Fs} : sSeq f g ρ S = thenS (f ρ S) g := rfl
theorem then_ite {p : Prop} [Decidable p] {a b : Out} {g : Fs} : thenS (if p then a else b) g = if p then thenS a g else thenS b g := by split <;> rfl
@[simp] theorem ev_sapp {i : Nat} {f : Fe} : sApp i f ρ S = (match ownL ρ i with
  | none => .stuck
  | some xs => onE (f ρ S) ρ fun a S1 => match a with
    | .d u => if xs.length < sizeLine then .nx (ρ.set i (some (.d (.lst (xs ++ [u]))))) S1 else .stuck
    | _ => .stuck) := rfl
@[simp] theorem ev_sext {i : Nat} {f : Fe} : sExt i f ρ S = (match ownL ρ i with
  | none => .stuck
  | some xs => onE (f ρ S) ρ fun a S1 => match a with
    | .d (.lst ys) => if xs.length + ys.length ≤ sizeLine then .nx (ρ.set i (some (.d (.lst (xs ++ ys))))) S1 else .stuck
    | _ => .stuck) := rfl
@[simp] theorem ownL_d {i : Nat} {xs : List D} (h : ρ[i]? = some (some (.d (.lst xs)))) : ownL ρ i = some xs := by unfold ownL; rw [h]
@[simp] theorem ownK_d {i : Nat} {xs : List (Key × D)} (h : ρ[i]? = some (some (.d (.dct xs)))) : ownK ρ i = some xs := by unfold ownK; rw [h]
@[simp] theorem ev_sput {i : Nat} {fk f : Fe} : sPut i fk f ρ S = (match ownK ρ i with
  | none => .stuck
  | some kvs => onE (f ρ S) ρ fun a S1 => onE (fk ρ S1) ρ fun b S2 => match a, b with
    | .d u, .d k => (match keyD k with
      | some key => if kvs.length < sizeLine then .nx (ρ.set i (some (.d (.dct (putD kvs key u))))) S2 else .stuck
      | none => .stuck)
    | _, _ => .stuck) := rfl
@[simp] theorem ev_spop {i : Nat} {fk : Fe} : sPop i fk ρ S = (match ownK ρ i with
  | none => .stuck
  | some kvs => onE (fk ρ S) ρ fun b S2 => match b with
    | .d k => (match keyD k with
      | some key => if (lookK kvs key).isSome = true then .nx (ρ.set i (some (.d (.dct (dropD kvs key))))) S2 else .stuck
      | none => .stuck)
    | _ => .stuck) := rfl
@[simp] theorem ev_sun {t : Tgt} {f : Fe} : sUn t f ρ S = onE (f ρ S) ρ fun a S1 => (match a with
  | .d u => (match bindT t u ρ with
    | some ρ' => .nx ρ' S1
    | none => .stuck)
  | _ => .stuck) := rfl
@[simp] theorem ev_nlst {g : Fa} : nLst g ρ S = (g ρ S).bind fun as S1 => (match dats as with
  | some ds => if ds.length ≤ sizeLine then .ok (.lst ds) S1 else .stuck
  | none => .stuck) := rfl
@[simp] theorem ev_nc {d : D} : nC d ρ S = .ok d S := rfl
@[simp] theorem ev_nif {t : Ft} {f g : Fd} : nIf t f g ρ S = (t ρ S).bind fun b S1 => if b = true then f ρ S1 else g ρ S1 := rfl
@[simp] theorem ev_ncat {f f' : Fe} : nCat f f' ρ S = (f ρ S).bind fun a S1 => (f' ρ S1).bind fun b S2 => catN a b S2 := rfl
@[simp] theorem ev_ndict {f : Fe} : nDict f ρ S = (f ρ S).bind fun a S1 => (match a with
  | .d (.dct kvs) => .ok (.dct kvs) S1
  | _ => .stuck) := rfl
@[simp] theorem ev_run {n m : Nat} {f : Fs} {as : List A} : runF n m f as S = if as.length = n then outF (f (as.map some ++ List.replicate m none) S) else .stuck := rfl
@[simp] theorem outF_nx : outF (.nx ρ S) = .ok .non S := rfl
@[simp] theorem outF_rt {d : D} : outF (.rt d S) = .ok d S := rfl
@[simp] theorem outF_xc {c : Str} : outF (.xc c ρ S) = .exc c S := rfl
theorem outF_ite {p : Prop} [Decidable p] {a b : Out} : outF (if p then a else b) = if p then outF a else outF b := by split <;> rfl
@[simp] theorem rng1C_ok {j : Int} (h1 : -1073741824 ≤ j) (h2 : j ≤ 16777216) : rng1C j S = .ok (rangeD 0 j.toNat) S := rng1C_le h1 h2
theorem rng1C_nat {j : Int} {k : Nat} (h : j = (k : Nat)) (hk : k ≤ 16777216) : rng1C j S = .ok ((List.range k).map fun i => .int (i : Nat)) S := by
  subst h
  rw [rng1C_le (by omega) (by omega), Int.toNat_natCast]
  unfold rangeD
  simp
end
/-! ### small facts -/
@[simp] theorem sl_line : sizeLine = 16777216 := sizeLine_eq
@[simp] theorem mkSeq_ds {c : List D → D} {as : List A} {ds : List D} {S : Sx} (h : dats as = some ds) (hl : ds.length ≤ 16777216) : mkSeq c as S = .ok (.d (c ds)) S := by
  unfold mkSeq; rw [h]; simp only [sl_line]; rw [if_pos hl]
@[simp] theorem ixA_d {u w : D} {S : Sx} : ixA (.d u) (.d w) S = ofO (ixD u w) S := by
  cases u <;> cases w <;> rfl
@[simp] theorem slA_d {u : D} {lo hi : Option Int} {S : Sx} : slA (.d u) lo hi S = ofO (slD u lo hi) S := rfl
theorem atI_nat {α : Type} {xs : List α} {i : Nat} (h : i < xs.length) : atI xs (i : Int) = some xs[i] := by
  unfold atI ixN
  rw [if_pos (by omega), if_pos (by omega)]
  simp [h]
theorem atI_int' {α : Type} {xs : List α} {i : Int} (h0 : 0 ≤ i) (h1 : i < xs.length) : ∃ a ∈ xs, atI xs i = some a := by
  have e : i = ((i.toNat : Nat) : Int) := by omega
  have hl : i.toNat < xs.length := by omega
  rw [e, atI_nat hl]
  exact ⟨_, List.getElem_mem hl, rfl⟩
@[simp] theorem atI_0 {α : Type} {a : α} {xs : List α} : atI (a :: xs) 0 = some a := by
  have := atI_nat (xs := a :: xs) (i := 0) (by simp)
  simpa using this
@[simp] theorem atI_1 {α : Type} {a b : α} {xs : List α} : atI (a :: b :: xs) 1 = some b := by
  have := atI_nat (xs := a :: b :: xs) (i := 1) (by simp)
  simpa using this
@[simp] theorem atI_2 {α : Type} {a b c : α} {xs : List α} : atI (a :: b :: c :: xs) 2 = some c := by
  have := atI_nat (xs := a :: b :: c :: xs) (i := 2) (by simp)
  simpa using this
@[simp] theorem ixD_tup {xs : List D} {i : Int} : ixD (.tup xs) (.int i) = atI xs i := rfl
@[simp] theorem ixD_lst {xs : List D} {i : Int} : ixD (.lst xs) (.int i) = atI xs i := rfl
@[simp] theorem ixD_dct {kvs : List (Key × D)} {z : Str} : ixD (.dct kvs) (.str z) = lookK kvs (.inr z) := rfl
@[simp] theorem addD_int {i j : Int} : addD (.int i) (.int j) = some (.int (i + j)) := rfl
@[simp] theorem subD_int {i j : Int} : subD (.int i) (.int j) = some (.int (i - j)) := rfl
@[simp] theorem ltD_int {i j : Int} : ltD (.int i) (.int j) = some (.bl (decide (i < j))) := rfl
@[simp] theorem leD_int {i j : Int} : leD (.int i) (.int j) = some (.bl (decide (i ≤ j))) := rfl
@[simp] theorem gtD_int {i j : Int} : gtD (.int i) (.int j) = some (.bl (decide (j < i))) := rfl
@[simp] theorem geD_int {i j : Int} : geD (.int i) (.int j) = some (.bl (decide (j ≤ i))) := rfl
@[simp] theorem addD_lst {a b : List D} (h : a.length + b.length ≤ 16777216) : addD (.lst a) (.lst b) = some (.lst (a ++ b)) := by unfold addD; simp only [sl_line]; rw [if_pos h]
@[simp] theorem addD_tup {a b : List D} (h : a.length + b.length ≤ 16777216) : addD (.tup a) (.tup b) = some (.tup (a ++ b)) := by unfold addD; simp only [sl_line]; rw [if_pos h]
theorem modD_int {i j : Int} (h : 0 < j) : modD (.int i) (.int j) = some (.int (i % j)) := by simp only [modD, if_pos h]
theorem fdivD_int {i j : Int} (h : 0 < j) (hj : j < 2 ^ 64) : fdivD (.int i) (.int j) = some (.int (i / j)) := by
  have hl : j.natAbs < 2 ^ 64 := by omega
  simp only [fdivD, if_pos (show CDivW i j from ⟨h, Nat.lt_of_lt_of_le ((Nat.log2_lt (by omega)).mpr hl) (by decide)⟩)]
theorem mulD_int {i j : Int} (hi : i.natAbs < 2 ^ 64) (hj : j.natAbs < 2 ^ 64) : mulD (.int i) (.int j) = some (.int (i * j)) := by
  have l : ∀ n : Nat, n < 2 ^ 64 → n.log2 < 64 := fun n h => by
    by_cases z : n = 0
    · subst z; simp
    · exact (Nat.log2_lt z).mpr h
  have h1 := l _ hi
  have h2 := l _ hj
  simp only [mulD, if_pos (show CMulW i j from by unfold CMulW; omega)]
theorem powD_int {i : Int} {j : Nat} (hi : i.natAbs < 2 ^ 64) (hj : j ≤ 1000) : powD (.int i) (.int (j : Int)) = some (.int (i ^ j)) := by
  simp only [powD, if_pos (show CPow i (j : Int) from ⟨by omega, by omega, hi⟩)]; simp
/-! == -/
@[simp] theorem eqD_str {a b : Str} : eqD (.str a) (.str b) = some (a == b) := by unfold eqD; simp [strK, depthD, eqvD]
@[simp] theorem eqD_int {a b : Int} : eqD (.int a) (.int b) = some (a == b) := by unfold eqD; simp [strK, depthD, eqvD]
@[simp] theorem eqD_bl {a b : Bool} : eqD (.bl a) (.bl b) = some (a == b) := by unfold eqD; simp [strK, depthD, eqvD]
@[simp] theorem eqD_nil {xs : List D} : eqD (.lst xs) (.lst []) = some xs.isEmpty := by
  unfold eqD
  split
  · cases xs <;> simp [eqvD, eqvL]
  · cases xs <;> simp_all [strK, strKL, depthD, depthL]
@[simp] theorem eqD_dnil {xs : List (Key × D)} : eqD (.dct xs) (.dct []) = some xs.isEmpty := by
  unfold eqD
  split
  · cases xs <;> simp [eqvD, eqvK]
  · cases xs <;> simp
@[simp] theorem eqO_e {a b : D} : eqO a b = (eqD a b).map .bl := rfl
@[simp] theorem neO_e {a b : D} : neO a b = (eqD a b).map fun k => .bl (!k) := rfl
/-! ### comprehensions whose parts change nothing -/
theorem cmp_pure {t : Tgt} {W : List Nat} {ft : Ft} {fe : Fe} {ρ : Rho} {S : Sx} {g : D → Option D} : ∀ {ds : List D}, (∀ d ∈ ds, turnF t W ft fe d ρ S = .ok (g d) S) → compF t W ft fe ρ ds S = .ok (ds.filterMap g) S
  | [], _ => rfl
  | d :: ds, h => by
    rw [compF_cons, h d List.mem_cons_self, bind_ok, cmp_pure fun x hx => h x (List.mem_cons_of_mem _ hx), bind_ok]
    cases e : g d <;> simp [List.filterMap_cons, e]
theorem cmp_map {t : Tgt} {W : List Nat} {ft : Ft} {fe : Fe} {ρ : Rho} {S : Sx} {g : D → D} {ds : List D} (h : ∀ d ∈ ds, turnF t W ft fe d ρ S = .ok (some (g d)) S) : compF t W ft fe ρ ds S = .ok (ds.map g) S := by
  rw [cmp_pure h, List.filterMap_eq_map']
@[simp] theorem boolsOf_mapF {α : Type} (f : α → Bool) : ∀ xs : List α, boolsOf (xs.map fun x => .bl (f x)) = some (xs.map f)
  | [] => rfl
  | x :: xs => by
    have := boolsOf_mapF f xs
    simp [boolsOf, this]
@[simp] theorem boolsOf_mapC {α : Type} (f : α → Bool) (xs : List α) : boolsOf (xs.map (D.bl ∘ f)) = some (xs.map f) := boolsOf_mapF f xs
theorem cmp_over {α : Type} {t : Tgt} {W : List Nat} {ft : Ft} {fe : Fe} {ρ : Rho} {S : Sx} {f : α → D} {g : α → Option D} : ∀ {xs : List α}, (∀ x ∈ xs, turnF t W ft fe (f x) ρ S = .ok (g x) S) → compF t W ft fe ρ (xs.map f) S = .ok (xs.filterMap g) S
  | [], _ => rfl
  | d :: ds, h => by
    rw [List.map_cons, compF_cons, h d List.mem_cons_self, bind_ok, cmp_over fun x hx => h x (List.mem_cons_of_mem _ hx), bind_ok]
    cases e : g d <;> simp [List.filterMap_cons, e]
theorem cmp_overM {α : Type} {t : Tgt} {W : List Nat} {ft : Ft} {fe : Fe} {ρ : Rho} {S : Sx} {f : α → D} {g : α → D} {xs : List α} (h : ∀ x ∈ xs, turnF t W ft fe (f x) ρ S = .ok (some (g x)) S) : compF t W ft fe ρ (xs.map f) S = .ok (xs.map g) S := by
  rw [cmp_over h, List.filterMap_eq_map']
@[simp] theorem cast_beq (a b : Nat) : ((a : Int) == (b : Int)) = (a == b) := by
  by_cases h : a = b
  · subst h; rw [beq_self_eq_true, beq_self_eq_true]
  · have : ¬ (a : Int) = (b : Int) := by omega
    rw [beq_eq_false_iff_ne.mpr this, beq_eq_false_iff_ne.mpr h]
@[simp] theorem cast_eq (a b : Nat) : ((a : Int) = (b : Int)) ↔ a = b := by omega
@[simp] theorem allG_lst {S : Sx} {ds : List D} : allG S [.d (.lst ds)] = (boolsOf ds).map fun bs => .bl (bs.all id) := rfl
@[simp] theorem anyG_lst {S : Sx} {ds : List D} : anyG S [.d (.lst ds)] = (boolsOf ds).map fun bs => .bl (bs.any id) := rfl
@[simp] theorem lenG_lst {S : Sx} {ds : List D} : lenG S [.d (.lst ds)] = some (.int (ds.length : Nat)) := rfl
@[simp] theorem lenG_tup {S : Sx} {ds : List D} : lenG S [.d (.tup ds)] = some (.int (ds.length : Nat)) := rfl
@[simp] theorem lenG_dct {S : Sx} {ds : List (Key × D)} : lenG S [.d (.dct ds)] = some (.int (ds.length : Nat)) := rfl
@[simp] theorem lenG_str {S : Sx} {z : Str} : lenG S [.d (.str z)] = some (.int (z.length : Nat)) := rfl
@[simp] theorem items_lst {ds : List D} : itemsOf (.d (.lst ds)) = some ds := rfl
@[simp] theorem items_tup {ds : List D} : itemsOf (.d (.tup ds)) = some ds := rfl
@[simp] theorem items_str {z : Str} : itemsOf (.d (.str z)) = some (signs z) := rfl
end G
namespace Law
open PySem L2 G
@[simp] theorem q_number_truth : (("number" : Str) == "truth") = false := by decide
@[simp] theorem q_number_word : (("number" : Str) == "word") = false := by decide
@[simp] theorem q_number_text : (("number" : Str) == "text") = false := by decide
@[simp] theorem q_number_list : (("number" : Str) == "list") = false := by decide
@[simp] theorem q_number_maybe : (("number" : Str) == "maybe") = false := by decide
@[simp] theorem q_number_rec : (("number" : Str) == "rec") = false := by decide
@[simp] theorem q_number_kind : (("number" : Str) == "kind") = false := by decide
@[simp] theorem q_truth_number : (("truth" : Str) == "number") = false := by decide
@[simp] theorem q_truth_word : (("truth" : Str) == "word") = false := by decide
@[simp] theorem q_truth_text : (("truth" : Str) == "text") = false := by decide
@[simp] theorem q_truth_list : (("truth" : Str) == "list") = false := by decide
@[simp] theorem q_truth_maybe : (("truth" : Str) == "maybe") = false := by decide
@[simp] theorem q_truth_rec : (("truth" : Str) == "rec") = false := by decide
@[simp] theorem q_truth_kind : (("truth" : Str) == "kind") = false := by decide
@[simp] theorem q_word_number : (("word" : Str) == "number") = false := by decide
@[simp] theorem q_word_truth : (("word" : Str) == "truth") = false := by decide
@[simp] theorem q_word_text : (("word" : Str) == "text") = false := by decide
@[simp] theorem q_word_list : (("word" : Str) == "list") = false := by decide
@[simp] theorem q_word_maybe : (("word" : Str) == "maybe") = false := by decide
@[simp] theorem q_word_rec : (("word" : Str) == "rec") = false := by decide
@[simp] theorem q_word_kind : (("word" : Str) == "kind") = false := by decide
@[simp] theorem q_text_number : (("text" : Str) == "number") = false := by decide
@[simp] theorem q_text_truth : (("text" : Str) == "truth") = false := by decide
@[simp] theorem q_text_word : (("text" : Str) == "word") = false := by decide
@[simp] theorem q_text_list : (("text" : Str) == "list") = false := by decide
@[simp] theorem q_text_maybe : (("text" : Str) == "maybe") = false := by decide
@[simp] theorem q_text_rec : (("text" : Str) == "rec") = false := by decide
@[simp] theorem q_text_kind : (("text" : Str) == "kind") = false := by decide
@[simp] theorem q_list_number : (("list" : Str) == "number") = false := by decide
@[simp] theorem q_list_truth : (("list" : Str) == "truth") = false := by decide
@[simp] theorem q_list_word : (("list" : Str) == "word") = false := by decide
@[simp] theorem q_list_text : (("list" : Str) == "text") = false := by decide
@[simp] theorem q_list_maybe : (("list" : Str) == "maybe") = false := by decide
@[simp] theorem q_list_rec : (("list" : Str) == "rec") = false := by decide
@[simp] theorem q_list_kind : (("list" : Str) == "kind") = false := by decide
@[simp] theorem q_maybe_number : (("maybe" : Str) == "number") = false := by decide
@[simp] theorem q_maybe_truth : (("maybe" : Str) == "truth") = false := by decide
@[simp] theorem q_maybe_word : (("maybe" : Str) == "word") = false := by decide
@[simp] theorem q_maybe_text : (("maybe" : Str) == "text") = false := by decide
@[simp] theorem q_maybe_list : (("maybe" : Str) == "list") = false := by decide
@[simp] theorem q_maybe_rec : (("maybe" : Str) == "rec") = false := by decide
@[simp] theorem q_maybe_kind : (("maybe" : Str) == "kind") = false := by decide
@[simp] theorem q_rec_number : (("rec" : Str) == "number") = false := by decide
@[simp] theorem q_rec_truth : (("rec" : Str) == "truth") = false := by decide
@[simp] theorem q_rec_word : (("rec" : Str) == "word") = false := by decide
@[simp] theorem q_rec_text : (("rec" : Str) == "text") = false := by decide
@[simp] theorem q_rec_list : (("rec" : Str) == "list") = false := by decide
@[simp] theorem q_rec_maybe : (("rec" : Str) == "maybe") = false := by decide
@[simp] theorem q_rec_kind : (("rec" : Str) == "kind") = false := by decide
@[simp] theorem q_kind_number : (("kind" : Str) == "number") = false := by decide
@[simp] theorem q_kind_truth : (("kind" : Str) == "truth") = false := by decide
@[simp] theorem q_kind_word : (("kind" : Str) == "word") = false := by decide
@[simp] theorem q_kind_text : (("kind" : Str) == "text") = false := by decide
@[simp] theorem q_kind_list : (("kind" : Str) == "list") = false := by decide
@[simp] theorem q_kind_maybe : (("kind" : Str) == "maybe") = false := by decide
@[simp] theorem q_kind_rec : (("kind" : Str) == "rec") = false := by decide
/-! ### shapes -/
inductive Sh where
  | num (lo hi : Int) | tru | wrd (ws : List Str) | txt (n : Nat) | lis (s : Sh) (n : Nat) | may (s : Sh) | rcd (ps : List (Str × Sh)) | knd (ps : List (Str × Sh))
mutual
def enc : Sh → D
  | .num lo hi => .tup [.str "number", .int lo, .int hi]
  | .tru => .tup [.str "truth"]
  | .wrd ws => .tup [.str "word", .tup (ws.map .str)]
  | .txt n => .tup [.str "text", .int n]
  | .lis s n => .tup [.str "list", enc s, .int n]
  | .may s => .tup [.str "maybe", enc s]
  | .rcd ps => .tup [.str "rec", .tup (encs ps)]
  | .knd ps => .tup [.str "kind", .tup (encs ps)]
def encs : List (Str × Sh) → List D
  | [] => []
  | p :: r => encp p :: encs r
def encp : Str × Sh → D
  | (n, s) => .tup [.str n, enc s]
end
theorem encs_map (ps : List (Str × Sh)) : encs ps = ps.map encp := by
  induction ps with
  | nil => rfl
  | cons p r ih => simp [encs, ih]
@[simp] theorem encp_e (p : Str × Sh) : encp p = .tup [.str p.1, enc p.2] := by obtain ⟨n, s⟩ := p; simp [encp]
/-- a word: one to eight small letters -/
def okW (z : Str) : Prop := 1 ≤ z.length ∧ z.length ≤ 8 ∧ ∀ c ∈ z.cps.toList, c ∈ ("abcdefghijklmnopqrstuvwxyz" : Str).cps.toList
def isMay : Sh → Bool
  | .may _ => true
  | _ => false
/-- a good shape of at most n levels -/
inductive Gd : Nat → Sh → Prop
  | num {n : Nat} {lo hi : Int} : -1000000 ≤ lo → lo ≤ hi → hi ≤ 1000000 → Gd (n + 1) (.num lo hi)
  | tru {n : Nat} : Gd (n + 1) .tru
  | wrd {n : Nat} {ws : List Str} : 1 ≤ ws.length → ws.length ≤ 4 → (∀ w ∈ ws, okW w) → ws.Nodup → Gd (n + 1) (.wrd ws)
  | txt {n m : Nat} : m ≤ 4 → Gd (n + 1) (.txt m)
  | lis {n m : Nat} {s : Sh} : Gd n s → m ≤ 4 → Gd (n + 1) (.lis s m)
  | may {n : Nat} {s : Sh} : Gd n s → isMay s = false → Gd (n + 1) (.may s)
  | rcd {n : Nat} {ps : List (Str × Sh)} : ps.length ≤ 4 → (∀ p ∈ ps, okW p.1) → (∀ p ∈ ps, Gd n p.2) → (ps.map (·.1)).Nodup → Gd (n + 1) (.rcd ps)
  | knd {n : Nat} {ps : List (Str × Sh)} : 1 ≤ ps.length → ps.length ≤ 4 → (∀ p ∈ ps, okW p.1) → (∀ p ∈ ps, Gd n p.2) → (ps.map (·.1)).Nodup → Gd (n + 1) (.knd ps)
/-! ### is_whole, is_word, are_words -/
def isWh (t : D) (a b : Int) : Bool := match t with
  | .int i => decide (a ≤ i) && decide (i ≤ b)
  | _ => false
@[simp] theorem inD_sign {c : Nat} {z : Str} : inD (.str ⟨#[c]⟩) (.str z) = some (.bl (decide (c ∈ z.cps.toList))) := by
  simp [inD, inB]
@[simp] theorem notInD_sign {c : Nat} {z : Str} : notInD (.str ⟨#[c]⟩) (.str z) = some (.bl (!decide (c ∈ z.cps.toList))) := by
  simp [notInD, inB]
theorem sign_comp {i : Nat} {z y : Str} {ρ : Rho} {S : Sx} {fe : Fe} (h : ∀ c, turnF (.n i) [i] tYesF fe (.str ⟨#[c]⟩) ρ S = .ok (some (.bl (decide (c ∈ y.cps.toList)))) S) : compF (.n i) [i] tYesF fe ρ (signs z) S = .ok ((z.cps.toList.map fun c => decide (c ∈ y.cps.toList)).map .bl) S := by
  unfold signs
  rw [cmp_map (g := fun (d : D) => match d with
    | .str z => .bl (decide (z.cps.getD 0 0 ∈ y.cps.toList))
    | _ => .non)]
  · simp
  · intro d hd
    obtain ⟨c, _, rfl⟩ := List.mem_map.mp hd
    rw [h c]; simp
/-- distinct texts -/
theorem ndU_nodup (xs : List Str) (h : xs.Nodup) : ∀ i, i ≤ xs.length → ndU xs i = i
  | 0, _ => rfl
  | i + 1, hi => by
    unfold ndU
    have hl : i < xs.length := by omega
    have hn : ¬ (xs.take i).any (· == xs.getD i Str.empty) = true := by
      intro q
      obtain ⟨y, hy, e⟩ := List.any_eq_true.mp q
      have e := eq_of_beq e
      obtain ⟨j, hj, ej⟩ := List.mem_iff_getElem.mp hy
      rw [List.length_take] at hj
      rw [List.getElem_take] at ej
      have : xs.getD i Str.empty = xs[i] := by simp [hl]
      rw [this, ← ej] at e
      have := (List.getElem_inj h).mp e
      omega
    rw [if_neg hn, ndU_nodup xs h i (by omega)]
theorem distinct_nodup {xs : List Str} (h : xs.Nodup) : distinct xs = xs.length := ndU_nodup xs h _ (Nat.le_refl _)
@[simp] theorem strsD_map (zs : List Str) : strsD (zs.map .str) = some zs := by
  induction zs with
  | nil => rfl
  | cons z r ih => simp [ih]
theorem enc_shape (s : Sh) : ∃ w r, enc s = .tup (.str w :: r) ∧ (isMay s = false → (w == ("maybe" : Str)) = false) ∧ (isMay s = true → w = "maybe") := by
  cases s <;> exact ⟨_, _, rfl, by simp [isMay], by simp [isMay]⟩
def letters (z : Str) : Bool := z.cps.toList.all fun c => decide (c ∈ ("abc" : Str).cps.toList)
def oneP : Nat → Sh → D → Bool
  | 0, _, _ => false
  | n + 1, s, t => match s with
    | .num lo hi => isWh t lo hi
    | .tru => isi .bool t
    | .wrd ws => (match t with
      | .str z => ws.any fun w => w == z
      | _ => false)
    | .txt m => (match t with
      | .str z => decide (z.length ≤ m) && letters z
      | _ => false)
    | .lis s m => (match t with
      | .lst xs => decide (xs.length ≤ m) && xs.all (oneP n s)
      | _ => false)
    | .may s => (match t with
      | .non => true
      | t => oneP n s t)
    | .rcd ps => (match t with
      | .dct kvs => (kvs.length == ps.length) && ps.all fun p => match lookK kvs (.inr p.1) with
        | some u => oneP n p.2 u
        | none => false
      | _ => false)
    | .knd ps => (match t with
      | .tup [.str z, u] => ps.any fun p => z == p.1 && oneP n p.2 u
      | _ => false)
theorem inD_words {ws : List Str} {z : Str} : inD (.str z) (.tup (ws.map .str)) = some (.bl (ws.any fun w => w == z)) := by
  have h : (ws.map D.str).all flatD = true := by simp [flatD]
  have e : (inB (.str z) (.tup (ws.map .str))) = inSeq (.str z) (ws.map .str) := by
    unfold inB
    split <;> simp_all
  simp [inD, e, inSeq, flatD, h, eqF, List.any_map, Function.comp_def]
theorem inD_key {z : Str} {kvs : List (Key × D)} : inD (.str z) (.dct kvs) = some (.bl (lookK kvs (.inr z)).isSome) := by
  have e : inB (.str z) (.dct kvs) = some (lookK kvs (.inr z)).isSome := by
    unfold inB
    split <;> simp_all [keyD]
  simp [inD, e]
end Law
/-! Numbers of things, in plain Lean. -/
namespace Law
open PySem L2 G
/-! ### rows -/
def off (b : Nat) : Nat → Nat
  | 0 => 0
  | n + 1 => off b n + b ^ n
def val (b : Nat) : List Nat → Nat
  | [] => 0
  | d :: r => d * b ^ r.length + val b r
def rowNo (b : Nat) (ds : List Nat) : Nat := val b ds + off b ds.length
def small (b : Nat) (ds : List Nat) : Prop := ∀ d ∈ ds, d < b
theorem val_lt {b : Nat} : ∀ {ds : List Nat}, small b ds → val b ds < b ^ ds.length
  | [], _ => by simp [val]
  | d :: r, h => by
    have h1 := val_lt (b := b) (ds := r) fun x hx => h x (List.mem_cons_of_mem _ hx)
    have h2 : d + 1 ≤ b := h d List.mem_cons_self
    have h3 : (d + 1) * b ^ r.length ≤ b * b ^ r.length := Nat.mul_le_mul_right _ h2
    rw [Nat.add_mul, Nat.one_mul] at h3
    simp only [val, List.length_cons, Nat.pow_succ]
    rw [Nat.mul_comm (b ^ r.length) b]
    omega
theorem val_inj {b : Nat} : ∀ {ds es : List Nat}, small b ds → small b es → ds.length = es.length → val b ds = val b es → ds = es
  | [], [], _, _, _, _ => rfl
  | d :: r, e :: q, h1, h2, hl, hv => by
    have hl' : r.length = q.length := by simpa using hl
    have k1 := val_lt (b := b) (ds := r) fun x hx => h1 x (List.mem_cons_of_mem _ hx)
    have k2 := val_lt (b := b) (ds := q) fun x hx => h2 x (List.mem_cons_of_mem _ hx)
    simp only [val] at hv
    rw [← hl'] at k2 hv
    have hp : 0 < b ^ r.length := by omega
    have e1 : (d * b ^ r.length + val b r) / b ^ r.length = d := by
      rw [Nat.mul_comm, Nat.mul_add_div hp, Nat.div_eq_of_lt k1]; omega
    have e2 : (e * b ^ r.length + val b q) / b ^ r.length = e := by
      rw [Nat.mul_comm, Nat.mul_add_div hp, Nat.div_eq_of_lt k2]; omega
    have e3 : d = e := by rw [← e1, ← e2, hv]
    subst e3
    rw [val_inj (fun x hx => h1 x (List.mem_cons_of_mem _ hx)) (fun x hx => h2 x (List.mem_cons_of_mem _ hx)) hl' (by omega)]
theorem off_mono {b m n : Nat} (h : m ≤ n) : off b m ≤ off b n := by
  induction h with
  | refl => exact Nat.le_refl _
  | step _ ih => exact Nat.le_trans ih (by simp [off])
theorem rowNo_lt {b : Nat} {ds : List Nat} (h : small b ds) {m : Nat} (hm : ds.length ≤ m) : rowNo b ds < off b (m + 1) := by
  have h1 := val_lt h
  have h2 : off b (ds.length + 1) ≤ off b (m + 1) := off_mono (by omega)
  simp only [off] at h2 ⊢
  unfold rowNo
  omega
theorem rowNo_inj {b : Nat} {ds es : List Nat} (h1 : small b ds) (h2 : small b es) (h : rowNo b ds = rowNo b es) : ds = es := by
  have k1 := rowNo_lt h1 (Nat.le_refl _)
  have k2 := rowNo_lt h2 (Nat.le_refl _)
  have hl : ds.length = es.length := by
    rcases Nat.lt_trichotomy ds.length es.length with z | z | z
    · have := off_mono (b := b) (show ds.length + 1 ≤ es.length from z)
      have : off b es.length ≤ rowNo b es := by unfold rowNo; omega
      omega
    · exact z
    · have := off_mono (b := b) (show es.length + 1 ≤ ds.length from z)
      have : off b ds.length ≤ rowNo b ds := by unfold rowNo; omega
      omega
  refine val_inj h1 h2 hl ?_
  unfold rowNo at h
  rw [hl] at h
  omega
theorem digits (b : Nat) : ∀ n v, v < b ^ n → ∃ ds, ds.length = n ∧ small b ds ∧ val b ds = v
  | 0, v, h => ⟨[], rfl, fun _ hx => by simp at hx, by simp at h; simp [val, h]⟩
  | n + 1, v, h => by
    have hb : 0 < b ^ n := by
      rcases Nat.eq_zero_or_pos (b ^ n) with z | z
      · rw [Nat.pow_succ, z] at h; omega
      · exact z
    have h1 : v / b ^ n < b := Nat.div_lt_of_lt_mul (by rw [← Nat.pow_succ]; exact h)
    obtain ⟨ds, e1, e2, e3⟩ := digits b n (v % b ^ n) (Nat.mod_lt _ hb)
    refine ⟨v / b ^ n :: ds, by simp [e1], fun x hx => ?_, ?_⟩
    · rcases List.mem_cons.mp hx with rfl | hx
      · exact h1
      · exact e2 x hx
    · simp only [val, e1, e3]
      rw [Nat.mul_comm]
      exact Nat.div_add_mod v (b ^ n)
theorem row_of (b : Nat) : ∀ m k, k < off b m → ∃ ds, ds.length < m ∧ small b ds ∧ rowNo b ds = k
  | 0, k, h => by simp [off] at h
  | m + 1, k, h => by
    by_cases c : k < off b m
    · obtain ⟨ds, e1, e2, e3⟩ := row_of b m k c
      exact ⟨ds, by omega, e2, e3⟩
    · simp only [off] at h
      obtain ⟨ds, e1, e2, e3⟩ := digits b m (k - off b m) (by omega)
      exact ⟨ds, by omega, e2, by unfold rowNo; rw [e3, e1]; omega⟩
open Classical in
noncomputable def rowAt (b k : Nat) : List Nat := if h : ∃ ds, small b ds ∧ rowNo b ds = k then h.choose else []
theorem rowAt_spec {b m k : Nat} (h : k < off b (m + 1)) : (rowAt b k).length ≤ m ∧ small b (rowAt b k) ∧ rowNo b (rowAt b k) = k := by
  obtain ⟨ds, e1, e2, e3⟩ := row_of b (m + 1) k h
  have hx : ∃ ds, small b ds ∧ rowNo b ds = k := ⟨ds, e2, e3⟩
  have hc := hx.choose_spec
  have hd : rowAt b k = hx.choose := dif_pos hx
  have he : hx.choose = ds := rowNo_inj hc.1 e2 (by rw [hc.2, e3])
  rw [hd]
  exact ⟨by rw [he]; omega, hc.1, hc.2⟩
theorem rowAt_no {b : Nat} {ds : List Nat} (h : small b ds) : rowAt b (rowNo b ds) = ds := by
  have hx : ∃ es, small b es ∧ rowNo b es = rowNo b ds := ⟨ds, h, rfl⟩
  have hd : rowAt b (rowNo b ds) = hx.choose := dif_pos hx
  rw [hd]
  exact rowNo_inj hx.choose_spec.1 h hx.choose_spec.2
theorem off_pos {b m : Nat} : 1 ≤ off b (m + 1) := by
  induction m with
  | zero => simp [off]
  | succ m ih => simp only [off] at ih ⊢; omega
/-! ### how many -/
mutual
def sz : Sh → Nat
  | .num lo hi => (hi - lo + 1).toNat
  | .tru => 2
  | .wrd ws => ws.length
  | .txt m => off 3 (m + 1)
  | .lis s m => off (sz s) (m + 1)
  | .may s => 1 + sz s
  | .rcd ps => szP ps
  | .knd ps => szS ps
def szP : List (Str × Sh) → Nat
  | [] => 1
  | p :: r => szQ p * szP r
def szS : List (Str × Sh) → Nat
  | [] => 0
  | p :: r => szQ p + szS r
def szQ : Str × Sh → Nat
  | (_, s) => sz s
end
@[simp] theorem szQ_e (p : Str × Sh) : szQ p = sz p.2 := by obtain ⟨n, s⟩ := p; simp [szQ]
theorem szP_pos : ∀ {ps : List (Str × Sh)}, (∀ p ∈ ps, 1 ≤ sz p.2) → 1 ≤ szP ps
  | [], _ => by simp [szP]
  | p :: r, h => by
    have h1 := h p List.mem_cons_self
    have h2 := szP_pos (ps := r) fun q hq => h q (List.mem_cons_of_mem _ hq)
    simp only [szP, szQ_e]
    exact Nat.mul_pos h1 h2
theorem sz_pos : ∀ {n : Nat} {s : Sh}, Gd n s → 1 ≤ sz s := by
  intro n
  induction n with
  | zero => intro s h; cases h
  | succ n ih =>
    intro s h
    cases h with
    | num h1 h2 h3 => simp only [sz]; omega
    | tru => simp [sz]
    | wrd h1 => simpa [sz] using h1
    | txt h => simp only [sz]; exact off_pos
    | lis h1 h2 => simp only [sz]; exact off_pos
    | may h1 => simp only [sz]; omega
    | rcd h1 h2 h3 => simp only [sz]; exact szP_pos fun p hp => ih (h3 p hp)
    | @knd _ ps h1 h2 h3 h4 =>
      simp only [sz]
      match ps, h1, h4 with
      | p :: r, _, h4 =>
        have := ih (h4 p List.mem_cons_self)
        simp only [szS, szQ_e]; omega
/-! ### things -/
def recAt (f : Sh → Nat → D) : List (Str × Sh) → Nat → List (Key × D)
  | [], _ => []
  | p :: r, k => (.inr p.1, f p.2 (k / szP r % sz p.2)) :: recAt f r k
def kAt (f : Sh → Nat → D) : List (Str × Sh) → Nat → D
  | [], _ => .non
  | p :: r, k => if k < sz p.2 then .tup [.str p.1, f p.2 k] else kAt f r (k - sz p.2)
noncomputable def oneAt : Nat → Sh → Nat → D
  | 0, _, _ => .non
  | n + 1, s, k => match s with
    | .num lo _ => .int (lo + k)
    | .tru => .bl (decide (k = 1))
    | .wrd ws => .str (ws.getD k Str.empty)
    | .txt _ => .str ⟨((rowAt 3 k).map (· + 97)).toArray⟩
    | .lis s _ => .lst ((rowAt (sz s) k).map (oneAt n s))
    | .may s => if k = 0 then .non else oneAt n s (k - 1)
    | .rcd ps => .dct (recAt (oneAt n) ps k)
    | .knd ps => kAt (oneAt n) ps k
def rPlc (f : Sh → D → Nat) (kvs : List (Key × D)) : List (Str × Sh) → Nat
  | [] => 0
  | p :: r => ((lookK kvs (.inr p.1)).elim 0 (f p.2)) * szP r + rPlc f kvs r
def kPlc (f : Sh → D → Nat) (z : Str) (u : D) : List (Str × Sh) → Nat
  | [] => 0
  | p :: r => if p.1 = z then f p.2 u else sz p.2 + kPlc f z u r
def plc : Nat → Sh → D → Nat
  | 0, _, _ => 0
  | n + 1, s, t => match s with
    | .num lo _ => (match t with
      | .int i => (i - lo).toNat
      | _ => 0)
    | .tru => (match t with
      | .bl b => if b then 1 else 0
      | _ => 0)
    | .wrd ws => (match t with
      | .str z => (idxStr z ws).getD 0
      | _ => 0)
    | .txt _ => (match t with
      | .str z => rowNo 3 (z.cps.toList.map (· - 97))
      | _ => 0)
    | .lis s _ => (match t with
      | .lst xs => rowNo (sz s) (xs.map (plc n s))
      | _ => 0)
    | .may s => (match t with
      | .non => 0
      | t => 1 + plc n s t)
    | .rcd ps => (match t with
      | .dct kvs => rPlc (plc n) kvs ps
      | _ => 0)
    | .knd ps => (match t with
      | .tup [.str z, u] => kPlc (plc n) z u ps
      | _ => 0)
end Law
namespace Law
open PySem L2 G
theorem abc_mem {c : Nat} : c ∈ ("abc" : Str).cps.toList ↔ 97 ≤ c ∧ c < 100 := by
  have e : ("abc" : Str).cps.toList = [97, 98, 99] := by decide
  rw [e]
  simp only [List.mem_cons, List.not_mem_nil, or_false]
  omega
theorem letters_iff {z : Str} : letters z = true ↔ ∀ c ∈ z.cps.toList, 97 ≤ c ∧ c < 100 := by
  unfold letters
  rw [List.all_eq_true]
  simp only [decide_eq_true_eq, abc_mem]
theorem idx_mem {z : Str} : ∀ {ws : List Str}, z ∈ ws → ∃ j, idxStr z ws = some j ∧ j < ws.length
  | y :: r, h => by
    unfold idxStr
    by_cases e : y = z
    · exact ⟨0, by rw [if_pos e], by simp⟩
    · rcases List.mem_cons.mp h with q | q
      · exact absurd q.symm e
      · obtain ⟨j, h1, h2⟩ := idx_mem q
        exact ⟨j + 1, by rw [if_neg e, h1]; rfl, by simpa using h2⟩
theorem idx_nodup : ∀ {ws : List Str} {k : Nat} (h : k < ws.length), ws.Nodup → idxStr ws[k] ws = some k
  | y :: r, 0, h, nd => by unfold idxStr; simp
  | y :: r, k + 1, h, nd => by
    rw [List.nodup_cons] at nd
    have hk : k < r.length := by simpa using h
    have ne : y ≠ r[k] := fun e => nd.1 (e ▸ List.getElem_mem hk)
    have := idx_nodup hk nd.2
    unfold idxStr
    simp only [List.getElem_cons_succ]
    rw [if_neg ne, this]; rfl
theorem idx_inj {z y : Str} {ws : List Str} {j : Nat} (h1 : idxStr z ws = some j) (h2 : idxStr y ws = some j) : z = y := by
  have a := (idxStr_ok h1).1
  have b := (idxStr_ok h2).1
  rw [a] at b
  exact Option.some.inj b
theorem any_mem {ws : List Str} {z : Str} : (ws.any fun w => w == z) = true ↔ z ∈ ws := by
  rw [List.any_eq_true]
  constructor
  · rintro ⟨w, hw, e⟩; rw [beq_iff_eq] at e; exact e ▸ hw
  · intro h; exact ⟨z, h, by simp⟩
/-- the look at a kind -/
theorem knd_find {n : Nat} {z : Str} {u : D} : ∀ {ps : List (Str × Sh)}, (ps.map (·.1)).Nodup → (ps.any fun p => z == p.1 && oneP n p.2 u) = true → ∃ p ∈ ps, p.1 = z ∧ oneP n p.2 u = true ∧ ∀ q ∈ ps, q.1 = z → q = p
  | p :: r, nd, h => by
    rw [List.map_cons, List.nodup_cons] at nd
    rw [List.any_cons, Bool.or_eq_true] at h
    rcases h with h | h
    · simp only [Bool.and_eq_true, beq_iff_eq] at h
      refine ⟨p, List.mem_cons_self, h.1.symm, h.2, fun q hq e => ?_⟩
      rcases List.mem_cons.mp hq with rfl | hq
      · rfl
      · exact absurd (List.mem_map.mpr ⟨q, hq, e.trans h.1⟩) nd.1
    · obtain ⟨q, h1, h2, h3, h4⟩ := knd_find nd.2 h
      refine ⟨q, List.mem_cons_of_mem _ h1, h2, h3, fun y hy e => ?_⟩
      rcases List.mem_cons.mp hy with rfl | hy
      · exact absurd (List.mem_map.mpr ⟨q, h1, h2.trans e.symm⟩) nd.1
      · exact h4 y hy e
theorem kPlc_lt {f : Sh → D → Nat} {z : Str} {u : D} : ∀ {ps : List (Str × Sh)}, (∀ p ∈ ps, p.1 = z → f p.2 u < sz p.2) → (∃ p ∈ ps, p.1 = z) → kPlc f z u ps < szS ps
  | p :: r, h, ⟨q, hq, e⟩ => by
    simp only [kPlc, szS, szQ_e]
    by_cases c : p.1 = z
    · rw [if_pos c]
      have := h p List.mem_cons_self c
      omega
    · rw [if_neg c]
      have := kPlc_lt (ps := r) (fun x hx => h x (List.mem_cons_of_mem _ hx)) ⟨q, by
        rcases List.mem_cons.mp hq with rfl | hq
        · exact absurd e c
        · exact hq, e⟩
      omega
theorem rPlc_lt {f : Sh → D → Nat} {kvs : List (Key × D)} : ∀ {ps : List (Str × Sh)}, (∀ p ∈ ps, (lookK kvs (.inr p.1)).elim 0 (f p.2) < sz p.2) → rPlc f kvs ps < szP ps
  | [], _ => by simp [rPlc, szP]
  | p :: r, h => by
    have h1 := h p List.mem_cons_self
    have h2 := rPlc_lt (ps := r) fun x hx => h x (List.mem_cons_of_mem _ hx)
    simp only [rPlc, szP, szQ_e]
    have h3 := Nat.mul_le_mul_right (szP r) (show (lookK kvs (.inr p.1)).elim 0 (f p.2) + 1 ≤ sz p.2 from h1)
    rw [Nat.add_mul, Nat.one_mul] at h3
    omega
theorem rec_all {n : Nat} {kvs : List (Key × D)} {ps : List (Str × Sh)} (h : oneP (n + 1) (.rcd ps) (.dct kvs) = true) : kvs.length = ps.length ∧ ∀ p ∈ ps, ∃ u, lookK kvs (.inr p.1) = some u ∧ oneP n p.2 u = true := by
  simp only [oneP, Bool.and_eq_true, beq_iff_eq, List.all_eq_true] at h
  refine ⟨h.1, fun p hp => ?_⟩
  have := h.2 p hp
  cases e : lookK kvs (.inr p.1) with
  | none => rw [e] at this; cases this
  | some u => rw [e] at this; exact ⟨u, rfl, this⟩
theorem plc_lt : ∀ {n : Nat} {s : Sh} {t : D}, Gd n s → oneP n s t = true → plc n s t < sz s := by
  intro n
  induction n with
  | zero => intro s t h; cases h
  | succ n ih =>
    intro s t h o
    cases h with
    | @num _ lo hi h1 h2 h3 =>
      cases t <;> simp [oneP, isWh] at o
      simp only [plc, sz]; omega
    | tru =>
      cases t <;> simp [oneP, isi] at o
      rename_i b
      cases b <;> simp [plc, sz]
    | @wrd _ ws h1 h2 h3 h4 =>
      cases t <;> simp only [oneP] at o <;> try cases o
      rename_i z
      obtain ⟨j, e1, e2⟩ := idx_mem (any_mem.mp o)
      simp only [plc, sz, e1, Option.getD_some]; exact e2
    | @txt _ m h1 =>
      cases t <;> simp only [oneP] at o <;> try cases o
      rename_i z
      simp only [Bool.and_eq_true, decide_eq_true_eq] at o
      simp only [plc, sz]
      have hz : z.cps.size ≤ m := o.1
      refine rowNo_lt (fun d hd => ?_) (by simpa using hz)
      obtain ⟨c, hc, rfl⟩ := List.mem_map.mp hd
      have := letters_iff.mp o.2 c hc
      omega
    | @lis _ m s h1 h2 =>
      cases t <;> simp only [oneP] at o <;> try cases o
      rename_i xs
      simp only [Bool.and_eq_true, decide_eq_true_eq, List.all_eq_true] at o
      simp only [plc, sz]
      refine rowNo_lt (fun d hd => ?_) (by simpa using o.1)
      obtain ⟨c, hc, rfl⟩ := List.mem_map.mp hd
      exact ih h1 (o.2 c hc)
    | @may _ s h1 h2 =>
      cases t <;> simp only [oneP] at o <;> simp only [plc, sz]
      case non => omega
      all_goals
        have := ih h1 o
        omega
    | @rcd _ ps h1 h2 h3 h4 =>
      cases t <;> try (simp [oneP] at o; done)
      rename_i kvs
      obtain ⟨_, hl⟩ := rec_all o
      simp only [plc, sz]
      refine rPlc_lt fun p hp => ?_
      obtain ⟨u, e1, e2⟩ := hl p hp
      rw [e1]
      exact ih (h3 p hp) e2
    | @knd _ ps h1 h2 h3 h4 h5 =>
      cases t <;> try (simp [oneP] at o; done)
      rename_i xs
      match xs, o with
      | [.str z, u], o =>
        simp only [oneP] at o
        obtain ⟨p, g1, g2, g3, g4⟩ := knd_find h5 o
        simp only [plc, sz]
        exact kPlc_lt (fun q hq e => by rw [g4 q hq e]; exact ih (h4 p g1) g3) ⟨p, g1, g2⟩
/-! ### the thing of a number -/
theorem recAt_len {f : Sh → Nat → D} : ∀ (ps : List (Str × Sh)) (k : Nat), (recAt f ps k).length = ps.length
  | [], _ => rfl
  | p :: r, k => by simp [recAt, recAt_len r k]
theorem recAt_keys {f : Sh → Nat → D} : ∀ (ps : List (Str × Sh)) (k : Nat), (recAt f ps k).map (·.1) = ps.map fun p => Sum.inr p.1
  | [], _ => rfl
  | p :: r, k => by simp [recAt, recAt_keys r k]
theorem lookK_cons {kvs : List (Key × D)} {k j : Key} {v : D} : lookK ((j, v) :: kvs) k = if j = k then some v else lookK kvs k := by
  unfold lookK
  rw [List.find?_cons]
  by_cases e : j = k <;> simp [e]
theorem recAt_plc {f : Sh → Nat → D} {g : Sh → D → Nat} : ∀ {ps : List (Str × Sh)} {k : Nat} {kvs : List (Key × D)}, (ps.map (·.1)).Nodup → (∀ p ∈ ps, 1 ≤ sz p.2) → (∀ p ∈ ps, ∀ i, i < sz p.2 → g p.2 (f p.2 i) = i) → (∀ p ∈ ps, lookK kvs (.inr p.1) = lookK (recAt f ps k) (.inr p.1)) →
    rPlc g kvs ps = k % szP ps
  | [], k, kvs, _, _, _, _ => by simp [rPlc, szP, Nat.mod_one]
  | p :: r, k, kvs, nd, hp, hg, hl => by
    rw [List.map_cons, List.nodup_cons] at nd
    have h1 : lookK kvs (.inr p.1) = some (f p.2 (k / szP r % sz p.2)) := by
      rw [hl p List.mem_cons_self]; simp [recAt, lookK_cons]
    have ih := recAt_plc (ps := r) (k := k) (kvs := kvs) nd.2 (fun q hq => hp q (List.mem_cons_of_mem _ hq)) (fun q hq => hg q (List.mem_cons_of_mem _ hq)) fun q hq => by
      rw [hl q (List.mem_cons_of_mem _ hq)]
      have ne : p.1 ≠ q.1 := fun e => nd.1 (List.mem_map.mpr ⟨q, hq, e.symm⟩)
      simp [recAt, lookK_cons, ne]
    simp only [rPlc, szP, szQ_e, h1, Option.elim_some, ih]
    rw [hg p List.mem_cons_self _ (Nat.mod_lt _ (hp p List.mem_cons_self))]
    have := Nat.mod_mul (a := szP r) (b := sz p.2) (x := k)
    rw [Nat.mul_comm (sz p.2), this, Nat.mul_comm (k / szP r % sz p.2)]
    omega
theorem recAt_look {f : Sh → Nat → D} : ∀ {ps : List (Str × Sh)} {k : Nat} {p : Str × Sh}, (ps.map (·.1)).Nodup → p ∈ ps → ∃ i, lookK (recAt f ps k) (.inr p.1) = some (f p.2 (i % sz p.2))
  | q :: r, k, p, nd, hp => by
    rw [List.map_cons, List.nodup_cons] at nd
    rcases List.mem_cons.mp hp with rfl | hp
    · exact ⟨k / szP r, by simp [recAt, lookK_cons]⟩
    · obtain ⟨i, e⟩ := recAt_look (f := f) (k := k) nd.2 hp
      have ne : q.1 ≠ p.1 := fun z => nd.1 (List.mem_map.mpr ⟨p, hp, z.symm⟩)
      exact ⟨i, by simp [recAt, lookK_cons, ne, e]⟩
theorem kAt_ok {n : Nat} {f : Sh → Nat → D} {g : Sh → D → Nat} : ∀ {ps : List (Str × Sh)} {k : Nat}, (ps.map (·.1)).Nodup → (∀ p ∈ ps, ∀ i, i < sz p.2 → oneP n p.2 (f p.2 i) = true ∧ g p.2 (f p.2 i) = i) → k < szS ps →
    ∃ p ∈ ps, ∃ i, i < sz p.2 ∧ kAt f ps k = .tup [.str p.1, f p.2 i] ∧ kPlc g p.1 (f p.2 i) ps = k
  | [], k, _, _, h => by simp [szS] at h
  | p :: r, k, nd, hg, h => by
    rw [List.map_cons, List.nodup_cons] at nd
    simp only [szS, szQ_e] at h
    by_cases c : k < sz p.2
    · exact ⟨p, List.mem_cons_self, k, c, by simp [kAt, c], by simp [kPlc, (hg p List.mem_cons_self k c).2]⟩
    · obtain ⟨q, h1, i, h2, h3, h4⟩ := kAt_ok (k := k - sz p.2) nd.2 (fun x hx => hg x (List.mem_cons_of_mem _ hx)) (by omega)
      have ne : p.1 ≠ q.1 := fun z => nd.1 (List.mem_map.mpr ⟨q, h1, z.symm⟩)
      exact ⟨q, List.mem_cons_of_mem _ h1, i, h2, by simp [kAt, c, h3], by simp only [kPlc, if_neg ne, h4]; omega⟩
theorem at_ok : ∀ {n : Nat} {s : Sh} {k : Nat}, Gd n s → k < sz s → oneP n s (oneAt n s k) = true ∧ plc n s (oneAt n s k) = k := by
  intro n
  induction n with
  | zero => intro s k h; cases h
  | succ n ih =>
    intro s k h hk
    cases h with
    | @num _ lo hi h1 h2 h3 =>
      simp only [sz] at hk
      refine ⟨?_, ?_⟩
      · simp only [oneAt, oneP, isWh, Bool.and_eq_true, decide_eq_true_eq]; omega
      · simp only [oneAt, plc]; omega
    | tru =>
      simp only [sz] at hk
      refine ⟨by simp [oneAt, oneP, isi], ?_⟩
      by_cases c : k = 1
      · subst c; simp [oneAt, plc]
      · have : k = 0 := by omega
        subst this; simp [oneAt, plc]
    | @wrd _ ws h1 h2 h3 h4 =>
      simp only [sz] at hk
      have e : ws.getD k Str.empty = ws[k] := by simp [hk]
      refine ⟨?_, ?_⟩
      · simp only [oneAt, oneP, e]; exact any_mem.mpr (List.getElem_mem hk)
      · simp only [oneAt, plc, e, idx_nodup hk h4, Option.getD_some]
    | @txt _ m h1 =>
      simp only [sz] at hk
      obtain ⟨r1, r2, r3⟩ := rowAt_spec hk
      refine ⟨?_, ?_⟩
      · simp only [oneAt, oneP, Bool.and_eq_true, decide_eq_true_eq]
        refine ⟨?_, letters_iff.mpr fun c hc => ?_⟩
        · show ((rowAt 3 k).map (· + 97)).toArray.size ≤ m
          simpa using r1
        · simp only [List.mem_map] at hc
          obtain ⟨d, hd, rfl⟩ := hc
          have := r2 d hd
          omega
      · simp only [oneAt, plc, List.map_map]
        have : (rowAt 3 k).map ((· - 97) ∘ (· + 97)) = rowAt 3 k := by
          rw [List.map_congr_left (g := id) (fun x _ => by simp)]; simp
        rw [this]; exact r3
    | @lis _ m s h1 h2 =>
      simp only [sz] at hk
      obtain ⟨r1, r2, r3⟩ := rowAt_spec hk
      refine ⟨?_, ?_⟩
      · simp only [oneAt, oneP, Bool.and_eq_true, decide_eq_true_eq, List.all_eq_true, List.length_map]
        refine ⟨r1, fun t ht => ?_⟩
        obtain ⟨d, hd, rfl⟩ := List.mem_map.mp ht
        exact (ih h1 (r2 d hd)).1
      · simp only [oneAt, plc, List.map_map]
        have : (rowAt (sz s) k).map (plc n s ∘ oneAt n s) = rowAt (sz s) k := by
          rw [List.map_congr_left (g := id) (fun x hx => (show (plc n s ∘ oneAt n s) x = id x from (ih h1 (r2 x hx)).2))]; simp
        rw [this]; exact r3
    | @may _ s h1 h2 =>
      simp only [sz] at hk
      by_cases c : k = 0
      · subst c; simp [oneAt, oneP, plc]
      · obtain ⟨e1, e2⟩ := ih h1 (show k - 1 < sz s by omega)
        have nn : oneAt n s (k - 1) ≠ .non := by
          intro z
          rw [z] at e1
          cases n with
          | zero => cases h1
          | succ m => cases h1 <;> simp [oneP, isWh, isi] at e1 <;> simp [isMay] at h2
        simp only [oneAt, if_neg c]
        refine ⟨?_, ?_⟩
        · generalize oneAt n s (k - 1) = t at *
          cases t <;> first | exact absurd rfl nn | exact e1
        · generalize oneAt n s (k - 1) = t at *
          cases t <;> first | exact absurd rfl nn | (simp only [plc, e2]; omega)
    | @rcd _ ps h1 h2 h3 h4 =>
      simp only [sz] at hk
      have hp : ∀ p ∈ ps, 1 ≤ sz p.2 := fun p hp => sz_pos (h3 p hp)
      refine ⟨?_, ?_⟩
      · simp only [oneAt, oneP, recAt_len, beq_self_eq_true, Bool.true_and, List.all_eq_true]
        intro p hp'
        obtain ⟨i, e⟩ := recAt_look (f := oneAt n) (k := k) h4 hp'
        rw [e]
        exact (ih (h3 p hp') (Nat.mod_lt _ (hp p hp'))).1
      · simp only [oneAt, plc]
        rw [recAt_plc (f := oneAt n) (k := k) h4 hp (fun p hp' i hi => (ih (h3 p hp') hi).2) (fun p _ => rfl), Nat.mod_eq_of_lt hk]
    | @knd _ ps h1 h2 h3 h4 h5 =>
      simp only [sz] at hk
      obtain ⟨p, g1, i, g2, g3, g4⟩ := kAt_ok (n := n) (f := oneAt n) (g := plc n) h5 (fun p hp i hi => ih (h4 p hp) hi) hk
      simp only [oneAt, g3]
      refine ⟨?_, ?_⟩
      · simp only [oneP]
        exact List.any_eq_true.mpr ⟨p, g1, by simp [(ih (h4 p g1) g2).1]⟩
      · simp only [plc, g4]
end Law
namespace Law
open PySem PySem.Spec L2 G PyProof.Rows
/-! ### dicts by texts -/
def kd (l : List (Str × D)) : List (Key × D) := l.map fun q => (Sum.inr q.1, q.2)
def look (l : List (Str × D)) (z : Str) : Option D := (l.find? fun q => decide (q.1 = z)).map (·.2)
@[simp] theorem look_kd (l : List (Str × D)) (z : Str) : lookK (kd l) (.inr z) = look l z := by
  unfold lookK look kd
  induction l with
  | nil => rfl
  | cons q r ih =>
    by_cases e : q.1 = z
    · simp [e]
    · simp [e]; simpa using ih
@[simp] theorem keyStrs_kd (l : List (Str × D)) : keyStrs (kd l) = some (l.map (·.1)) := by
  induction l with
  | nil => rfl
  | cons q r ih =>
    have : kd (q :: r) = (Sum.inr q.1, q.2) :: kd r := rfl
    rw [this]
    simp [keyStrs, ih]
@[simp] theorem kd_len (l : List (Str × D)) : (kd l).length = l.length := by simp [kd]
theorem look_cons {q : Str × D} {l : List (Str × D)} {z : Str} : look (q :: l) z = if q.1 = z then some q.2 else look l z := by
  unfold look
  rw [List.find?_cons]
  by_cases e : q.1 = z <;> simp [e]
theorem look_of {l : List (Str × D)} {z : Str} {u : D} (h : look l z = some u) : (z, u) ∈ l := by
  induction l with
  | nil => simp [look] at h
  | cons q r ih =>
    rw [look_cons] at h
    by_cases e : q.1 = z
    · rw [if_pos e] at h; cases h; subst e; exact List.mem_cons_self
    · rw [if_neg e] at h; exact List.mem_cons_of_mem _ (ih h)
theorem look_in {l : List (Str × D)} (nd : (l.map (·.1)).Nodup) {q : Str × D} (h : q ∈ l) : look l q.1 = some q.2 := by
  induction l with
  | nil => cases h
  | cons p r ih =>
    rw [List.map_cons, List.nodup_cons] at nd
    rw [look_cons]
    rcases List.mem_cons.mp h with rfl | h
    · simp
    · have ne : p.1 ≠ q.1 := fun e => nd.1 (by rw [e]; exact List.mem_map.mpr ⟨q, h, rfl⟩)
      rw [if_neg ne]; exact ih nd.2 h
theorem look_some {l : List (Str × D)} {z : Str} : (∃ u, look l z = some u) ↔ z ∈ l.map (·.1) := by
  induction l with
  | nil => simp [look]
  | cons p r ih =>
    rw [look_cons, List.map_cons, List.mem_cons, ← ih]
    by_cases e : p.1 = z
    · simp [e]
    · have e' : ¬ z = p.1 := fun q => e q.symm
      simp [e, e']
/-! ### sorting -/
theorem sort_perm (ks : List Str) : ∃ ys, sortK ks = ys ∧ (ys.Perm ks ∨ ys = ks) := by
  refine ⟨_, rfl, ?_⟩
  unfold sortK
  split
  · rename_i h; exact .inl (Classical.choose_spec h).1
  · exact .inr rfl
theorem sort_p (ks : List Str) : (sortK ks).Perm ks := by
  obtain ⟨ys, e, h | h⟩ := sort_perm ks
  · rw [e]; exact h
  · rw [e, h]
def insS (x : Str) : List Str → List Str
  | [] => [x]
  | y :: r => if ltCps y.cps.toList x.cps.toList = true then y :: insS x r else x :: y :: r
theorem ins_perm (x : Str) : ∀ l : List Str, (insS x l).Perm (x :: l)
  | [] => .refl _
  | y :: r => by
    unfold insS
    split
    · exact ((ins_perm x r).cons y).trans (.swap x y r)
    · exact .refl _
theorem rising_ins (x : Str) : ∀ (l : List Str) (p : Str), ltCps x.cps.toList p.cps.toList = false → risingS p l = true → risingS p (insS x l) = true
  | [], p, hx, _ => by show (!ltCps x.cps.toList p.cps.toList && risingS x []) = true; rw [hx]; rfl
  | y :: r, p, hx, h => by
    have h' : (!ltCps y.cps.toList p.cps.toList && risingS y r) = true := h
    simp only [Bool.and_eq_true, Bool.not_eq_true'] at h'
    unfold insS
    by_cases c : ltCps y.cps.toList x.cps.toList = true
    · rw [if_pos c]
      show (!ltCps y.cps.toList p.cps.toList && risingS y (insS x r)) = true
      have hy : ltCps x.cps.toList y.cps.toList = false := by
        rw [ltCps_eq] at c ⊢
        exact decide_eq_false (List.lt_asymm (of_decide_eq_true c))
      rw [h'.1, rising_ins x r y hy h'.2]; rfl
    · rw [if_neg c]
      show (!ltCps x.cps.toList p.cps.toList && (!ltCps y.cps.toList x.cps.toList && risingS y r)) = true
      have c' : ltCps y.cps.toList x.cps.toList = false := by simpa using c
      rw [hx, c', h'.2]; rfl
theorem sorted_ins (x : Str) (l : List Str) (h : sortedS l = true) : sortedS (insS x l) = true := by
  cases l with
  | nil => rfl
  | cons y r =>
    unfold insS
    by_cases c : ltCps y.cps.toList x.cps.toList = true
    · rw [if_pos c]
      have hy : ltCps x.cps.toList y.cps.toList = false := by
        rw [ltCps_eq] at c ⊢
        exact decide_eq_false (List.lt_asymm (of_decide_eq_true c))
      exact rising_ins x r y hy h
    · rw [if_neg c]
      show (!ltCps y.cps.toList x.cps.toList && risingS y r) = true
      have c' : ltCps y.cps.toList x.cps.toList = false := by simpa using c
      rw [c']; exact h
theorem sort_ex : ∀ ks : List Str, ∃ ys : List Str, ys.Perm ks ∧ sortedS ys = true
  | [] => ⟨[], .refl _, rfl⟩
  | k :: r => by
    obtain ⟨ys, h1, h2⟩ := sort_ex r
    exact ⟨insS k ys, (ins_perm k ys).trans (h1.cons k), sorted_ins k ys h2⟩
theorem sortK_iff {a b : List Str} : sortK a = sortK b ↔ a.Perm b := by
  constructor
  · intro h; exact (sort_p a).symm.trans (h ▸ sort_p b)
  · intro h
    obtain ⟨ys, h1, h2⟩ := sort_ex a
    rw [sortK_eq h1 h2, sortK_eq (h1.trans h) h2]
/-! ### tame data: at most n deep -/
inductive Tm : Nat → D → Prop
  | non {n : Nat} : Tm n .non
  | bl {n : Nat} {b : Bool} : Tm n (.bl b)
  | int {n : Nat} {i : Int} : Tm n (.int i)
  | str {n : Nat} {z : Str} : Tm n (.str z)
  | lst {n : Nat} {xs : List D} : xs.length ≤ 16777216 → (∀ x ∈ xs, Tm n x) → Tm (n + 1) (.lst xs)
  | tup {n : Nat} {xs : List D} : xs.length ≤ 16777216 → (∀ x ∈ xs, Tm n x) → Tm (n + 1) (.tup xs)
  | dct {n : Nat} {l : List (Str × D)} : l.length < 64 → (∀ q ∈ l, Tm n q.2) → (l.map (·.1)).Nodup → Tm (n + 1) (.dct (kd l))
theorem Tm.mono {n : Nat} {d : D} (h : Tm n d) : ∀ {m : Nat}, n ≤ m → Tm m d := by
  induction h with
  | non => exact fun _ => .non
  | bl => exact fun _ => .bl
  | int => exact fun _ => .int
  | str => exact fun _ => .str
  | lst h1 h2 ih => intro m hm; cases m with
    | zero => omega
    | succ m => exact .lst h1 fun x hx => ih x hx (by omega)
  | tup h1 h2 ih => intro m hm; cases m with
    | zero => omega
    | succ m => exact .tup h1 fun x hx => ih x hx (by omega)
  | dct h1 h2 h3 ih => intro m hm; cases m with
    | zero => omega
    | succ m => exact .dct h1 (fun q hq => ih q hq (by omega)) h3
theorem strKL_all : ∀ {xs : List D}, (∀ x ∈ xs, strK x = true) → strKL xs = true
  | [], _ => by simp [strKL]
  | x :: xs, h => by simp [strKL, h x List.mem_cons_self, strKL_all fun y hy => h y (List.mem_cons_of_mem _ hy)]
theorem strKK_all : ∀ {l : List (Str × D)}, (∀ q ∈ l, strK q.2 = true) → strKK (kd l) = true
  | [], _ => by simp [strKK, kd]
  | q :: l, h => by
    have : kd (q :: l) = (Sum.inr q.1, q.2) :: kd l := rfl
    simp [this, strKK, h q List.mem_cons_self, strKK_all fun y hy => h y (List.mem_cons_of_mem _ hy)]
theorem depthL_le {n : Nat} : ∀ {xs : List D}, (∀ x ∈ xs, depthD x ≤ n) → depthL xs ≤ n
  | [], _ => by simp [depthL]
  | x :: xs, h => by
    have h1 := h x List.mem_cons_self
    have h2 := depthL_le fun y hy => h y (List.mem_cons_of_mem _ hy)
    simp only [depthL]; omega
theorem depthK_le {n : Nat} : ∀ {l : List (Str × D)}, (∀ q ∈ l, depthD q.2 ≤ n) → depthK (kd l) ≤ n
  | [], _ => by simp [depthK, kd]
  | q :: l, h => by
    have h1 := h q List.mem_cons_self
    have h2 := depthK_le fun y hy => h y (List.mem_cons_of_mem _ hy)
    have : kd (q :: l) = (Sum.inr q.1, q.2) :: kd l := rfl
    simp only [this, depthK]; omega
theorem Tm.plain {n : Nat} {d : D} (h : Tm n d) : strK d = true ∧ depthD d ≤ n := by
  induction h with
  | non => simp [strK, depthD]
  | bl => simp [strK, depthD]
  | int => simp [strK, depthD]
  | str => simp [strK, depthD]
  | lst h1 h2 ih => exact ⟨by simpa [strK] using strKL_all fun x hx => (ih x hx).1, by simpa [depthD] using depthL_le fun x hx => (ih x hx).2⟩
  | tup h1 h2 ih => exact ⟨by simpa [strK] using strKL_all fun x hx => (ih x hx).1, by simpa [depthD] using depthL_le fun x hx => (ih x hx).2⟩
  | dct h1 h2 h3 ih => exact ⟨by simpa [strK] using strKK_all fun x hx => (ih x hx).1, by simpa [depthD] using depthK_le fun x hx => (ih x hx).2⟩
theorem eqD_tm {n m : Nat} {d e : D} (h1 : Tm n d) (h2 : Tm m e) (hn : n ≤ 100 ∨ m ≤ 100) : eqD d e = some (eqvD d e) := by
  unfold eqD
  have a := h1.plain
  have b := h2.plain
  rw [if_pos ⟨a.1, b.1, by omega⟩]
/-! ### the same -/
def all2 (f : D → D → Bool) : List D → List D → Bool
  | x :: xs, y :: ys => f x y && all2 f xs ys
  | _, _ => true
def leafQ (t u : D) : Bool := eqvD t u && (isi .bool t == isi .bool u)
def keysQ (a b : List (Key × D)) : Bool := a.length == b.length && a.all fun kv => (lookK b kv.1).isSome
def sameD : Nat → D → D → Bool
  | 0, t, u => leafQ t u
  | n + 1, t, u => match t, u with
    | .dct a, .dct b => keysQ a b && a.all fun kv => (lookK b kv.1).elim false (sameD n kv.2)
    | .lst xs, .lst ys => xs.length == ys.length && all2 (sameD n) xs ys
    | .tup xs, .tup ys => xs.length == ys.length && all2 (sameD n) xs ys
    | t, u => leafQ t u
theorem perm_sub {α : Type} [DecidableEq α] : ∀ {a b : List α}, a.Nodup → (∀ z ∈ a, z ∈ b) → b.length ≤ a.length → a.Perm b
  | [], b, _, _, h => by
    have : b = [] := List.eq_nil_of_length_eq_zero (by simpa using h)
    rw [this]
  | x :: r, b, nd, h, hl => by
    rw [List.nodup_cons] at nd
    have hx := h x List.mem_cons_self
    have p := List.perm_cons_erase hx
    have pl := p.length_eq
    simp only [List.length_cons] at pl hl
    refine ((perm_sub nd.2 (fun z hz => ?_) (by omega)).cons x).trans p.symm
    have ne : z ≠ x := fun e => nd.1 (e ▸ hz)
    exact (List.mem_erase_of_ne ne).mpr (h z (List.mem_cons_of_mem _ hz))
theorem keysQ_iff {a b : List (Str × D)} (ha : (a.map (·.1)).Nodup) (hb : (b.map (·.1)).Nodup) : keysQ (kd a) (kd b) = true ↔ (a.map (·.1)).Perm (b.map (·.1)) := by
  unfold keysQ
  rw [Bool.and_eq_true, beq_iff_eq, kd_len, kd_len]
  have e : ((kd a).all fun kv => (lookK (kd b) kv.1).isSome) = a.all fun q => (look b q.1).isSome := by
    rw [show kd a = a.map (fun q => (Sum.inr q.1, q.2)) from rfl, List.all_map]
    simp only [Function.comp_def, look_kd]
  rw [e, List.all_eq_true]
  constructor
  · rintro ⟨h1, h2⟩
    have sub : ∀ z ∈ a.map (·.1), z ∈ b.map (·.1) := by
      intro z hz
      obtain ⟨q, hq, rfl⟩ := List.mem_map.mp hz
      exact look_some.mp (Option.isSome_iff_exists.mp (h2 q hq))
    exact perm_sub ha sub (by simp [h1])
  · intro p
    have hl := p.length_eq
    refine ⟨by simpa using hl, fun q hq => ?_⟩
    exact Option.isSome_iff_exists.mpr (look_some.mpr (p.mem_iff.mp (List.mem_map.mpr ⟨q, hq, rfl⟩)))
end Law
namespace Law
open PySem PySem.Spec L2 G PyProof.Rows
theorem parts_of {n : Nat} : ∀ {ws : List Str} {ys : List D}, Paired (fun (d y : D) => ∀ w, d = .str w → ∃ s, y = .tup [.str w, enc s] ∧ Gd n s) (ws.map .str) ys → ∃ ps : List (Str × Sh), ys = encs ps ∧ ps.map (·.1) = ws ∧ ∀ p ∈ ps, Gd n p.2
  | [], _, .nil => ⟨[], rfl, rfl, by simp⟩
  | w :: ws, _, .cons h r => by
    obtain ⟨s, rfl, hs⟩ := h w rfl
    obtain ⟨ps, rfl, e, hp⟩ := parts_of r
    refine ⟨(w, s) :: ps, by simp [encs], by simp [e], fun p hp' => ?_⟩
    rcases List.mem_cons.mp hp' with rfl | hp'
    · exact hs
    · exact hp p hp'
theorem Gd.up : ∀ {n : Nat} {s : Sh}, Gd n s → Gd (n + 1) s
  | _, _, .num a b c => .num a b c
  | _, _, .tru => .tru
  | _, _, .wrd a b c d => .wrd a b c d
  | _, _, .txt a => .txt a
  | _, _, .lis a b => .lis a.up b
  | _, _, .may a b => .may a.up b
  | _, _, .rcd a b c d => .rcd a b (fun p hp => (c p hp).up) d
  | _, _, .knd a b c d e => .knd a b c (fun p hp => (d p hp).up) e
theorem nd_inr {a : List Str} (h : a.Nodup) : (a.map (Sum.inr : Str → Key)).Nodup := List.pairwise_map.mpr (h.imp fun e q => e (Sum.inr.inj q))
theorem kd_of : ∀ {kvs : List (Key × D)}, (∀ kv ∈ kvs, ∃ z, kv.1 = Sum.inr z) → ∃ l, kvs = kd l
  | [], _ => ⟨[], rfl⟩
  | (k, v) :: r, h => by
    obtain ⟨z, e⟩ := h _ List.mem_cons_self
    obtain ⟨l, rfl⟩ := kd_of fun kv hk => h kv (List.mem_cons_of_mem _ hk)
    dsimp only at e
    exact ⟨(z, v) :: l, by rw [e]; rfl⟩
theorem lookK_mem {kvs : List (Key × D)} {k : Key} {u : D} (h : lookK kvs k = some u) : (k, u) ∈ kvs := by
  induction kvs with
  | nil => simp [lookK] at h
  | cons q r ih =>
    obtain ⟨j, v⟩ := q
    rw [lookK_cons] at h
    by_cases e : j = k
    · rw [if_pos e] at h; cases h; subst e; exact List.mem_cons_self
    · rw [if_neg e] at h; exact List.mem_cons_of_mem _ (ih h)
/-- the dict of a record -/
theorem rec_kd {n : Nat} {kvs : List (Key × D)} {ps : List (Str × Sh)} (nd : (ps.map (·.1)).Nodup) (h : oneP (n + 1) (.rcd ps) (.dct kvs) = true) :
    ∃ l, kvs = kd l ∧ (l.map (·.1)).Nodup ∧ (l.map (·.1)).Perm (ps.map (·.1)) ∧ ∀ p ∈ ps, ∃ u, look l p.1 = some u ∧ oneP n p.2 u = true := by
  obtain ⟨h1, h2⟩ := rec_all h
  have nd2 : (ps.map fun p => (Sum.inr p.1 : Key)).Nodup := by
    have : (ps.map fun p => (Sum.inr p.1 : Key)) = (ps.map (·.1)).map Sum.inr := by simp
    rw [this]
    exact nd_inr nd
  have pm : (ps.map fun p => (Sum.inr p.1 : Key)).Perm (kvs.map (·.1)) := by
    refine perm_sub nd2 (fun z hz => ?_) (by simp [h1])
    obtain ⟨p, hp, rfl⟩ := List.mem_map.mp hz
    obtain ⟨u, e, _⟩ := h2 p hp
    exact List.mem_map.mpr ⟨_, lookK_mem e, rfl⟩
  obtain ⟨l, rfl⟩ := kd_of (kvs := kvs) fun kv hk => by
    have : kv.1 ∈ ps.map fun p => (Sum.inr p.1 : Key) := pm.mem_iff.mpr (List.mem_map.mpr ⟨kv, hk, rfl⟩)
    obtain ⟨p, _, e⟩ := List.mem_map.mp this
    exact ⟨p.1, e.symm⟩
  have ek : (kd l).map (·.1) = (l.map (·.1)).map Sum.inr := by simp [kd]
  have pm2 : (l.map (·.1)).Perm (ps.map (·.1)) := by
    rw [ek] at pm
    have : (ps.map fun p => (Sum.inr p.1 : Key)) = (ps.map (·.1)).map Sum.inr := by simp
    rw [this] at pm
    refine perm_sub ?_ (fun z hz => ?_) (by rw [kd_len] at h1; simp [h1])
    · have := pm.nodup_iff.mp (nd_inr nd)
      exact (List.pairwise_map.mp this).imp fun e q => e (by rw [q])
    · have := pm.mem_iff.mpr (List.mem_map.mpr ⟨z, hz, rfl⟩)
      obtain ⟨y, hy, e⟩ := List.mem_map.mp this
      cases e; exact hy
  refine ⟨l, rfl, pm2.nodup_iff.mpr nd, pm2, fun p hp => ?_⟩
  obtain ⟨u, e1, e2⟩ := h2 p hp
  exact ⟨u, by rw [← look_kd]; exact e1, e2⟩
theorem one_tm : ∀ {n : Nat} {s : Sh} {t : D}, Gd n s → oneP n s t = true → Tm n t := by
  intro n
  induction n with
  | zero => intro s t h; cases h
  | succ n ih =>
    intro s t h o
    cases h with
    | num h1 h2 h3 => cases t <;> simp [oneP, isWh] at o; exact .int
    | tru => cases t <;> simp [oneP, isi] at o; exact .bl
    | wrd h1 h2 h3 h4 => cases t <;> simp only [oneP] at o <;> first | exact .str | cases o
    | txt h1 => cases t <;> simp only [oneP] at o <;> first | exact .str | cases o
    | @lis _ m s h1 h2 =>
      cases t <;> simp only [oneP] at o <;> try cases o
      rename_i xs
      simp only [Bool.and_eq_true, decide_eq_true_eq, List.all_eq_true] at o
      exact .lst (by omega) fun x hx => ih h1 (o.2 x hx)
    | @may _ s h1 h2 =>
      cases t <;> simp only [oneP] at o
      case non => exact .non
      all_goals exact (ih h1 o).mono (by omega)
    | @rcd _ ps h1 h2 h3 h4 =>
      cases t <;> try (simp [oneP] at o; done)
      rename_i kvs
      obtain ⟨l, rfl, nd, pm, hl⟩ := rec_kd h4 o
      have el := pm.length_eq
      simp only [List.length_map] at el
      refine .dct (by omega) (fun q hq => ?_) nd
      have : q.1 ∈ ps.map (·.1) := pm.mem_iff.mp (List.mem_map.mpr ⟨q, hq, rfl⟩)
      obtain ⟨p, hp, e⟩ := List.mem_map.mp this
      obtain ⟨u, e1, e2⟩ := hl p hp
      rw [e, look_in nd hq] at e1
      cases e1
      exact ih (h3 p hp) e2
    | @knd _ ps h1 h2 h3 h4 h5 =>
      cases t <;> try (simp [oneP] at o; done)
      rename_i xs
      match xs, o with
      | [.str z, u], o =>
        simp only [oneP] at o
        obtain ⟨p, g1, g2, g3, g4⟩ := knd_find h5 o
        refine .tup (by simp) fun x hx => ?_
        simp only [List.mem_cons, List.not_mem_nil, or_false] at hx
        rcases hx with rfl | rfl
        · exact .str
        · exact ih (h4 p g1) g3
theorem at_tm {n : Nat} {s : Sh} {k : Nat} (h : Gd n s) (hk : k < sz s) : Tm n (oneAt n s k) := one_tm h (at_ok h hk).1
/-! ### the same just if of one number -/
theorem all2_map {f : D → D → Bool} {g : D → Nat} : ∀ {xs ys : List D}, xs.length = ys.length → (∀ x ∈ xs, ∀ y ∈ ys, f x y = (g x == g y)) → all2 f xs ys = (xs.map g == ys.map g)
  | [], [], _, _ => by simp [all2]
  | x :: xs, y :: ys, hl, h => by
    have e1 := h x List.mem_cons_self y List.mem_cons_self
    have e2 := all2_map (xs := xs) (ys := ys) (by simpa using hl) fun a ha b hb => h a (List.mem_cons_of_mem _ ha) b (List.mem_cons_of_mem _ hb)
    simp only [all2, e1, e2, List.map_cons]
    rw [Bool.eq_iff_iff]; simp
theorem sameD_leaf {m : Nat} {t u : D} (h : ∀ a b, ¬ (t = .dct a ∧ u = .dct b) ∧ True) (h2 : ∀ a b, ¬ (t = .lst a ∧ u = .lst b)) (h3 : ∀ a b, ¬ (t = .tup a ∧ u = .tup b)) : sameD m t u = leafQ t u := by
  cases m with
  | zero => rfl
  | succ m =>
    unfold sameD
    split
    · exact absurd ⟨rfl, rfl⟩ (h _ _).1
    · exact absurd ⟨rfl, rfl⟩ (h2 _ _)
    · exact absurd ⟨rfl, rfl⟩ (h3 _ _)
    · rfl
theorem rPlc_inj {f : Sh → D → Nat} {a b : List (Key × D)} : ∀ {ps : List (Str × Sh)}, (∀ p ∈ ps, (lookK a (.inr p.1)).elim 0 (f p.2) < sz p.2) → (∀ p ∈ ps, (lookK b (.inr p.1)).elim 0 (f p.2) < sz p.2) →
    (rPlc f a ps = rPlc f b ps ↔ ∀ p ∈ ps, (lookK a (.inr p.1)).elim 0 (f p.2) = (lookK b (.inr p.1)).elim 0 (f p.2))
  | [], _, _ => by simp [rPlc]
  | p :: r, ha, hb => by
    have ih := rPlc_inj (f := f) (ps := r) (fun q hq => ha q (List.mem_cons_of_mem _ hq)) (fun q hq => hb q (List.mem_cons_of_mem _ hq))
    have l1 := rPlc_lt (ps := r) fun q hq => ha q (List.mem_cons_of_mem _ hq)
    have l2 := rPlc_lt (ps := r) fun q hq => hb q (List.mem_cons_of_mem _ hq)
    simp only [rPlc]
    constructor
    · intro e
      have hp : 0 < szP r := by omega
      have e1 : ((lookK a (.inr p.1)).elim 0 (f p.2) * szP r + rPlc f a r) / szP r = (lookK a (.inr p.1)).elim 0 (f p.2) := by rw [Nat.mul_comm, Nat.mul_add_div hp, Nat.div_eq_of_lt l1]; omega
      have e2 : ((lookK b (.inr p.1)).elim 0 (f p.2) * szP r + rPlc f b r) / szP r = (lookK b (.inr p.1)).elim 0 (f p.2) := by rw [Nat.mul_comm, Nat.mul_add_div hp, Nat.div_eq_of_lt l2]; omega
      have e3 : (lookK a (.inr p.1)).elim 0 (f p.2) = (lookK b (.inr p.1)).elim 0 (f p.2) := by rw [← e1, ← e2, e]
      rw [e3] at e
      have e4 := ih.mp (by omega)
      intro q hq
      rcases List.mem_cons.mp hq with rfl | hq
      · exact e3
      · exact e4 q hq
    · intro e
      rw [e p List.mem_cons_self, ih.mpr fun q hq => e q (List.mem_cons_of_mem _ hq)]
theorem kPlc_inj {f : Sh → D → Nat} {z y : Str} {u v : D} : ∀ {ps : List (Str × Sh)}, (∀ p ∈ ps, p.1 = z → f p.2 u < sz p.2) → (∀ p ∈ ps, p.1 = y → f p.2 v < sz p.2) → (∃ p ∈ ps, p.1 = z) → (∃ p ∈ ps, p.1 = y) → kPlc f z u ps = kPlc f y v ps → z = y
  | p :: r, h1, h2, ⟨q1, hq1, e1⟩, ⟨q2, hq2, e2⟩, e => by
    simp only [kPlc] at e
    by_cases c1 : p.1 = z
    · by_cases c2 : p.1 = y
      · rw [← c1, c2]
      · rw [if_pos c1, if_neg c2] at e
        have := h1 p List.mem_cons_self c1
        omega
    · by_cases c2 : p.1 = y
      · rw [if_neg c1, if_pos c2] at e
        have := h2 p List.mem_cons_self c2
        omega
      · rw [if_neg c1, if_neg c2] at e
        refine kPlc_inj (ps := r) (fun q hq => h1 q (List.mem_cons_of_mem _ hq)) (fun q hq => h2 q (List.mem_cons_of_mem _ hq)) ⟨q1, ?_, e1⟩ ⟨q2, ?_, e2⟩ (by omega)
        · rcases List.mem_cons.mp hq1 with rfl | h
          · exact absurd e1 c1
          · exact h
        · rcases List.mem_cons.mp hq2 with rfl | h
          · exact absurd e2 c2
          · exact h
theorem map_sub {a b : List Nat} (ha : ∀ c ∈ a, 97 ≤ c) (hb : ∀ c ∈ b, 97 ≤ c) (h : a.map (· - 97) = b.map (· - 97)) : a = b := by
  have e : ∀ l : List Nat, (∀ c ∈ l, 97 ≤ c) → (l.map (· - 97)).map (· + 97) = l := fun l hl => by
    rw [List.map_map, List.map_congr_left (g := id) (fun x hx => by have := hl x hx; simp; omega)]; simp
  rw [← e a ha, ← e b hb, h]
theorem leafQ_flat {t u : D} (h : isi .bool t = isi .bool u) : leafQ t u = eqvD t u := by simp [leafQ, h]
theorem same_plc : ∀ {n : Nat} {s : Sh} {t u : D} {m : Nat}, Gd n s → oneP n s t = true → oneP n s u = true → n ≤ m → sameD m t u = (plc n s t == plc n s u) := by
  intro n
  induction n with
  | zero => intro s t u m h; cases h
  | succ n ih =>
    intro s t u m h o1 o2 hm
    obtain ⟨m, rfl⟩ : ∃ k, m = k + 1 := ⟨m - 1, by omega⟩
    cases h with
    | @num _ lo hi h1 h2 h3 =>
      cases t <;> simp [oneP, isWh] at o1
      cases u <;> simp [oneP, isWh] at o2
      simp only [sameD, leafQ, eqvD, isi, plc, beq_self_eq_true, Bool.and_true]
      rw [Bool.eq_iff_iff]; simp; omega
    | tru =>
      cases t <;> simp [oneP, isi] at o1
      cases u <;> simp [oneP, isi] at o2
      rename_i a b
      cases a <;> cases b <;> simp [sameD, leafQ, eqvD, isi, plc]
    | @wrd _ ws h1 h2 h3 h4 =>
      cases t <;> simp only [oneP] at o1 <;> try cases o1
      cases u <;> simp only [oneP] at o2 <;> try cases o2
      rename_i z y
      obtain ⟨i, e1, _⟩ := idx_mem (any_mem.mp o1)
      obtain ⟨j, e2, _⟩ := idx_mem (any_mem.mp o2)
      simp only [sameD, leafQ, eqvD, isi, plc, beq_self_eq_true, Bool.and_true, e1, e2, Option.getD_some]
      rw [Bool.eq_iff_iff, beq_iff_eq, beq_iff_eq]
      constructor
      · intro e; subst e; rw [e1] at e2; exact Option.some.inj e2
      · intro e; subst e; exact idx_inj e1 e2
    | @txt _ k h1 =>
      cases t <;> simp only [oneP] at o1 <;> try cases o1
      cases u <;> simp only [oneP] at o2 <;> try cases o2
      rename_i z y
      simp only [Bool.and_eq_true, decide_eq_true_eq] at o1 o2
      have l1 := letters_iff.mp o1.2
      have l2 := letters_iff.mp o2.2
      simp only [sameD, leafQ, eqvD, isi, plc, beq_self_eq_true, Bool.and_true]
      rw [Bool.eq_iff_iff, beq_iff_eq, beq_iff_eq]
      constructor
      · intro e; rw [e]
      · intro e
        have e1 := rowNo_inj (b := 3) (fun d hd => by obtain ⟨c, hc, rfl⟩ := List.mem_map.mp hd; have := l1 c hc; omega) (fun d hd => by obtain ⟨c, hc, rfl⟩ := List.mem_map.mp hd; have := l2 c hc; omega) e
        have e2 := map_sub (fun c hc => (l1 c hc).1) (fun c hc => (l2 c hc).1) e1
        obtain ⟨⟨a⟩⟩ := z
        obtain ⟨⟨b⟩⟩ := y
        cases (show a = b from e2)
        rfl
    | @lis _ k s h1 h2 =>
      cases t <;> simp only [oneP] at o1 <;> try cases o1
      cases u <;> simp only [oneP] at o2 <;> try cases o2
      rename_i xs ys
      simp only [Bool.and_eq_true, decide_eq_true_eq, List.all_eq_true] at o1 o2
      simp only [sameD, plc]
      rw [Bool.eq_iff_iff, Bool.and_eq_true, beq_iff_eq, beq_iff_eq]
      have hs1 : small (sz s) (xs.map (plc n s)) := fun d hd => by obtain ⟨c, hc, rfl⟩ := List.mem_map.mp hd; exact plc_lt h1 (o1.2 c hc)
      have hs2 : small (sz s) (ys.map (plc n s)) := fun d hd => by obtain ⟨c, hc, rfl⟩ := List.mem_map.mp hd; exact plc_lt h1 (o2.2 c hc)
      constructor
      · rintro ⟨hl, ha⟩
        rw [all2_map (f := sameD m) (g := plc n s) hl fun x hx y hy => ih h1 (o1.2 x hx) (o2.2 y hy) (by omega), beq_iff_eq] at ha
        rw [ha]
      · intro e
        have e1 := rowNo_inj hs1 hs2 e
        have hl : xs.length = ys.length := by have := congrArg List.length e1; simpa using this
        refine ⟨hl, ?_⟩
        rw [all2_map (f := sameD m) (g := plc n s) hl fun x hx y hy => ih h1 (o1.2 x hx) (o2.2 y hy) (by omega), beq_iff_eq]
        exact e1
    | @may _ s h1 h2 =>
      have nn : ∀ {t : D}, oneP n s t = true → t ≠ .non := fun e1 z => by
        rw [z] at e1
        cases n with
        | zero => cases h1
        | succ m => cases h1 <;> simp [oneP, isWh, isi] at e1 <;> simp [isMay] at h2
      by_cases c1 : t = .non
      · subst c1
        by_cases c2 : u = .non
        · subst c2; simp [sameD, leafQ, eqvD, isi, plc]
        · have e : plc (n + 1) (.may s) u = 1 + plc n s u := by cases u <;> first | exact absurd rfl c2 | rfl
          rw [e]
          have e2 : plc (n + 1) (.may s) .non = 0 := rfl
          rw [e2]
          have e3 : sameD (m + 1) .non u = false := by cases u <;> first | exact absurd rfl c2 | simp [sameD, leafQ, eqvD]
          rw [e3, Bool.eq_iff_iff]; simp; try omega
      · have p1 : oneP n s t = true := by cases t <;> first | exact absurd rfl c1 | exact o1
        have e1 : plc (n + 1) (.may s) t = 1 + plc n s t := by cases t <;> first | exact absurd rfl c1 | rfl
        by_cases c2 : u = .non
        · subst c2
          have e2 : plc (n + 1) (.may s) .non = 0 := rfl
          have e3 : sameD (m + 1) t .non = false := by cases t <;> first | exact absurd rfl c1 | simp [sameD, leafQ, eqvD]
          rw [e1, e2, e3, Bool.eq_iff_iff]; simp; try omega
        · have p2 : oneP n s u = true := by cases u <;> first | exact absurd rfl c2 | exact o2
          have e2 : plc (n + 1) (.may s) u = 1 + plc n s u := by cases u <;> first | exact absurd rfl c2 | rfl
          rw [ih h1 p1 p2 (show n ≤ m + 1 by omega), e1, e2, Bool.eq_iff_iff]; simp
    | @rcd _ ps h1 h2 h3 h4 =>
      cases t <;> try (simp [oneP] at o1; done)
      cases u <;> try (simp [oneP] at o2; done)
      obtain ⟨a, rfl, nda, pa, ha⟩ := rec_kd h4 o1
      obtain ⟨b, rfl, ndb, pb, hb⟩ := rec_kd h4 o2
      have kq := (keysQ_iff nda ndb).mpr (pa.trans pb.symm)
      simp only [sameD, plc, kq, Bool.true_and]
      have l1 : ∀ p ∈ ps, (lookK (kd a) (.inr p.1)).elim 0 (plc n p.2) < sz p.2 := fun p hp => by
        obtain ⟨u, e1, e2⟩ := ha p hp
        rw [look_kd, e1]; exact plc_lt (h3 p hp) e2
      have l2 : ∀ p ∈ ps, (lookK (kd b) (.inr p.1)).elim 0 (plc n p.2) < sz p.2 := fun p hp => by
        obtain ⟨u, e1, e2⟩ := hb p hp
        rw [look_kd, e1]; exact plc_lt (h3 p hp) e2
      rw [Bool.eq_iff_iff, beq_iff_eq, rPlc_inj l1 l2, List.all_eq_true]
      constructor
      · intro H p hp
        obtain ⟨u, e1, e2⟩ := ha p hp
        obtain ⟨v, e3, e4⟩ := hb p hp
        have hm1 : (Sum.inr p.1, u) ∈ kd a := lookK_mem (by rw [look_kd]; exact e1)
        have := H _ hm1
        rw [look_kd, e3] at this
        simp only [Option.elim_some] at this
        rw [ih (h3 p hp) e2 e4 (by omega), beq_iff_eq] at this
        rw [look_kd, look_kd, e1, e3]; exact this
      · rintro H ⟨k, w⟩ hk
        obtain ⟨q, hq, e⟩ := List.mem_map.mp hk
        cases e
        have : q.1 ∈ ps.map (·.1) := pa.mem_iff.mp (List.mem_map.mpr ⟨q, hq, rfl⟩)
        obtain ⟨p, hp, ep⟩ := List.mem_map.mp this
        obtain ⟨u, e1, e2⟩ := ha p hp
        obtain ⟨v, e3, e4⟩ := hb p hp
        have hh := H p hp
        rw [look_kd, look_kd, e1, e3] at hh
        have eq : u = q.2 := by
          have := look_in nda hq
          rw [← ep] at this
          rw [this] at e1; exact (Option.some.inj e1).symm
        dsimp only
        rw [look_kd, ← ep, e3]
        simp only [Option.elim_some]
        rw [← eq, ih (h3 p hp) e2 e4 (by omega), beq_iff_eq]
        exact hh
    | @knd _ ps h1 h2 h3 h4 h5 =>
      cases t <;> try (simp [oneP] at o1; done)
      cases u <;> try (simp [oneP] at o2; done)
      rename_i xs ys
      match xs, o1, ys, o2 with
      | [.str z, t], o1, [.str y, u], o2 =>
        simp only [oneP] at o1 o2
        obtain ⟨p, g1, g2, g3, g4⟩ := knd_find h5 o1
        obtain ⟨q, k1, k2, k3, k4⟩ := knd_find h5 o2
        have lz : sameD m (.str z) (.str y) = (z == y) := by cases m <;> simp [sameD, leafQ, eqvD, isi]
        simp only [sameD, plc, all2, lz, List.length_cons, List.length_nil, beq_self_eq_true, Bool.true_and, Bool.and_true]
        by_cases c : z = y
        · subst c
          have epq : q = p := g4 q k1 k2
          subst epq
          have ek : ∀ {ps : List (Str × Sh)} {v w : D}, (∀ x ∈ ps, x.1 = z → x = q) → q ∈ ps → (kPlc (plc n) z v ps = kPlc (plc n) z w ps ↔ plc n q.2 v = plc n q.2 w) := by
            intro ps v w hx hq
            induction ps with
            | nil => cases hq
            | cons x r ihr =>
              simp only [kPlc]
              by_cases c : x.1 = z
              · rw [if_pos c, if_pos c, hx x List.mem_cons_self c]
              · rw [if_neg c, if_neg c]
                have hq' : q ∈ r := by
                  rcases List.mem_cons.mp hq with rfl | h
                  · exact absurd g2 c
                  · exact h
                have := ihr (fun y hy => hx y (List.mem_cons_of_mem _ hy)) hq'
                constructor
                · intro e; exact this.mp (by omega)
                · intro e; rw [this.mpr e]
          rw [beq_self_eq_true, Bool.true_and, ih (h4 q g1) g3 k3 (by omega), Bool.eq_iff_iff, beq_iff_eq, beq_iff_eq]
          exact (ek g4 g1).symm
        · have e1 : (z == y) = false := by simpa using c
          rw [e1, Bool.false_and, eq_comm, beq_eq_false_iff_ne]
          intro e
          exact c (kPlc_inj (fun x hx ex => by rw [g4 x hx ex]; exact plc_lt (h4 p g1) g3) (fun x hx ex => by rw [k4 x hx ex]; exact plc_lt (h4 q k1) k3) ⟨p, g1, g2⟩ ⟨q, k1, k2⟩ e)
end Law
namespace G
open PySem L2
section
variable {ρ : Rho} {S : Sx}
@[simp] theorem ev_revX {f : Fe} : eRevX f ρ S = (f ρ S).bind fun a S1 => (match a with
  | .d u => ofO (revX u) S1
  | _ => .stuck) := rfl
@[simp] theorem revX_lst {xs : List D} : revX (.lst xs) = some (.lst xs.reverse) := rfl
@[simp] theorem revX_tup {xs : List D} : revX (.tup xs) = some (.tup xs.reverse) := rfl
@[simp] theorem ev_mt {T : String} {g : A → List A → Option D} {f : Fe} {fa : Fa} : eMt T g f fa ρ S = (f ρ S).bind fun a S1 => if tyA T a = true then (fa ρ S1).bind fun as S2 => ofO (g a as) S2 else .stuck := rfl
@[simp] theorem tyA_tup {xs : List D} : tyA "tuple" (.d (.tup xs)) = true := rfl
@[simp] theorem tyA_str {z : Str} : tyA "str" (.d (.str z)) = true := rfl
@[simp] theorem tyA_lst {xs : List D} : tyA "list" (.d (.lst xs)) = true := rfl
@[simp] theorem ev_dictX {f : Fe} : nDictX f ρ S = (f ρ S).bind fun a S1 => (match a with
  | .d (.dct kvs) => .ok (.dct kvs) S1
  | .d (.lst ds) => (match pairsOf ds with
    | some kvs => .ok (.dct (mergeD [] kvs)) S1
    | none => .stuck)
  | _ => .stuck) := rfl
@[simp] theorem ev_swhile {t : Ft} {f : Fs} : sWhile t f ρ S = whileF t f 1000000000 ρ S := rfl
@[simp] theorem sumG_ints {ns : List Int} : sumG S [.d (.lst (ns.map .int))] = some (.int ns.sum) := by simp [sumG]
@[simp] theorem idxT_strs {ws : List Str} {z : Str} : idxT (.d (.tup (ws.map .str))) [.d (.str z)] = (idxStr z ws).map fun j => .int (j : Nat) := by simp [idxT]
end
theorem while_run {t : Ft} {f : Fs} {S : Sx} (mk : Nat → Rho) (n : Nat) (h : ∀ i, i < n → t (mk i) S = .ok true S ∧ f (mk i) S = .nx (mk (i + 1)) S) (he : t (mk n) S = .ok false S) : ∀ (m i N : Nat), i + m = n → m < N → whileF t f N (mk i) S = .nx (mk n) S
  | 0, i, N + 1, hi, _ => by
    have : i = n := by omega
    subst this
    simp only [whileF, he]
    simp
  | m + 1, i, N + 1, hi, hN => by
    obtain ⟨h1, h2⟩ := h i (by omega)
    simp only [whileF, h1, if_pos, h2]
    exact while_run mk n h he m (i + 1) N (by omega) (by omega)
theorem for_run {t : Tgt} {f : Fs} {S : Sx} (mk : Nat → Rho) : ∀ (xs : List D) (i : Nat), (∀ k (hk : k < xs.length), ∃ ρ', bindT t xs[k] (mk (i + k)) = some ρ' ∧ f ρ' S = .nx (mk (i + k + 1)) S) → forF t f xs (mk i) S = .nx (mk (i + xs.length)) S
  | [], i, _ => by simp [forF]
  | x :: xs, i, h => by
    obtain ⟨ρ', h1, h2⟩ := h 0 (by simp)
    simp at h1 h2
    simp only [forF, h1, h2]
    rw [for_run mk xs (i + 1) fun k hk => by
      have := h (k + 1) (by simpa using hk)
      simpa [Nat.add_assoc, Nat.add_comm 1 k, Nat.add_left_comm] using this]
    rw [List.length_cons]
    congr 2
    omega
theorem for_mk {t : Tgt} {f : Fs} {S : Sx} {xs : List D} {ρ : Rho} (mk : Nat → Rho) (h0 : ρ = mk 0) (h : ∀ k (hk : k < xs.length), ∃ ρ', bindT t xs[k] (mk k) = some ρ' ∧ f ρ' S = .nx (mk (k + 1)) S) : forF t f xs ρ S = .nx (mk xs.length) S := by
  subst h0
  have := for_run mk xs 0 fun k hk => by simpa using h k hk
  simpa using this
theorem while_mk {t : Ft} {f : Fs} {S : Sx} {ρ : Rho} {N : Nat} (mk : Nat → Rho) (n : Nat) (h0 : ρ = mk 0) (hn : n < N) (h : ∀ i, i < n → t (mk i) S = .ok true S ∧ f (mk i) S = .nx (mk (i + 1)) S) (he : t (mk n) S = .ok false S) : whileF t f N ρ S = .nx (mk n) S := by
  subst h0
  exact while_run mk n h he n 0 N (by omega) hn
/-- a for that stops at the k-th with a result -/
theorem for_rt {t : Tgt} {f : Fs} {S : Sx} {d : D} {xs : List D} {ρ : Rho} (mk : Nat → Rho) (n : Nat) (hn : n < xs.length) (h0 : ρ = mk 0) (h : ∀ k (hk : k < xs.length), k < n → ∃ ρ', bindT t xs[k] (mk k) = some ρ' ∧ f ρ' S = .nx (mk (k + 1)) S)
    (he : ∃ ρ', bindT t xs[n] (mk n) = some ρ' ∧ f ρ' S = .rt d S) : forF t f xs ρ S = .rt d S := by
  subst h0
  suffices H : ∀ (m i : Nat) (ys : List D), i + m = n → ys = xs.drop i → forF t f ys (mk i) S = .rt d S by
    exact H n 0 xs (by omega) (by simp)
  intro m
  induction m with
  | zero =>
    intro i ys hi hy
    have : i = n := by omega
    subst this
    obtain ⟨ρ', e1, e2⟩ := he
    rw [hy, List.drop_eq_getElem_cons hn]
    simp only [forF, e1, e2]
  | succ m ih =>
    intro i ys hi hy
    have hl : i < xs.length := by omega
    obtain ⟨ρ', e1, e2⟩ := h i hl (by omega)
    rw [hy, List.drop_eq_getElem_cons hl]
    simp only [forF, e1, e2]
    exact ih (i + 1) _ (by omega) rfl
/-- a for that looks for one, by what is left -/
theorem for_find {α γ : Type} {t : Tgt} {f : Fs} {S : Sx} {en : α → D} (P : List α → γ → Prop) (R : List α → γ → D) (mk : γ → Rho) (hn : ∀ g, ¬ P [] g)
    (hs : ∀ a r g, P (a :: r) g → ∃ ρ', bindT t (en a) (mk g) = some ρ' ∧ (f ρ' S = .rt (R (a :: r) g) S ∨ ∃ g', f ρ' S = .nx (mk g') S ∧ P r g' ∧ R r g' = R (a :: r) g)) :
    ∀ {xs : List α} {g : γ}, P xs g → forF t f (xs.map en) (mk g) S = .rt (R xs g) S
  | [], g, h => absurd h (hn g)
  | a :: r, g, h => by
    obtain ⟨ρ', e1, e2⟩ := hs a r g h
    rw [List.map_cons]
    rcases e2 with e2 | ⟨g', e2, e3, e4⟩
    · simp only [forF, e1, e2]
    · simp only [forF, e1, e2, for_find P R mk hn hs e3, e4]
theorem for_find' {α γ : Type} {t : Tgt} {f : Fs} {S : Sx} {en : α → D} {xs : List α} {ρ : Rho} (P : List α → γ → Prop) (R : List α → γ → D) (mk : γ → Rho) (g : γ) (h0 : ρ = mk g) (hP : P xs g) (hn : ∀ g, ¬ P [] g)
    (hs : ∀ a r g, P (a :: r) g → ∃ ρ', bindT t (en a) (mk g) = some ρ' ∧ (f ρ' S = .rt (R (a :: r) g) S ∨ ∃ g', f ρ' S = .nx (mk g') S ∧ P r g' ∧ R r g' = R (a :: r) g)) : forF t f (xs.map en) ρ S = .rt (R xs g) S := by
  subst h0; exact for_find P R mk hn hs hP
theorem for_ex {γ : Type} {t : Tgt} {f : Fs} {S : Sx} (mk : Nat → γ → Rho) : ∀ (xs : List D) (i : Nat) (g : γ), (∀ k (hk : k < xs.length) (g : γ), ∃ ρ' g', bindT t xs[k] (mk (i + k) g) = some ρ' ∧ f ρ' S = .nx (mk (i + k + 1) g') S) → ∃ g', forF t f xs (mk i g) S = .nx (mk (i + xs.length) g') S
  | [], i, g, _ => ⟨g, by simp [forF]⟩
  | x :: xs, i, g, h => by
    obtain ⟨ρ', g1, h1, h2⟩ := h 0 (by simp) g
    simp at h1 h2
    obtain ⟨g2, h3⟩ := for_ex mk xs (i + 1) g1 fun k hk g => by
      have := h (k + 1) (by simpa using hk) g
      simpa [Nat.add_assoc, Nat.add_comm 1 k, Nat.add_left_comm] using this
    refine ⟨g2, ?_⟩
    simp only [forF, h1, h2, h3, List.length_cons]
    congr 2
    omega
theorem for_ex_P {γ : Type} {t : Tgt} {f : Fs} {S : Sx} {xs : List D} {ρ : Rho} {G : Out → Prop} (mk : Nat → γ → Rho) (g : γ) (h0 : ρ = mk 0 g) (h : ∀ i (hi : i < xs.length) (g : γ), ∃ ρ' g', bindT t xs[i] (mk i g) = some ρ' ∧ f ρ' S = .nx (mk (i + 1) g') S)
    (hk : ∀ g, G (.nx (mk xs.length g) S)) : G (forF t f xs ρ S) := by
  subst h0
  obtain ⟨g', e⟩ := for_ex (t := t) (f := f) (S := S) mk xs 0 g fun i hi g => by simpa using h i hi g
  rw [e]
  simpa using hk g'
/-- a for by an invariant, the hot ones changing -/
theorem for_inv {γ : Type} {t : Tgt} {f : Fs} (mk : γ → Rho) (st : γ → Sx) (P : Nat → γ → Prop) : ∀ (xs : List D) (i : Nat) (g : γ), P i g → (∀ k (hk : k < xs.length) (g : γ), P (i + k) g → ∃ ρ' g', bindT t xs[k] (mk g) = some ρ' ∧ f ρ' (st g) = .nx (mk g') (st g') ∧ P (i + k + 1) g') → ∃ g', forF t f xs (mk g) (st g) = .nx (mk g') (st g') ∧ P (i + xs.length) g'
  | [], i, g, hg, _ => ⟨g, by simp [forF], by simpa using hg⟩
  | x :: xs, i, g, hg, h => by
    obtain ⟨ρ', g1, h1, h2, h3⟩ := h 0 (by simp) g (by simpa using hg)
    simp at h1 h2 h3
    obtain ⟨g2, h4, h5⟩ := for_inv mk st P xs (i + 1) g1 h3 fun k hk g hp => by
      have := h (k + 1) (by simpa using hk) g (by simpa [Nat.add_assoc, Nat.add_comm 1 k] using hp)
      simpa [Nat.add_assoc, Nat.add_comm 1 k, Nat.add_left_comm] using this
    refine ⟨g2, ?_, ?_⟩
    · simp only [forF, h1, h2, h4]
    · rw [List.length_cons, show i + (xs.length + 1) = i + 1 + xs.length by omega]; exact h5
theorem for_inv_P {γ : Type} {t : Tgt} {f : Fs} {S : Sx} {xs : List D} {ρ : Rho} {G : Out → Prop} (mk : γ → Rho) (st : γ → Sx) (P : Nat → γ → Prop) (g : γ) (h0 : ρ = mk g) (hS : S = st g) (hP : P 0 g) (h : ∀ k (hk : k < xs.length) (g : γ), P k g → ∃ ρ' g', bindT t xs[k] (mk g) = some ρ' ∧ f ρ' (st g) = .nx (mk g') (st g') ∧ P (k + 1) g')
    (hk : ∀ g, P xs.length g → G (.nx (mk g) (st g))) : G (forF t f xs ρ S) := by
  subst h0 hS
  obtain ⟨g', e, p⟩ := for_inv (t := t) (f := f) mk st P xs 0 g hP fun k hk g hp => by simpa using h k hk g (by simpa using hp)
  rw [e]
  exact hk g' (by simpa using p)
/-! ### great numbers -/
theorem log2_le {a n : Nat} (h : a < 2 ^ (n + 1)) : a.log2 ≤ n := by
  by_cases z : a = 0
  · subst z; simp
  · have := (Nat.log2_lt z).mpr h
    omega
def Bg : Nat := 2 ^ (8999 + 1)
def Hg : Nat := 2 ^ (100000 + 1)
theorem mulN {a b : Nat} (ha : a < Hg) (hb : b < Hg) : mulD (.int (a : Nat)) (.int (b : Nat)) = some (.int ((a : Int) * (b : Int))) := by
  have h1 := log2_le ha
  have h2 := log2_le hb
  clear ha hb
  simp only [mulD, if_pos (show CMulW (a : Nat) (b : Nat) from by unfold CMulW; simp only [Int.natAbs_natCast]; omega)]
theorem fdivN {a b : Nat} (h0 : 0 < b) (hb : b < Bg) : fdivD (.int (a : Nat)) (.int (b : Nat)) = some (.int ((a : Int) / (b : Int))) := by
  have h2 : b.log2 ≤ 8999 := log2_le hb
  clear hb
  simp only [fdivD, if_pos (show CDivW (a : Nat) (b : Nat) from ⟨by omega, by simp only [Int.natAbs_natCast]; omega⟩)]
theorem Bg_pow {b m : Nat} (hb : b < Bg) (hm : m ≤ 5) : b ^ m < Hg := by
  have h1 : b ^ m ≤ Bg ^ m := Nat.pow_le_pow_left (Nat.le_of_lt hb) m
  have h2 : Bg ^ m = 2 ^ ((8999 + 1) * m) := by unfold Bg; rw [← Nat.pow_mul]
  rw [h2] at h1
  clear h2 hb
  refine Nat.lt_of_le_of_lt h1 ?_
  unfold Hg
  exact Nat.pow_lt_pow_right (by omega) (by omega)
theorem Bg_Hg {b : Nat} (hb : b < Bg) : b < Hg := by
  have := Bg_pow hb (m := 1) (by omega)
  rwa [Nat.pow_one] at this
theorem small_Bg {b : Nat} (h : b < 2 ^ 64) : b < Bg := by
  unfold Bg
  exact Nat.lt_of_lt_of_le h (Nat.pow_le_pow_right (by omega) (by omega))
end G
namespace Law
open PySem PySem.Spec L2 G
/-- how many bits a shape of n levels has at most -/
def Bt : Nat → Nat
  | 0 => 21
  | n + 1 => 4 * Bt n + 3
theorem off_le {b : Nat} (hb : 1 ≤ b) : ∀ m, off b (m + 1) ≤ (m + 1) * b ^ m
  | 0 => by simp [off]
  | m + 1 => by
    have ih := off_le hb m
    have h1 : b ^ m ≤ b ^ (m + 1) := Nat.pow_le_pow_right hb (by omega)
    have h2 := Nat.mul_le_mul_left (m + 1) h1
    rw [off]
    rw [Nat.add_mul (m + 1) 1]
    omega
theorem pow_mono2 {a b : Nat} (h : a ≤ b) : 2 ^ a ≤ 2 ^ b := Nat.pow_le_pow_right (by omega) h
theorem szP_le {B : Nat} : ∀ {ps : List (Str × Sh)}, (∀ p ∈ ps, sz p.2 ≤ 2 ^ B) → szP ps ≤ 2 ^ (B * ps.length)
  | [], _ => by simp [szP]
  | p :: r, h => by
    have h1 := h p List.mem_cons_self
    have h2 := szP_le (ps := r) fun q hq => h q (List.mem_cons_of_mem _ hq)
    simp only [szP, szQ_e, List.length_cons, Nat.mul_add, Nat.mul_one]
    rw [Nat.add_comm, Nat.pow_add]
    exact Nat.mul_le_mul h1 h2
theorem szS_le {C : Nat} : ∀ {ps : List (Str × Sh)}, (∀ p ∈ ps, sz p.2 ≤ C) → szS ps ≤ ps.length * C
  | [], _ => by simp [szS]
  | p :: r, h => by
    have h1 := h p List.mem_cons_self
    have h2 := szS_le (ps := r) fun q hq => h q (List.mem_cons_of_mem _ hq)
    simp only [szS, szQ_e, List.length_cons, Nat.add_mul, Nat.one_mul]
    omega
theorem sz_bits : ∀ {n : Nat} {s : Sh}, Gd n s → sz s ≤ 2 ^ Bt n := by
  intro n
  induction n with
  | zero => intro s h; cases h
  | succ n ih =>
    intro s h
    have hB : 21 ≤ Bt n := by
      clear ih h
      induction n with
      | zero => simp [Bt]
      | succ n ih => simp only [Bt]; omega
    have big : 2 ^ 21 ≤ 2 ^ Bt (n + 1) := pow_mono2 (by simp only [Bt]; omega)
    have e21 : (2 : Nat) ^ 21 = 2097152 := by decide
    cases h with
    | num h1 h2 h3 => simp only [sz]; omega
    | tru => simp only [sz]; omega
    | wrd h1 h2 => simp only [sz]; omega
    | @txt _ m h =>
      simp only [sz]
      have h1 : off 3 (m + 1) ≤ off 3 5 := off_mono (by omega)
      have h2 : off 3 5 = 121 := by decide
      omega
    | @lis _ m s h1 h2 =>
      simp only [sz]
      have hs := ih h1
      have hp := sz_pos h1
      have k1 : off (sz s) (m + 1) ≤ off (sz s) 5 := off_mono (by omega)
      have k2 : off (sz s) 5 ≤ 5 * sz s ^ 4 := off_le hp 4
      have k3 : sz s ^ 4 ≤ (2 ^ Bt n) ^ 4 := Nat.pow_le_pow_left hs 4
      have k4 : (2 ^ Bt n) ^ 4 = 2 ^ (4 * Bt n) := by rw [← Nat.pow_mul, Nat.mul_comm]
      have k5 : 2 ^ Bt (n + 1) = 2 ^ (4 * Bt n) * 8 := by simp only [Bt, Nat.pow_add]
      omega
    | @may _ s h1 h2 =>
      simp only [sz]
      have hs := ih h1
      have : 2 ^ (Bt n + 1) ≤ 2 ^ Bt (n + 1) := pow_mono2 (by simp only [Bt]; omega)
      rw [Nat.pow_succ] at this
      have : 1 ≤ 2 ^ Bt n := Nat.one_le_two_pow
      omega
    | @rcd _ ps h1 h2 h3 h4 =>
      simp only [sz]
      refine Nat.le_trans (szP_le fun p hp => ih (h3 p hp)) (pow_mono2 ?_)
      have := Nat.mul_le_mul_left (Bt n) h1
      simp only [Bt]; omega
    | @knd _ ps h1 h2 h3 h4 h5 =>
      simp only [sz]
      refine Nat.le_trans (szS_le fun p hp => ih (h4 p hp)) ?_
      have k1 := Nat.mul_le_mul_right (2 ^ Bt n) h2
      have : 2 ^ (Bt n + 2) ≤ 2 ^ Bt (n + 1) := pow_mono2 (by simp only [Bt]; omega)
      rw [Nat.pow_add] at this
      omega
theorem sz_lt {n : Nat} {s : Sh} (h : Gd n s) (hn : n ≤ 4) : sz s < Bg := by
  have h1 := sz_bits h
  have h2 : Bt n ≤ Bt 4 := by
    have : n = 0 ∨ n = 1 ∨ n = 2 ∨ n = 3 ∨ n = 4 := by omega
    rcases this with rfl | rfl | rfl | rfl | rfl <;> decide
  have h3 : Bt 4 < 8999 + 1 := by decide
  unfold Bg
  exact Nat.lt_of_le_of_lt h1 (Nat.pow_lt_pow_right (by omega) (Nat.lt_of_le_of_lt h2 h3))
end Law
namespace Law
open PySem L2 G
/-! ### loops that gather -/
theorem for_acc {α γ : Type} {t : Tgt} {f : Fs} {en : α → D} {g : α → List D} {mk : List D → γ → Rho} {S : Sx} : ∀ {xs : List α}, (∀ a ∈ xs, ∀ acc v, acc.length + (g a).length ≤ 16777216 → ∃ ρ' v', bindT t (en a) (mk acc v) = some ρ' ∧ f ρ' S = .nx (mk (acc ++ g a) v') S) →
    ∀ (acc : List D) (v : γ), acc.length + (xs.flatMap g).length ≤ 16777216 → ∃ v', forF t f (xs.map en) (mk acc v) S = .nx (mk (acc ++ xs.flatMap g) v') S
  | [], _, acc, v, _ => ⟨v, by simp [forF]⟩
  | a :: xs, h, acc, v, hl => by
    rw [List.flatMap_cons, List.length_append] at hl
    obtain ⟨ρ', v1, h1, h2⟩ := h a List.mem_cons_self acc v (by omega)
    obtain ⟨v2, h3⟩ := for_acc (xs := xs) (fun b hb => h b (List.mem_cons_of_mem _ hb)) (acc ++ g a) v1 (by rw [List.length_append]; omega)
    refine ⟨v2, ?_⟩
    rw [List.map_cons]
    simp only [forF, h1, h2, h3, List.flatMap_cons, List.append_assoc]
@[simp] theorem range_D (n : Nat) : rangeD 0 n = (List.range n).map fun i => .int (i : Nat) := by
  unfold rangeD; simp
/-! ### things -/
/-- a thing: lists and dicts of at most c, pairs that begin with a text; at most n deep -/
inductive Wd (c : Nat) : Nat → D → Prop
  | non {n : Nat} : Wd c n .non
  | bl {n : Nat} {b : Bool} : Wd c n (.bl b)
  | int {n : Nat} {i : Int} : Wd c n (.int i)
  | str {n : Nat} {z : Str} : Wd c n (.str z)
  | lst {n : Nat} {xs : List D} : xs.length ≤ c → (∀ x ∈ xs, Wd c n x) → Wd c (n + 1) (.lst xs)
  | tup0 {n : Nat} : Wd c (n + 1) (.tup [])
  | tup1 {n : Nat} {z : Str} : Wd c (n + 1) (.tup [.str z])
  | tup2 {n : Nat} {z : Str} {u : D} : Wd c n u → Wd c (n + 1) (.tup [.str z, u])
  | dct {n : Nat} {l : List (Str × D)} : l.length ≤ c → (∀ q ∈ l, Wd c n q.2) → (l.map (·.1)).Nodup → Wd c (n + 1) (.dct (kd l))
theorem look_mem {l : List (Str × D)} {z : Str} {u : D} (h : look l z = some u) : (z, u) ∈ l := by
  unfold look at h
  cases e : l.find? fun q => decide (q.1 = z) with
  | none => rw [e] at h; cases h
  | some q =>
    rw [e] at h
    have h1 := List.mem_of_find?_eq_some e
    have h2 := List.find?_some e
    simp at h h2
    rw [← h, ← h2]; exact h1
end Law
/-! All things in order, in plain Lean. -/
namespace Law
open PySem PySem.Spec L2 G
theorem range_mul {α : Type} (f : Nat → α) (b : Nat) : ∀ a, (List.range (a * b)).map f = (List.range a).flatMap fun q => (List.range b).map fun r => f (q * b + r)
  | 0 => by simp
  | a + 1 => by
    rw [Nat.succ_mul, List.range_add, List.map_append, range_mul f b a, List.range_succ, List.flatMap_append]
    simp [List.map_map, Function.comp_def]
def lvI (b : Nat) : Nat → List (List Nat)
  | 0 => [[]]
  | m + 1 => (lvI b m).flatMap fun row => (List.range b).map fun d => row ++ [d]
theorem val_app {b d : Nat} : ∀ {ds : List Nat}, val b (ds ++ [d]) = val b ds * b + d
  | [] => by simp [val]
  | x :: r => by
    simp only [List.cons_append, val, val_app (ds := r), List.length_append, List.length_cons, List.length_nil, Nat.pow_succ]
    rw [Nat.add_mul, Nat.mul_assoc]
    omega
theorem rowAt_lv {b m q : Nat} (hq : q < b ^ m) : (rowAt b (off b m + q)).length = m ∧ small b (rowAt b (off b m + q)) ∧ val b (rowAt b (off b m + q)) = q := by
  obtain ⟨ds, h1, h2, h3⟩ := digits b m q hq
  have e : off b m + q = rowNo b ds := by unfold rowNo; rw [h1, h3]; omega
  rw [e, rowAt_no h2]
  exact ⟨h1, h2, h3⟩
theorem lvI_eq (b : Nat) : ∀ m, lvI b m = (List.range (b ^ m)).map fun v => rowAt b (off b m + v)
  | 0 => by
    have : rowAt b 0 = [] := by
      have := rowAt_no (b := b) (ds := []) (fun _ h => by cases h)
      simpa [rowNo, val, off] using this
    simp [lvI, off, this]
  | m + 1 => by
    rw [lvI, lvI_eq b m, Nat.pow_succ, range_mul, List.flatMap_map]
    have : ∀ q ∈ List.range (b ^ m), ((List.range b).map fun d => rowAt b (off b m + q) ++ [d]) = (List.range b).map fun r => rowAt b (off b (m + 1) + (q * b + r)) := by
      intro q hq
      obtain ⟨h1, h2, h3⟩ := rowAt_lv (List.mem_range.mp hq)
      refine List.map_congr_left fun r hr => ?_
      have hs : small b (rowAt b (off b m + q) ++ [r]) := fun d hd => by
        rcases List.mem_append.mp hd with hd | hd
        · exact h2 d hd
        · simp at hd; subst hd; exact List.mem_range.mp hr
      have e : off b (m + 1) + (q * b + r) = rowNo b (rowAt b (off b m + q) ++ [r]) := by
        unfold rowNo; rw [val_app, h3]; simp [h1]; omega
      rw [e, rowAt_no hs]
    generalize List.range (b ^ m) = l at *
    induction l with
    | nil => rfl
    | cons q r ih => simp only [List.flatMap_cons, this q List.mem_cons_self, ih fun x hx => this x (List.mem_cons_of_mem _ hx)]
theorem lvI_len (b m : Nat) : (lvI b m).length = b ^ m := by rw [lvI_eq]; simp
theorem rows_step (b m : Nat) : (List.range (off b (m + 1))).map (rowAt b) = (List.range (off b m)).map (rowAt b) ++ lvI b m := by
  rw [off, List.range_add, List.map_append, lvI_eq, List.map_map]
  rfl
theorem lvI_small {b m : Nat} {row : List Nat} (h : row ∈ lvI b m) : small b row ∧ row.length = m := by
  rw [lvI_eq] at h
  obtain ⟨v, hv, rfl⟩ := List.mem_map.mp h
  obtain ⟨h1, h2, _⟩ := rowAt_lv (List.mem_range.mp hv)
  exact ⟨h2, h1⟩
/-! ### kinds -/
theorem szS_app (l : List (Str × Sh)) (p : Str × Sh) : szS (l ++ [p]) = szS l + sz p.2 := by
  induction l with
  | nil => simp [szS]
  | cons q r ih => simp only [List.cons_append, szS, szQ_e, ih]; omega
theorem kAt_lo {f : Sh → Nat → D} {p : Str × Sh} : ∀ {l : List (Str × Sh)} {k : Nat}, k < szS l → kAt f (l ++ [p]) k = kAt f l k
  | [], k, h => by simp [szS] at h
  | q :: r, k, h => by
    simp only [szS, szQ_e] at h
    simp only [List.cons_append, kAt]
    by_cases c : k < sz q.2
    · simp [c]
    · simp only [if_neg c]; exact kAt_lo (by omega)
theorem kAt_hi {f : Sh → Nat → D} {p : Str × Sh} : ∀ {l : List (Str × Sh)} {k : Nat}, k < sz p.2 → kAt f (l ++ [p]) (szS l + k) = .tup [.str p.1, f p.2 k]
  | [], k, h => by simp [szS, kAt, h]
  | q :: r, k, h => by
    simp only [List.cons_append, kAt, szS, szQ_e]
    rw [if_neg (by omega), show sz q.2 + szS r + k - sz q.2 = szS r + k by omega]
    exact kAt_hi h
theorem kAt_app (f : Sh → Nat → D) (l : List (Str × Sh)) (p : Str × Sh) : (List.range (szS (l ++ [p]))).map (kAt f (l ++ [p])) = (List.range (szS l)).map (kAt f l) ++ (List.range (sz p.2)).map fun r => .tup [.str p.1, f p.2 r] := by
  rw [szS_app, List.range_add, List.map_append, List.map_map]
  congr 1
  · exact List.map_congr_left fun k hk => kAt_lo (List.mem_range.mp hk)
  · exact List.map_congr_left fun k hk => kAt_hi (List.mem_range.mp hk)
/-! ### records -/
noncomputable def recL (f : Sh → Nat → D) : List (Str × Sh) → Nat → List (Str × D)
  | [], _ => []
  | p :: r, k => (p.1, f p.2 (k / szP r % sz p.2)) :: recL f r k
theorem recL_kd {f : Sh → Nat → D} : ∀ (ps : List (Str × Sh)) (k : Nat), recAt f ps k = kd (recL f ps k)
  | [], _ => rfl
  | p :: r, k => by simp only [recAt, recL, recL_kd r k]; rfl
theorem recL_len {f : Sh → Nat → D} : ∀ (ps : List (Str × Sh)) (k : Nat), (recL f ps k).length = ps.length
  | [], _ => rfl
  | p :: r, k => by simp [recL, recL_len r k]
theorem recL_names {f : Sh → Nat → D} : ∀ (ps : List (Str × Sh)) (k : Nat), (recL f ps k).map (·.1) = ps.map (·.1)
  | [], _ => rfl
  | p :: r, k => by simp [recL, recL_names r k]
theorem szP_app (l : List (Str × Sh)) (p : Str × Sh) : szP (l ++ [p]) = szP l * sz p.2 := by
  induction l with
  | nil => simp [szP]
  | cons q r ih => simp only [List.cons_append, szP, szQ_e, ih, Nat.mul_assoc]
theorem recL_app {f : Sh → Nat → D} {p : Str × Sh} {r : Nat} (hr : r < sz p.2) : ∀ (l : List (Str × Sh)) (k : Nat), recL f (l ++ [p]) (k * sz p.2 + r) = recL f l k ++ [(p.1, f p.2 r)]
  | [], k => by
    have : (k * sz p.2 + r) % sz p.2 = r := by rw [Nat.add_comm, Nat.add_mul_mod_self_right, Nat.mod_eq_of_lt hr]
    simp [recL, szP, this]
  | q :: l, k => by
    have e : (k * sz p.2 + r) / szP (l ++ [p]) = k / szP l := by
      rw [szP_app, Nat.mul_comm (szP l), ← Nat.div_div_eq_div_mul]
      congr 1
      rw [Nat.mul_comm, Nat.mul_add_div (by omega), Nat.div_eq_of_lt hr, Nat.add_zero]
    simp only [List.cons_append, recL, e, recL_app hr l k]
theorem recs_app (f : Sh → Nat → D) (l : List (Str × Sh)) (p : Str × Sh) : (List.range (szP (l ++ [p]))).map (recL f (l ++ [p])) = (List.range (szP l)).flatMap fun k => (List.range (sz p.2)).map fun r => recL f l k ++ [(p.1, f p.2 r)] := by
  rw [szP_app, range_mul]
  congr 1
  funext k
  exact List.map_congr_left fun r hr => recL_app (List.mem_range.mp hr) l k
end Law
namespace G
open PySem L2
section
variable {ρ : Rho} {S : Sx}
@[simp] theorem ev_isx {cs ds : List Str} {f : Fe} : eIsx cs ds f ρ S = (f ρ S).bind fun a S1 => (match a with
  | .exc c => if c ∈ cs then .ok (.d (.bl true)) S1 else if c ∈ ds then .ok (.d (.bl false)) S1 else .stuck
  | _ => .stuck) := rfl
theorem tryK_ok {cs : List Str} {k i : Nat} {f : Fs} {ρ' : Rho} {S' : Sx} (h : f ρ S = .nx ρ' S') : sTryK cs k i f ρ S = .nx ρ' S' := by unfold sTryK; rw [h]
theorem tryK_xc {cs : List Str} {k i : Nat} {f : Fs} {c : Str} {ρ' : Rho} {S' : Sx} (h : f ρ S = .xc c ρ' S') (hc : c ∈ cs) (hi : i < ρ'.length) : sTryK cs k i f ρ S = .nx (((ρ'.set i (some (.exc c))).set k (some (.exc c))).set i none) S' := by
  unfold sTryK; rw [h]; simp only [if_pos (And.intro hc hi)]
@[simp] theorem ev_listRg {f g : Fe} : eListRg f g ρ S = (f ρ S).bind fun a S1 => (g ρ S1).bind fun b S2 => (match a, b with
  | .d (.int i), .d (.int j) => lrgC i j S2
  | _, _ => .stuck) := rfl
theorem lrgC_ok {i j : Int} (h1 : -1000000000 ≤ i) (h2 : i ≤ 1000000000) (h3 : -1000000000 ≤ j) (h4 : j ≤ 1000000000) (h5 : j - i ≤ 16777216) : lrgC i j S = .ok (.d (.lst (rangeD i (j - i).toNat))) S := by
  unfold lrgC
  rw [if_pos (show RgOk i j from ⟨by omega, by omega, by omega, by omega, by omega⟩)]
end
@[simp] theorem boolsO_map (bs : List Bool) : boolsO (bs.map .bl) = some bs := by
  induction bs with
  | nil => rfl
  | cons b r ih => simp [boolsO, ih]
end G
/-! Shapes within one another, in plain Lean. -/
namespace Law
open PySem PySem.Spec L2 G
def lookS (ps : List (Str × Sh)) (z : Str) : Option Sh := (ps.find? fun q => decide (q.1 = z)).map (·.2)
theorem lookS_cons {q : Str × Sh} {l : List (Str × Sh)} {z : Str} : lookS (q :: l) z = if q.1 = z then some q.2 else lookS l z := by
  unfold lookS
  rw [List.find?_cons]
  by_cases e : q.1 = z <;> simp [e]
theorem lookS_of {l : List (Str × Sh)} {z : Str} {u : Sh} (h : lookS l z = some u) : (z, u) ∈ l := by
  induction l with
  | nil => simp [lookS] at h
  | cons q r ih =>
    rw [lookS_cons] at h
    by_cases e : q.1 = z
    · rw [if_pos e] at h; cases h; subst e; exact List.mem_cons_self
    · rw [if_neg e] at h; exact List.mem_cons_of_mem _ (ih h)
theorem lookS_in {l : List (Str × Sh)} (nd : (l.map (·.1)).Nodup) {q : Str × Sh} (h : q ∈ l) : lookS l q.1 = some q.2 := by
  induction l with
  | nil => cases h
  | cons p r ih =>
    rw [List.map_cons, List.nodup_cons] at nd
    rw [lookS_cons]
    rcases List.mem_cons.mp h with rfl | h
    · simp
    · have ne : p.1 ≠ q.1 := fun e => nd.1 (by rw [e]; exact List.mem_map.mpr ⟨q, h, rfl⟩)
      rw [if_neg ne]; exact ih nd.2 h
theorem lookS_none {l : List (Str × Sh)} {z : Str} (h : lookS l z = none) : z ∉ l.map (·.1) := by
  induction l with
  | nil => simp
  | cons q r ih =>
    rw [lookS_cons] at h
    by_cases e : q.1 = z
    · rw [if_pos e] at h; cases h
    · rw [if_neg e] at h
      rw [List.map_cons, List.mem_cons, not_or]
      exact ⟨fun x => e x.symm, ih h⟩
def fitP : Nat → Sh → Sh → Bool
  | 0, _, _ => false
  | m + 1, a, .may b => (match a with
    | .may a => fitP m a b
    | a => fitP m a b)
  | _ + 1, .wrd ws, .txt k => ws.all fun w => decide (w.length ≤ k) && letters w
  | _ + 1, .num l h, .num l2 h2 => decide (l2 ≤ l) && decide (h ≤ h2)
  | _ + 1, .tru, .tru => true
  | _ + 1, .wrd ws, .wrd vs => ws.all fun w => vs.any fun v => v == w
  | _ + 1, .txt k, .txt k2 => decide (k ≤ k2)
  | m + 1, .lis a k, .lis b k2 => decide (k ≤ k2) && (k == 0 || fitP m a b)
  | m + 1, .rcd ps, .rcd qs => (ps.length == qs.length) && ps.all fun p => (lookS qs p.1).elim false (fitP m p.2)
  | m + 1, .knd ps, .knd qs => ps.all fun p => (lookS qs p.1).elim false (fitP m p.2)
  | _ + 1, _, _ => false
theorem no_non {n : Nat} {s : Sh} {t : D} (h : Gd n s) (hm : isMay s = false) (o : oneP n s t = true) : t ≠ .non := by
  rintro rfl
  cases n with
  | zero => cases h
  | succ n => cases h <;> simp [oneP, isWh, isi] at o <;> simp [isMay] at hm
theorem may_one {n : Nat} {s : Sh} {t : D} (ht : t ≠ .non) : oneP (n + 1) (.may s) t = oneP n s t := by cases t <;> first | exact absurd rfl ht | rfl
theorem knd_one {n : Nat} {ps : List (Str × Sh)} {z : Str} {u : D} (nd : (ps.map (·.1)).Nodup) : oneP (n + 1) (.knd ps) (.tup [.str z, u]) = (lookS ps z).elim false (fun s => oneP n s u) := by
  simp only [oneP]
  rw [Bool.eq_iff_iff]
  constructor
  · intro h
    obtain ⟨p, h1, h2, h3, _⟩ := knd_find nd h
    rw [← h2, lookS_in nd h1]; exact h3
  · intro h
    cases e : lookS ps z with
    | none => rw [e] at h; cases h
    | some s =>
      rw [e] at h
      exact List.any_eq_true.mpr ⟨(z, s), lookS_of e, by simpa using h⟩
theorem fit_sub : ∀ (m n n2 : Nat) (a b : Sh) (t : D), Gd n a → Gd n2 b → fitP m a b = true → oneP n a t = true → oneP n2 b t = true := by
  intro m
  induction m with
  | zero => intro n n2 a b t _ _ h; simp [fitP] at h
  | succ m ih =>
    intro n n2 a b t ha hb hf ho
    cases hb with
    | @may k b hb1 hb2 =>
      by_cases ht : t = .non
      · subst ht; rfl
      · rw [may_one ht]
        cases hm : isMay a with
        | true =>
          cases ha <;> simp [isMay] at hm
          rw [may_one ht] at ho
          rename_i a h1 h2
          first | exact ih _ _ a b t h2 hb1 (by simpa [fitP] using hf) ho | exact ih _ _ a b t h1 hb1 (by simpa [fitP] using hf) ho
        | false =>
          have hf' : fitP m a b = true := by cases a <;> simp [isMay] at hm <;> simpa [fitP] using hf
          exact ih _ _ a b t ha hb1 hf' ho
    | @num k l2 h2 b1 b2 b3 =>
      cases ha <;> simp [fitP] at hf
      cases t <;> simp [oneP, isWh] at ho ⊢
      omega
    | tru =>
      cases ha <;> simp [fitP] at hf
      exact ho
    | @wrd k vs b1 b2 b3 b4 =>
      cases ha <;> simp only [fitP] at hf <;> try cases hf
      cases t <;> simp only [oneP] at ho ⊢ <;> try cases ho
      rename_i ws _ _ _ _ z
      have h1 := any_mem.mp ho
      exact (List.all_eq_true.mp hf) z h1
    | @txt k k2 b1 =>
      cases ha with
      | @wrd k ws a1 a2 a3 a4 =>
        simp only [fitP] at hf
        cases t <;> simp only [oneP] at ho ⊢ <;> try cases ho
        rename_i z
        exact (List.all_eq_true.mp hf) z (any_mem.mp ho)
      | txt a1 =>
        simp [fitP] at hf
        cases t <;> simp only [oneP] at ho ⊢ <;> try cases ho
        simp only [Bool.and_eq_true, decide_eq_true_eq] at ho ⊢
        exact ⟨by omega, ho.2⟩
      | _ => simp [fitP] at hf
    | @lis k k2 b b1 b2 =>
      cases ha <;> simp only [fitP] at hf <;> try cases hf
      rename_i k1 a a1 a2
      cases t <;> simp only [oneP] at ho ⊢ <;> try cases ho
      rename_i xs
      simp only [Bool.and_eq_true, Bool.or_eq_true, decide_eq_true_eq, beq_iff_eq, List.all_eq_true] at hf ho ⊢
      refine ⟨by omega, fun x hx => ?_⟩
      rcases hf.2 with h0 | h0
      · have : xs = [] := List.eq_nil_of_length_eq_zero (by omega)
        rw [this] at hx; cases hx
      · first | exact ih _ _ a b x a1 b1 h0 (ho.2 x hx) | exact ih _ _ a b x a2 b1 h0 (ho.2 x hx)
    | @rcd k qs b1 b2 b3 b4 =>
      cases ha <;> simp only [fitP] at hf <;> try cases hf
      rename_i ps a1 a2 a3 a4
      cases t <;> try (simp [oneP] at ho; done)
      rename_i kvs
      obtain ⟨l1, l2⟩ := rec_all ho
      simp only [Bool.and_eq_true, beq_iff_eq, List.all_eq_true] at hf
      simp only [oneP, Bool.and_eq_true, beq_iff_eq, List.all_eq_true]
      refine ⟨by omega, fun q hq => ?_⟩
      have pm : (ps.map (·.1)).Perm (qs.map (·.1)) := by
        refine perm_sub a4 (fun z hz => ?_) (by simp; omega)
        obtain ⟨p, hp, rfl⟩ := List.mem_map.mp hz
        have := hf.2 p hp
        cases e : lookS qs p.1 with
        | none => rw [e] at this; cases this
        | some s => exact List.mem_map.mpr ⟨_, lookS_of e, rfl⟩
      obtain ⟨p, hp, ep⟩ := List.mem_map.mp (pm.mem_iff.mpr (List.mem_map.mpr ⟨q, hq, rfl⟩))
      obtain ⟨u, u1, u2⟩ := l2 p hp
      have h5 := hf.2 p hp
      rw [ep, lookS_in b4 hq] at h5
      rw [← ep, u1]
      exact ih _ _ p.2 q.2 u (a3 p hp) (b3 q hq) h5 u2
    | @knd k qs b1 b2 b3 b4 b5 =>
      cases ha <;> simp only [fitP] at hf <;> try cases hf
      rename_i ps a1 a2 a3 a4 a5
      cases t <;> try (simp [oneP] at ho; done)
      rename_i xs
      match xs, ho with
      | [.str z, u], ho =>
        rw [knd_one a5] at ho
        rw [knd_one b5]
        cases e : lookS ps z with
        | none => rw [e] at ho; cases ho
        | some s =>
          rw [e] at ho
          have h5 := (List.all_eq_true.mp hf) (z, s) (lookS_of e)
          dsimp only at h5
          cases e2 : lookS qs z with
          | none => rw [e2] at h5; cases h5
          | some s2 =>
            rw [e2] at h5
            exact ih _ _ s s2 u (a4 _ (lookS_of e)) (b4 _ (lookS_of e2)) h5 ho
end Law
namespace Law
open PySem PySem.Spec L2 G
theorem wit {n : Nat} {a : Sh} (h : Gd n a) : oneP n a (oneAt n a 0) = true := (at_ok h (sz_pos h)).1
theorem all_false {α : Type} {l : List α} {f : α → Bool} (h : l.all f = false) : ∃ x ∈ l, f x = false := by
  induction l with
  | nil => simp at h
  | cons x r ih =>
    rw [List.all_cons, Bool.and_eq_false_iff] at h
    rcases h with h | h
    · exact ⟨x, List.mem_cons_self, h⟩
    · obtain ⟨y, hy, e⟩ := ih h; exact ⟨y, List.mem_cons_of_mem _ hy, e⟩
theorem rep97 (k : Nat) : (⟨(List.replicate k 97).toArray⟩ : Str).length = k ∧ letters ⟨(List.replicate k 97).toArray⟩ = true := by
  refine ⟨by show (List.replicate k 97).toArray.size = k; simp, letters_iff.mpr fun c hc => ?_⟩
  simp at hc
  omega
theorem dct_of {n : Nat} {ps : List (Str × Sh)} {t : D} (h : oneP (n + 1) (.rcd ps) t = true) : ∃ kvs, t = .dct kvs := by
  cases t <;> first | exact ⟨_, rfl⟩ | (simp [oneP] at h)
theorem tup_of {n : Nat} {ps : List (Str × Sh)} {t : D} (h : oneP (n + 1) (.knd ps) t = true) : ∃ z u, t = .tup [.str z, u] := by
  cases t <;> try (simp [oneP] at h; done)
  rename_i xs
  match xs, h with
  | [.str z, u], _ => exact ⟨z, u, rfl⟩
/-- a record's thing with one field given -/
theorem rec_with {n : Nat} {ps : List (Str × Sh)} (nd : (ps.map (·.1)).Nodup) (hp : ∀ p ∈ ps, Gd n p.2) {p : Str × Sh} (hm : p ∈ ps) {t : D} (ht : oneP n p.2 t = true) : ∃ kvs, oneP (n + 1) (.rcd ps) (.dct kvs) = true ∧ lookK kvs (.inr p.1) = some t := by
  let l : List (Str × D) := ps.map fun q => (q.1, if q.1 = p.1 then t else oneAt n q.2 0)
  have hk : l.map (·.1) = ps.map (·.1) := by simp [l]
  have hl : ∀ q ∈ ps, look l q.1 = some (if q.1 = p.1 then t else oneAt n q.2 0) := fun q hq => look_in (l := l) (by rw [hk]; exact nd) (q := (q.1, if q.1 = p.1 then t else oneAt n q.2 0)) (List.mem_map.mpr ⟨q, hq, rfl⟩)
  refine ⟨kd l, ?_, by rw [look_kd, hl p hm, if_pos rfl]⟩
  simp only [oneP, Bool.and_eq_true, beq_iff_eq, List.all_eq_true]
  refine ⟨by simp [l], fun q hq => ?_⟩
  rw [look_kd, hl q hq]
  by_cases e : q.1 = p.1
  · have : q = p := by
      have h1 := lookS_in nd hq
      have h2 := lookS_in nd hm
      rw [e, h2] at h1
      obtain ⟨q1, q2⟩ := q
      obtain ⟨p1, p2⟩ := p
      simp at e h1
      rw [e, h1]
    subst this
    simp [ht]
  · simp [e, wit (hp q hq)]
theorem kd_inj : ∀ {a b : List (Str × D)}, kd a = kd b → a = b
  | [], [], _ => rfl
  | [], _ :: _, h => by simp [kd] at h
  | _ :: _, [], h => by simp [kd] at h
  | x :: a, y :: b, h => by
    have h' : (Sum.inr x.1, x.2) :: kd a = ((Sum.inr y.1, y.2) : Key × D) :: kd b := h
    injection h' with h1 h2
    injection h1 with e1 e2
    injection e1 with e1
    rw [kd_inj h2, Prod.ext e1 e2]
theorem fit_no : ∀ (m n n2 : Nat) (a b : Sh), Gd n a → Gd n2 b → n + n2 ≤ m → fitP m a b = false → ∃ t, oneP n a t = true ∧ oneP n2 b t = false := by
  intro m
  induction m with
  | zero => intro n n2 a b ha hb hm; cases ha <;> omega
  | succ m ih =>
    intro n n2 a b ha hb hm hf
    cases mb : isMay b with
    | true =>
      cases hb <;> simp [isMay] at mb
      rename_i k b hb1 hb2
      cases ma : isMay a with
      | true =>
        cases ha <;> simp [isMay] at ma
        rename_i k1 a ha1 ha2
        obtain ⟨t, t1, t2⟩ := ih _ _ a b ha1 hb1 (by omega) (by simpa [fitP] using hf)
        have ht := no_non ha1 ha2 t1
        exact ⟨t, by rw [may_one ht]; exact t1, by rw [may_one ht]; exact t2⟩
      | false =>
        have hf' : fitP m a b = false := by cases a <;> simp [isMay] at ma <;> simpa [fitP] using hf
        obtain ⟨t, t1, t2⟩ := ih _ _ a b ha hb1 (by omega) hf'
        have ht := no_non ha ma t1
        exact ⟨t, t1, by rw [may_one ht]; exact t2⟩
    | false =>
      have nob : oneP n2 b .non = false := by
        cases e : oneP n2 b .non with
        | false => rfl
        | true => exact absurd rfl (no_non hb mb e)
      have w := wit ha
      cases ha with
      | @may k a h1 h2 => exact ⟨.non, rfl, nob⟩
      | @num k lo hi h1 h2 h3 =>
        cases hb with
        | @num k2 l2 g2 b1 b2 b3 =>
          simp only [fitP, Bool.and_eq_false_iff, decide_eq_false_iff_not] at hf
          rcases hf with h | h
          · exact ⟨.int lo, by simp [oneP, isWh]; omega, by simp [oneP, isWh]; omega⟩
          · exact ⟨.int hi, by simp [oneP, isWh]; omega, by simp [oneP, isWh]; omega⟩
        | _ => exact ⟨.int lo, by simp [oneP, isWh]; omega, by first | rfl | exact nomatch mb⟩
      | tru =>
        cases hb with
        | tru => simp [fitP] at hf
        | _ => exact ⟨.bl true, rfl, by first | rfl | exact nomatch mb⟩
      | @wrd k ws h1 h2 h3 h4 =>
        cases hb with
        | wrd =>
          simp only [fitP] at hf
          obtain ⟨x, hx, e⟩ := all_false hf
          exact ⟨.str x, by simp only [oneP]; exact any_mem.mpr hx, by simp only [oneP]; exact e⟩
        | txt =>
          simp only [fitP] at hf
          obtain ⟨x, hx, e⟩ := all_false hf
          exact ⟨.str x, by simp only [oneP]; exact any_mem.mpr hx, by simp only [oneP]; exact e⟩
        | _ => exact ⟨_, w, by simp only [oneAt]; first | rfl | exact nomatch mb⟩
      | @txt k mm h1 =>
        cases hb with
        | @wrd k2 vs b1 b2 b3 b4 =>
          refine ⟨.str ⟨#[]⟩, by simp only [oneP, Bool.and_eq_true, decide_eq_true_eq]; exact ⟨Nat.zero_le _, rfl⟩, ?_⟩
          simp only [oneP]
          cases e : (vs.any fun w => w == ⟨#[]⟩) with
          | false => rfl
          | true =>
            have := (b3 _ (any_mem.mp e)).1
            exact absurd this (by show ¬ 1 ≤ 0; omega)
        | @txt k2 m2 b1 =>
          simp [fitP] at hf
          obtain ⟨e1, e2⟩ := rep97 mm
          refine ⟨.str ⟨(List.replicate mm 97).toArray⟩, ?_, ?_⟩
          · simp only [oneP, e1, e2]; simp
          · simp only [oneP, e1]; simp; omega
        | _ => exact ⟨_, w, by simp only [oneAt]; first | rfl | exact nomatch mb⟩
      | @lis k mm a h1 h2 =>
        cases hb with
        | @lis k2 m2 b b1 b2 =>
          simp only [fitP, Bool.and_eq_false_iff, decide_eq_false_iff_not, Bool.or_eq_false_iff, beq_eq_false_iff_ne] at hf
          rcases hf with h | ⟨h0, h⟩
          · refine ⟨.lst (List.replicate mm (oneAt k a 0)), ?_, ?_⟩
            · simp [oneP, wit h1]
            · simp [oneP]; omega
          · obtain ⟨t, t1, t2⟩ := ih _ _ a b h1 b1 (by omega) h
            refine ⟨.lst [t], ?_, ?_⟩
            · simp [oneP, t1]; omega
            · simp [oneP, t2]
        | _ => exact ⟨.lst [], by simp [oneP], by first | rfl | exact nomatch mb⟩
      | @rcd k ps h1 h2 h3 h4 =>
        obtain ⟨kvs, ek⟩ := dct_of w
        cases hb with
        | @rcd k2 qs b1 b2 b3 b4 =>
          simp only [fitP, Bool.and_eq_false_iff, beq_eq_false_iff_ne] at hf
          rw [ek] at w
          obtain ⟨l1, l2⟩ := rec_all w
          rcases hf with h | h
          · refine ⟨.dct kvs, w, ?_⟩
            simp only [oneP, Bool.and_eq_false_iff, beq_eq_false_iff_ne]
            exact .inl (by omega)
          · obtain ⟨p, hp, e⟩ := all_false h
            cases e2 : lookS qs p.1 with
            | none =>
              by_cases hl : ps.length = qs.length
              · refine ⟨.dct kvs, w, ?_⟩
                cases e3 : oneP (k2 + 1) (.rcd qs) (.dct kvs) with
                | false => rfl
                | true =>
                  exfalso
                  obtain ⟨l, rfl, _, pm, _⟩ := rec_kd h4 w
                  obtain ⟨l', el, _, pm', _⟩ := rec_kd b4 e3
                  have ll : l = l' := kd_inj el
                  subst ll
                  exact lookS_none e2 ((pm.symm.trans pm').mem_iff.mp (List.mem_map.mpr ⟨p, hp, rfl⟩))
              · refine ⟨.dct kvs, w, ?_⟩
                simp only [oneP, Bool.and_eq_false_iff, beq_eq_false_iff_ne]
                exact .inl (by omega)
            | some s2 =>
              rw [e2] at e
              obtain ⟨t, t1, t2⟩ := ih _ _ p.2 s2 (h3 p hp) (b3 _ (lookS_of e2)) (by omega) e
              obtain ⟨kv2, r1, r2⟩ := rec_with h4 h3 hp t1
              refine ⟨.dct kv2, r1, ?_⟩
              cases e3 : oneP (k2 + 1) (.rcd qs) (.dct kv2) with
              | false => rfl
              | true =>
                obtain ⟨_, l4⟩ := rec_all e3
                obtain ⟨u, u1, u2⟩ := l4 _ (lookS_of e2)
                dsimp only at u1 u2
                rw [r2] at u1; cases u1
                rw [t2] at u2; cases u2
        | _ => exact ⟨.dct kvs, ek ▸ w, by first | rfl | exact nomatch mb⟩
      | @knd k ps h1 h2 h3 h4 h5 =>
        obtain ⟨z, u, ek⟩ := tup_of w
        cases hb with
        | @knd k2 qs b1 b2 b3 b4 b5 =>
          simp only [fitP] at hf
          obtain ⟨p, hp, e⟩ := all_false hf
          cases e2 : lookS qs p.1 with
          | none => exact ⟨.tup [.str p.1, oneAt k p.2 0], by rw [knd_one h5, lookS_in h5 hp]; exact wit (h4 p hp), by rw [knd_one b5, e2]; rfl⟩
          | some s2 =>
            rw [e2] at e
            obtain ⟨t, t1, t2⟩ := ih _ _ p.2 s2 (h4 p hp) (b4 _ (lookS_of e2)) (by omega) e
            exact ⟨.tup [.str p.1, t], by rw [knd_one h5, lookS_in h5 hp]; exact t1, by rw [knd_one b5, e2]; exact t2⟩
        | _ => exact ⟨.tup [.str z, u], ek ▸ w, by first | rfl | exact nomatch mb⟩
end Law
namespace Law
open PySem PySem.Spec L2 G
theorem same_int {m : Nat} {i : Int} {u : D} (h : sameD m (.int i) u = true) : u = .int i := by
  have h : leafQ (.int i) u = true := by cases m <;> (cases u <;> exact h)
  cases u <;> simp [leafQ, eqvD, isi] at h
  rw [h]
theorem same_bl {m : Nat} {b : Bool} {u : D} (h : sameD m (.bl b) u = true) : u = .bl b := by
  have h : leafQ (.bl b) u = true := by cases m <;> (cases u <;> exact h)
  cases u <;> simp [leafQ, eqvD, isi] at h
  rw [h]
theorem same_str {m : Nat} {z : Str} {u : D} (h : sameD m (.str z) u = true) : u = .str z := by
  have h : leafQ (.str z) u = true := by cases m <;> (cases u <;> exact h)
  cases u <;> simp [leafQ, eqvD, isi] at h
  rw [h]
theorem same_non {m : Nat} {u : D} (h : sameD m .non u = true) : u = .non := by
  have h : leafQ .non u = true := by cases m <;> (cases u <;> exact h)
  cases u <;> simp [leafQ, eqvD, isi] at h
  rfl
theorem all2_get {f : D → D → Bool} : ∀ {xs ys : List D}, xs.length = ys.length → all2 f xs ys = true → ∀ y ∈ ys, ∃ x ∈ xs, f x y = true
  | [], [], _, _, y, hy => by cases hy
  | x :: xs, y' :: ys, hl, h, y, hy => by
    simp only [all2, Bool.and_eq_true] at h
    rcases List.mem_cons.mp hy with rfl | hy
    · exact ⟨x, List.mem_cons_self, h.1⟩
    · obtain ⟨x', h1, h2⟩ := all2_get (by simpa using hl) h.2 y hy
      exact ⟨x', List.mem_cons_of_mem _ h1, h2⟩
theorem tm_dct {m : Nat} {kvs : List (Key × D)} (h : Tm m (.dct kvs)) : ∃ m', m = m' + 1 ∧ ∀ kv ∈ kvs, Tm m' kv.2 := by
  generalize e : D.dct kvs = d at h
  cases h with
  | @dct m l a1 a2 a3 =>
    cases e
    refine ⟨m, rfl, fun kv hk => ?_⟩
    obtain ⟨q, hq, rfl⟩ := List.mem_map.mp hk
    exact a2 q hq
  | _ => cases e
theorem same_inv : ∀ (n : Nat) (s : Sh) (t u : D) (m : Nat), Gd n s → Tm m t → Tm m u → sameD m t u = true → oneP n s t = true → oneP n s u = true := by
  intro n
  induction n with
  | zero => intro s t u m h; cases h
  | succ n ih =>
    intro s t u m h ht hu hs o
    cases h with
    | num h1 h2 h3 =>
      cases t <;> simp [oneP, isWh] at o
      rw [same_int hs]; simp [oneP, isWh]; exact o
    | tru =>
      cases t <;> simp [oneP, isi] at o
      rw [same_bl hs]; rfl
    | wrd h1 h2 h3 h4 =>
      cases t <;> simp only [oneP] at o <;> try cases o
      rw [same_str hs]; exact o
    | txt h1 =>
      cases t <;> simp only [oneP] at o <;> try cases o
      rw [same_str hs]; exact o
    | @lis _ k s h1 h2 =>
      cases t <;> simp only [oneP] at o <;> try cases o
      rename_i xs
      cases ht with
      | @lst m _ a1 a2 =>
        cases hu with
        | @lst _ ys b1 b2 =>
          simp only [sameD, Bool.and_eq_true, beq_iff_eq] at hs
          simp only [oneP, Bool.and_eq_true, decide_eq_true_eq, List.all_eq_true] at o ⊢
          refine ⟨by omega, fun y hy => ?_⟩
          obtain ⟨x, hx, e⟩ := all2_get hs.1 hs.2 y hy
          exact ih s x y m h1 (a2 x hx) (b2 y hy) e (o.2 x hx)
        | _ => simp [sameD, leafQ, eqvD] at hs
    | @may _ s h1 h2 =>
      by_cases c : t = .non
      · subst c; rw [same_non hs]; rfl
      · rw [may_one c] at o
        by_cases cu : u = .non
        · subst cu; rfl
        · rw [may_one cu]; exact ih s t u m h1 ht hu hs o
    | @rcd _ ps h1 h2 h3 h4 =>
      obtain ⟨kvs, rfl⟩ := dct_of o
      obtain ⟨m', rfl, hkt⟩ := tm_dct ht
      cases u with
      | dct b =>
        obtain ⟨m2, e2, hkb⟩ := tm_dct hu
        cases e2
        simp only [sameD, keysQ, Bool.and_eq_true, beq_iff_eq, List.all_eq_true] at hs
        simp only [oneP, Bool.and_eq_true, beq_iff_eq, List.all_eq_true] at o ⊢
        refine ⟨by omega, fun p hp => ?_⟩
        have op := o.2 p hp
        cases e : lookK kvs (.inr p.1) with
        | none => rw [e] at op; cases op
        | some x =>
          rw [e] at op
          have hx := lookK_mem e
          have q := hs.2 _ hx
          dsimp only at q
          cases e3 : lookK b (.inr p.1) with
          | none => rw [e3] at q; cases q
          | some y =>
            rw [e3] at q
            exact ih p.2 x y m' (h3 p hp) (hkt _ hx) (hkb _ (lookK_mem e3)) q op
      | _ => simp [sameD, leafQ, eqvD] at hs
    | @knd _ ps h1 h2 h3 h4 h5 =>
      obtain ⟨z, x, rfl⟩ := tup_of o
      cases ht with
      | @tup m _ a1 a2 =>
        cases hu with
        | @tup _ ys b1 b2 =>
          simp only [sameD, Bool.and_eq_true, beq_iff_eq, List.length_cons, List.length_nil] at hs
          match ys, hs, b2 with
          | [y1, y2], hs, b2 =>
            simp only [all2, Bool.and_eq_true] at hs
            have e1 := same_str hs.2.1
            subst e1
            rw [knd_one h5] at o ⊢
            cases e : lookS ps z with
            | none => rw [e] at o; cases o
            | some s =>
              rw [e] at o
              exact ih s x y2 m (h4 _ (lookS_of e)) (a2 x (by simp)) (b2 y2 (by simp)) hs.2.2.1 o
        | _ => simp [sameD, leafQ, eqvD] at hs
end Law
/-! Things whose records stand in the shape's order; what is unlike in two of them; changes. -/
namespace Law
open PySem PySem.Spec L2 G
inductive St : Nat → Sh → D → Prop
  | num {n : Nat} {lo hi i : Int} : lo ≤ i → i ≤ hi → St (n + 1) (.num lo hi) (.int i)
  | tru {n : Nat} {b : Bool} : St (n + 1) .tru (.bl b)
  | wrd {n : Nat} {ws : List Str} {z : Str} : z ∈ ws → St (n + 1) (.wrd ws) (.str z)
  | txt {n m : Nat} {z : Str} : z.length ≤ m → letters z = true → St (n + 1) (.txt m) (.str z)
  | lis {n m : Nat} {s : Sh} {xs : List D} : xs.length ≤ m → (∀ x ∈ xs, St n s x) → St (n + 1) (.lis s m) (.lst xs)
  | non {n : Nat} {s : Sh} : St (n + 1) (.may s) .non
  | may {n : Nat} {s : Sh} {t : D} : St n s t → t ≠ .non → St (n + 1) (.may s) t
  | rcd {n : Nat} {ps : List (Str × Sh)} {l : List (Str × D)} : l.map (·.1) = ps.map (·.1) → (∀ x ∈ ps.zip l, St n x.1.2 x.2.2) → St (n + 1) (.rcd ps) (.dct (kd l))
  | knd {n : Nat} {ps : List (Str × Sh)} {z : Str} {s : Sh} {u : D} : (z, s) ∈ ps → St n s u → St (n + 1) (.knd ps) (.tup [.str z, u])
theorem zip_look {n : Nat} : ∀ {ps : List (Str × Sh)} {l : List (Str × D)}, l.map (·.1) = ps.map (·.1) → (ps.map (·.1)).Nodup → ∀ p ∈ ps, ∃ u, look l p.1 = some u ∧ (p, (p.1, u)) ∈ ps.zip l
  | [], _, _, _, p, hp => by cases hp
  | q :: ps, [], h, _, _, _ => by simp at h
  | q :: ps, x :: l, h, nd, p, hp => by
    simp only [List.map_cons, List.cons.injEq] at h
    simp only [List.map_cons, List.nodup_cons] at nd
    obtain ⟨x1, x2⟩ := x
    dsimp only at h
    rcases List.mem_cons.mp hp with rfl | hp
    · exact ⟨x2, by simp [look, h.1], by rw [List.zip_cons_cons, ← h.1]; exact List.mem_cons_self⟩
    · obtain ⟨u, e1, e2⟩ := zip_look (n := n) h.2 nd.2 p hp
      refine ⟨u, ?_, List.mem_cons_of_mem _ e2⟩
      have ne : ¬ x1 = p.1 := fun e => nd.1 (by rw [← h.1, e]; exact List.mem_map_of_mem hp)
      unfold look at e1 ⊢
      simp [ne]
      simpa using e1
theorem St.one : ∀ {n : Nat} {s : Sh} {t : D}, Gd n s → St n s t → oneP n s t = true := by
  intro n
  induction n with
  | zero => intro s t h; cases h
  | succ n ih =>
    intro s t h o
    cases o with
    | num a b => simp [oneP, isWh, a, b]
    | tru => rfl
    | wrd a => simp only [oneP]; exact any_mem.mpr a
    | txt a b => simp [oneP, a, b]
    | lis a b =>
      cases h with
      | lis h1 h2 => simp only [oneP, decide_eq_true a, Bool.true_and, List.all_eq_true]; exact fun x hx => ih h1 (b x hx)
    | non => rfl
    | may a b =>
      cases h with
      | may h1 h2 => rw [may_one b]; exact ih h1 a
    | @rcd _ ps l a b =>
      cases h with
      | rcd h1 h2 h3 h4 =>
        have el : l.length = ps.length := by rw [← List.length_map (f := (·.1)), a, List.length_map]
        simp only [oneP, kd_len, el, beq_self_eq_true, Bool.true_and, List.all_eq_true, look_kd]
        intro p hp
        obtain ⟨u, e1, e2⟩ := zip_look (n := n) a h4 p hp
        rw [e1]; exact ih (h3 p hp) (b _ e2)
    | @knd _ ps z s u a b =>
      cases h with
      | knd h1 h2 h3 h4 h5 =>
        rw [knd_one h5, lookS_in h5 a]
        exact ih (h4 _ a) b
theorem mergeN : ∀ {l acc : List (Key × D)}, ((acc ++ l).map (·.1)).Nodup → mergeD acc l = acc ++ l
  | [], acc, _ => by simp [mergeD]
  | (k, v) :: r, acc, h => by
    have hn : (acc.any fun kv => decide (kv.1 = k)) = false := by
      rw [List.any_eq_false]
      intro x hx
      simp only [decide_eq_true_eq]
      intro e
      rw [List.map_append, List.map_cons, List.nodup_append] at h
      exact h.2.2 _ (List.mem_map.mpr ⟨x, hx, rfl⟩) _ List.mem_cons_self e
    have : mergeD acc ((k, v) :: r) = mergeD (putD acc k v) r := rfl
    rw [this]
    have e : putD acc k v = acc ++ [(k, v)] := by unfold putD; rw [hn]; rfl
    rw [e, mergeN (by simpa using h)]
    simp
theorem pairsK : ∀ l : List (Str × D), pairsOf (l.map fun q => .tup [.str q.1, q.2]) = some (kd l)
  | [] => rfl
  | q :: r => by
    simp only [List.map_cons, pairsOf, pairsK r]
    rfl

/-! ### what is unlike -/
abbrev Tr := List D × D × D
def pre (k : D) (c : Tr) : Tr := (k :: c.1, c.2)
def swp (c : Tr) : Tr := (c.1, c.2.2, c.2.1)
def leafS : Sh → Bool
  | .num _ _ => true
  | .tru => true
  | .wrd _ => true
  | .txt _ => true
  | _ => false
mutual
inductive Un : Nat → Sh → D → D → List Tr → Prop
  | leaf0 {n : Nat} {s : Sh} {a : D} : leafS s = true → St (n + 1) s a → Un (n + 1) s a a []
  | leaf1 {n : Nat} {s : Sh} {a b : D} : leafS s = true → St (n + 1) s a → St (n + 1) s b → a ≠ b → Un (n + 1) s a b [([], a, b)]
  | non {n : Nat} {s : Sh} : Un (n + 1) (.may s) .non .non []
  | nonL {n : Nat} {s : Sh} {b : D} : St n s b → b ≠ .non → Un (n + 1) (.may s) .non b [([], .non, b)]
  | nonR {n : Nat} {s : Sh} {a : D} : St n s a → a ≠ .non → Un (n + 1) (.may s) a .non [([], a, .non)]
  | may {n : Nat} {s : Sh} {a b : D} {L : List Tr} : a ≠ .non → b ≠ .non → Un n s a b L → Un (n + 1) (.may s) a b L
  | lisD {n m : Nat} {s : Sh} {xs ys : List D} : St (n + 1) (.lis s m) (.lst xs) → St (n + 1) (.lis s m) (.lst ys) → xs.length ≠ ys.length → Un (n + 1) (.lis s m) (.lst xs) (.lst ys) [([], .lst xs, .lst ys)]
  | lis {n m : Nat} {s : Sh} {xs ys : List D} {L : List Tr} : xs.length ≤ m → UnL n s 0 xs ys L → Un (n + 1) (.lis s m) (.lst xs) (.lst ys) L
  | rcd {n : Nat} {ps : List (Str × Sh)} {l m : List (Str × D)} {L : List Tr} : UnR n ps l m L → Un (n + 1) (.rcd ps) (.dct (kd l)) (.dct (kd m)) L
  | knd {n : Nat} {ps : List (Str × Sh)} {z : Str} {s : Sh} {u v : D} {L : List Tr} : (z, s) ∈ ps → Un n s u v L → Un (n + 1) (.knd ps) (.tup [.str z, u]) (.tup [.str z, v]) (L.map (pre (.str z)))
  | kndD {n : Nat} {ps : List (Str × Sh)} {z w : Str} {u v : D} : St (n + 1) (.knd ps) (.tup [.str z, u]) → St (n + 1) (.knd ps) (.tup [.str w, v]) → z ≠ w → Un (n + 1) (.knd ps) (.tup [.str z, u]) (.tup [.str w, v]) [([], .tup [.str z, u], .tup [.str w, v])]
inductive UnL : Nat → Sh → Nat → List D → List D → List Tr → Prop
  | nil {n : Nat} {s : Sh} {i : Nat} : UnL n s i [] [] []
  | cons {n : Nat} {s : Sh} {i : Nat} {x y : D} {xs ys : List D} {L M : List Tr} : Un n s x y L → UnL n s (i + 1) xs ys M → UnL n s i (x :: xs) (y :: ys) (L.map (pre (.int (i : Nat))) ++ M)
inductive UnR : Nat → List (Str × Sh) → List (Str × D) → List (Str × D) → List Tr → Prop
  | nil {n : Nat} : UnR n [] [] [] []
  | cons {n : Nat} {p : Str × Sh} {ps : List (Str × Sh)} {x y : D} {l m : List (Str × D)} {L M : List Tr} : Un n p.2 x y L → UnR n ps l m M → UnR n (p :: ps) ((p.1, x) :: l) ((p.1, y) :: m) (L.map (pre (.str p.1)) ++ M)
end
theorem unL_ex {n : Nat} {s : Sh} (ih : ∀ a b, St n s a → St n s b → ∃ L, Un n s a b L) : ∀ (i : Nat) (xs ys : List D), xs.length = ys.length → (∀ x ∈ xs, St n s x) → (∀ y ∈ ys, St n s y) → ∃ L, UnL n s i xs ys L
  | i, [], [], _, _, _ => ⟨[], .nil⟩
  | i, x :: xs, y :: ys, h, hx, hy => by
    obtain ⟨L, h1⟩ := ih x y (hx x List.mem_cons_self) (hy y List.mem_cons_self)
    obtain ⟨M, h2⟩ := unL_ex ih (i + 1) xs ys (by simpa using h) (fun z hz => hx z (List.mem_cons_of_mem _ hz)) (fun z hz => hy z (List.mem_cons_of_mem _ hz))
    exact ⟨_, .cons h1 h2⟩
theorem unR_ex {n : Nat} : ∀ (ps : List (Str × Sh)) (l m : List (Str × D)), (∀ p ∈ ps, ∀ a b, St n p.2 a → St n p.2 b → ∃ L, Un n p.2 a b L) → l.map (·.1) = ps.map (·.1) → m.map (·.1) = ps.map (·.1) → (∀ x ∈ ps.zip l, St n x.1.2 x.2.2) → (∀ x ∈ ps.zip m, St n x.1.2 x.2.2) → ∃ L, UnR n ps l m L
  | [], [], [], _, _, _, _, _ => ⟨[], .nil⟩
  | [], _ :: _, _, _, h, _, _, _ => by simp at h
  | [], _, _ :: _, _, _, h, _, _ => by simp at h
  | _ :: _, [], _, _, h, _, _, _ => by simp at h
  | _ :: _, _, [], _, _, h, _, _ => by simp at h
  | p :: ps, (a1, a) :: l, (b1, b) :: m, ih, ha, hb, za, zb => by
    simp only [List.map_cons, List.cons.injEq] at ha hb
    obtain ⟨rfl, ha⟩ := ha
    obtain ⟨e, hb⟩ := hb
    subst e
    obtain ⟨L, h1⟩ := ih p List.mem_cons_self a b (za (p, (p.1, a)) (by simp)) (zb (p, (p.1, b)) (by simp))
    obtain ⟨M, h2⟩ := unR_ex ps l m (fun q hq => ih q (List.mem_cons_of_mem _ hq)) ha hb (fun x hx => za x (List.mem_cons_of_mem _ hx)) (fun x hx => zb x (List.mem_cons_of_mem _ hx))
    exact ⟨_, .cons h1 h2⟩
theorem un_ex : ∀ {n : Nat} {s : Sh} {a b : D}, Gd n s → St n s a → St n s b → ∃ L, Un n s a b L := by
  intro n
  induction n with
  | zero => intro s a b h; cases h
  | succ n ih =>
    intro s a b h ha hb
    have lf : leafS s = true → ∃ L, Un (n + 1) s a b L := fun hl => by
      by_cases e : a = b
      · subst e; exact ⟨_, .leaf0 hl ha⟩
      · exact ⟨_, .leaf1 hl ha hb e⟩
    cases h with
    | num => exact lf rfl
    | tru => exact lf rfl
    | wrd => exact lf rfl
    | txt => exact lf rfl
    | lis h1 h2 =>
      cases ha with
      | @lis _ _ _ xs a1 a2 =>
        cases hb with
        | @lis _ _ _ ys b1 b2 =>
          by_cases e : xs.length = ys.length
          · obtain ⟨L, h⟩ := unL_ex (fun a b => ih h1) 0 xs ys e a2 b2
            exact ⟨L, .lis a1 h⟩
          · exact ⟨_, .lisD (.lis a1 a2) (.lis b1 b2) e⟩
    | may h1 h2 =>
      cases ha with
      | non =>
        cases hb with
        | non => exact ⟨_, .non⟩
        | may b1 b2 => exact ⟨_, .nonL b1 b2⟩
      | may a1 a2 =>
        cases hb with
        | non => exact ⟨_, .nonR a1 a2⟩
        | may b1 b2 =>
          obtain ⟨L, h⟩ := ih h1 a1 b1
          exact ⟨L, .may a2 b2 h⟩
    | rcd h1 h2 h3 h4 =>
      cases ha with
      | @rcd _ ps l a1 a2 =>
        generalize e : D.dct (kd l) = q at *
        cases hb with
        | @rcd _ _ m b1 b2 =>
          subst e
          obtain ⟨L, h⟩ := unR_ex _ l m (fun p hp a b => ih (h3 p hp)) a1 b1 a2 b2
          exact ⟨L, .rcd h⟩
    | knd h1 h2 h3 h4 h5 =>
      cases ha with
      | @knd _ ps z s1 u a1 a2 =>
        cases hb with
        | @knd _ _ w s2 v b1 b2 =>
          by_cases e : z = w
          · subst e
            have e1 := lookS_in h5 a1
            have e2 := lookS_in h5 b1
            dsimp only at e1 e2
            rw [e1] at e2; cases e2
            obtain ⟨L, h⟩ := ih (h4 _ a1) a2 b2
            exact ⟨_, .knd a1 h⟩
          · exact ⟨_, .kndD (.knd a1 a2) (.knd b1 b2) e⟩
/-! ### changes -/
def chgK (z : Str) (u : D) : List (Str × D) → List (Str × D)
  | [] => []
  | q :: l => (if q.1 = z then (z, u) else q) :: chgK z u l
/-- one change; none: refused -/
inductive Chg : D → List D → D → D → Option D → Prop
  | nilY {t o v : D} : sameD 12 t o = true → Chg t [] o v (some v)
  | nilN {t o v : D} : sameD 12 t o = false → Chg t [] o v none
  | dctY {l : List (Str × D)} {z : Str} {u : D} {p : List D} {o v : D} {r : Option D} : look l z = some u → Chg u p o v r → Chg (.dct (kd l)) (.str z :: p) o v (r.map fun x => .dct (kd (chgK z x l)))
  | dctN {l : List (Str × D)} {z : Str} {p : List D} {o v : D} : look l z = none → Chg (.dct (kd l)) (.str z :: p) o v none
  | dctI {l : List (Str × D)} {i : Int} {p : List D} {o v : D} : Chg (.dct (kd l)) (.int i :: p) o v none
  | lstY {xs : List D} {i : Nat} (h : i < xs.length) {p : List D} {o v : D} {r : Option D} : Chg xs[i] p o v r → Chg (.lst xs) (.int (i : Nat) :: p) o v (r.map fun x => .lst (xs.set i x))
  | lstN {xs : List D} {i : Nat} {p : List D} {o v : D} : xs.length ≤ i → Chg (.lst xs) (.int (i : Nat) :: p) o v none
  | lstS {xs : List D} {z : Str} {p : List D} {o v : D} : Chg (.lst xs) (.str z :: p) o v none
  | tupY {z : Str} {u : D} {p : List D} {o v : D} {r : Option D} : Chg u p o v r → Chg (.tup [.str z, u]) (.str z :: p) o v (r.map fun x => .tup [.str z, x])
  | tupN {z w : Str} {u : D} {p : List D} {o v : D} : w ≠ z → Chg (.tup [.str z, u]) (.str w :: p) o v none
  | tupI {z : Str} {i : Int} {u : D} {p : List D} {o v : D} : Chg (.tup [.str z, u]) (.int i :: p) o v none
  | flat {t k : D} {p : List D} {o v : D} : (t = .non ∨ (∃ b, t = .bl b) ∨ (∃ i, t = .int i) ∨ ∃ z, t = .str z) → (∃ i : Int, k = .int i) ∨ (∃ z, k = .str z) → Chg t (k :: p) o v none
inductive App : D → List Tr → D → Prop
  | nil {t : D} : App t [] t
  | cons {t t' u : D} {c : Tr} {L : List Tr} : Chg t c.1 c.2.1 c.2.2 (some t') → App t' L u → App t (c :: L) u
theorem App.append {t u v : D} {L M : List Tr} (h : App t L u) (g : App u M v) : App t (L ++ M) v := by
  induction h with
  | nil => exact g
  | cons c r ih => exact .cons c (ih g)
theorem App.split : ∀ {L M : List Tr} {t v : D}, App t (L ++ M) v → ∃ u, App t L u ∧ App u M v
  | [], M, t, v, h => ⟨t, .nil, h⟩
  | c :: L, M, t, v, h => by
    cases h with
    | cons h1 h2 =>
      obtain ⟨u, g1, g2⟩ := App.split h2
      exact ⟨u, .cons h1 g1, g2⟩
theorem chgK_mid {z : Str} {u v : D} : ∀ {x y : List (Str × D)}, z ∉ x.map (·.1) → z ∉ y.map (·.1) → chgK z v (x ++ (z, u) :: y) = x ++ (z, v) :: y
  | [], [], _, _ => by simp [chgK]
  | [], q :: y, _, h => by
    simp at h
    have e : chgK z v (q :: y) = q :: y := by
      have : ∀ w : List (Str × D), z ∉ w.map (·.1) → chgK z v w = w := fun w => by
        induction w with
        | nil => intro _; rfl
        | cons a r ih =>
          intro h
          simp only [List.map_cons, List.mem_cons, not_or] at h
          simp only [chgK, ih h.2]
          rw [if_neg fun e => h.1 e.symm]
      exact this _ (by simpa using h)
    rw [List.nil_append, chgK, e]; simp
  | q :: x, y, h, h2 => by
    simp only [List.map_cons, List.mem_cons, not_or] at h
    simp only [List.cons_append, chgK]
    rw [if_neg fun e => h.1 e.symm, chgK_mid h.2 h2]
theorem look_mid {z : Str} {u : D} : ∀ {x y : List (Str × D)}, z ∉ x.map (·.1) → look (x ++ (z, u) :: y) z = some u
  | [], y, _ => by simp [look]
  | q :: x, y, h => by
    simp only [List.map_cons, List.mem_cons, not_or] at h
    have := look_mid (u := u) (y := y) h.2
    unfold look at this ⊢
    rw [List.cons_append, List.find?_cons]
    simp only [decide_eq_false (show ¬ q.1 = z from fun e => h.1 e.symm)]
    exact this
theorem app_dct {z : Str} {x y : List (Str × D)} (h1 : z ∉ x.map (·.1)) (h2 : z ∉ y.map (·.1)) : ∀ {L : List Tr} {u v : D}, App u L v → App (.dct (kd (x ++ (z, u) :: y))) (L.map (pre (.str z))) (.dct (kd (x ++ (z, v) :: y)))
  | [], u, v, h => by cases h; exact .nil
  | c :: L, u, v, h => by
    cases h with
    | @cons _ t' _ _ _ g1 g2 =>
      refine .cons (t' := .dct (kd (x ++ (z, t') :: y))) ?_ (app_dct h1 h2 g2)
      have := Chg.dctY (look_mid (u := u) (y := y) h1) g1
      rw [Option.map_some, chgK_mid h1 h2] at this
      exact this
theorem app_lst {x y : List D} : ∀ {L : List Tr} {u v : D}, App u L v → App (.lst (x ++ u :: y)) (L.map (pre (.int (x.length : Nat)))) (.lst (x ++ v :: y))
  | [], u, v, h => by cases h; exact .nil
  | c :: L, u, v, h => by
    cases h with
    | @cons _ t' _ _ _ g1 g2 =>
      refine .cons (t' := .lst (x ++ t' :: y)) ?_ (app_lst g2)
      have hl : x.length < (x ++ u :: y).length := by simp
      have e : (x ++ u :: y)[x.length] = u := by simp
      have := Chg.lstY (xs := x ++ u :: y) hl (p := c.1) (o := c.2.1) (v := c.2.2) (r := some t') (by rw [e]; exact g1)
      simpa [pre] using this
theorem app_tup {z : Str} : ∀ {L : List Tr} {u v : D}, App u L v → App (.tup [.str z, u]) (L.map (pre (.str z))) (.tup [.str z, v])
  | [], u, v, h => by cases h; exact .nil
  | c :: L, u, v, h => by
    cases h with
    | cons g1 g2 => exact .cons (Chg.tupY g1) (app_tup g2)
theorem pre_swp (k : D) (L : List Tr) : ((L.map (pre k)).map swp).reverse = ((L.map swp).reverse).map (pre k) := by
  simp [pre, swp, Function.comp_def]
/-- there and back -/
def Bth (a b : D) (L : List Tr) : Prop := App a L b ∧ App b (L.map swp).reverse a
theorem both_diff {a b : D} (ha : sameD 12 a a = true) (hb : sameD 12 b b = true) : Bth a b [([], a, b)] := ⟨.cons (.nilY ha) .nil, .cons (.nilY hb) .nil⟩
theorem both_L {n : Nat} {s : Sh} (ih : ∀ {a b L}, Un n s a b L → Bth a b L) : ∀ {i : Nat} {xs ys : List D} {L : List Tr}, UnL n s i xs ys L → ∀ x : List D, x.length = i → App (.lst (x ++ xs)) L (.lst (x ++ ys)) ∧ App (.lst (x ++ ys)) (L.map swp).reverse (.lst (x ++ xs))
  | _, _, _, _, .nil, x, _ => ⟨.nil, .nil⟩
  | i, _, _, _, .cons (x := a) (y := b) (xs := xs) (ys := ys) (L := L) (M := M) h r, x, hx => by
    obtain ⟨h1, h2⟩ := ih h
    have ra := both_L ih r (x ++ [b]) (by simp [hx])
    simp only [List.append_assoc, List.singleton_append] at ra
    subst hx
    refine ⟨(app_lst h1).append ra.1, ?_⟩
    rw [List.map_append, List.reverse_append, pre_swp]
    exact ra.2.append (app_lst h2)
theorem unR_names {n : Nat} : ∀ {ps : List (Str × Sh)} {l m : List (Str × D)} {L : List Tr}, UnR n ps l m L → l.map (·.1) = ps.map (·.1) ∧ m.map (·.1) = ps.map (·.1)
  | _, _, _, _, .nil => ⟨rfl, rfl⟩
  | _, _, _, _, .cons _ r => by
    obtain ⟨a, b⟩ := unR_names r
    exact ⟨by simp [a], by simp [b]⟩
theorem both_R {n : Nat} : ∀ {ps : List (Str × Sh)} {l m : List (Str × D)} {L : List Tr}, UnR n ps l m L → (∀ p ∈ ps, ∀ {a b L}, Un n p.2 a b L → Bth a b L) → ∀ x : List (Str × D), (x.map (·.1) ++ ps.map (·.1)).Nodup → App (.dct (kd (x ++ l))) L (.dct (kd (x ++ m))) ∧ App (.dct (kd (x ++ m))) (L.map swp).reverse (.dct (kd (x ++ l)))
  | _, _, _, _, .nil, _, x, _ => ⟨.nil, .nil⟩
  | _, _, _, _, .cons (p := p) (ps := ps) (x := a) (y := b) (l := l) (m := m) (L := L) (M := M) h r, ih, x, nd => by
    obtain ⟨h1, h2⟩ := ih p List.mem_cons_self h
    obtain ⟨n1, n2⟩ := unR_names r
    have ra := both_R r (fun q hq => ih q (List.mem_cons_of_mem _ hq)) (x ++ [(p.1, b)]) (by simpa using nd)
    simp only [List.append_assoc, List.singleton_append] at ra
    rw [List.map_cons, List.nodup_append] at nd
    have e1 : p.1 ∉ x.map (·.1) := fun q => nd.2.2 p.1 q p.1 List.mem_cons_self rfl
    have e2 : p.1 ∉ ps.map (·.1) := (List.nodup_cons.mp nd.2.1).1
    refine ⟨(app_dct e1 (by rw [n1]; exact e2) h1).append ra.1, ?_⟩
    rw [List.map_append, List.reverse_append, pre_swp]
    exact ra.2.append (app_dct e1 (by rw [n1]; exact e2) h2)
theorem same_self {n : Nat} {s : Sh} {t : D} (h : Gd n s) (o : oneP n s t = true) (hn : n ≤ 12) : sameD 12 t t = true := by rw [same_plc h o o hn]; simp
theorem un_both : ∀ {n : Nat} {s : Sh} {a b : D} {L : List Tr}, Gd n s → n ≤ 12 → Un n s a b L → Bth a b L := by
  intro n
  induction n with
  | zero => intro s a b L h; cases h
  | succ n ih =>
    intro s a b L h hn u
    have df : ∀ {a b}, St (n + 1) s a → St (n + 1) s b → Bth a b [([], a, b)] := fun ha hb => both_diff (same_self h (ha.one h) hn) (same_self h (hb.one h) hn)
    cases u with
    | leaf0 a1 a2 => exact ⟨.nil, .nil⟩
    | leaf1 a1 a2 a3 a4 => exact df a2 a3
    | non => exact ⟨.nil, .nil⟩
    | nonL a1 a2 => exact df .non (.may a1 a2)
    | nonR a1 a2 => exact df (.may a1 a2) .non
    | may a1 a2 a3 =>
      cases h with
      | may h1 h2 => exact ih h1 (by omega) a3
    | lisD a1 a2 a3 => exact df a1 a2
    | lis a1 a2 =>
      cases h with
      | lis h1 h2 => exact both_L (fun u => ih h1 (by omega) u) a2 [] rfl
    | rcd a1 =>
      cases h with
      | rcd h1 h2 h3 h4 => exact both_R a1 (fun p hp _ _ _ u => ih (h3 p hp) (by omega) u) [] (by simpa using h4)
    | knd a1 a2 =>
      cases h with
      | knd h1 h2 h3 h4 h5 =>
        obtain ⟨g1, g2⟩ := ih (h4 _ a1) (by omega) a2
        refine ⟨app_tup g1, ?_⟩
        rw [pre_swp]
        exact app_tup g2
    | kndD a1 a2 a3 => exact df a1 a2
end Law
namespace Law
open PySem PySem.Spec L2 G
/-- a new part that fits at a path -/
inductive Tc : Nat → Sh → List D → D → Prop
  | nil {n : Nat} {s : Sh} {v : D} : oneP n s v = true → Tc n s [] v
  | may {n : Nat} {s : Sh} {p : List D} {v : D} : Tc n s p v → Tc (n + 1) (.may s) p v
  | dct {n : Nat} {ps : List (Str × Sh)} {z : Str} {s : Sh} {p : List D} {v : D} : (z, s) ∈ ps → Tc n s p v → Tc (n + 1) (.rcd ps) (.str z :: p) v
  | lst {n m : Nat} {s : Sh} {i : Int} {p : List D} {v : D} : Tc n s p v → Tc (n + 1) (.lis s m) (.int i :: p) v
  | knd {n : Nat} {ps : List (Str × Sh)} {z : Str} {s : Sh} {p : List D} {v : D} : (z, s) ∈ ps → Tc n s p v → Tc (n + 1) (.knd ps) (.str z :: p) v
theorem look_chgK {z w : Str} {x : D} : ∀ {l : List (Str × D)}, look (chgK z x l) w = if w = z then (look l z).map (fun _ => x) else look l w
  | [] => by simp [chgK, look]
  | q :: l => by
    have ih := look_chgK (z := z) (w := w) (x := x) (l := l)
    unfold look at ih ⊢
    rw [chgK]
    by_cases e : q.1 = z
    · rw [if_pos e]
      by_cases e2 : w = z
      · subst e2; simp [e]
      · have e3 : ¬ z = w := fun h => e2 h.symm
        have e4 : ¬ q.1 = w := fun h => e3 (e ▸ h)
        rw [if_neg e2] at ih ⊢
        simp [e3, e4, ih]
    · rw [if_neg e]
      by_cases e2 : w = z
      · subst e2; rw [if_pos rfl] at ih ⊢; simp [e, ih]
      · rw [if_neg e2] at ih ⊢
        by_cases e4 : q.1 = w
        · simp [e4]
        · simp [e4, ih]
theorem chgK_len {z : Str} {x : D} : ∀ {l : List (Str × D)}, (chgK z x l).length = l.length
  | [] => rfl
  | q :: l => by simp [chgK, chgK_len (l := l)]
theorem tc_keep : ∀ {n : Nat} {s : Sh} {t t' v o : D} {p : List D}, Gd n s → oneP n s t = true → Tc n s p v → Chg t p o v (some t') → oneP n s t' = true := by
  intro n
  induction n with
  | zero => intro s t t' v o p h; cases h
  | succ n ih =>
    intro s t t' v o p h ho tc c
    cases tc with
    | nil hv => cases c; exact hv
    | @may _ s _ _ tc =>
      cases h with
      | may h1 h2 =>
        by_cases e' : t' = .non
        · subst e'; rfl
        rw [may_one e']
        by_cases e : t = .non
        · subst e
          cases c with
          | nilY => 
            cases tc with
            | nil hv => exact hv
            | may tc => simp [isMay] at h2
        · rw [may_one e] at ho
          exact ih h1 ho tc c
    | @dct _ ps z s p _ hm tc =>
      cases h with
      | rcd h1 h2 h3 h4 =>
        generalize hq : D.str z :: p = q at c
        generalize hr : some t' = r at c
        cases c with
        | @dctY l z' u p' _ _ r lk c =>
          cases hq
          cases r with
          | none => cases hr
          | some x =>
            simp at hr
            subst hr
            simp only [oneP, Bool.and_eq_true, beq_iff_eq, List.all_eq_true, look_kd, kd_len, chgK_len] at ho ⊢
            refine ⟨ho.1, fun q hq => ?_⟩
            have oq := ho.2 q hq
            rw [look_chgK]
            by_cases e : q.1 = z
            · rw [if_pos e, lk]
              have e1 := lookS_in h4 hq
              have e2 := lookS_in h4 hm
              dsimp only at e2
              rw [e, e2] at e1
              cases e1
              rw [e, lk] at oq
              exact ih (h3 (z, q.2) hm) oq tc c
            · rw [if_neg e]; exact oq
        | _ => first | (cases hq; done) | (cases hr; done) | (simp [oneP] at ho; done) | skip
        all_goals first | (cases hq; done) | (cases hr; done) | (simp [oneP] at ho; done)
    | @lst _ m s i p _ tc =>
      cases h with
      | lis h1 h2 =>
        generalize hq : D.int i :: p = q at c
        generalize hr : some t' = r at c
        cases c with
        | @lstY xs k hk p' _ _ r c =>
          cases hq
          cases r with
          | none => cases hr
          | some x =>
            simp at hr
            subst hr
            simp only [oneP, Bool.and_eq_true, decide_eq_true_eq, List.all_eq_true, List.length_set] at ho ⊢
            refine ⟨ho.1, fun y hy => ?_⟩
            rcases List.mem_or_eq_of_mem_set hy with hy | rfl
            · exact ho.2 y hy
            · exact ih h1 (ho.2 _ (List.getElem_mem hk)) tc c
        | _ => first | (cases hq; done) | (cases hr; done) | (simp [oneP] at ho; done) | skip
        all_goals first | (cases hq; done) | (cases hr; done) | (simp [oneP] at ho; done)
    | @knd _ ps z s p _ hm tc =>
      cases h with
      | knd h1 h2 h3 h4 h5 =>
        generalize hq : D.str z :: p = q at c
        generalize hr : some t' = r at c
        cases c with
        | @tupY z' u p' _ _ r c =>
          cases hq
          cases r with
          | none => cases hr
          | some x =>
            simp at hr
            subst hr
            rw [knd_one h5, lookS_in h5 hm] at ho ⊢
            exact ih (h4 _ hm) ho tc c
        | _ => first | (cases hq; done) | (cases hr; done) | (simp [oneP] at ho; done) | skip
        all_goals first | (cases hq; done) | (cases hr; done) | (simp [oneP] at ho; done)
theorem tc_app {n : Nat} {s : Sh} (h : Gd n s) : ∀ {L : List Tr} {t u : D}, (∀ c ∈ L, Tc n s c.1 c.2.2) → oneP n s t = true → App t L u → oneP n s u = true
  | [], t, u, _, ho, a => by cases a; exact ho
  | c :: L, t, u, hc, ho, a => by
    cases a with
    | cons g1 g2 => exact tc_app h (fun d hd => hc d (List.mem_cons_of_mem _ hd)) (tc_keep h ho (hc c List.mem_cons_self) g1) g2
/-- both parts of a change fit -/
def TcB (n : Nat) (s : Sh) (c : Tr) : Prop := Tc n s c.1 c.2.1 ∧ Tc n s c.1 c.2.2
theorem tcL {n m : Nat} {s : Sh} (ih : ∀ {a b L}, Un n s a b L → ∀ c ∈ L, TcB n s c) : ∀ {i : Nat} {xs ys : List D} {L : List Tr}, UnL n s i xs ys L → ∀ c ∈ L, TcB (n + 1) (.lis s m) c
  | _, _, _, _, .nil, c, hc => by cases hc
  | _, _, _, _, .cons h r, c, hc => by
    rcases List.mem_append.mp hc with hc | hc
    · obtain ⟨d, hd, rfl⟩ := List.mem_map.mp hc
      exact ⟨.lst (ih h d hd).1, .lst (ih h d hd).2⟩
    · exact tcL ih r c hc
theorem tcR {n : Nat} {qs : List (Str × Sh)} : ∀ {ps : List (Str × Sh)} {l m : List (Str × D)} {L : List Tr}, (∀ p ∈ ps, p ∈ qs) → (∀ p ∈ ps, ∀ {a b L}, Un n p.2 a b L → ∀ c ∈ L, TcB n p.2 c) → UnR n ps l m L → ∀ c ∈ L, TcB (n + 1) (.rcd qs) c
  | _, _, _, _, _, _, .nil, c, hc => by cases hc
  | _, _, _, _, hq, ih, .cons h r, c, hc => by
    rcases List.mem_append.mp hc with hc | hc
    · obtain ⟨d, hd, rfl⟩ := List.mem_map.mp hc
      exact ⟨.dct (hq _ List.mem_cons_self) (ih _ List.mem_cons_self h d hd).1, .dct (hq _ List.mem_cons_self) (ih _ List.mem_cons_self h d hd).2⟩
    · exact tcR (fun p hp => hq p (List.mem_cons_of_mem _ hp)) (fun p hp => ih p (List.mem_cons_of_mem _ hp)) r c hc
theorem un_tc : ∀ {n : Nat} {s : Sh} {a b : D} {L : List Tr}, Gd n s → Un n s a b L → ∀ c ∈ L, TcB n s c := by
  intro n
  induction n with
  | zero => intro s a b L h; cases h
  | succ n ih =>
    intro s a b L h u c hc
    have df : ∀ {a b : D}, St (n + 1) s a → St (n + 1) s b → c ∈ [(([], a, b) : Tr)] → TcB (n + 1) s c := fun ha hb hc => by
      simp at hc; subst hc; exact ⟨.nil (ha.one h), .nil (hb.one h)⟩
    cases u with
    | leaf0 => cases hc
    | leaf1 a1 a2 a3 a4 => exact df a2 a3 hc
    | non => cases hc
    | nonL a1 a2 => exact df .non (.may a1 a2) hc
    | nonR a1 a2 => exact df (.may a1 a2) .non hc
    | may a1 a2 a3 =>
      cases h with
      | may h1 h2 => exact ⟨.may (ih h1 a3 c hc).1, .may (ih h1 a3 c hc).2⟩
    | lisD a1 a2 a3 => exact df a1 a2 hc
    | lis a1 a2 =>
      cases h with
      | lis h1 h2 => exact tcL (fun u => ih h1 u) a2 c hc
    | rcd a1 =>
      cases h with
      | rcd h1 h2 h3 h4 => exact tcR (fun p hp => hp) (fun p hp _ _ _ u => ih (h3 p hp) u) a1 c hc
    | knd a1 a2 =>
      cases h with
      | knd h1 h2 h3 h4 h5 =>
        obtain ⟨d, hd, rfl⟩ := List.mem_map.mp hc
        exact ⟨.knd a1 (ih (h4 _ a1) a2 d hd).1, .knd a1 (ih (h4 _ a1) a2 d hd).2⟩
    | kndD a1 a2 a3 => exact df a1 a2 hc
def isKey : D → Bool
  | .int _ => true
  | .str _ => true
  | _ => false
theorem tc_keys {n : Nat} {s : Sh} {p : List D} {v : D} (t : Tc n s p v) : p.all isKey = true := by
  induction t with
  | nil => rfl
  | may t ih => exact ih
  | dct hm t ih => simpa [isKey] using ih
  | lst t ih => simpa [isKey] using ih
  | knd hm t ih => simpa [isKey] using ih
theorem tc_one {n : Nat} {s : Sh} {p : List D} {v : D} (t : Tc n s p v) : Gd n s → p.length ≤ n ∧ ∃ n' s', n' ≤ n ∧ Gd n' s' ∧ oneP n' s' v = true := by
  induction t with
  | nil h => intro g; exact ⟨by simp, _, _, Nat.le_refl _, g, h⟩
  | may t ih =>
    intro g
    cases g with
    | may h1 h2 => obtain ⟨a, n', s', b, c⟩ := ih h1; exact ⟨by omega, n', s', by omega, c⟩
  | dct hm t ih =>
    intro g
    cases g with
    | rcd h1 h2 h3 h4 => obtain ⟨a, n', s', b, c⟩ := ih (h3 _ hm); exact ⟨by simp; omega, n', s', by omega, c⟩
  | lst t ih =>
    intro g
    cases g with
    | lis h1 h2 => obtain ⟨a, n', s', b, c⟩ := ih h1; exact ⟨by simp; omega, n', s', by omega, c⟩
  | knd hm t ih =>
    intro g
    cases g with
    | knd h1 h2 h3 h4 h5 => obtain ⟨a, n', s', b, c⟩ := ih (h4 _ hm); exact ⟨by simp; omega, n', s', by omega, c⟩
theorem unL_len {n : Nat} {s : Sh} (ih : ∀ {a b L}, Un n s a b L → L.length ≤ 4 ^ n) : ∀ {i : Nat} {xs ys : List D} {L : List Tr}, UnL n s i xs ys L → L.length ≤ xs.length * 4 ^ n
  | _, _, _, _, .nil => by simp
  | _, _, _, _, .cons h r => by
    have a := ih h
    have b := unL_len ih r
    simp only [List.length_append, List.length_map, List.length_cons, Nat.add_mul]; omega
theorem unR_len {n : Nat} : ∀ {ps : List (Str × Sh)} {l m : List (Str × D)} {L : List Tr}, (∀ p ∈ ps, ∀ {a b L}, Un n p.2 a b L → L.length ≤ 4 ^ n) → UnR n ps l m L → L.length ≤ ps.length * 4 ^ n
  | _, _, _, _, _, .nil => by simp
  | _, _, _, _, ih, .cons h r => by
    have a := ih _ List.mem_cons_self h
    have b := unR_len (fun p hp => ih p (List.mem_cons_of_mem _ hp)) r
    simp only [List.length_append, List.length_map, List.length_cons, Nat.add_mul]; omega
theorem un_len : ∀ {n : Nat} {s : Sh} {a b : D} {L : List Tr}, Gd n s → Un n s a b L → L.length ≤ 4 ^ n := by
  intro n
  induction n with
  | zero => intro s a b L h; cases h
  | succ n ih =>
    intro s a b L h u
    have one : 1 ≤ 4 ^ (n + 1) := Nat.one_le_pow _ _ (by omega)
    have up : 4 ^ n ≤ 4 ^ (n + 1) := Nat.pow_le_pow_right (by omega) (by omega)
    have e : 4 ^ (n + 1) = 4 * 4 ^ n := by rw [Nat.pow_succ, Nat.mul_comm]
    cases u with
    | leaf0 => simp
    | leaf1 => simpa using one
    | non => simp
    | nonL => simpa using one
    | nonR => simpa using one
    | may a1 a2 a3 =>
      cases h with
      | may h1 h2 => exact Nat.le_trans (ih h1 a3) up
    | lisD => simpa using one
    | lis a1 a2 =>
      cases h with
      | lis h1 h2 =>
        refine Nat.le_trans (unL_len (fun u => ih h1 u) a2) ?_
        rw [e]; exact Nat.mul_le_mul_right _ (by omega)
    | rcd a1 =>
      cases h with
      | rcd h1 h2 h3 h4 =>
        refine Nat.le_trans (unR_len (fun p hp _ _ _ u => ih (h3 p hp) u) a1) ?_
        rw [e]; exact Nat.mul_le_mul_right _ h1
    | knd a1 a2 =>
      cases h with
      | knd h1 h2 h3 h4 h5 => rw [List.length_map]; exact Nat.le_trans (ih (h4 _ a1) a2) up
    | kndD => simpa using one
/-! ### what can't be done -/
def flatT (t : D) : Prop := t = .non ∨ (∃ b, t = .bl b) ∨ (∃ i, t = .int i) ∨ ∃ z, t = .str z
theorem one_kind : ∀ {n : Nat} {s : Sh} {t : D}, Gd n s → oneP n s t = true → flatT t ∨ (∃ xs, t = .lst xs ∧ xs.length ≤ 4 ∧ ∀ x ∈ xs, ∃ n' s', n' < n ∧ Gd n' s' ∧ oneP n' s' x = true) ∨ (∃ l, t = .dct (kd l) ∧ (l.map (·.1)).Nodup ∧ l.length ≤ 4 ∧ (∀ q ∈ l, okW q.1) ∧ ∀ q ∈ l, ∃ n' s', n' < n ∧ Gd n' s' ∧ oneP n' s' q.2 = true) ∨ ∃ z u, t = .tup [.str z, u] ∧ okW z ∧ ∃ n' s', n' < n ∧ Gd n' s' ∧ oneP n' s' u = true := by
  intro n
  induction n with
  | zero => intro s t h; cases h
  | succ n ih =>
    intro s t h o
    cases h with
    | num => cases t <;> simp [oneP, isWh] at o; exact .inl (.inr (.inr (.inl ⟨_, rfl⟩)))
    | tru => cases t <;> simp [oneP, isi] at o; exact .inl (.inr (.inl ⟨_, rfl⟩))
    | wrd => cases t <;> simp only [oneP] at o <;> try cases o
             exact .inl (.inr (.inr (.inr ⟨_, rfl⟩)))
    | txt => cases t <;> simp only [oneP] at o <;> try cases o
             exact .inl (.inr (.inr (.inr ⟨_, rfl⟩)))
    | @lis _ m s h1 h2 =>
      cases t <;> simp only [oneP] at o <;> try cases o
      rename_i xs
      simp only [Bool.and_eq_true, decide_eq_true_eq, List.all_eq_true] at o
      exact .inr (.inl ⟨xs, rfl, by omega, fun x hx => ⟨n, s, by omega, h1, o.2 x hx⟩⟩)
    | @may _ s h1 h2 =>
      by_cases e : t = .non
      · exact .inl (.inl e)
      · rw [may_one e] at o
        rcases ih h1 o with h | ⟨xs, e1, e2, e3⟩ | ⟨l, e1, e2, e3, e4, e5⟩ | ⟨z, u, e1, e2, n', s', e3, e4⟩
        · exact .inl h
        · exact .inr (.inl ⟨xs, e1, e2, fun x hx => by obtain ⟨n', s', a, b⟩ := e3 x hx; exact ⟨n', s', by omega, b⟩⟩)
        · exact .inr (.inr (.inl ⟨l, e1, e2, e3, e4, fun x hx => by obtain ⟨n', s', a, b⟩ := e5 x hx; exact ⟨n', s', by omega, b⟩⟩))
        · exact .inr (.inr (.inr ⟨z, u, e1, e2, n', s', by omega, e4⟩))
    | @rcd _ ps h1 h2 h3 h4 =>
      obtain ⟨kvs, rfl⟩ := dct_of o
      obtain ⟨l, rfl, nd, pm, hp⟩ := rec_kd h4 o
      have hl : l.length ≤ 4 := by have := pm.length_eq; simp at this; omega
      refine .inr (.inr (.inl ⟨l, rfl, nd, hl, fun q hq => ?_, fun q hq => ?_⟩))
      · obtain ⟨p, a, b⟩ := List.mem_map.mp (pm.mem_iff.mp (List.mem_map.mpr ⟨q, hq, rfl⟩))
        rw [← b]; exact h2 p a
      · obtain ⟨p, a, b⟩ := List.mem_map.mp (pm.mem_iff.mp (List.mem_map.mpr ⟨q, hq, rfl⟩))
        obtain ⟨u, e1, e2⟩ := hp p a
        rw [b, look_in nd hq] at e1
        cases e1
        exact ⟨n, p.2, by omega, h3 p a, e2⟩
    | @knd _ ps h1 h2 h3 h4 h5 =>
      obtain ⟨z, u, rfl⟩ := tup_of o
      rw [knd_one h5] at o
      cases e : lookS ps z with
      | none => rw [e] at o; cases o
      | some s =>
        rw [e] at o
        exact .inr (.inr (.inr ⟨z, u, rfl, h3 _ (lookS_of e), n, s, by omega, h4 _ (lookS_of e), o⟩))
theorem noZZ {z : Str} (h : okW z) : ("ZZ" : Str) ≠ z := by
  rintro rfl
  exact absurd (h.2.2 90 (by decide)) (by decide)
theorem bad_zz {n : Nat} {s : Sh} {t o v : D} (h : Gd n s) (ho : oneP n s t = true) : Chg t [.str "ZZ", .str "ZZ"] o v none := by
  rcases one_kind h ho with h | ⟨xs, rfl, e2, e3⟩ | ⟨l, rfl, e2, e3, e4, e5⟩ | ⟨z, u, rfl, e2, _⟩
  · exact .flat h (.inr ⟨_, rfl⟩)
  · exact .lstS
  · refine .dctN ?_
    cases e : look l "ZZ" with
    | none => rfl
    | some u => exact absurd rfl (noZZ (e4 _ (look_mem e)))
  · exact .tupN (noZZ e2)
theorem bad_9 {n : Nat} {s : Sh} {t o v : D} (h : Gd n s) (ho : oneP n s t = true) : Chg t [.int 9] o v none := by
  rcases one_kind h ho with h | ⟨xs, rfl, e2, e3⟩ | ⟨l, rfl, e2, e3, e4, e5⟩ | ⟨z, u, rfl, e2, _⟩
  · exact .flat h (.inl ⟨_, rfl⟩)
  · exact Chg.lstN (i := 9) (by omega)
  · exact .dctI
  · exact .tupI
theorem bad_0 {o v : D} : ∀ (k n : Nat) {s : Sh} {t : D}, Gd n s → oneP n s t = true → n ≤ k → Chg t (List.replicate k (.int 0)) o v none
  | 0, n, s, t, h, _, hn => by
    have : n = 0 := by omega
    subst this; cases h
  | k + 1, n, s, t, h, ho, hn => by
    rw [List.replicate_succ]
    rcases one_kind h ho with h | ⟨xs, rfl, e2, e3⟩ | ⟨l, rfl, e2, e3, e4, e5⟩ | ⟨z, u, rfl, e2, _⟩
    · exact .flat h (.inl ⟨_, rfl⟩)
    · cases xs with
      | nil => exact Chg.lstN (i := 0) (by simp)
      | cons x xs =>
        obtain ⟨n', s', a, b, c⟩ := e3 x List.mem_cons_self
        exact Chg.lstY (xs := x :: xs) (i := 0) (by simp) (bad_0 k n' b c (by omega))
    · exact .dctI
    · exact .tupI
theorem bad_00 {n : Nat} {s : Sh} {t : D} (h : Gd n s) (ho : oneP n s t = true) : sameD 12 t (.tup [.int 0, .int 0]) = false := by
  rcases one_kind h ho with (rfl | ⟨b, rfl⟩ | ⟨i, rfl⟩ | ⟨z, rfl⟩) | ⟨xs, rfl, e2, e3⟩ | ⟨l, rfl, e2, e3, e4, e5⟩ | ⟨z, u, rfl, e2, _⟩
  all_goals first
    | (simp [sameD, leafQ, eqvD]; done)
    | skip
  simp [sameD, all2, leafQ, eqvD]
theorem out_00 {n : Nat} {s : Sh} (h : Gd n s) (x y : D) (i : Int) : oneP n s (.tup [.int i, y]) = false := by
  cases e : oneP n s (.tup [.int i, y]) with
  | false => rfl
  | true =>
    rcases one_kind h e with (e | ⟨b, e⟩ | ⟨i, e⟩ | ⟨z, e⟩) | ⟨xs, e, _⟩ | ⟨l, e, _⟩ | ⟨z, u, e, _⟩ <;> cases e
end Law
/-! Levels of shapes; parts of records by paths. -/
namespace Law
open PySem PySem.Spec L2 G
mutual
def lv : Sh → Nat
  | .num _ _ => 1
  | .tru => 1
  | .wrd _ => 1
  | .txt _ => 1
  | .lis s _ => 1 + lv s
  | .may s => 1 + lv s
  | .rcd ps => 1 + lvs ps
  | .knd ps => 1 + lvs ps
def lvs : List (Str × Sh) → Nat
  | [] => 0
  | p :: r => max (lvp p) (lvs r)
def lvp : Str × Sh → Nat
  | (_, s) => lv s
end
@[simp] theorem lvp_e (p : Str × Sh) : lvp p = lv p.2 := by obtain ⟨n, s⟩ := p; simp [lvp]
theorem lvs_le {d : Nat} : ∀ {ps : List (Str × Sh)}, lvs ps ≤ d ↔ ∀ p ∈ ps, lv p.2 ≤ d
  | [] => by simp [lvs]
  | p :: r => by
    have ih := lvs_le (d := d) (ps := r)
    simp only [lvs, lvp_e, List.mem_cons, forall_eq_or_imp]
    rw [← ih]
    omega
theorem lv_pos (s : Sh) : 1 ≤ lv s := by cases s <;> simp [lv]
theorem Gd.lv : ∀ {m : Nat} {s : Sh}, Gd m s → lv s ≤ m := by
  intro m
  induction m with
  | zero => intro s h; cases h
  | succ m ih =>
    intro s h
    cases h with
    | lis h1 h2 => have := ih h1; simp only [Law.lv]; omega
    | may h1 h2 => have := ih h1; simp only [Law.lv]; omega
    | rcd h1 h2 h3 h4 => have := lvs_le.mpr fun p hp => ih (h3 p hp); simp only [Law.lv]; omega
    | knd h1 h2 h3 h4 h5 => have := lvs_le.mpr fun p hp => ih (h4 p hp); simp only [Law.lv]; omega
    | _ => simp only [Law.lv]; omega
theorem Gd.of_lv : ∀ {m : Nat} {s : Sh} {n : Nat}, Gd m s → Law.lv s ≤ n → Gd n s := by
  intro m
  induction m with
  | zero => intro s n h; cases h
  | succ m ih =>
    intro s n h hn
    cases n with
    | zero => have := lv_pos s; omega
    | succ n =>
      cases h with
      | num a b c => exact .num a b c
      | tru => exact .tru
      | wrd a b c d => exact .wrd a b c d
      | txt a => exact .txt a
      | lis h1 h2 => exact .lis (ih h1 (by simp only [Law.lv] at hn; omega)) h2
      | may h1 h2 => exact .may (ih h1 (by simp only [Law.lv] at hn; omega)) h2
      | @rcd _ ps h1 h2 h3 h4 =>
        have : lvs ps ≤ n := by simp only [Law.lv] at hn; omega
        exact .rcd h1 h2 (fun p hp => ih (h3 p hp) (lvs_le.mp this p hp)) h4
      | @knd _ ps h1 h2 h3 h4 h5 =>
        have : lvs ps ≤ n := by simp only [Law.lv] at hn; omega
        exact .knd h1 h2 h3 (fun p hp => ih (h4 p hp) (lvs_le.mp this p hp)) h5
theorem Gd.le {n m : Nat} {s : Sh} (h : Gd n s) (hm : n ≤ m) : Gd m s := h.of_lv (Nat.le_trans h.lv hm)
/-! ### fields -/
inductive Sub : Nat → Sh → List Str → Nat → Sh → Prop
  | nil {n : Nat} {s : Sh} : Sub n s [] n s
  | cons {n n' : Nat} {ps : List (Str × Sh)} {z : Str} {s s' : Sh} {p : List Str} : (z, s) ∈ ps → Sub n s p n' s' → Sub (n + 1) (.rcd ps) (z :: p) n' s'
theorem Sub.gd {n n' : Nat} {s s' : Sh} {p : List Str} (u : Sub n s p n' s') : Gd n s → Gd n' s' ∧ n' ≤ n ∧ p.length ≤ n - n' ∧ ∀ z ∈ p, okW z := by
  induction u with
  | nil => intro h; exact ⟨h, Nat.le_refl _, by simp, by simp⟩
  | cons hm u ih =>
    intro h
    cases h with
    | rcd h1 h2 h3 h4 =>
      obtain ⟨a, b, c, d⟩ := ih (h3 _ hm)
      refine ⟨a, by omega, by simp; omega, fun z hz => ?_⟩
      rcases List.mem_cons.mp hz with rfl | hz
      · exact h2 _ hm
      · exact d z hz
def pathsN : Nat → Sh → List (List Str)
  | n + 1, .rcd ps => ps.flatMap fun p => [p.1] :: (pathsN n p.2).map (p.1 :: ·)
  | _, _ => []
theorem paths_sub : ∀ {n : Nat} {s : Sh} {p : List Str}, p ∈ pathsN n s → p ≠ [] ∧ ∃ n' s', Sub n s p n' s' := by
  intro n
  induction n with
  | zero => intro s p h; cases s <;> simp [pathsN] at h
  | succ n ih =>
    intro s p h
    cases s with
    | rcd ps =>
      rw [pathsN] at h
      obtain ⟨q, hq, h⟩ := List.mem_flatMap.mp h
      rcases List.mem_cons.mp h with rfl | h
      · exact ⟨by simp, n, q.2, .cons hq .nil⟩
      · obtain ⟨p', hp', rfl⟩ := List.mem_map.mp h
        obtain ⟨_, n', s', u⟩ := ih hp'
        exact ⟨by simp, n', s', .cons hq u⟩
    | _ => simp [pathsN] at h
def pc : Nat → Nat
  | 0 => 0
  | n + 1 => 4 * (1 + pc n)
theorem flat_len {α β : Type} {f : α → List β} {c : Nat} : ∀ {l : List α}, (∀ x ∈ l, (f x).length ≤ c) → (l.flatMap f).length ≤ l.length * c
  | [], _ => by simp
  | x :: l, h => by
    have a := h x List.mem_cons_self
    have b := flat_len (l := l) fun y hy => h y (List.mem_cons_of_mem _ hy)
    rw [List.flatMap_cons, List.length_append, List.length_cons, Nat.add_mul]
    omega
theorem paths_len : ∀ {n : Nat} {s : Sh}, Gd n s → (pathsN n s).length ≤ pc n := by
  intro n
  induction n with
  | zero => intro s h; cases h
  | succ n ih =>
    intro s h
    cases h with
    | @rcd _ ps h1 h2 h3 h4 =>
      rw [pathsN]
      refine Nat.le_trans (flat_len (c := 1 + pc n) fun p hp => ?_) (Nat.mul_le_mul_right _ h1)
      have := ih (h3 p hp)
      simp; omega
    | _ => simp [pathsN]
/-! ### a part put -/
inductive Pt : List Str → D → D → D → D → Prop
  | nil {t v : D} : Pt [] t t v v
  | cons {z : Str} {p : List Str} {l : List (Str × D)} {u w v r : D} : l.length ≤ 100 → (l.map (·.1)).Nodup → look l z = some u → Pt p u w v r → Pt (z :: p) (.dct (kd l)) w v (.dct (kd (chgK z r l)))
theorem chgK_names (z : Str) (x : D) : ∀ l : List (Str × D), (chgK z x l).map (·.1) = l.map (·.1)
  | [] => rfl
  | q :: l => by
    rw [chgK, List.map_cons, List.map_cons, chgK_names z x l]
    by_cases e : q.1 = z
    · rw [if_pos e, e]
    · rw [if_neg e]
theorem chgK_twice (z : Str) (x y : D) : ∀ l : List (Str × D), chgK z x (chgK z y l) = chgK z x l
  | [] => rfl
  | q :: l => by
    simp only [chgK, chgK_twice z x y l]
    congr 1
    by_cases e : q.1 = z
    · rw [if_pos e, if_pos e]; simp
    · rw [if_neg e, if_neg e]
theorem chgK_self {z : Str} {u : D} : ∀ {l : List (Str × D)}, (l.map (·.1)).Nodup → look l z = some u → chgK z u l = l
  | [], _, _ => rfl
  | q :: l, nd, h => by
    simp only [List.map_cons, List.nodup_cons] at nd
    rw [chgK]
    by_cases e : q.1 = z
    · have hu : q.2 = u := by
        unfold look at h
        rw [List.find?_cons] at h
        simp [e] at h
        exact h
      rw [if_pos e]
      have : chgK z u l = l := by
        have hz : z ∉ l.map (·.1) := e ▸ nd.1
        clear h nd e
        induction l with
        | nil => rfl
        | cons a r ih =>
          simp only [List.map_cons, List.mem_cons, not_or] at hz
          rw [chgK, if_neg fun e => hz.1 e.symm, ih hz.2]
      rw [this, ← e, ← hu]
    · rw [if_neg e]
      have : look l z = some u := by
        unfold look at h ⊢
        rw [List.find?_cons] at h
        simpa [e] using h
      rw [chgK_self nd.2 this]
theorem Pt.back {p : List Str} {t w v r : D} (h : Pt p t w v r) : Pt p r v w t := by
  induction h with
  | nil => exact .nil
  | @cons z p l u w v r ll nd lk h ih =>
    have e : chgK z u (chgK z r l) = l := by rw [chgK_twice, chgK_self nd lk]
    have := Pt.cons (z := z) (l := chgK z r l) (by rw [chgK_len]; exact ll) (by rw [chgK_names]; exact nd) (by rw [look_chgK, if_pos rfl, lk]; rfl) ih
    rw [e] at this
    exact this
theorem Pt.again {p : List Str} {t w v r : D} (h : Pt p t w v r) : ∀ {v2 r2 : D}, Pt p t w v2 r2 → Pt p r v v2 r2 := by
  induction h with
  | nil => intro v2 r2 g; cases g; exact .nil
  | @cons z p l u w v r ll nd lk h ih =>
    intro v2 r2 g
    generalize eq : D.dct (kd l) = q at g
    cases g with
    | @cons _ _ l' u' _ _ r' ll' nd' lk' g =>
      have : l' = l := (kd_inj (by injection eq)).symm
      subst this
      rw [lk] at lk'
      cases lk'
      have e := chgK_twice z r' r l'
      rw [← e]
      exact Pt.cons (by rw [chgK_len]; exact ll) (by rw [chgK_names]; exact nd) (by rw [look_chgK, if_pos rfl, lk]; rfl) (ih g)
theorem Pt.old {p : List Str} {t w v r : D} (h : Pt p t w v r) : Pt p t w w t := by
  induction h with
  | nil => exact .nil
  | @cons z p l u w v r ll nd lk h ih =>
    have := Pt.cons ll nd lk ih
    rw [chgK_self nd lk] at this
    exact this
theorem pt_ex {n n' : Nat} {s s' : Sh} {p : List Str} (u : Sub n s p n' s') : ∀ {t v : D}, Gd n s → oneP n s t = true → ∃ w r, Pt p t w v r ∧ oneP n' s' w = true ∧ (oneP n' s' v = true → oneP n s r = true) := by
  induction u with
  | nil => intro t v h o; exact ⟨t, v, .nil, o, id⟩
  | @cons n n' ps z s s' p hm u ih =>
    intro t v h o
    cases h with
    | rcd h1 h2 h3 h4 =>
      obtain ⟨kvs, rfl⟩ := dct_of o
      obtain ⟨l, rfl, nd, pm, hp⟩ := rec_kd h4 o
      obtain ⟨x, e1, e2⟩ := hp _ hm
      dsimp only at e1 e2
      obtain ⟨w, r, g1, g2, g3⟩ := ih (v := v) (h3 _ hm) e2
      have ll : l.length ≤ 100 := by have := pm.length_eq; simp at this; omega
      refine ⟨w, _, .cons ll nd e1 g1, g2, fun hv => ?_⟩
      have hr := g3 hv
      simp only [oneP, Bool.and_eq_true, beq_iff_eq, List.all_eq_true, look_kd, kd_len, chgK_len] at o ⊢
      refine ⟨o.1, fun q hq => ?_⟩
      have oq := o.2 q hq
      rw [look_chgK]
      by_cases e : q.1 = z
      · rw [if_pos e, e1]
        have f1 := lookS_in h4 hq
        have f2 := lookS_in h4 hm
        dsimp only at f2
        rw [e, f2] at f1
        cases f1
        exact hr
      · rw [if_neg e]; exact oq
end Law
namespace Law
open PySem L2 G
open PySem.W (Frag)
inductive Fnm where
  | is_whole | is_word | are_words | is_shape | are_parts | look_shape | is_of | is_one | is_of_kind | look_thing | part_of | copied | fits_in | is_rule | are_pairs | look_rule | need | led | goal | goal_of | goal_number | goal_part | lead | behind | is_view | put | with_part | fields | law_cell | law_mix | law_draw | law_pick | law_refusal | law_word | law_words | law_thing | law_same | law_rule | law_then | law_rule_of | law_levels | law_part_of | law_inside | law_goal | law_goal_of | law_goal_apart | law_told | law_paths | law_with | law_rec | law_others
def Fnm.nm : Fnm → Str
  | .is_whole => "is_whole"
  | .is_word => "is_word"
  | .are_words => "are_words"
  | .is_shape => "is_shape"
  | .are_parts => "are_parts"
  | .look_shape => "look_shape"
  | .is_of => "is_of"
  | .is_one => "is_one"
  | .is_of_kind => "is_of_kind"
  | .look_thing => "look_thing"
  | .part_of => "part_of"
  | .copied => "copied"
  | .fits_in => "fits_in"
  | .is_rule => "is_rule"
  | .are_pairs => "are_pairs"
  | .look_rule => "look_rule"
  | .need => "need"
  | .led => "led"
  | .goal => "goal"
  | .goal_of => "goal_of"
  | .goal_number => "goal_number"
  | .goal_part => "goal_part"
  | .lead => "lead"
  | .behind => "behind"
  | .is_view => "is_view"
  | .put => "put"
  | .with_part => "with_part"
  | .fields => "fields"
  | .law_cell => "_law_cell"
  | .law_mix => "_law_mix"
  | .law_draw => "_law_draw"
  | .law_pick => "_law_pick"
  | .law_refusal => "_law_refusal"
  | .law_word => "_law_word"
  | .law_words => "_law_words"
  | .law_thing => "_law_thing"
  | .law_same => "_law_same"
  | .law_rule => "_law_rule"
  | .law_then => "_law_then"
  | .law_rule_of => "_law_rule_of"
  | .law_levels => "_law_levels"
  | .law_part_of => "_law_part_of"
  | .law_inside => "_law_inside"
  | .law_goal => "_law_goal"
  | .law_goal_of => "_law_goal_of"
  | .law_goal_apart => "_law_goal_apart"
  | .law_told => "_law_told"
  | .law_paths => "_law_paths"
  | .law_with => "_law_with"
  | .law_rec => "_law_rec"
  | .law_others => "_law_others"
structure Facts (w : World) (K : Frag) (mg : Str → Option Value) : Prop where
  d_is_whole : At K mg (top 17) "is_whole" ["thing", "least", "most"]
  d_is_word : At K mg (top 18) "is_word" ["thing"]
  d_are_words : At K mg (top 19) "are_words" ["some", "least"]
  d_is_shape : At K mg (top 20) "is_shape" ["thing", "deep"]
  d_are_parts : At K mg (top 21) "are_parts" ["parts", "deep", "least"]
  d_look_shape : At K mg (top 22) "look_shape" ["shape"]
  d_is_of : At K mg (top 23) "is_of" ["shape", "thing"]
  d_is_one : At K mg (top 24) "is_one" ["shape", "thing"]
  d_is_of_kind : At K mg (top 25) "is_of_kind" ["shape", "thing"]
  d_look_thing : At K mg (top 26) "look_thing" ["shape", "thing"]
  d_part_of : At K mg (top 27) "part_of" ["shape", "name"]
  d_copied : At K mg (top 28) "copied" ["thing"]
  d_fits_in : At K mg (top 30) "fits_in" ["one", "other"]
  d_is_rule : At K mg (top 36) "is_rule" ["thing", "deep"]
  d_are_pairs : At K mg (top 37) "are_pairs" ["word", "pairs", "deep"]
  d_look_rule : At K mg (top 38) "look_rule" ["rule"]
  d_need : At K mg (top 39) "need" ["good"]
  d_led : At K mg (top 40) "led" ["rule", "shape"]
  d_goal : At K mg (top 41) "goal" ["rule", "shape"]
  d_goal_of : At K mg (top 42) "goal_of" ["rule", "shape"]
  d_goal_number : At K mg (top 43) "goal_number" ["rule", "shape"]
  d_goal_part : At K mg (top 44) "goal_part" ["rule", "shape"]
  d_lead : At K mg (top 45) "lead" ["rule", "shape", "thing"]
  d_behind : At K mg (top 46) "behind" ["rule", "thing"]
  d_is_view : At K mg (top 48) "is_view" ["rule"]
  d_put : At K mg (top 49) "put" ["rule", "shape", "old", "new"]
  d_with_part : At K mg (top 50) "with_part" ["rule", "old", "new"]
  d_fields : At K mg (top 51) "fields" ["shape"]
  d_law_cell : At K mg (top 53) "_law_cell" ["script", "k"]
  d_law_mix : At K mg (top 54) "_law_mix" ["script", "k"]
  d_law_draw : At K mg (top 55) "_law_draw" ["script", "town", "many"]
  d_law_pick : At K mg (top 56) "_law_pick" ["script", "town", "some"]
  d_law_refusal : At K mg (top 57) "_law_refusal" ["caught"]
  d_law_word : At K mg (top 58) "_law_word" ["script", "town"]
  d_law_words : At K mg (top 59) "_law_words" ["script", "town", "least_many"]
  d_law_thing : At K mg (top 60) "_law_thing" ["script", "town", "shape"]
  d_law_same : At K mg (top 61) "_law_same" ["one", "other"]
  d_law_rule : At K mg (top 62) "_law_rule" ["script", "town", "shape", "deep"]
  d_law_then : At K mg (top 63) "_law_then" ["script", "town", "shape", "deep"]
  d_law_rule_of : At K mg (top 64) "_law_rule_of" ["script", "town", "shape", "deep", "sort"]
  d_law_levels : At K mg (top 65) "_law_levels" ["shape"]
  d_law_part_of : At K mg (top 66) "_law_part_of" ["shape", "name"]
  d_law_inside : At K mg (top 67) "_law_inside" ["one", "other"]
  d_law_goal : At K mg (top 68) "_law_goal" ["rule", "shape"]
  d_law_goal_of : At K mg (top 69) "_law_goal_of" ["rule", "shape"]
  d_law_goal_apart : At K mg (top 70) "_law_goal_apart" ["rule", "shape"]
  d_law_told : At K mg (top 71) "_law_told" ["rule", "shape", "old", "new"]
  d_law_paths : At K mg (top 72) "_law_paths" ["shape"]
  d_law_with : At K mg (top 73) "_law_with" ["thing", "path", "new"]
  d_law_rec : At K mg (top 74) "_law_rec" ["script", "town", "deep"]
  d_law_others : At K mg (top 75) "_law_others" ["shape", "old", "name"]
  c_MOST_WORD : ∃ t, mg "MOST_WORD" = some (.int 8 t)
  c_MOST_PARTS : ∃ t, mg "MOST_PARTS" = some (.int 4 t)
  c_MOST_DEEP : ∃ t, mg "MOST_DEEP" = some (.int 4 t)
  c_FAR : ∃ t, mg "FAR" = some (.int 1000000 t)
  c_MOST_NEST : ∃ t, mg "MOST_NEST" = some (.int 8 t)
  c_MOST_THEN : ∃ t, mg "MOST_THEN" = some (.int 8 t)
  c_MOST_BY : ∃ t, mg "MOST_BY" = some (.int 1000 t)
  c_SMALL : ∃ t, mg "SMALL" = some (.str "abcdefghijklmnopqrstuvwxyz" t)
  c_LETTERS : ∃ t, mg "LETTERS" = some (.str "abc" t)
  t_SIZES_shapes : Tabl K w (He.ga K "SIZES_shapes") tab_SIZES_shapes ∧ mg "SIZES_shapes" = some (.ref (He.ga K "SIZES_shapes"))
  t_SIZES_rules : Tabl K w (He.ga K "SIZES_rules") tab_SIZES_rules ∧ mg "SIZES_rules" = some (.ref (He.ga K "SIZES_rules"))
  x_BadRule : ExcOk K mg "BadRule"
  x_BadShape : ExcOk K mg "BadShape"
  x_BadThing : ExcOk K mg "BadThing"
  x_NoBack : ExcOk K mg "NoBack"
  g_BadChange : mg "BadChange" = some (.ref (He.ga K "BadChange"))
  g_BadNumber : mg "BadNumber" = some (.ref (He.ga K "BadNumber"))
  g_BadRule : mg "BadRule" = some (.ref (He.ga K "BadRule"))
  g_BadShape : mg "BadShape" = some (.ref (He.ga K "BadShape"))
  g_BadThing : mg "BadThing" = some (.ref (He.ga K "BadThing"))
  g_LeadError : mg "LeadError" = some (.ref (He.ga K "LeadError"))
  g_NoBack : mg "NoBack" = some (.ref (He.ga K "NoBack"))
  g_TooMany : mg "TooMany" = some (.ref (He.ga K "TooMany"))
  h_LeadError : ∀ y ∈ caught_LeadError, PySem.W.exmOne K (.ref (He.ga K y)) (.ref (He.ga K "LeadError")) = some true
  i_BadChange : (∀ c ∈ isT_BadChange, ExcIs K (He.ga K c) ∧ PySem.W.kitOne K (.ref (He.ga K c)) (.ref (He.ga K "BadChange")) = some true) ∧ (∀ c ∈ isF_BadChange, ExcIs K (He.ga K c) ∧ PySem.W.kitOne K (.ref (He.ga K c)) (.ref (He.ga K "BadChange")) = some false)
  i_BadNumber : (∀ c ∈ isT_BadNumber, ExcIs K (He.ga K c) ∧ PySem.W.kitOne K (.ref (He.ga K c)) (.ref (He.ga K "BadNumber")) = some true) ∧ (∀ c ∈ isF_BadNumber, ExcIs K (He.ga K c) ∧ PySem.W.kitOne K (.ref (He.ga K c)) (.ref (He.ga K "BadNumber")) = some false)
  i_BadRule : (∀ c ∈ isT_BadRule, ExcIs K (He.ga K c) ∧ PySem.W.kitOne K (.ref (He.ga K c)) (.ref (He.ga K "BadRule")) = some true) ∧ (∀ c ∈ isF_BadRule, ExcIs K (He.ga K c) ∧ PySem.W.kitOne K (.ref (He.ga K c)) (.ref (He.ga K "BadRule")) = some false)
  i_BadShape : (∀ c ∈ isT_BadShape, ExcIs K (He.ga K c) ∧ PySem.W.kitOne K (.ref (He.ga K c)) (.ref (He.ga K "BadShape")) = some true) ∧ (∀ c ∈ isF_BadShape, ExcIs K (He.ga K c) ∧ PySem.W.kitOne K (.ref (He.ga K c)) (.ref (He.ga K "BadShape")) = some false)
  i_BadThing : (∀ c ∈ isT_BadThing, ExcIs K (He.ga K c) ∧ PySem.W.kitOne K (.ref (He.ga K c)) (.ref (He.ga K "BadThing")) = some true) ∧ (∀ c ∈ isF_BadThing, ExcIs K (He.ga K c) ∧ PySem.W.kitOne K (.ref (He.ga K c)) (.ref (He.ga K "BadThing")) = some false)
  i_NoBack : (∀ c ∈ isT_NoBack, ExcIs K (He.ga K c) ∧ PySem.W.kitOne K (.ref (He.ga K c)) (.ref (He.ga K "NoBack")) = some true) ∧ (∀ c ∈ isF_NoBack, ExcIs K (He.ga K c) ∧ PySem.W.kitOne K (.ref (He.ga K c)) (.ref (He.ga K "NoBack")) = some false)
  i_TooMany : (∀ c ∈ isT_TooMany, ExcIs K (He.ga K c) ∧ PySem.W.kitOne K (.ref (He.ga K c)) (.ref (He.ga K "TooMany")) = some true) ∧ (∀ c ∈ isF_TooMany, ExcIs K (He.ga K c) ∧ PySem.W.kitOne K (.ref (He.ga K c)) (.ref (He.ga K "TooMany")) = some false)
  i_ValueError : (∀ c ∈ isT_ValueError, ExcIs K (He.ga K c) ∧ PySem.W.kitOne K (.ref (He.ga K c)) (.type "ValueError") = some true) ∧ (∀ c ∈ isF_ValueError, ExcIs K (He.ga K c) ∧ PySem.W.kitOne K (.ref (He.ga K c)) (.type "ValueError") = some false)
  n_ValueError : mg "ValueError" = none
  n_abs : mg "abs" = none
  n_all : mg "all" = none
  n_any : mg "any" = none
  n_bool : mg "bool" = none
  n_dict : mg "dict" = none
  n_int : mg "int" = none
  n_isinstance : mg "isinstance" = none
  n_len : mg "len" = none
  n_list : mg "list" = none
  n_max : mg "max" = none
  n_min : mg "min" = none
  n_range : mg "range" = none
  n_set : mg "set" = none
  n_sorted : mg "sorted" = none
  n_str : mg "str" = none
  n_tuple : mg "tuple" = none
noncomputable def m_is_whole (s : Str → Fn) : Fs := sRet (eAndF (eIsi .int (eVar 0)) (eAndF (eNotF (eIsi .bool (eVar 0))) (eChain leD leD (eVar 1) (eVar 0) (eVar 2))))
noncomputable def m_is_word (s : Str → Fn) : Fs := sRet (eAndF (eIsi .str (eVar 0)) (eAndF (eChain leD leD (eC (.int 1)) (eCall lenG (aCons (eVar 0) (aNil))) (eC (.int 8))) (eCall allG (aCons (dA (eComp (iSeq (eVar 0)) (.n 1) [1] (tYesF) (eOp inD (eVar 1) (eC (.str "abcdefghijklmnopqrstuvwxyz"))))) (aNil)))))
noncomputable def m_are_words (s : Str → Fn) : Fs := sRet (eAndF (eChain leD leD (eVar 1) (eCall lenG (aCons (eVar 0) (aNil))) (eC (.int 4))) (eAndF (eCall allG (aCons (dA (eComp (iSeq (eVar 0)) (.n 2) [2] (tYesF) (eOwn (s "is_word") (aCons (eVar 2) (aNil))))) (aNil))) (eOp eqO (eLenSet (eVar 0)) (eCall lenG (aCons (eVar 0) (aNil))))))
noncomputable def m_is_shape (s : Str → Fn) : Fs := sSeq (sIf (tOrF (tNotF (tst (eIsi .tuple (eVar 0)))) (tOrF (tst (eOp eqO (eCall lenG (aCons (eVar 0) (aNil))) (eC (.int 0)))) (tOrF (tst (eOp eqO (eVar 1) (eC (.int 0)))) (tNotF (tst (eIsi .str (eIx (eVar 0) (eC (.int 0))))))))) (sRet (eC (.bl false))) (sNil)) (sSeq (sIf (tst (eOp neO (eCall lenG (aCons (eVar 0) (aNil))) (eTab tab_SIZES_shapes (eIx (eVar 0) (eC (.int 0))) 0))) (sRet (eC (.bl false))) (sNil)) (sSeq (sIf (tst (eOp eqO (eIx (eVar 0) (eC (.int 0))) (eC (.str "truth")))) (sRet (eC (.bl true))) (sNil)) (sSeq (sIf (tst (eOp eqO (eIx (eVar 0) (eC (.int 0))) (eC (.str "number")))) (sRet (eAndF (eOwn (s "is_whole") (aCons (eIx (eVar 0) (eC (.int 1))) (aCons (eOp subD (eC (.int 0)) (eC (.int 1000000))) (aCons (eC (.int 1000000)) (aNil))))) (eOwn (s "is_whole") (aCons (eIx (eVar 0) (eC (.int 2))) (aCons (eIx (eVar 0) (eC (.int 1))) (aCons (eC (.int 1000000)) (aNil))))))) (sNil)) (sSeq (sIf (tst (eOp eqO (eIx (eVar 0) (eC (.int 0))) (eC (.str "text")))) (sRet (eOwn (s "is_whole") (aCons (eIx (eVar 0) (eC (.int 1))) (aCons (eC (.int 0)) (aCons (eC (.int 4)) (aNil)))))) (sNil)) (sSeq (sIf (tst (eOp eqO (eIx (eVar 0) (eC (.int 0))) (eC (.str "list")))) (sRet (eAndF (eOwn (s "is_shape") (aCons (eIx (eVar 0) (eC (.int 1))) (aCons (eOp subD (eVar 1) (eC (.int 1))) (aNil)))) (eOwn (s "is_whole") (aCons (eIx (eVar 0) (eC (.int 2))) (aCons (eC (.int 0)) (aCons (eC (.int 4)) (aNil))))))) (sNil)) (sSeq (sIf (tst (eOp eqO (eIx (eVar 0) (eC (.int 0))) (eC (.str "maybe")))) (sRet (eAndF (eOwn (s "is_shape") (aCons (eIx (eVar 0) (eC (.int 1))) (aCons (eOp subD (eVar 1) (eC (.int 1))) (aNil)))) (eOp neO (eIx (eIx (eVar 0) (eC (.int 1))) (eC (.int 0))) (eC (.str "maybe"))))) (sNil)) (sSeq (sIf (tNotF (tst (eIsi .tuple (eIx (eVar 0) (eC (.int 1)))))) (sRet (eC (.bl false))) (sNil)) (sRet (eIf (tst (eOp eqO (eIx (eVar 0) (eC (.int 0))) (eC (.str "word")))) (eOwn (s "are_words") (aCons (eIx (eVar 0) (eC (.int 1))) (aCons (eC (.int 1)) (aNil)))) (eOwn (s "are_parts") (aCons (eIx (eVar 0) (eC (.int 1))) (aCons (eVar 1) (aCons (eCall intG (aCons (eOp eqO (eIx (eVar 0) (eC (.int 0))) (eC (.str "kind"))) (aNil))) (aNil))))))))))))))
noncomputable def m_are_parts (s : Str → Fn) : Fs := sSeq (sIf (tNotF (tst (eCall allG (aCons (dA (eComp (iSeq (eVar 0)) (.n 3) [3] (tYesF) (eAndF (eIsi .tuple (eVar 3)) (eOp eqO (eCall lenG (aCons (eVar 3) (aNil))) (eC (.int 2)))))) (aNil))))) (sRet (eC (.bl false))) (sNil)) (sSeq (sIf (tOrF (tNotF (tst (eCall allG (aCons (dA (eComp (iSeq (eVar 0)) (.n 3) [3] (tYesF) (eOwn (s "is_word") (aCons (eIx (eVar 3) (eC (.int 0))) (aNil))))) (aNil))))) (tNotF (tst (eOwn (s "are_words") (aCons (dA (eComp (iSeq (eVar 0)) (.n 3) [3] (tYesF) (eIx (eVar 3) (eC (.int 0))))) (aCons (eVar 2) (aNil))))))) (sRet (eC (.bl false))) (sNil)) (sRet (eCall allG (aCons (dA (eComp (iSeq (eVar 0)) (.n 3) [3] (tYesF) (eOwn (s "is_shape") (aCons (eIx (eVar 3) (eC (.int 1))) (aCons (eOp subD (eVar 1) (eC (.int 1))) (aNil)))))) (aNil)))))
noncomputable def m_look_shape (s : Str → Fn) : Fs := sIf (tNotF (tst (eOwn (s "is_shape") (aCons (eVar 0) (aCons (eC (.int 4)) (aNil)))))) (sRaise "BadShape") (sNil)
noncomputable def m_is_of (s : Str → Fn) : Fs := sSeq (sExpr (eOwn (s "look_shape") (aCons (eVar 0) (aNil)))) (sRet (eOwn (s "is_one") (aCons (eVar 0) (aCons (eVar 1) (aNil)))))
noncomputable def m_is_one (s : Str → Fn) : Fs := sSeq (sAsg 2 (eIx (eVar 0) (eC (.int 0)))) (sSeq (sIf (tst (eOp eqO (eVar 2) (eC (.str "maybe")))) (sRet (eOrF (eIsN (eVar 1)) (eOwn (s "is_one") (aCons (eIx (eVar 0) (eC (.int 1))) (aCons (eVar 1) (aNil)))))) (sNil)) (sSeq (sIf (tst (eOp eqO (eVar 2) (eC (.str "number")))) (sRet (eOwn (s "is_whole") (aCons (eVar 1) (aCons (eIx (eVar 0) (eC (.int 1))) (aCons (eIx (eVar 0) (eC (.int 2))) (aNil)))))) (sNil)) (sSeq (sIf (tst (eOp eqO (eVar 2) (eC (.str "truth")))) (sRet (eIsi .bool (eVar 1))) (sNil)) (sSeq (sIf (tst (eOp eqO (eVar 2) (eC (.str "word")))) (sRet (eAndF (eIsi .str (eVar 1)) (eOp inD (eVar 1) (eIx (eVar 0) (eC (.int 1)))))) (sNil)) (sSeq (sIf (tst (eOp eqO (eVar 2) (eC (.str "text")))) (sRet (eAndF (eIsi .str (eVar 1)) (eAndF (eOp leD (eCall lenG (aCons (eVar 1) (aNil))) (eIx (eVar 0) (eC (.int 1)))) (eCall allG (aCons (dA (eComp (iSeq (eVar 1)) (.n 5) [5] (tYesF) (eOp inD (eVar 5) (eC (.str "abc"))))) (aNil)))))) (sNil)) (sSeq (sIf (tst (eOp eqO (eVar 2) (eC (.str "list")))) (sRet (eAndF (eIsi .list (eVar 1)) (eAndF (eOp leD (eCall lenG (aCons (eVar 1) (aNil))) (eIx (eVar 0) (eC (.int 2)))) (eCall allG (aCons (dA (eComp (iSeq (eVar 1)) (.n 6) [6] (tYesF) (eOwn (s "is_one") (aCons (eIx (eVar 0) (eC (.int 1))) (aCons (eVar 6) (aNil)))))) (aNil)))))) (sNil)) (sSeq (sIf (tst (eOp eqO (eVar 2) (eC (.str "kind")))) (sRet (eAndF (eIsi .tuple (eVar 1)) (eAndF (eOp eqO (eCall lenG (aCons (eVar 1) (aNil))) (eC (.int 2))) (eOwn (s "is_of_kind") (aCons (eVar 0) (aCons (eVar 1) (aNil))))))) (sNil)) (sSeq (sIf (tOrF (tNotF (tst (eIsi .dict (eVar 1)))) (tst (eOp neO (eCall lenG (aCons (eVar 1) (aNil))) (eCall lenG (aCons (eIx (eVar 0) (eC (.int 1))) (aNil)))))) (sRet (eC (.bl false))) (sNil)) (sRet (eCall allG (aCons (dA (eComp (iSeq (eIx (eVar 0) (eC (.int 1)))) (.t [3, 4]) [3, 4] (tYesF) (eAndF (eOp inD (eVar 3) (eVar 1)) (eOwn (s "is_one") (aCons (eVar 4) (aCons (eIx (eVar 1) (eVar 3)) (aNil))))))) (aNil))))))))))))
noncomputable def m_is_of_kind (s : Str → Fn) : Fs := sRet (eCall anyG (aCons (dA (eComp (iSeq (eIx (eVar 0) (eC (.int 1)))) (.t [2, 3]) [2, 3] (tYesF) (eAndF (eIsi .str (eIx (eVar 1) (eC (.int 0)))) (eAndF (eOp eqO (eIx (eVar 1) (eC (.int 0))) (eVar 2)) (eOwn (s "is_one") (aCons (eVar 3) (aCons (eIx (eVar 1) (eC (.int 1))) (aNil)))))))) (aNil)))
noncomputable def m_look_thing (s : Str → Fn) : Fs := sSeq (sExpr (eOwn (s "look_shape") (aCons (eVar 0) (aNil)))) (sIf (tNotF (tst (eOwn (s "is_one") (aCons (eVar 0) (aCons (eVar 1) (aNil)))))) (sRaise "BadThing") (sNil))
noncomputable def m_part_of (s : Str → Fn) : Fs := sSeq (sAsg 2 (dA (eComp (iSeq (eIx (eVar 0) (eC (.int 1)))) (.t [3, 4]) [3, 4] (tst (eOp eqO (eVar 3) (eVar 1))) (eVar 4)))) (sRet (eIf (tTru (eVar 2)) (eIx (eVar 2) (eC (.int 0))) (eC .non)))
noncomputable def m_copied (s : Str → Fn) : Fs := sSeq (sIf (tst (eIsi .list (eVar 0))) (sRet (dA (eComp (iSeq (eVar 0)) (.n 1) [1] (tYesF) (eOwn (s "copied") (aCons (eVar 1) (aNil)))))) (sNil)) (sSeq (sIf (tst (eIsi .dict (eVar 0))) (sRet (dA (nDictX (dA (eComp (iKeyV 0) (.n 2) [2] (tYesF) (eTup (aCons (eVar 2) (aCons (eOwn (s "copied") (aCons (eIx (eVar 0) (eVar 2)) (aNil))) (aNil))))))))) (sNil)) (sRet (eIf (tst (eIsi .tuple (eVar 0))) (eTup (aCons (eIx (eVar 0) (eC (.int 0))) (aCons (eOwn (s "copied") (aCons (eIx (eVar 0) (eC (.int 1))) (aNil))) (aNil)))) (eVar 0))))
noncomputable def m_fits_in (s : Str → Fn) : Fs := sSeq (sIf (tst (eOp eqO (eIx (eVar 1) (eC (.int 0))) (eC (.str "maybe")))) (sRet (eOwn (s "fits_in") (aCons (eIf (tst (eOp eqO (eIx (eVar 0) (eC (.int 0))) (eC (.str "maybe")))) (eIx (eVar 0) (eC (.int 1))) (eVar 0)) (aCons (eIx (eVar 1) (eC (.int 1))) (aNil))))) (sNil)) (sSeq (sIf (tAndF (tst (eOp eqO (eIx (eVar 0) (eC (.int 0))) (eC (.str "word")))) (tst (eOp eqO (eIx (eVar 1) (eC (.int 0))) (eC (.str "text"))))) (sRet (eCall allG (aCons (dA (eComp (iSeq (eIx (eVar 0) (eC (.int 1)))) (.n 2) [2] (tYesF) (eAndF (eOp leD (eCall lenG (aCons (eVar 2) (aNil))) (eIx (eVar 1) (eC (.int 1)))) (eCall allG (aCons (dA (eComp (iSeq (eVar 2)) (.n 5) [5] (tYesF) (eOp inD (eVar 5) (eC (.str "abc"))))) (aNil)))))) (aNil)))) (sNil)) (sSeq (sIf (tst (eOp neO (eIx (eVar 0) (eC (.int 0))) (eIx (eVar 1) (eC (.int 0))))) (sRet (eC (.bl false))) (sNil)) (sSeq (sIf (tst (eOp eqO (eIx (eVar 0) (eC (.int 0))) (eC (.str "number")))) (sRet (eAndF (eOp leD (eIx (eVar 1) (eC (.int 1))) (eIx (eVar 0) (eC (.int 1)))) (eOp leD (eIx (eVar 0) (eC (.int 2))) (eIx (eVar 1) (eC (.int 2)))))) (sNil)) (sSeq (sIf (tst (eOp eqO (eIx (eVar 0) (eC (.int 0))) (eC (.str "truth")))) (sRet (eC (.bl true))) (sNil)) (sSeq (sIf (tst (eOp eqO (eIx (eVar 0) (eC (.int 0))) (eC (.str "word")))) (sRet (eCall allG (aCons (dA (eComp (iSeq (eIx (eVar 0) (eC (.int 1)))) (.n 2) [2] (tYesF) (eOp inD (eVar 2) (eIx (eVar 1) (eC (.int 1)))))) (aNil)))) (sNil)) (sSeq (sIf (tst (eOp eqO (eIx (eVar 0) (eC (.int 0))) (eC (.str "text")))) (sRet (eOp leD (eIx (eVar 0) (eC (.int 1))) (eIx (eVar 1) (eC (.int 1))))) (sNil)) (sSeq (sIf (tst (eOp eqO (eIx (eVar 0) (eC (.int 0))) (eC (.str "list")))) (sRet (eAndF (eOp leD (eIx (eVar 0) (eC (.int 2))) (eIx (eVar 1) (eC (.int 2)))) (eOrF (eOp eqO (eIx (eVar 0) (eC (.int 2))) (eC (.int 0))) (eOwn (s "fits_in") (aCons (eIx (eVar 0) (eC (.int 1))) (aCons (eIx (eVar 1) (eC (.int 1))) (aNil))))))) (sNil)) (sSeq (sIf (tAndF (tst (eOp eqO (eIx (eVar 0) (eC (.int 0))) (eC (.str "rec")))) (tst (eOp neO (eCall lenG (aCons (eIx (eVar 0) (eC (.int 1))) (aNil))) (eCall lenG (aCons (eIx (eVar 1) (eC (.int 1))) (aNil)))))) (sRet (eC (.bl false))) (sNil)) (sRet (eCall allG (aCons (dA (eComp (iSeq (eIx (eVar 0) (eC (.int 1)))) (.t [3, 4]) [3, 4] (tYesF) (eAndF (eNotN (eOwn (s "part_of") (aCons (eVar 1) (aCons (eVar 3) (aNil))))) (eOwn (s "fits_in") (aCons (eVar 4) (aCons (eOwn (s "part_of") (aCons (eVar 1) (aCons (eVar 3) (aNil)))) (aNil))))))) (aNil))))))))))))
noncomputable def m_is_rule (s : Str → Fn) : Fs := sSeq (sIf (tOrF (tNotF (tst (eIsi .tuple (eVar 0)))) (tOrF (tst (eOp eqO (eCall lenG (aCons (eVar 0) (aNil))) (eC (.int 0)))) (tOrF (tst (eOp eqO (eVar 1) (eC (.int 0)))) (tNotF (tst (eIsi .str (eIx (eVar 0) (eC (.int 0))))))))) (sRet (eC (.bl false))) (sNil)) (sSeq (sIf (tst (eOp neO (eCall lenG (aCons (eVar 0) (aNil))) (eTab tab_SIZES_rules (eIx (eVar 0) (eC (.int 0))) 0))) (sRet (eC (.bl false))) (sNil)) (sSeq (sAsg 2 (eIx (eVar 0) (eC (.int 0)))) (sSeq (sIf (tst (eOp inD (eVar 2) (eTup (aCons (eC (.str "keep")) (aCons (eC (.str "some")) (aCons (eC (.str "first")) (aCons (eC (.str "size")) (aCons (eC (.str "else")) (aNil))))))))) (sRet (eC (.bl true))) (sNil)) (sSeq (sIf (tst (eOp inD (eVar 2) (eTup (aCons (eC (.str "add")) (aCons (eC (.str "times")) (aNil)))))) (sRet (eOwn (s "is_whole") (aCons (eIx (eVar 0) (eC (.int 1))) (aCons (eOp subD (eC (.int 0)) (eC (.int 1000))) (aCons (eC (.int 1000)) (aNil)))))) (sNil)) (sSeq (sIf (tst (eOp eqO (eVar 2) (eC (.str "field")))) (sRet (eOwn (s "is_word") (aCons (eIx (eVar 0) (eC (.int 1))) (aNil)))) (sNil)) (sSeq (sIf (tst (eOp eqO (eVar 2) (eC (.str "give")))) (sRet (eAndF (eOwn (s "is_shape") (aCons (eIx (eVar 0) (eC (.int 1))) (aCons (eC (.int 4)) (aNil)))) (eOwn (s "is_one") (aCons (eIx (eVar 0) (eC (.int 1))) (aCons (eIx (eVar 0) (eC (.int 2))) (aNil)))))) (sNil)) (sSeq (sIf (tst (eOp eqO (eVar 2) (eC (.str "wide")))) (sRet (eOwn (s "is_shape") (aCons (eIx (eVar 0) (eC (.int 1))) (aCons (eC (.int 4)) (aNil))))) (sNil)) (sSeq (sIf (tst (eOp eqO (eVar 2) (eC (.str "tag")))) (sRet (eAndF (eOwn (s "is_word") (aCons (eIx (eVar 0) (eC (.int 1))) (aNil))) (eAndF (eOwn (s "is_shape") (aCons (eIx (eVar 0) (eC (.int 2))) (aCons (eC (.int 4)) (aNil)))) (eOp eqO (eIx (eIx (eVar 0) (eC (.int 2))) (eC (.int 0))) (eC (.str "kind")))))) (sNil)) (sSeq (sIf (tst (eOp eqO (eVar 2) (eC (.str "each")))) (sRet (eOwn (s "is_rule") (aCons (eIx (eVar 0) (eC (.int 1))) (aCons (eOp subD (eVar 1) (eC (.int 1))) (aNil))))) (sNil)) (sSeq (sIf (tst (eOp eqO (eVar 2) (eC (.str "then")))) (sSeq (sAsg 3 (eAndF (eIsi .tuple (eIx (eVar 0) (eC (.int 1)))) (eChain leD leD (eC (.int 1)) (eCall lenG (aCons (eIx (eVar 0) (eC (.int 1))) (aNil))) (eC (.int 8))))) (sRet (eAndT (eVar 3) (eCall allG (aCons (dA (eComp (iSeq (eIx (eVar 0) (eC (.int 1)))) (.n 4) [4] (tYesF) (eOwn (s "is_rule") (aCons (eVar 4) (aCons (eOp subD (eVar 1) (eC (.int 1))) (aNil)))))) (aNil)))))) (sNil)) (sRet (eAndF (eIsi .tuple (eIx (eVar 0) (eC (.int 1)))) (eOwn (s "are_pairs") (aCons (eVar 2) (aCons (eIx (eVar 0) (eC (.int 1))) (aCons (eVar 1) (aNil)))))))))))))))))
noncomputable def m_are_pairs (s : Str → Fn) : Fs := sSeq (sIf (tNotF (tst (eCall allG (aCons (dA (eComp (iSeq (eVar 1)) (.n 3) [3] (tYesF) (eAndF (eIsi .tuple (eVar 3)) (eAndF (eOp eqO (eCall lenG (aCons (eVar 3) (aNil))) (eC (.int 2))) (eOwn (s "is_word") (aCons (eIx (eVar 3) (eC (.int 0))) (aNil))))))) (aNil))))) (sRet (eC (.bl false))) (sNil)) (sSeq (sIf (tNotF (tst (eOwn (s "are_words") (aCons (dA (eComp (iSeq (eVar 1)) (.n 3) [3] (tYesF) (eIx (eVar 3) (eC (.int 0))))) (aCons (eCall intG (aCons (eOp neO (eVar 0) (eC (.str "make"))) (aNil))) (aNil)))))) (sRet (eC (.bl false))) (sNil)) (sSeq (sIf (tst (eOp eqO (eVar 0) (eC (.str "rename")))) (sRet (eCall allG (aCons (dA (eComp (iSeq (eVar 1)) (.n 3) [3] (tYesF) (eOwn (s "is_word") (aCons (eIx (eVar 3) (eC (.int 1))) (aNil))))) (aNil)))) (sNil)) (sRet (eCall allG (aCons (dA (eComp (iSeq (eVar 1)) (.n 3) [3] (tYesF) (eOwn (s "is_rule") (aCons (eIx (eVar 3) (eC (.int 1))) (aCons (eOp subD (eVar 2) (eC (.int 1))) (aNil)))))) (aNil))))))
noncomputable def m_look_rule (s : Str → Fn) : Fs := sIf (tNotF (tst (eOwn (s "is_rule") (aCons (eVar 0) (aCons (eC (.int 8)) (aNil)))))) (sRaise "BadRule") (sNil)
noncomputable def m_need (s : Str → Fn) : Fs := sIf (tNotF (tTru (eVar 0))) (sRaise "BadRule") (sNil)
noncomputable def m_led (s : Str → Fn) : Fs := sSeq (sExpr (eOwn (s "look_rule") (aCons (eVar 0) (aNil)))) (sSeq (sExpr (eOwn (s "look_shape") (aCons (eVar 1) (aNil)))) (sRet (eOwn (s "goal") (aCons (eVar 0) (aCons (eVar 1) (aNil))))))
noncomputable def m_goal (s : Str → Fn) : Fs := sSeq (sAsg 2 (eOwn (s "goal_of") (aCons (eVar 0) (aCons (eVar 1) (aNil))))) (sSeq (sExpr (eOwn (s "need") (aCons (eOwn (s "is_shape") (aCons (eVar 2) (aCons (eC (.int 4)) (aNil)))) (aNil)))) (sRet (eVar 2)))
noncomputable def m_goal_of (s : Str → Fn) : Fs := sSeq (sAsg 2 (eIx (eVar 0) (eC (.int 0)))) (sSeq (sIf (tst (eOp eqO (eVar 2) (eC (.str "keep")))) (sRet (eVar 1)) (sNil)) (sSeq (sIf (tst (eOp eqO (eVar 2) (eC (.str "give")))) (sRet (eIx (eVar 0) (eC (.int 1)))) (sNil)) (sSeq (sIf (tst (eOp eqO (eVar 2) (eC (.str "then")))) (sSeq (sFor (iSeq (eIx (eVar 0) (eC (.int 1)))) (.n 3) (sAsg 1 (eOwn (s "goal") (aCons (eVar 3) (aCons (eVar 1) (aNil)))))) (sRet (eVar 1))) (sNil)) (sSeq (sIf (tst (eOp eqO (eVar 2) (eC (.str "make")))) (sRet (eTup (aCons (eC (.str "rec")) (aCons (eCall tupleG (aCons (dA (eComp (iSeq (eIx (eVar 0) (eC (.int 1)))) (.t [4, 3]) [4, 3] (tYesF) (eTup (aCons (eVar 4) (aCons (eOwn (s "goal") (aCons (eVar 3) (aCons (eVar 1) (aNil)))) (aNil)))))) (aNil))) (aNil))))) (sNil)) (sSeq (sIf (tst (eOp eqO (eVar 2) (eC (.str "wide")))) (sSeq (sExpr (eOwn (s "need") (aCons (eOwn (s "fits_in") (aCons (eVar 1) (aCons (eIx (eVar 0) (eC (.int 1))) (aNil)))) (aNil)))) (sRet (eIx (eVar 0) (eC (.int 1))))) (sNil)) (sSeq (sIf (tst (eOp eqO (eVar 2) (eC (.str "some")))) (sSeq (sExpr (eOwn (s "need") (aCons (eOp neO (eIx (eVar 1) (eC (.int 0))) (eC (.str "maybe"))) (aNil)))) (sRet (eTup (aCons (eC (.str "maybe")) (aCons (eVar 1) (aNil)))))) (sNil)) (sSeq (sIf (tst (eOp eqO (eVar 2) (eC (.str "tag")))) (sSeq (sExpr (eOwn (s "need") (aCons (eAndF (eNotN (eOwn (s "part_of") (aCons (eIx (eVar 0) (eC (.int 2))) (aCons (eIx (eVar 0) (eC (.int 1))) (aNil))))) (eOwn (s "fits_in") (aCons (eVar 1) (aCons (eOwn (s "part_of") (aCons (eIx (eVar 0) (eC (.int 2))) (aCons (eIx (eVar 0) (eC (.int 1))) (aNil)))) (aNil))))) (aNil)))) (sRet (eIx (eVar 0) (eC (.int 2))))) (sNil)) (sSeq (sIf (tst (eOp inD (eVar 2) (eTup (aCons (eC (.str "add")) (aCons (eC (.str "times")) (aNil)))))) (sRet (eOwn (s "goal_number") (aCons (eVar 0) (aCons (eVar 1) (aNil))))) (sNil)) (sRet (eOwn (s "goal_part") (aCons (eVar 0) (aCons (eVar 1) (aNil)))))))))))))
noncomputable def m_goal_number (s : Str → Fn) : Fs := sSeq (sExpr (eOwn (s "need") (aCons (eOp eqO (eIx (eVar 1) (eC (.int 0))) (eC (.str "number"))) (aNil)))) (sSeq (sAsg 2 (dA (eComp (iSeq (eSl (eVar 1) (oSome (eC (.int 1))) oNone)) (.n 3) [3] (tYesF) (eIf (tst (eOp eqO (eIx (eVar 0) (eC (.int 0))) (eC (.str "add")))) (eOp addD (eVar 3) (eIx (eVar 0) (eC (.int 1)))) (eOp mulD (eVar 3) (eIx (eVar 0) (eC (.int 1)))))))) (sSeq (sExpr (eOwn (s "need") (aCons (eAndF (eOp leD (eCall maxG (aCons (eVar 2) (aNil))) (eC (.int 1000000))) (eOp geD (eCall minG (aCons (eVar 2) (aNil))) (eOp subD (eC (.int 0)) (eC (.int 1000000))))) (aNil)))) (sRet (eTup (aCons (eC (.str "number")) (aCons (eCall minG (aCons (eVar 2) (aNil))) (aCons (eCall maxG (aCons (eVar 2) (aNil))) (aNil))))))))
noncomputable def m_goal_part (s : Str → Fn) : Fs := sSeq (sAsg 2 (eIx (eVar 0) (eC (.int 0)))) (sSeq (sIf (tst (eOp eqO (eVar 2) (eC (.str "field")))) (sSeq (sExpr (eOwn (s "need") (aCons (eAndF (eOp eqO (eIx (eVar 1) (eC (.int 0))) (eC (.str "rec"))) (eNotN (eOwn (s "part_of") (aCons (eVar 1) (aCons (eIx (eVar 0) (eC (.int 1))) (aNil)))))) (aNil)))) (sRet (eOwn (s "part_of") (aCons (eVar 1) (aCons (eIx (eVar 0) (eC (.int 1))) (aNil)))))) (sNil)) (sSeq (sIf (tst (eOp eqO (eVar 2) (eC (.str "each")))) (sSeq (sExpr (eOwn (s "need") (aCons (eOp eqO (eIx (eVar 1) (eC (.int 0))) (eC (.str "list"))) (aNil)))) (sRet (eTup (aCons (eC (.str "list")) (aCons (eOwn (s "goal") (aCons (eIx (eVar 0) (eC (.int 1))) (aCons (eIx (eVar 1) (eC (.int 1))) (aNil)))) (aCons (eIx (eVar 1) (eC (.int 2))) (aNil))))))) (sNil)) (sSeq (sIf (tst (eOp eqO (eVar 2) (eC (.str "first")))) (sSeq (sExpr (eOwn (s "need") (aCons (eAndF (eOp eqO (eIx (eVar 1) (eC (.int 0))) (eC (.str "list"))) (eOp neO (eIx (eIx (eVar 1) (eC (.int 1))) (eC (.int 0))) (eC (.str "maybe")))) (aNil)))) (sRet (eTup (aCons (eC (.str "maybe")) (aCons (eIx (eVar 1) (eC (.int 1))) (aNil)))))) (sNil)) (sSeq (sIf (tst (eOp eqO (eVar 2) (eC (.str "size")))) (sSeq (sExpr (eOwn (s "need") (aCons (eOp inD (eIx (eVar 1) (eC (.int 0))) (eTup (aCons (eC (.str "list")) (aCons (eC (.str "text")) (aNil))))) (aNil)))) (sRet (eTup (aCons (eC (.str "number")) (aCons (eC (.int 0)) (aCons (eIx (eVar 1) (eNeg (eC (.int 1)))) (aNil))))))) (sNil)) (sSeq (sIf (tst (eOp eqO (eVar 2) (eC (.str "else")))) (sSeq (sExpr (eOwn (s "need") (aCons (eAndF (eOp eqO (eIx (eVar 1) (eC (.int 0))) (eC (.str "maybe"))) (eOwn (s "is_one") (aCons (eIx (eVar 1) (eC (.int 1))) (aCons (eIx (eVar 0) (eC (.int 1))) (aNil))))) (aNil)))) (sRet (eIx (eVar 1) (eC (.int 1))))) (sNil)) (sSeq (sAsg 3 (dA (eComp (iSeq (eIx (eVar 0) (eC (.int 1)))) (.n 7) [7] (tYesF) (eIx (eVar 7) (eC (.int 0)))))) (sSeq (sExpr (eOwn (s "need") (aCons (eOp eqO (eIx (eVar 1) (eC (.int 0))) (eIf (tst (eOp eqO (eVar 2) (eC (.str "cases")))) (eC (.str "kind")) (eC (.str "word")))) (aNil)))) (sSeq (sExpr (eOwn (s "need") (aCons (eOp eqO (eStk) (eStk)) (aNil)))) (sSeq (sIf (tst (eOp eqO (eVar 2) (eC (.str "rename")))) (sSeq (sAsg 5 (dA (nDictX (eIx (eVar 0) (eC (.int 1)))))) (sSeq (sAsg 6 (dA (eComp (iSeq (eIx (eVar 1) (eC (.int 1)))) (.n 8) [8] (tYesF) (eIx (eVar 5) (eVar 8))))) (sRet (eTup (aCons (eC (.str "word")) (aCons (eCall tupleG (aCons (dA (eComp (iRng1 (eCall lenG (aCons (eVar 6) (aNil)))) (.n 11) [11] (tst (eOp notInD (eIx (eVar 6) (eVar 11)) (eSl (eVar 6) oNone (oSome (eVar 11))))) (eIx (eVar 6) (eVar 11)))) (aNil))) (aNil))))))) (sNil)) (sSeq (sAsg 4 (dA (eComp (iSeq (eIx (eVar 0) (eC (.int 1)))) (.t [9, 8]) [9, 8] (tYesF) (eOwn (s "goal") (aCons (eVar 8) (aCons (eOwn (s "part_of") (aCons (eVar 1) (aCons (eVar 9) (aNil)))) (aNil))))))) (sSeq (sExpr (eOwn (s "need") (aCons (eCall allG (aCons (dA (eComp (iSeq (eVar 4)) (.n 8) [8] (tYesF) (eOp eqO (eVar 8) (eIx (eVar 4) (eC (.int 0)))))) (aNil))) (aNil)))) (sRet (eIx (eVar 4) (eC (.int 0)))))))))))))))
noncomputable def m_lead (s : Str → Fn) : Fs := sSeq (sExpr (eOwn (s "led") (aCons (eVar 0) (aCons (eVar 1) (aNil))))) (sSeq (sExpr (eOwn (s "look_thing") (aCons (eVar 1) (aCons (eVar 2) (aNil))))) (sRet (eOwn (s "copied") (aCons (eOwn (s "behind") (aCons (eVar 0) (aCons (eVar 2) (aNil)))) (aNil)))))
noncomputable def m_behind (s : Str → Fn) : Fs := sSeq (sAsg 2 (eIx (eVar 0) (eC (.int 0)))) (sSeq (sIf (tst (eOp inD (eVar 2) (eTup (aCons (eC (.str "keep")) (aCons (eC (.str "some")) (aCons (eC (.str "wide")) (aNil))))))) (sRet (eVar 1)) (sNil)) (sSeq (sIf (tst (eOp eqO (eVar 2) (eC (.str "give")))) (sRet (eIx (eVar 0) (eC (.int 2)))) (sNil)) (sSeq (sIf (tst (eOp eqO (eVar 2) (eC (.str "then")))) (sSeq (sFor (iSeq (eIx (eVar 0) (eC (.int 1)))) (.n 3) (sAsg 1 (eOwn (s "behind") (aCons (eVar 3) (aCons (eVar 1) (aNil)))))) (sRet (eVar 1))) (sNil)) (sSeq (sIf (tst (eOp eqO (eVar 2) (eC (.str "make")))) (sRet (dA (nDictX (dA (eComp (iSeq (eIx (eVar 0) (eC (.int 1)))) (.t [4, 3]) [4, 3] (tYesF) (eTup (aCons (eVar 4) (aCons (eOwn (s "behind") (aCons (eVar 3) (aCons (eVar 1) (aNil)))) (aNil))))))))) (sNil)) (sSeq (sIf (tst (eOp eqO (eVar 2) (eC (.str "each")))) (sRet (dA (eComp (iSeq (eVar 1)) (.n 3) [3] (tYesF) (eOwn (s "behind") (aCons (eIx (eVar 0) (eC (.int 1))) (aCons (eVar 3) (aNil))))))) (sNil)) (sSeq (sIf (tst (eOp eqO (eVar 2) (eC (.str "cases")))) (sRet (eOwn (s "behind") (aCons (eIx (dA (nDictX (eIx (eVar 0) (eC (.int 1))))) (eIx (eVar 1) (eC (.int 0)))) (aCons (eIx (eVar 1) (eC (.int 1))) (aNil))))) (sNil)) (sSeq (sIf (tst (eOp eqO (eVar 2) (eC (.str "rename")))) (sRet (eIx (dA (nDictX (eIx (eVar 0) (eC (.int 1))))) (eVar 1))) (sNil)) (sSeq (sIf (tst (eOp eqO (eVar 2) (eC (.str "field")))) (sRet (eIx (eVar 1) (eIx (eVar 0) (eC (.int 1))))) (sNil)) (sSeq (sIf (tst (eOp eqO (eVar 2) (eC (.str "tag")))) (sRet (eTup (aCons (eIx (eVar 0) (eC (.int 1))) (aCons (eVar 1) (aNil))))) (sNil)) (sSeq (sIf (tst (eOp eqO (eVar 2) (eC (.str "else")))) (sRet (eIf (tst (eIsN (eVar 1))) (eIx (eVar 0) (eC (.int 1))) (eVar 1))) (sNil)) (sSeq (sIf (tst (eOp eqO (eVar 2) (eC (.str "first")))) (sRet (eIf (tTru (eVar 1)) (eIx (eVar 1) (eC (.int 0))) (eC .non))) (sNil)) (sSeq (sIf (tst (eOp eqO (eVar 2) (eC (.str "size")))) (sRet (eCall lenG (aCons (eVar 1) (aNil)))) (sNil)) (sRet (eIf (tst (eOp eqO (eVar 2) (eC (.str "add")))) (eOp addD (eVar 1) (eIx (eVar 0) (eC (.int 1)))) (eOp mulD (eVar 1) (eIx (eVar 0) (eC (.int 1))))))))))))))))))
noncomputable def m_is_view (s : Str → Fn) : Fs := sSeq (sIf (tst (eOp eqO (eIx (eVar 0) (eC (.int 0))) (eC (.str "then")))) (sRet (eCall allG (aCons (dA (eComp (iSeq (eIx (eVar 0) (eC (.int 1)))) (.n 1) [1] (tYesF) (eOwn (s "is_view") (aCons (eVar 1) (aNil))))) (aNil)))) (sNil)) (sRet (eOp inD (eIx (eVar 0) (eC (.int 0))) (eTup (aCons (eC (.str "keep")) (aCons (eC (.str "field")) (aNil))))))
noncomputable def m_put (s : Str → Fn) : Fs := sSeq (sAsg 4 (eOwn (s "led") (aCons (eVar 0) (aCons (eVar 1) (aNil))))) (sSeq (sIf (tNotF (tst (eOwn (s "is_view") (aCons (eVar 0) (aNil))))) (sRaise "NoBack") (sNil)) (sSeq (sIf (tOrF (tNotF (tst (eOwn (s "is_one") (aCons (eVar 1) (aCons (eVar 2) (aNil)))))) (tNotF (tst (eOwn (s "is_one") (aCons (eVar 4) (aCons (eVar 3) (aNil))))))) (sRaise "BadThing") (sNil)) (sRet (eOwn (s "copied") (aCons (eOwn (s "with_part") (aCons (eVar 0) (aCons (eVar 2) (aCons (eVar 3) (aNil))))) (aNil))))))
noncomputable def m_with_part (s : Str → Fn) : Fs := sSeq (sIf (tst (eOp eqO (eIx (eVar 0) (eC (.int 0))) (eC (.str "keep")))) (sRet (eVar 2)) (sNil)) (sSeq (sIf (tst (eOp eqO (eIx (eVar 0) (eC (.int 0))) (eC (.str "then")))) (sSeq (sIf (tst (eOp eqO (eIx (eVar 0) (eC (.int 1))) (eTup (aNil)))) (sRet (eVar 2)) (sNil)) (sSeq (sAsg 3 (eIx (eIx (eVar 0) (eC (.int 1))) (eC (.int 0)))) (sRet (eOwn (s "with_part") (aCons (eVar 3) (aCons (eVar 1) (aCons (eOwn (s "with_part") (aCons (eTup (aCons (eC (.str "then")) (aCons (eSl (eIx (eVar 0) (eC (.int 1))) (oSome (eC (.int 1))) oNone) (aNil)))) (aCons (eOwn (s "behind") (aCons (eVar 3) (aCons (eVar 1) (aNil)))) (aCons (eVar 2) (aNil))))) (aNil)))))))) (sNil)) (sRet (dA (nDictX (dA (eComp (iKeyV 1) (.n 4) [4] (tYesF) (eTup (aCons (eVar 4) (aCons (eIf (tst (eOp eqO (eVar 4) (eIx (eVar 0) (eC (.int 1))))) (eVar 2) (eIx (eVar 1) (eVar 4))) (aNil))))))))))
noncomputable def m_fields (s : Str → Fn) : Fs := sSeq (sExpr (eOwn (s "look_shape") (aCons (eVar 0) (aNil)))) (sSeq (sAsgN 1 (nLst (aNil))) (sSeq (sIf (tst (eOp eqO (eIx (eVar 0) (eC (.int 0))) (eC (.str "rec")))) (sFor (iSeq (eIx (eVar 0) (eC (.int 1)))) (.t [2, 3]) (sSeq (sApp 1 (eTup (aCons (eC (.str "field")) (aCons (eVar 2) (aNil))))) (sFor (iSeq (eOwn (s "fields") (aCons (eVar 3) (aNil)))) (.n 4) (sApp 1 (eTup (aCons (eC (.str "then")) (aCons (eOp addD (eTup (aCons (eTup (aCons (eC (.str "field")) (aCons (eVar 2) (aNil)))) (aNil))) (eIf (tst (eOp eqO (eIx (eVar 4) (eC (.int 0))) (eC (.str "then")))) (eIx (eVar 4) (eC (.int 1))) (eTup (aCons (eVar 4) (aNil))))) (aNil)))))))) (sNil)) (sRet (eVar 1))))
noncomputable def m_law_cell (s : Str → Fn) : Fs := sSeq (sIf (tTru (eVar 0)) (sRet (eIx (eVar 0) (eOp modD (eVar 1) (eCall lenG (aCons (eVar 0) (aNil)))))) (sNil)) (sRet (eC (.int 0)))
noncomputable def m_law_mix (s : Str → Fn) : Fs := sSeq (sAsg 2 (eOp modD (eOp addD (eOwn (s "_law_cell") (aCons (eVar 0) (aCons (eVar 1) (aNil)))) (eOp mulD (eC (.int 104729)) (eOp addD (eVar 1) (eC (.int 1))))) (eC (.int 4294967291)))) (sSeq (sAsg 2 (eOp modD (eOp powD (eVar 2) (eC (.int 5))) (eC (.int 4294967279)))) (sRet (eOp modD (eOp addD (eOp mulD (eOp fdivD (eVar 2) (eC (.int 64))) (eC (.int 69621))) (eVar 2)) (eC (.int 4294967231)))))
noncomputable def m_law_draw (s : Str → Fn) : Fs := sSeq (sTown 1) (sRet (eOp modD (eOp fdivD (eOwn (s "_law_mix") (aCons (eVar 0) (aCons (eCall lenG (aCons (eVar 1) (aNil))) (aNil)))) (eC (.int 8))) (eVar 2)))
noncomputable def m_law_pick (s : Str → Fn) : Fs := sRet (eIx (eVar 2) (eOwn (s "_law_draw") (aCons (eVar 0) (aCons (eVar 1) (aCons (eCall lenG (aCons (eVar 2) (aNil))) (aNil))))))
noncomputable def m_law_refusal (s : Str → Fn) : Fs := sSeq (sIf (tst (eIsN (eVar 0))) (sRet (eTup (aCons (eC (.str "ok")) (aNil)))) (sNil)) (sSeq (sAsgN 1 (nLst (aCons (eIsx isT_BadShape isF_BadShape (eVar 0)) (aCons (eIsx isT_BadThing isF_BadThing (eVar 0)) (aCons (eIsx isT_BadRule isF_BadRule (eVar 0)) (aNil)))))) (sSeq (sAsgN 1 (nCat (eVar 1) (eLst (aCons (eIsx isT_BadNumber isF_BadNumber (eVar 0)) (aCons (eIsx isT_TooMany isF_TooMany (eVar 0)) (aCons (eIsx isT_NoBack isF_NoBack (eVar 0)) (aNil))))))) (sSeq (sApp 1 (eIsx isT_BadChange isF_BadChange (eVar 0))) (sSeq (sIf (tOrF (tst (eOp neO (eMt "list" cntB (eVar 1) (aCons (eC (.bl true)) (aNil))) (eC (.int 1)))) (tNotF (tst (eIsx isT_ValueError isF_ValueError (eVar 0))))) (sRet (eTup (aCons (eC (.str "wrong")) (aNil)))) (sNil)) (sRet (eTup (aCons (eC (.str "refused")) (aCons (eIx (eLst (aCons (eC (.str "shape")) (aCons (eC (.str "thing")) (aCons (eC (.str "rule")) (aCons (eC (.str "number")) (aCons (eC (.str "many")) (aCons (eC (.str "back")) (aCons (eC (.str "change")) (aNil))))))))) (eMt "list" idxL (eVar 1) (aCons (eC (.bl true)) (aNil)))) (aNil)))))))))
noncomputable def m_law_word (s : Str → Fn) : Fs := sSeq (sAsg 2 (eC (.str "abcdefghijklmnopqrstuvwxyz"))) (sSeq (sIf (tst (eOp gtD (eOwn (s "_law_draw") (aCons (eVar 0) (aCons (eVar 1) (aCons (eC (.int 6)) (aNil))))) (eC (.int 0)))) (sRet (eOwn (s "_law_pick") (aCons (eVar 0) (aCons (eVar 1) (aCons (eLst (aCons (eC (.str "a")) (aCons (eC (.str "b")) (aCons (eC (.str "c")) (aCons (eC (.str "ab")) (aCons (eC (.str "name")) (aCons (eC (.str "size")) (aNil)))))))) (aNil)))))) (sNil)) (sRet (eJoin (eC (.str "")) (dA (eComp (iRng1 (eOp addD (eC (.int 1)) (eOwn (s "_law_draw") (aCons (eVar 0) (aCons (eVar 1) (aCons (eC (.int 8)) (aNil))))))) (.n 3) [3] (tYesF) (eIx (eVar 2) (eOwn (s "_law_draw") (aCons (eVar 0) (aCons (eVar 1) (aCons (eC (.int 26)) (aNil)))))))))))
noncomputable def m_law_words (s : Str → Fn) : Fs := sSeq (sAsgN 3 (nC (.dct []))) (sSeq (sFor (iRng1 (eOp addD (eVar 2) (eOwn (s "_law_draw") (aCons (eVar 0) (aCons (eVar 1) (aCons (eC (.int 5)) (aNil))))))) (.n 4) (sPut 3 (eOwn (s "_law_word") (aCons (eVar 0) (aCons (eVar 1) (aNil)))) (eC (.bl true)))) (sRet (eSl (eKeys (eVar 3)) oNone (oSome (eC (.int 4))))))
noncomputable def m_law_thing (s : Str → Fn) : Fs := sSeq (sAsg 3 (eIx (eVar 2) (eC (.int 0)))) (sSeq (sIf (tst (eOp eqO (eVar 3) (eC (.str "number")))) (sSeq (sAsg 5 (eOp addD (eIx (eVar 2) (eC (.int 1))) (eOwn (s "_law_draw") (aCons (eVar 0) (aCons (eVar 1) (aCons (eOp addD (eOp subD (eIx (eVar 2) (eC (.int 2))) (eIx (eVar 2) (eC (.int 1)))) (eC (.int 1))) (aNil))))))) (sRet (eOwn (s "_law_pick") (aCons (eVar 0) (aCons (eVar 1) (aCons (eLst (aCons (eIx (eVar 2) (eC (.int 1))) (aCons (eIx (eVar 2) (eC (.int 2))) (aCons (eVar 5) (aNil))))) (aNil))))))) (sNil)) (sSeq (sIf (tst (eOp eqO (eVar 3) (eC (.str "truth")))) (sRet (eOp eqO (eOwn (s "_law_draw") (aCons (eVar 0) (aCons (eVar 1) (aCons (eC (.int 2)) (aNil))))) (eC (.int 0)))) (sNil)) (sSeq (sIf (tst (eOp eqO (eVar 3) (eC (.str "word")))) (sRet (eOwn (s "_law_pick") (aCons (eVar 0) (aCons (eVar 1) (aCons (eIx (eVar 2) (eC (.int 1))) (aNil)))))) (sNil)) (sSeq (sIf (tst (eOp eqO (eVar 3) (eC (.str "text")))) (sRet (eJoin (eC (.str "")) (dA (eComp (iRng1 (eOwn (s "_law_draw") (aCons (eVar 0) (aCons (eVar 1) (aCons (eOp addD (eIx (eVar 2) (eC (.int 1))) (eC (.int 1))) (aNil)))))) (.n 9) [9] (tYesF) (eOwn (s "_law_pick") (aCons (eVar 0) (aCons (eVar 1) (aCons (eC (.str "abc")) (aNil))))))))) (sNil)) (sSeq (sIf (tst (eOp eqO (eVar 3) (eC (.str "list")))) (sRet (dA (eComp (iRng1 (eOwn (s "_law_draw") (aCons (eVar 0) (aCons (eVar 1) (aCons (eOp addD (eIx (eVar 2) (eC (.int 2))) (eC (.int 1))) (aNil)))))) (.n 9) [9] (tYesF) (eOwn (s "_law_thing") (aCons (eVar 0) (aCons (eVar 1) (aCons (eIx (eVar 2) (eC (.int 1))) (aNil)))))))) (sNil)) (sSeq (sIf (tst (eOp eqO (eVar 3) (eC (.str "maybe")))) (sSeq (sAsg 6 (eOp eqO (eOwn (s "_law_draw") (aCons (eVar 0) (aCons (eVar 1) (aCons (eC (.int 3)) (aNil))))) (eC (.int 0)))) (sRet (eIf (tTru (eVar 6)) (eC .non) (eOwn (s "_law_thing") (aCons (eVar 0) (aCons (eVar 1) (aCons (eIx (eVar 2) (eC (.int 1))) (aNil)))))))) (sNil)) (sSeq (sIf (tst (eOp eqO (eVar 3) (eC (.str "kind")))) (sSeq (sUn (.t [7, 8]) (eOwn (s "_law_pick") (aCons (eVar 0) (aCons (eVar 1) (aCons (eIx (eVar 2) (eC (.int 1))) (aNil)))))) (sRet (eTup (aCons (eVar 7) (aCons (eOwn (s "_law_thing") (aCons (eVar 0) (aCons (eVar 1) (aCons (eVar 8) (aNil))))) (aNil)))))) (sNil)) (sSeq (sAsgN 4 (nC (.dct []))) (sSeq (sFor (iSeq (eIx (eVar 2) (eC (.int 1)))) (.t [7, 8]) (sPut 4 (eVar 7) (eOwn (s "_law_thing") (aCons (eVar 0) (aCons (eVar 1) (aCons (eVar 8) (aNil))))))) (sRet (eVar 4)))))))))))
noncomputable def m_law_same (s : Str → Fn) : Fs := sSeq (sIf (tAndF (tst (eIsi .dict (eVar 0))) (tst (eIsi .dict (eVar 1)))) (sSeq (sIf (tst (eOp neO (eSortKeys (eVar 0)) (eSortKeys (eVar 1)))) (sRet (eC (.bl false))) (sNil)) (sRet (eOp eqO (eCall lenG (aCons (dA (eComp (iSeq (eKeys (eVar 0))) (.n 2) [2] (tNotF (tst (eOwn (s "_law_same") (aCons (eIx (eVar 0) (eVar 2)) (aCons (eIx (eVar 1) (eVar 2)) (aNil)))))) (eVar 2))) (aNil))) (eC (.int 0))))) (sNil)) (sSeq (sIf (tOrF (tAndF (tst (eIsi .list (eVar 0))) (tst (eIsi .list (eVar 1)))) (tAndF (tst (eIsi .tuple (eVar 0))) (tst (eIsi .tuple (eVar 1))))) (sRet (eAndF (eOp eqO (eCall lenG (aCons (eVar 0) (aNil))) (eCall lenG (aCons (eVar 1) (aNil)))) (eCall allG (aCons (dA (eComp (iRng1 (eCall lenG (aCons (eVar 0) (aNil)))) (.n 3) [3] (tYesF) (eOwn (s "_law_same") (aCons (eIx (eVar 0) (eVar 3)) (aCons (eIx (eVar 1) (eVar 3)) (aNil)))))) (aNil))))) (sNil)) (sRet (eAndF (eOp eqO (eVar 0) (eVar 1)) (eOp eqO (eIsi .bool (eVar 0)) (eIsi .bool (eVar 1))))))
noncomputable def m_law_levels (s : Str → Fn) : Fs := sSeq (sIf (tst (eOp inD (eIx (eVar 0) (eC (.int 0))) (eTup (aCons (eC (.str "list")) (aCons (eC (.str "maybe")) (aNil)))))) (sRet (eOp addD (eC (.int 1)) (eOwn (s "_law_levels") (aCons (eIx (eVar 0) (eC (.int 1))) (aNil))))) (sNil)) (sSeq (sIf (tst (eOp inD (eIx (eVar 0) (eC (.int 0))) (eTup (aCons (eC (.str "rec")) (aCons (eC (.str "kind")) (aNil)))))) (sRet (eOp addD (eC (.int 1)) (eCall maxG (aCons (eOp addD (eLst (aCons (eC (.int 0)) (aNil))) (dA (eComp (iSeq (eIx (eVar 0) (eC (.int 1)))) (.t [1, 2]) [1, 2] (tYesF) (eOwn (s "_law_levels") (aCons (eVar 2) (aNil)))))) (aNil))))) (sNil)) (sRet (eC (.int 1))))
noncomputable def m_law_part_of (s : Str → Fn) : Fs := sSeq (sAsg 2 (dA (eComp (iSeq (eIx (eVar 0) (eC (.int 1)))) (.t [3, 4]) [3, 4] (tst (eOp eqO (eVar 3) (eVar 1))) (eVar 4)))) (sRet (eIf (tst (eOp neO (eVar 2) (eLst (aNil)))) (eIx (eVar 2) (eC (.int 0))) (eC .non)))
noncomputable def m_law_inside (s : Str → Fn) : Fs := sRet (eOrF (eOp eqO (eVar 0) (eVar 1)) (eOp eqO (eVar 1) (eTup (aCons (eC (.str "maybe")) (aCons (eVar 0) (aNil))))))
noncomputable def m_law_goal (s : Str → Fn) : Fs := sSeq (sAsg 2 (eOwn (s "_law_goal_of") (aCons (eVar 0) (aCons (eVar 1) (aNil))))) (sRet (eIf (tOrF (tst (eIsN (eVar 2))) (tst (eOp gtD (eOwn (s "_law_levels") (aCons (eVar 2) (aNil))) (eC (.int 4))))) (eC .non) (eVar 2)))
noncomputable def m_law_goal_of (s : Str → Fn) : Fs := sSeq (sAsg 2 (eIx (eVar 0) (eC (.int 0)))) (sSeq (sIf (tst (eOp eqO (eVar 2) (eC (.str "keep")))) (sRet (eVar 1)) (sNil)) (sSeq (sIf (tst (eOp eqO (eVar 2) (eC (.str "then")))) (sSeq (sFor (iSeq (eIx (eVar 0) (eC (.int 1)))) (.n 3) (sAsg 1 (eIf (tst (eIsN (eVar 1))) (eC .non) (eOwn (s "_law_goal") (aCons (eVar 3) (aCons (eVar 1) (aNil))))))) (sRet (eVar 1))) (sNil)) (sSeq (sIf (tst (eOp eqO (eVar 2) (eC (.str "make")))) (sSeq (sAsg 4 (dA (eComp (iSeq (eIx (eVar 0) (eC (.int 1)))) (.t [7, 3]) [7, 3] (tYesF) (eTup (aCons (eVar 7) (aCons (eOwn (s "_law_goal") (aCons (eVar 3) (aCons (eVar 1) (aNil)))) (aNil))))))) (sRet (eIf (tst (eOp notInD (eC .non) (dA (eComp (iSeq (eVar 4)) (.t [7, 3]) [7, 3] (tYesF) (eVar 3))))) (eTup (aCons (eC (.str "rec")) (aCons (eCall tupleG (aCons (eVar 4) (aNil))) (aNil)))) (eC .non)))) (sNil)) (sSeq (sIf (tst (eOp inD (eVar 2) (eTup (aCons (eC (.str "give")) (aCons (eC (.str "wide")) (aNil)))))) (sRet (eIf (tOrF (tst (eOp eqO (eVar 2) (eC (.str "give")))) (tst (eOwn (s "_law_inside") (aCons (eVar 1) (aCons (eIx (eVar 0) (eC (.int 1))) (aNil)))))) (eIx (eVar 0) (eC (.int 1))) (eC .non))) (sNil)) (sSeq (sIf (tst (eOp eqO (eVar 2) (eC (.str "some")))) (sRet (eIf (tst (eOp eqO (eIx (eVar 1) (eC (.int 0))) (eC (.str "maybe")))) (eC .non) (eTup (aCons (eC (.str "maybe")) (aCons (eVar 1) (aNil)))))) (sNil)) (sSeq (sIf (tst (eOp eqO (eVar 2) (eC (.str "tag")))) (sSeq (sAsg 5 (eOwn (s "_law_part_of") (aCons (eIx (eVar 0) (eC (.int 2))) (aCons (eIx (eVar 0) (eC (.int 1))) (aNil))))) (sRet (eIf (tAndF (tst (eNotN (eVar 5))) (tst (eOwn (s "_law_inside") (aCons (eVar 1) (aCons (eVar 5) (aNil)))))) (eIx (eVar 0) (eC (.int 2))) (eC .non)))) (sNil)) (sSeq (sIf (tst (eOp inD (eVar 2) (eTup (aCons (eC (.str "add")) (aCons (eC (.str "times")) (aNil)))))) (sSeq (sIf (tst (eOp neO (eIx (eVar 1) (eC (.int 0))) (eC (.str "number")))) (sRet (eC .non)) (sNil)) (sSeq (sAsg 6 (eStk)) (sRet (eIf (tAndF (tst (eOp leD (eCall absG (aCons (eIx (eVar 6) (eC (.int 0))) (aNil))) (eOp powD (eC (.int 10)) (eC (.int 6))))) (tst (eOp leD (eCall absG (aCons (eIx (eVar 6) (eC (.int 1))) (aNil))) (eOp powD (eC (.int 10)) (eC (.int 6)))))) (eTup (aCons (eC (.str "number")) (aCons (eIx (eVar 6) (eC (.int 0))) (aCons (eIx (eVar 6) (eC (.int 1))) (aNil))))) (eC .non))))) (sNil)) (sRet (eOwn (s "_law_goal_apart") (aCons (eVar 0) (aCons (eVar 1) (aNil))))))))))))
noncomputable def m_law_goal_apart (s : Str → Fn) : Fs := sSeq (sAsg 2 (eIx (eVar 0) (eC (.int 0)))) (sSeq (sIf (tst (eOp eqO (eVar 2) (eC (.str "field")))) (sRet (eIf (tst (eOp eqO (eIx (eVar 1) (eC (.int 0))) (eC (.str "rec")))) (eOwn (s "_law_part_of") (aCons (eVar 1) (aCons (eIx (eVar 0) (eC (.int 1))) (aNil)))) (eC .non))) (sNil)) (sSeq (sIf (tst (eOp eqO (eVar 2) (eC (.str "each")))) (sSeq (sAsg 5 (eIf (tst (eOp eqO (eIx (eVar 1) (eC (.int 0))) (eC (.str "list")))) (eOwn (s "_law_goal") (aCons (eIx (eVar 0) (eC (.int 1))) (aCons (eIx (eVar 1) (eC (.int 1))) (aNil)))) (eC .non))) (sRet (eIf (tst (eIsN (eVar 5))) (eC .non) (eTup (aCons (eC (.str "list")) (aCons (eVar 5) (aCons (eIx (eVar 1) (eC (.int 2))) (aNil)))))))) (sNil)) (sSeq (sIf (tst (eOp eqO (eVar 2) (eC (.str "first")))) (sRet (eIf (tAndF (tst (eOp eqO (eIx (eVar 1) (eC (.int 0))) (eC (.str "list")))) (tst (eOp neO (eIx (eIx (eVar 1) (eC (.int 1))) (eC (.int 0))) (eC (.str "maybe"))))) (eTup (aCons (eC (.str "maybe")) (aCons (eIx (eVar 1) (eC (.int 1))) (aNil)))) (eC .non))) (sNil)) (sSeq (sIf (tst (eOp eqO (eVar 2) (eC (.str "size")))) (sRet (eIf (tst (eOp inD (eIx (eVar 1) (eC (.int 0))) (eTup (aCons (eC (.str "list")) (aCons (eC (.str "text")) (aNil)))))) (eTup (aCons (eC (.str "number")) (aCons (eC (.int 0)) (aCons (eIx (eVar 1) (eNeg (eC (.int 1)))) (aNil))))) (eC .non))) (sNil)) (sSeq (sIf (tst (eOp eqO (eVar 2) (eC (.str "else")))) (sRet (eIf (tAndF (tst (eOp eqO (eIx (eVar 1) (eC (.int 0))) (eC (.str "maybe")))) (tst (eOwn (s "is_of") (aCons (eIx (eVar 1) (eC (.int 1))) (aCons (eIx (eVar 0) (eC (.int 1))) (aNil)))))) (eIx (eVar 1) (eC (.int 1))) (eC .non))) (sNil)) (sSeq (sIf (tst (eOp eqO (eVar 2) (eC (.str "rename")))) (sSeq (sIf (tOrF (tst (eOp neO (eIx (eVar 1) (eC (.int 0))) (eC (.str "word")))) (tst (eOp neO (eStk) (eStk)))) (sRet (eC .non)) (sNil)) (sSeq (sAsg 3 (dA (eComp (iSeq (eIx (eVar 1) (eC (.int 1)))) (.n 6) [6] (tYesF) (eIx (dA (eComp (iSeq (eIx (eVar 0) (eC (.int 1)))) (.t [9, 10]) [9, 10] (tst (eOp eqO (eVar 9) (eVar 6))) (eVar 10))) (eC (.int 0)))))) (sRet (eTup (aCons (eC (.str "word")) (aCons (eCall tupleG (aCons (dA (eComp (iRng1 (eCall lenG (aCons (eVar 3) (aNil)))) (.n 8) [8] (tst (eOp notInD (eIx (eVar 3) (eVar 8)) (eSl (eVar 3) oNone (oSome (eVar 8))))) (eIx (eVar 3) (eVar 8)))) (aNil))) (aNil))))))) (sNil)) (sSeq (sAsg 3 (dA (eComp (iSeq (eIx (eVar 0) (eC (.int 1)))) (.t [7, 6]) [7, 6] (tYesF) (eVar 7)))) (sSeq (sIf (tOrF (tst (eOp neO (eIx (eVar 1) (eC (.int 0))) (eC (.str "kind")))) (tst (eOp neO (eStk) (eStk)))) (sRet (eC .non)) (sNil)) (sSeq (sAsg 4 (dA (eComp (iSeq (eIx (eVar 0) (eC (.int 1)))) (.t [7, 6]) [7, 6] (tYesF) (eOwn (s "_law_goal") (aCons (eVar 6) (aCons (eOwn (s "_law_part_of") (aCons (eVar 1) (aCons (eVar 7) (aNil)))) (aNil))))))) (sRet (eIf (tst (eOp eqO (dA (eComp (iSeq (eVar 4)) (.n 6) [6] (tst (eOp neO (eVar 6) (eIx (eVar 4) (eC (.int 0))))) (eVar 6))) (eLst (aNil)))) (eIx (eVar 4) (eC (.int 0))) (eC .non))))))))))))
noncomputable def m_law_told (s : Str → Fn) : Fs := sSeq (sAsg 4 (eC .non)) (sSeq (sAsg 5 (eC .non)) (sSeq (sTryK caught_LeadError 4 6 (sAsg 5 (eOwn (s "put") (aCons (eVar 0) (aCons (eVar 1) (aCons (eVar 2) (aCons (eVar 3) (aNil)))))))) (sRet (eIf (tst (eIsN (eVar 4))) (eTup (aCons (eC (.str "found")) (aCons (eVar 5) (aNil)))) (eOwn (s "_law_refusal") (aCons (eVar 4) (aNil)))))))
noncomputable def m_law_paths (s : Str → Fn) : Fs := sSeq (sAsg 1 (eLst (aNil))) (sSeq (sFor (iSeq (eIf (tst (eOp eqO (eIx (eVar 0) (eC (.int 0))) (eC (.str "rec")))) (eIx (eVar 0) (eC (.int 1))) (eTup (aNil)))) (.t [2, 3]) (sAsg 1 (eOp addD (eOp addD (eVar 1) (eLst (aCons (eTup (aCons (eVar 2) (aNil))) (aNil)))) (dA (eComp (iSeq (eOwn (s "_law_paths") (aCons (eVar 3) (aNil)))) (.n 4) [4] (tYesF) (eOp addD (eTup (aCons (eVar 2) (aNil))) (eVar 4))))))) (sRet (eVar 1)))
noncomputable def m_law_with (s : Str → Fn) : Fs := sSeq (sIf (tst (eOp eqO (eVar 1) (eTup (aNil)))) (sRet (eVar 2)) (sNil)) (sSeq (sAsgN 3 (nDict (eVar 0))) (sSeq (sPut 3 (eIx (eVar 1) (eC (.int 0))) (eOwn (s "_law_with") (aCons (eIx (eVar 0) (eIx (eVar 1) (eC (.int 0)))) (aCons (eSl (eVar 1) (oSome (eC (.int 1))) oNone) (aCons (eVar 2) (aNil)))))) (sRet (eVar 3))))
noncomputable def m_law_rec (s : Str → Fn) : Fs := sSeq (sAsgN 3 (nLst (aNil))) (sSeq (sFor (iSeq (eOwn (s "_law_words") (aCons (eVar 0) (aCons (eVar 1) (aCons (eC (.int 1)) (aNil)))))) (.n 4) (sSeq (sAsg 5 (eIf (tAndF (tst (eOp gtD (eVar 2) (eC (.int 1)))) (tst (eOp eqO (eOwn (s "_law_draw") (aCons (eVar 0) (aCons (eVar 1) (aCons (eC (.int 2)) (aNil))))) (eC (.int 0))))) (eOwn (s "_law_rec") (aCons (eVar 0) (aCons (eVar 1) (aCons (eOp subD (eVar 2) (eC (.int 1))) (aNil))))) (eTup (aCons (eC (.str "truth")) (aNil))))) (sSeq (sAsg 6 (eIf (tst (eOp gtD (eVar 2) (eC (.int 1)))) (eTup (aCons (eC (.str "maybe")) (aCons (eTup (aCons (eC (.str "text")) (aCons (eC (.int 2)) (aNil)))) (aNil)))) (eTup (aCons (eC (.str "text")) (aCons (eC (.int 2)) (aNil)))))) (sApp 3 (eTup (aCons (eVar 4) (aCons (eOwn (s "_law_pick") (aCons (eVar 0) (aCons (eVar 1) (aCons (eLst (aCons (eVar 5) (aCons (eVar 5) (aCons (eTup (aCons (eC (.str "number")) (aCons (eC (.int 0)) (aCons (eC (.int 9)) (aNil))))) (aCons (eVar 6) (aNil)))))) (aNil))))) (aNil)))))))) (sRet (eTup (aCons (eC (.str "rec")) (aCons (eCall tupleG (aCons (eVar 3) (aNil))) (aNil))))))
noncomputable def m_law_others (s : Str → Fn) : Fs := sSeq (sFor (iSeq (eLst (aCons (eTup (aCons (eC (.str "some")) (aNil))) (aCons (eTup (aCons (eC (.str "make")) (aCons (eTup (aNil)) (aNil)))) (aCons (eTup (aCons (eC (.str "then")) (aCons (eTup (aCons (eTup (aCons (eC (.str "field")) (aCons (eVar 2) (aNil)))) (aCons (eTup (aCons (eC (.str "some")) (aNil))) (aNil)))) (aNil)))) (aCons (eTup (aCons (eC (.str "give")) (aCons (eTup (aCons (eC (.str "truth")) (aNil))) (aCons (eC (.bl true)) (aNil))))) (aNil))))))) (.n 3) (sSeq (sAsg 4 (eNotN (eOwn (s "_law_goal") (aCons (eVar 3) (aCons (eVar 0) (aNil)))))) (sIf (tst (eOp neO (eOwn (s "_law_told") (aCons (eVar 3) (aCons (eVar 0) (aCons (eVar 1) (aCons (eTup (aCons (eC (.int 0)) (aCons (eC (.int 0)) (aNil)))) (aNil)))))) (eTup (aCons (eC (.str "refused")) (aCons (eIf (tTru (eVar 4)) (eC (.str "back")) (eC (.str "rule"))) (aNil)))))) (sRet (eC (.bl false))) (sNil)))) (sRet (eAndF (eOp eqO (eOwn (s "fields") (aCons (eTup (aCons (eC (.str "truth")) (aNil))) (aNil))) (eLst (aNil))) (eOp eqO (eOwn (s "fields") (aCons (eTup (aCons (eC (.str "maybe")) (aCons (eTup (aCons (eC (.str "truth")) (aNil))) (aNil)))) (aNil))) (eLst (aNil)))))
noncomputable def tbl0 : List (Str × ((Str → Fn) → Fn)) := [("is_whole", fun s => runF 3 0 (m_is_whole s)), ("is_word", fun s => runF 1 1 (m_is_word s)), ("are_words", fun s => runF 2 1 (m_are_words s)), ("is_shape", fun s => runF 2 0 (m_is_shape s)), ("are_parts", fun s => runF 3 1 (m_are_parts s)), ("look_shape", fun s => runF 1 0 (m_look_shape s)), ("is_of", fun s => runF 2 0 (m_is_of s)), ("is_one", fun s => runF 2 5 (m_is_one s)), ("is_of_kind", fun s => runF 2 2 (m_is_of_kind s)), ("look_thing", fun s => runF 2 0 (m_look_thing s)), ("part_of", fun s => runF 2 3 (m_part_of s)), ("copied", fun s => runF 1 2 (m_copied s)), ("fits_in", fun s => runF 2 4 (m_fits_in s)), ("is_rule", fun s => runF 2 3 (m_is_rule s)), ("are_pairs", fun s => runF 3 1 (m_are_pairs s)), ("look_rule", fun s => runF 1 0 (m_look_rule s))]
noncomputable def tbl1 : List (Str × ((Str → Fn) → Fn)) := [("need", fun s => runF 1 0 (m_need s)), ("led", fun s => runF 2 0 (m_led s)), ("goal", fun s => runF 2 1 (m_goal s)), ("goal_of", fun s => runF 2 3 (m_goal_of s)), ("goal_number", fun s => runF 2 2 (m_goal_number s)), ("goal_part", fun s => runF 2 10 (m_goal_part s)), ("lead", fun s => runF 3 0 (m_lead s)), ("behind", fun s => runF 2 3 (m_behind s)), ("is_view", fun s => runF 1 1 (m_is_view s)), ("put", fun s => runF 4 1 (m_put s)), ("with_part", fun s => runF 3 2 (m_with_part s)), ("fields", fun s => runF 1 4 (m_fields s)), ("_law_cell", fun s => runF 2 0 (m_law_cell s)), ("_law_mix", fun s => runF 2 1 (m_law_mix s)), ("_law_draw", fun s => runF 3 0 (m_law_draw s)), ("_law_pick", fun s => runF 3 0 (m_law_pick s))]
noncomputable def tbl2 : List (Str × ((Str → Fn) → Fn)) := [("_law_refusal", fun s => runF 1 1 (m_law_refusal s)), ("_law_word", fun s => runF 2 2 (m_law_word s)), ("_law_words", fun s => runF 3 2 (m_law_words s)), ("_law_thing", fun s => runF 3 7 (m_law_thing s)), ("_law_same", fun s => runF 2 2 (m_law_same s)), ("_law_rule", fun _ _ _ => .stuck), ("_law_then", fun _ _ _ => .stuck), ("_law_rule_of", fun _ _ _ => .stuck), ("_law_levels", fun s => runF 1 2 (m_law_levels s)), ("_law_part_of", fun s => runF 2 3 (m_law_part_of s)), ("_law_inside", fun s => runF 2 0 (m_law_inside s)), ("_law_goal", fun s => runF 2 1 (m_law_goal s)), ("_law_goal_of", fun s => runF 2 6 (m_law_goal_of s)), ("_law_goal_apart", fun s => runF 2 10 (m_law_goal_apart s)), ("_law_told", fun s => runF 4 3 (m_law_told s)), ("_law_paths", fun s => runF 1 4 (m_law_paths s))]
noncomputable def tbl3 : List (Str × ((Str → Fn) → Fn)) := [("_law_with", fun s => runF 3 1 (m_law_with s)), ("_law_rec", fun s => runF 3 4 (m_law_rec s)), ("_law_others", fun s => runF 3 2 (m_law_others s))]
noncomputable def tbl : List (Str × ((Str → Fn) → Fn)) := tbl0 ++ tbl1 ++ tbl2 ++ tbl3
noncomputable def pickF (t : Option ((Str → Fn) → Fn)) (s : Str → Fn) : Fn := match t with
  | some F => F s
  | none => fun _ _ => .stuck
noncomputable def sem : Nat → Str → Fn
  | 0 => fun _ _ _ => .stuck
  | k + 1 => fun n => pickF (tbl.lookup n) (sem k)
theorem u_is_whole (k : Nat) : sem (k + 1) "is_whole" = runF 3 0 (m_is_whole (sem k)) := by kernel_rfl
theorem u_is_word (k : Nat) : sem (k + 1) "is_word" = runF 1 1 (m_is_word (sem k)) := by kernel_rfl
theorem u_are_words (k : Nat) : sem (k + 1) "are_words" = runF 2 1 (m_are_words (sem k)) := by kernel_rfl
theorem u_is_shape (k : Nat) : sem (k + 1) "is_shape" = runF 2 0 (m_is_shape (sem k)) := by kernel_rfl
theorem u_are_parts (k : Nat) : sem (k + 1) "are_parts" = runF 3 1 (m_are_parts (sem k)) := by kernel_rfl
theorem u_look_shape (k : Nat) : sem (k + 1) "look_shape" = runF 1 0 (m_look_shape (sem k)) := by kernel_rfl
theorem u_is_of (k : Nat) : sem (k + 1) "is_of" = runF 2 0 (m_is_of (sem k)) := by kernel_rfl
theorem u_is_one (k : Nat) : sem (k + 1) "is_one" = runF 2 5 (m_is_one (sem k)) := by kernel_rfl
theorem u_is_of_kind (k : Nat) : sem (k + 1) "is_of_kind" = runF 2 2 (m_is_of_kind (sem k)) := by kernel_rfl
theorem u_look_thing (k : Nat) : sem (k + 1) "look_thing" = runF 2 0 (m_look_thing (sem k)) := by kernel_rfl
theorem u_part_of (k : Nat) : sem (k + 1) "part_of" = runF 2 3 (m_part_of (sem k)) := by kernel_rfl
theorem u_copied (k : Nat) : sem (k + 1) "copied" = runF 1 2 (m_copied (sem k)) := by kernel_rfl
theorem u_fits_in (k : Nat) : sem (k + 1) "fits_in" = runF 2 4 (m_fits_in (sem k)) := by kernel_rfl
theorem u_is_rule (k : Nat) : sem (k + 1) "is_rule" = runF 2 3 (m_is_rule (sem k)) := by kernel_rfl
theorem u_are_pairs (k : Nat) : sem (k + 1) "are_pairs" = runF 3 1 (m_are_pairs (sem k)) := by kernel_rfl
theorem u_look_rule (k : Nat) : sem (k + 1) "look_rule" = runF 1 0 (m_look_rule (sem k)) := by kernel_rfl
theorem u_need (k : Nat) : sem (k + 1) "need" = runF 1 0 (m_need (sem k)) := by kernel_rfl
theorem u_led (k : Nat) : sem (k + 1) "led" = runF 2 0 (m_led (sem k)) := by kernel_rfl
theorem u_goal (k : Nat) : sem (k + 1) "goal" = runF 2 1 (m_goal (sem k)) := by kernel_rfl
theorem u_goal_of (k : Nat) : sem (k + 1) "goal_of" = runF 2 3 (m_goal_of (sem k)) := by kernel_rfl
theorem u_goal_number (k : Nat) : sem (k + 1) "goal_number" = runF 2 2 (m_goal_number (sem k)) := by kernel_rfl
theorem u_goal_part (k : Nat) : sem (k + 1) "goal_part" = runF 2 10 (m_goal_part (sem k)) := by kernel_rfl
theorem u_lead (k : Nat) : sem (k + 1) "lead" = runF 3 0 (m_lead (sem k)) := by kernel_rfl
theorem u_behind (k : Nat) : sem (k + 1) "behind" = runF 2 3 (m_behind (sem k)) := by kernel_rfl
theorem u_is_view (k : Nat) : sem (k + 1) "is_view" = runF 1 1 (m_is_view (sem k)) := by kernel_rfl
theorem u_put (k : Nat) : sem (k + 1) "put" = runF 4 1 (m_put (sem k)) := by kernel_rfl
theorem u_with_part (k : Nat) : sem (k + 1) "with_part" = runF 3 2 (m_with_part (sem k)) := by kernel_rfl
theorem u_fields (k : Nat) : sem (k + 1) "fields" = runF 1 4 (m_fields (sem k)) := by kernel_rfl
theorem u_law_cell (k : Nat) : sem (k + 1) "_law_cell" = runF 2 0 (m_law_cell (sem k)) := by kernel_rfl
theorem u_law_mix (k : Nat) : sem (k + 1) "_law_mix" = runF 2 1 (m_law_mix (sem k)) := by kernel_rfl
theorem u_law_draw (k : Nat) : sem (k + 1) "_law_draw" = runF 3 0 (m_law_draw (sem k)) := by kernel_rfl
theorem u_law_pick (k : Nat) : sem (k + 1) "_law_pick" = runF 3 0 (m_law_pick (sem k)) := by kernel_rfl
theorem u_law_refusal (k : Nat) : sem (k + 1) "_law_refusal" = runF 1 1 (m_law_refusal (sem k)) := by kernel_rfl
theorem u_law_word (k : Nat) : sem (k + 1) "_law_word" = runF 2 2 (m_law_word (sem k)) := by kernel_rfl
theorem u_law_words (k : Nat) : sem (k + 1) "_law_words" = runF 3 2 (m_law_words (sem k)) := by kernel_rfl
theorem u_law_thing (k : Nat) : sem (k + 1) "_law_thing" = runF 3 7 (m_law_thing (sem k)) := by kernel_rfl
theorem u_law_same (k : Nat) : sem (k + 1) "_law_same" = runF 2 2 (m_law_same (sem k)) := by kernel_rfl
theorem u_law_rule (k : Nat) : sem (k + 1) "_law_rule" = fun _ _ => .stuck := by kernel_rfl
theorem u_law_then (k : Nat) : sem (k + 1) "_law_then" = fun _ _ => .stuck := by kernel_rfl
theorem u_law_rule_of (k : Nat) : sem (k + 1) "_law_rule_of" = fun _ _ => .stuck := by kernel_rfl
theorem u_law_levels (k : Nat) : sem (k + 1) "_law_levels" = runF 1 2 (m_law_levels (sem k)) := by kernel_rfl
theorem u_law_part_of (k : Nat) : sem (k + 1) "_law_part_of" = runF 2 3 (m_law_part_of (sem k)) := by kernel_rfl
theorem u_law_inside (k : Nat) : sem (k + 1) "_law_inside" = runF 2 0 (m_law_inside (sem k)) := by kernel_rfl
theorem u_law_goal (k : Nat) : sem (k + 1) "_law_goal" = runF 2 1 (m_law_goal (sem k)) := by kernel_rfl
theorem u_law_goal_of (k : Nat) : sem (k + 1) "_law_goal_of" = runF 2 6 (m_law_goal_of (sem k)) := by kernel_rfl
theorem u_law_goal_apart (k : Nat) : sem (k + 1) "_law_goal_apart" = runF 2 10 (m_law_goal_apart (sem k)) := by kernel_rfl
theorem u_law_told (k : Nat) : sem (k + 1) "_law_told" = runF 4 3 (m_law_told (sem k)) := by kernel_rfl
theorem u_law_paths (k : Nat) : sem (k + 1) "_law_paths" = runF 1 4 (m_law_paths (sem k)) := by kernel_rfl
theorem u_law_with (k : Nat) : sem (k + 1) "_law_with" = runF 3 1 (m_law_with (sem k)) := by kernel_rfl
theorem u_law_rec (k : Nat) : sem (k + 1) "_law_rec" = runF 3 4 (m_law_rec (sem k)) := by kernel_rfl
theorem u_law_others (k : Nat) : sem (k + 1) "_law_others" = runF 3 2 (m_law_others (sem k)) := by kernel_rfl
theorem sc_is_whole : FnScope ["thing", "least", "most"] ["thing", "least", "most"] (defScope (top 17)) := ⟨rfl, rfl, rfl, by decide +kernel, rfl, by decide +kernel, by decide +kernel⟩
theorem sc_is_word : FnScope ["thing", "sign"] ["thing"] (defScope (top 18)) := ⟨rfl, rfl, rfl, by decide +kernel, rfl, by decide +kernel, by decide +kernel⟩
theorem sc_are_words : FnScope ["some", "least", "one"] ["some", "least"] (defScope (top 19)) := ⟨rfl, rfl, rfl, by decide +kernel, rfl, by decide +kernel, by decide +kernel⟩
theorem sc_is_shape : FnScope ["thing", "deep"] ["thing", "deep"] (defScope (top 20)) := ⟨rfl, rfl, rfl, by decide +kernel, rfl, by decide +kernel, by decide +kernel⟩
theorem sc_are_parts : FnScope ["parts", "deep", "least", "part"] ["parts", "deep", "least"] (defScope (top 21)) := ⟨rfl, rfl, rfl, by decide +kernel, rfl, by decide +kernel, by decide +kernel⟩
theorem sc_look_shape : FnScope ["shape"] ["shape"] (defScope (top 22)) := ⟨rfl, rfl, rfl, by decide +kernel, rfl, by decide +kernel, by decide +kernel⟩
theorem sc_is_of : FnScope ["shape", "thing"] ["shape", "thing"] (defScope (top 23)) := ⟨rfl, rfl, rfl, by decide +kernel, rfl, by decide +kernel, by decide +kernel⟩
theorem sc_is_one : FnScope ["shape", "thing", "word", "name", "part", "sign", "one"] ["shape", "thing"] (defScope (top 24)) := ⟨rfl, rfl, rfl, by decide +kernel, rfl, by decide +kernel, by decide +kernel⟩
theorem sc_is_of_kind : FnScope ["shape", "thing", "one", "part"] ["shape", "thing"] (defScope (top 25)) := ⟨rfl, rfl, rfl, by decide +kernel, rfl, by decide +kernel, by decide +kernel⟩
theorem sc_look_thing : FnScope ["shape", "thing"] ["shape", "thing"] (defScope (top 26)) := ⟨rfl, rfl, rfl, by decide +kernel, rfl, by decide +kernel, by decide +kernel⟩
theorem sc_part_of : FnScope ["shape", "name", "some", "one", "part"] ["shape", "name"] (defScope (top 27)) := ⟨rfl, rfl, rfl, by decide +kernel, rfl, by decide +kernel, by decide +kernel⟩
theorem sc_copied : FnScope ["thing", "one", "name"] ["thing"] (defScope (top 28)) := ⟨rfl, rfl, rfl, by decide +kernel, rfl, by decide +kernel, by decide +kernel⟩
theorem sc_fits_in : FnScope ["one", "other", "word", "name", "part", "sign"] ["one", "other"] (defScope (top 30)) := ⟨rfl, rfl, rfl, by decide +kernel, rfl, by decide +kernel, by decide +kernel⟩
theorem sc_is_rule : FnScope ["thing", "deep", "word", "good", "one"] ["thing", "deep"] (defScope (top 36)) := ⟨rfl, rfl, rfl, by decide +kernel, rfl, by decide +kernel, by decide +kernel⟩
theorem sc_are_pairs : FnScope ["word", "pairs", "deep", "pair"] ["word", "pairs", "deep"] (defScope (top 37)) := ⟨rfl, rfl, rfl, by decide +kernel, rfl, by decide +kernel, by decide +kernel⟩
theorem sc_look_rule : FnScope ["rule"] ["rule"] (defScope (top 38)) := ⟨rfl, rfl, rfl, by decide +kernel, rfl, by decide +kernel, by decide +kernel⟩
theorem sc_need : FnScope ["good"] ["good"] (defScope (top 39)) := ⟨rfl, rfl, rfl, by decide +kernel, rfl, by decide +kernel, by decide +kernel⟩
theorem sc_led : FnScope ["rule", "shape"] ["rule", "shape"] (defScope (top 40)) := ⟨rfl, rfl, rfl, by decide +kernel, rfl, by decide +kernel, by decide +kernel⟩
theorem sc_goal : FnScope ["rule", "shape", "found"] ["rule", "shape"] (defScope (top 41)) := ⟨rfl, rfl, rfl, by decide +kernel, rfl, by decide +kernel, by decide +kernel⟩
theorem sc_goal_of : FnScope ["rule", "shape", "word", "one", "name"] ["rule", "shape"] (defScope (top 42)) := ⟨rfl, rfl, rfl, by decide +kernel, rfl, by decide +kernel, by decide +kernel⟩
theorem sc_goal_number : FnScope ["rule", "shape", "ends", "one"] ["rule", "shape"] (defScope (top 43)) := ⟨rfl, rfl, rfl, by decide +kernel, rfl, by decide +kernel, by decide +kernel⟩
theorem sc_goal_part : FnScope ["rule", "shape", "word", "words", "goals", "new", "found", "pair", "one", "name", "part", "k"] ["rule", "shape"] (defScope (top 44)) := ⟨rfl, rfl, rfl, by decide +kernel, rfl, by decide +kernel, by decide +kernel⟩
theorem sc_lead : FnScope ["rule", "shape", "thing"] ["rule", "shape", "thing"] (defScope (top 45)) := ⟨rfl, rfl, rfl, by decide +kernel, rfl, by decide +kernel, by decide +kernel⟩
theorem sc_behind : FnScope ["rule", "thing", "word", "one", "name"] ["rule", "thing"] (defScope (top 46)) := ⟨rfl, rfl, rfl, by decide +kernel, rfl, by decide +kernel, by decide +kernel⟩
theorem sc_is_view : FnScope ["rule", "one"] ["rule"] (defScope (top 48)) := ⟨rfl, rfl, rfl, by decide +kernel, rfl, by decide +kernel, by decide +kernel⟩
theorem sc_put : FnScope ["rule", "shape", "old", "new", "end"] ["rule", "shape", "old", "new"] (defScope (top 49)) := ⟨rfl, rfl, rfl, by decide +kernel, rfl, by decide +kernel, by decide +kernel⟩
theorem sc_with_part : FnScope ["rule", "old", "new", "first", "name"] ["rule", "old", "new"] (defScope (top 50)) := ⟨rfl, rfl, rfl, by decide +kernel, rfl, by decide +kernel, by decide +kernel⟩
theorem sc_fields : FnScope ["shape", "found", "name", "part", "one"] ["shape"] (defScope (top 51)) := ⟨rfl, rfl, rfl, by decide +kernel, rfl, by decide +kernel, by decide +kernel⟩
theorem sc_law_cell : FnScope ["script", "k"] ["script", "k"] (defScope (top 53)) := ⟨rfl, rfl, rfl, by decide +kernel, rfl, by decide +kernel, by decide +kernel⟩
theorem sc_law_mix : FnScope ["script", "k", "number"] ["script", "k"] (defScope (top 54)) := ⟨rfl, rfl, rfl, by decide +kernel, rfl, by decide +kernel, by decide +kernel⟩
theorem sc_law_draw : FnScope ["script", "town", "many"] ["script", "town", "many"] (defScope (top 55)) := ⟨rfl, rfl, rfl, by decide +kernel, rfl, by decide +kernel, by decide +kernel⟩
theorem sc_law_pick : FnScope ["script", "town", "some"] ["script", "town", "some"] (defScope (top 56)) := ⟨rfl, rfl, rfl, by decide +kernel, rfl, by decide +kernel, by decide +kernel⟩
theorem sc_law_refusal : FnScope ["caught", "kinds"] ["caught"] (defScope (top 57)) := ⟨rfl, rfl, rfl, by decide +kernel, rfl, by decide +kernel, by decide +kernel⟩
theorem sc_law_word : FnScope ["script", "town", "signs", "k"] ["script", "town"] (defScope (top 58)) := ⟨rfl, rfl, rfl, by decide +kernel, rfl, by decide +kernel, by decide +kernel⟩
theorem sc_law_words : FnScope ["script", "town", "least_many", "found", "k"] ["script", "town", "least_many"] (defScope (top 59)) := ⟨rfl, rfl, rfl, by decide +kernel, rfl, by decide +kernel, by decide +kernel⟩
theorem sc_law_thing : FnScope ["script", "town", "shape", "word", "found", "within_it", "is_none", "name", "part", "k"] ["script", "town", "shape"] (defScope (top 60)) := ⟨rfl, rfl, rfl, by decide +kernel, rfl, by decide +kernel, by decide +kernel⟩
theorem sc_law_same : FnScope ["one", "other", "name", "k"] ["one", "other"] (defScope (top 61)) := ⟨rfl, rfl, rfl, by decide +kernel, rfl, by decide +kernel, by decide +kernel⟩
theorem sc_law_levels : FnScope ["shape", "name", "part"] ["shape"] (defScope (top 65)) := ⟨rfl, rfl, rfl, by decide +kernel, rfl, by decide +kernel, by decide +kernel⟩
theorem sc_law_part_of : FnScope ["shape", "name", "some", "one", "part"] ["shape", "name"] (defScope (top 66)) := ⟨rfl, rfl, rfl, by decide +kernel, rfl, by decide +kernel, by decide +kernel⟩
theorem sc_law_inside : FnScope ["one", "other"] ["one", "other"] (defScope (top 67)) := ⟨rfl, rfl, rfl, by decide +kernel, rfl, by decide +kernel, by decide +kernel⟩
theorem sc_law_goal : FnScope ["rule", "shape", "found"] ["rule", "shape"] (defScope (top 68)) := ⟨rfl, rfl, rfl, by decide +kernel, rfl, by decide +kernel, by decide +kernel⟩
theorem sc_law_goal_of : FnScope ["rule", "shape", "word", "one", "goals", "part", "ends", "name"] ["rule", "shape"] (defScope (top 69)) := ⟨rfl, rfl, rfl, by decide +kernel, rfl, by decide +kernel, by decide +kernel⟩
theorem sc_law_goal_apart : FnScope ["rule", "shape", "word", "words", "goals", "inner", "one", "name", "k", "old", "new", "part"] ["rule", "shape"] (defScope (top 70)) := ⟨rfl, rfl, rfl, by decide +kernel, rfl, by decide +kernel, by decide +kernel⟩
theorem sc_law_told : FnScope ["rule", "shape", "old", "new", "caught", "found", "e"] ["rule", "shape", "old", "new"] (defScope (top 71)) := ⟨rfl, rfl, rfl, by decide +kernel, rfl, by decide +kernel, by decide +kernel⟩
theorem sc_law_paths : FnScope ["shape", "found", "name", "part", "path"] ["shape"] (defScope (top 72)) := ⟨rfl, rfl, rfl, by decide +kernel, rfl, by decide +kernel, by decide +kernel⟩
theorem sc_law_with : FnScope ["thing", "path", "new", "found"] ["thing", "path", "new"] (defScope (top 73)) := ⟨rfl, rfl, rfl, by decide +kernel, rfl, by decide +kernel, by decide +kernel⟩
theorem sc_law_rec : FnScope ["script", "town", "deep", "parts", "name", "inner", "more"] ["script", "town", "deep"] (defScope (top 74)) := ⟨rfl, rfl, rfl, by decide +kernel, rfl, by decide +kernel, by decide +kernel⟩
theorem sc_law_others : FnScope ["shape", "old", "name", "rule", "good"] ["shape", "old", "name"] (defScope (top 75)) := ⟨rfl, rfl, rfl, by decide +kernel, rfl, by decide +kernel, by decide +kernel⟩
theorem sc_law : FnScope ["script", "town", "shape", "paths", "due", "path", "old", "rule", "part", "new", "found", "other", "name"] ["script"] (defScope (top 76)) := ⟨rfl, rfl, rfl, by decide +kernel, rfl, by decide +kernel, by decide +kernel⟩
noncomputable def t_law7 (s : Str → Fn) : Fs := sRet (eOwn (s "_law_others") (aCons (eVar 2) (aCons (eVar 6) (aCons (eIx (eIx (eVar 3) (eC (.int 0))) (eC (.int 0))) (aNil)))))
noncomputable def t_law6 (s : Str → Fn) : Fs := sSeq (sFor (iSeq (eOp addD (eSl (eVar 3) oNone (oSome (eC (.int 12)))) (eLst (aCons (eTup (aNil)) (aNil))))) (.n 5) (sSeq (sAsg 7 (eIf (tst (eOp neO (eVar 5) (eTup (aNil)))) (eTup (aCons (eC (.str "then")) (aCons (eCall tupleG (aCons (dA (eComp (iSeq (eVar 5)) (.n 12) [12] (tYesF) (eTup (aCons (eC (.str "field")) (aCons (eVar 12) (aNil)))))) (aNil))) (aNil)))) (eTup (aCons (eC (.str "keep")) (aNil))))) (sSeq (sIf (tst (eOp eqO (eOwn (s "_law_draw") (aCons (eVar 0) (aCons (eVar 1) (aCons (eC (.int 3)) (aNil))))) (eC (.int 0)))) (sAsg 7 (eTup (aCons (eC (.str "then")) (aCons (eTup (aCons (eTup (aCons (eC (.str "keep")) (aNil))) (aCons (eVar 7) (aCons (eTup (aCons (eC (.str "then")) (aCons (eTup (aCons (eTup (aCons (eC (.str "keep")) (aNil))) (aNil))) (aNil)))) (aNil))))) (aNil))))) (sNil)) (sSeq (sAsg 8 (eOwn (s "led") (aCons (eVar 7) (aCons (eVar 2) (aNil))))) (sSeq (sAsg 9 (eOwn (s "_law_thing") (aCons (eVar 0) (aCons (eVar 1) (aCons (eVar 8) (aNil)))))) (sSeq (sAsg 10 (eOwn (s "_law_told") (aCons (eVar 7) (aCons (eVar 2) (aCons (eVar 6) (aCons (eVar 9) (aNil))))))) (sSeq (sIf (tOrF (tst (eOp neO (eIx (eVar 10) (eC (.int 0))) (eC (.str "found")))) (tNotF (tst (eOwn (s "_law_same") (aCons (eIx (eVar 10) (eC (.int 1))) (aCons (eOwn (s "_law_with") (aCons (eVar 6) (aCons (eVar 5) (aCons (eVar 9) (aNil))))) (aNil))))))) (sRet (eC (.bl false))) (sNil)) (sSeq (sIf (tOrF (tNotF (tst (eOwn (s "_law_same") (aCons (eOwn (s "lead") (aCons (eVar 7) (aCons (eVar 2) (aCons (eIx (eVar 10) (eC (.int 1))) (aNil))))) (aCons (eVar 9) (aNil)))))) (tNotF (tst (eOwn (s "is_of") (aCons (eVar 2) (aCons (eIx (eVar 10) (eC (.int 1))) (aNil))))))) (sRet (eC (.bl false))) (sNil)) (sSeq (sIf (tNotF (tst (eOwn (s "_law_same") (aCons (eOwn (s "put") (aCons (eVar 7) (aCons (eVar 2) (aCons (eVar 6) (aCons (eOwn (s "lead") (aCons (eVar 7) (aCons (eVar 2) (aCons (eVar 6) (aNil))))) (aNil)))))) (aCons (eVar 6) (aNil)))))) (sRet (eC (.bl false))) (sNil)) (sSeq (sAsg 11 (eOwn (s "_law_thing") (aCons (eVar 0) (aCons (eVar 1) (aCons (eVar 8) (aNil)))))) (sSeq (sIf (tNotF (tst (eOwn (s "_law_same") (aCons (eOwn (s "put") (aCons (eVar 7) (aCons (eVar 2) (aCons (eIx (eVar 10) (eC (.int 1))) (aCons (eVar 11) (aNil)))))) (aCons (eOwn (s "put") (aCons (eVar 7) (aCons (eVar 2) (aCons (eVar 6) (aCons (eVar 11) (aNil)))))) (aNil)))))) (sRet (eC (.bl false))) (sNil)) (sSeq (sIf (tst (eOp neO (eOwn (s "_law_told") (aCons (eVar 7) (aCons (eVar 2) (aCons (eVar 6) (aCons (eTup (aCons (eC (.int 0)) (aCons (eC (.int 0)) (aNil)))) (aNil)))))) (eTup (aCons (eC (.str "refused")) (aCons (eC (.str "thing")) (aNil)))))) (sRet (eC (.bl false))) (sNil)) (sIf (tst (eOp neO (eOwn (s "_law_told") (aCons (eVar 7) (aCons (eVar 2) (aCons (eTup (aCons (eC (.int 0)) (aCons (eC (.int 0)) (aNil)))) (aCons (eVar 9) (aNil)))))) (eTup (aCons (eC (.str "refused")) (aCons (eC (.str "thing")) (aNil)))))) (sRet (eC (.bl false))) (sNil)))))))))))))) (t_law7 s)
noncomputable def t_law5 (s : Str → Fn) : Fs := sSeq (sAsg 6 (eOwn (s "_law_thing") (aCons (eVar 0) (aCons (eVar 1) (aCons (eVar 2) (aNil)))))) (t_law6 s)
noncomputable def t_law4 (s : Str → Fn) : Fs := sSeq (sIf (tst (eOp neO (eOwn (s "fields") (aCons (eVar 2) (aNil))) (eVar 4))) (sRet (eC (.bl false))) (sNil)) (t_law5 s)
noncomputable def t_law3 (s : Str → Fn) : Fs := sSeq (sFor (iSeq (eVar 3)) (.n 5) (sApp 4 (eIf (tst (eOp eqO (eCall lenG (aCons (eVar 5) (aNil))) (eC (.int 1)))) (eTup (aCons (eC (.str "field")) (aCons (eIx (eVar 5) (eC (.int 0))) (aNil)))) (eTup (aCons (eC (.str "then")) (aCons (eCall tupleG (aCons (dA (eComp (iSeq (eVar 5)) (.n 12) [12] (tYesF) (eTup (aCons (eC (.str "field")) (aCons (eVar 12) (aNil)))))) (aNil))) (aNil))))))) (t_law4 s)
noncomputable def t_law2 (s : Str → Fn) : Fs := sSeq (sAsgN 4 (nLst (aNil))) (t_law3 s)
noncomputable def t_law1 (s : Str → Fn) : Fs := sSeq (sAsg 3 (eOwn (s "_law_paths") (aCons (eVar 2) (aNil)))) (t_law2 s)
noncomputable def t_law0 (s : Str → Fn) : Fs := sSeq (sAsg 2 (eOwn (s "_law_rec") (aCons (eVar 0) (aCons (eVar 1) (aCons (eC (.int 3)) (aNil)))))) (t_law1 s)
noncomputable def m_law (s : Str → Fn) : Fs := t_law0 s
section
variable {w : World} {K : Frag} {mg : Str → Option Value} {base : Heap} {k : Nat} {s : Str → Fn}
abbrev Pg : Program := PySem.Challenge.pw_shapeleads_k42_whole_views
theorem w_is_whole (Fc : Facts w K mg) (C : ∀ f : Fnm, Callee Pg w K mg base k f.nm (s f.nm)) : Bd Pg w K mg base k ["thing", "least", "most"] "is_whole" (defScope (top 17)) (defBody (top 17)) (m_is_whole s) :=
  ⟨fun f cdv A outer s0 H E q hp => ⟨[], gss_one (gs_ret (ge_and (ge_isi (T := .int) (ge_var (i := 0)) Fc.n_isinstance Fc.n_int PyProof.Rows.boot_int) (ge_and (ge_not (ge_isi (T := .bool) (ge_var (i := 0)) Fc.n_isinstance Fc.n_bool PyProof.Rows.boot_bool)) (ge_one (ge_chain op_le og_le op_le og_le (ge_var (i := 1)) (ge_var (i := 0)) (ge_var (i := 2)))))))⟩⟩
theorem w_is_word (Fc : Facts w K mg) (C : ∀ f : Fnm, Callee Pg w K mg base k f.nm (s f.nm)) : Bd Pg w K mg base k ["thing", "sign"] "is_word" (defScope (top 18)) (defBody (top 18)) (m_is_word s) :=
  ⟨fun f cdv A outer s0 H E q hp => ⟨[], gss_one (gs_ret (ge_and (ge_isi (T := .str) (ge_var (i := 0)) Fc.n_isinstance Fc.n_str PyProof.Rows.boot_str) (ge_and (ge_chain op_le og_le op_le og_le (ge_int) (ge_callB call_lenG cg_len Fc.n_len boot_len (ga_cons (ge_var (i := 0)) (ga_nil))) (ge_gint Fc.c_MOST_WORD)) (ge_one (ge_callB (cr_all rfl) cg_all Fc.n_all PyProof.Rows.boot_all (ga_cons (GN.ge (gn_comp (own := [("sign", 1)]) sc_is_word.nd (gi_seq (ge_var (i := 0))) (blkOk_by (N := ["thing", "sign"]) (sc := defScope (top 18)) (by decide +kernel)) (fun s1 H1 C1 cl1 fp1 => gg_name (i := 1) sc_is_word.nd) (fun s1 H1 C1 cl1 fp1 => gts_nil) (fun s1 H1 C1 cl1 fp1 => ge_cmp (op_inG (q.blk [] s1 H1 _ _ fp1).hu) og_in (ge_var (i := 1)) (ge_gstr Fc.c_SMALL)))) (ga_nil)))))))⟩⟩
theorem w_are_words (Fc : Facts w K mg) (C : ∀ f : Fnm, Callee Pg w K mg base k f.nm (s f.nm)) : Bd Pg w K mg base k ["some", "least", "one"] "are_words" (defScope (top 19)) (defBody (top 19)) (m_are_words s) :=
  ⟨fun f cdv A outer s0 H E q hp => ⟨[], gss_one (gs_ret (ge_and (ge_chain op_le og_le op_le og_le (ge_var (i := 1)) (ge_callB call_lenG cg_len Fc.n_len boot_len (ga_cons (ge_var (i := 0)) (ga_nil))) (ge_gint Fc.c_MOST_PARTS)) (ge_and (ge_callB (cr_all rfl) cg_all Fc.n_all PyProof.Rows.boot_all (ga_cons (GN.ge (gn_comp (own := [("one", 2)]) sc_are_words.nd (gi_seq (ge_var (i := 0))) (blkOk_by (N := ["some", "least", "one"]) (sc := defScope (top 19)) (by decide +kernel)) (fun s1 H1 C1 cl1 fp1 => gg_name (i := 2) sc_are_words.nd) (fun s1 H1 C1 cl1 fp1 => gts_nil) (fun s1 H1 C1 cl1 fp1 => ge_own (q.blk [] s1 H1 _ _ fp1) (C .is_word) (ga_cons (ge_var (i := 2)) (ga_nil))))) (ga_nil))) (ge_one (ge_cmp (op_eqG q.hq) og_eq (ge_lenSet (ge_var (i := 0)) Fc.n_len Fc.n_set) (ge_callB call_lenG cg_len Fc.n_len boot_len (ga_cons (ge_var (i := 0)) (ga_nil))))))))⟩⟩
theorem w_is_shape (Fc : Facts w K mg) (C : ∀ f : Fnm, Callee Pg w K mg base k f.nm (s f.nm)) : Bd Pg w K mg base k ["thing", "deep"] "is_shape" (defScope (top 20)) (defBody (top 20)) (m_is_shape s) :=
  ⟨fun f cdv A outer s0 H E q hp => ⟨[], gss_cons (gs_if (gt_w (gw_or (gt_not (gt_val (ge_isi (T := .tuple) (ge_var (i := 0)) Fc.n_isinstance Fc.n_tuple PyProof.Rows.boot_tuple))) (gw_or (gt_cmp (op_eqG q.hq) og_eq (ge_callB call_lenG cg_len Fc.n_len boot_len (ga_cons (ge_var (i := 0)) (ga_nil))) (ge_int)) (gw_or (gt_cmp (op_eqG q.hq) og_eq (ge_var (i := 1)) (ge_int)) (gw_or1 (gt_not (gt_val (ge_isi (T := .str) (ge_ix q.hu (ge_var (i := 0)) (ge_int)) Fc.n_isinstance Fc.n_str PyProof.Rows.boot_str)))))))) (gss_one (gs_ret (ge_bl))) (gss_nil)) (gss_cons (gs_if (gt_cmp (op_neG q.hq) og_ne (ge_callB call_lenG cg_len Fc.n_len boot_len (ga_cons (ge_var (i := 0)) (ga_nil))) (ge_tab Fc.t_SIZES_shapes.1 Fc.t_SIZES_shapes.2 (ge_ix q.hu (ge_var (i := 0)) (ge_int)))) (gss_one (gs_ret (ge_bl))) (gss_nil)) (gss_cons (gs_if (gt_cmp (op_eqG q.hq) og_eq (ge_ix q.hu (ge_var (i := 0)) (ge_int)) (ge_str)) (gss_one (gs_ret (ge_bl))) (gss_nil)) (gss_cons (gs_if (gt_cmp (op_eqG q.hq) og_eq (ge_ix q.hu (ge_var (i := 0)) (ge_int)) (ge_str)) (gss_one (gs_ret (ge_and (ge_own q (C .is_whole) (ga_cons (ge_ix q.hu (ge_var (i := 0)) (ge_int)) (ga_cons (ge_op op_sub og_sub (ge_int) (ge_gint Fc.c_FAR)) (ga_cons (ge_gint Fc.c_FAR) (ga_nil))))) (ge_one (ge_own q (C .is_whole) (ga_cons (ge_ix q.hu (ge_var (i := 0)) (ge_int)) (ga_cons (ge_ix q.hu (ge_var (i := 0)) (ge_int)) (ga_cons (ge_gint Fc.c_FAR) (ga_nil))))))))) (gss_nil)) (gss_cons (gs_if (gt_cmp (op_eqG q.hq) og_eq (ge_ix q.hu (ge_var (i := 0)) (ge_int)) (ge_str)) (gss_one (gs_ret (ge_own q (C .is_whole) (ga_cons (ge_ix q.hu (ge_var (i := 0)) (ge_int)) (ga_cons (ge_int) (ga_cons (ge_gint Fc.c_MOST_PARTS) (ga_nil))))))) (gss_nil)) (gss_cons (gs_if (gt_cmp (op_eqG q.hq) og_eq (ge_ix q.hu (ge_var (i := 0)) (ge_int)) (ge_str)) (gss_one (gs_ret (ge_and (ge_own q (C .is_shape) (ga_cons (ge_ix q.hu (ge_var (i := 0)) (ge_int)) (ga_cons (ge_op op_sub og_sub (ge_var (i := 1)) (ge_int)) (ga_nil)))) (ge_one (ge_own q (C .is_whole) (ga_cons (ge_ix q.hu (ge_var (i := 0)) (ge_int)) (ga_cons (ge_int) (ga_cons (ge_gint Fc.c_MOST_PARTS) (ga_nil))))))))) (gss_nil)) (gss_cons (gs_if (gt_cmp (op_eqG q.hq) og_eq (ge_ix q.hu (ge_var (i := 0)) (ge_int)) (ge_str)) (gss_one (gs_ret (ge_and (ge_own q (C .is_shape) (ga_cons (ge_ix q.hu (ge_var (i := 0)) (ge_int)) (ga_cons (ge_op op_sub og_sub (ge_var (i := 1)) (ge_int)) (ga_nil)))) (ge_one (ge_cmp (op_neG q.hq) og_ne (ge_ix q.hu (ge_ix q.hu (ge_var (i := 0)) (ge_int)) (ge_int)) (ge_str)))))) (gss_nil)) (gss_cons (gs_if (gt_not (gt_val (ge_isi (T := .tuple) (ge_ix q.hu (ge_var (i := 0)) (ge_int)) Fc.n_isinstance Fc.n_tuple PyProof.Rows.boot_tuple))) (gss_one (gs_ret (ge_bl))) (gss_nil)) (gss_one (gs_ret (ge_if (gt_cmp (op_eqG q.hq) og_eq (ge_ix q.hu (ge_var (i := 0)) (ge_int)) (ge_str)) (ge_own q (C .are_words) (ga_cons (ge_ix q.hu (ge_var (i := 0)) (ge_int)) (ga_cons (ge_int) (ga_nil)))) (ge_own q (C .are_parts) (ga_cons (ge_ix q.hu (ge_var (i := 0)) (ge_int)) (ga_cons (ge_var (i := 1)) (ga_cons (ge_callT call_int1 cg_int Fc.n_int PyProof.Rows.boot_int (ga_cons (ge_cmp (op_eqG q.hq) og_eq (ge_ix q.hu (ge_var (i := 0)) (ge_int)) (ge_str)) (ga_nil))) (ga_nil)))))))))))))))⟩⟩
theorem w_are_parts (Fc : Facts w K mg) (C : ∀ f : Fnm, Callee Pg w K mg base k f.nm (s f.nm)) : Bd Pg w K mg base k ["parts", "deep", "least", "part"] "are_parts" (defScope (top 21)) (defBody (top 21)) (m_are_parts s) :=
  ⟨fun f cdv A outer s0 H E q hp => ⟨[], gss_cons (gs_if (gt_not (gt_val (ge_callB (cr_all rfl) cg_all Fc.n_all PyProof.Rows.boot_all (ga_cons (GN.ge (gn_comp (own := [("part", 3)]) sc_are_parts.nd (gi_seq (ge_var (i := 0))) (blkOk_by (N := ["parts", "deep", "least", "part"]) (sc := defScope (top 21)) (by decide +kernel)) (fun s1 H1 C1 cl1 fp1 => gg_name (i := 3) sc_are_parts.nd) (fun s1 H1 C1 cl1 fp1 => gts_nil) (fun s1 H1 C1 cl1 fp1 => ge_and (ge_isi (T := .tuple) (ge_var (i := 3)) Fc.n_isinstance Fc.n_tuple PyProof.Rows.boot_tuple) (ge_one (ge_cmp (op_eqG (q.blk [] s1 H1 _ _ fp1).hq) og_eq (ge_callB call_lenG cg_len Fc.n_len boot_len (ga_cons (ge_var (i := 3)) (ga_nil))) (ge_int)))))) (ga_nil))))) (gss_one (gs_ret (ge_bl))) (gss_nil)) (gss_cons (gs_if (gt_w (gw_or (gt_not (gt_val (ge_callB (cr_all rfl) cg_all Fc.n_all PyProof.Rows.boot_all (ga_cons (GN.ge (gn_comp (own := [("part", 3)]) sc_are_parts.nd (gi_seq (ge_var (i := 0))) (blkOk_by (N := ["parts", "deep", "least", "part"]) (sc := defScope (top 21)) (by decide +kernel)) (fun s1 H1 C1 cl1 fp1 => gg_name (i := 3) sc_are_parts.nd) (fun s1 H1 C1 cl1 fp1 => gts_nil) (fun s1 H1 C1 cl1 fp1 => ge_own (q.blk [] s1 H1 _ _ fp1) (C .is_word) (ga_cons (ge_ix (q.blk [] s1 H1 _ _ fp1).hu (ge_var (i := 3)) (ge_int)) (ga_nil))))) (ga_nil))))) (gw_or1 (gt_not (gt_val (ge_own q (C .are_words) (ga_cons (GN.ge (gn_comp (own := [("part", 3)]) sc_are_parts.nd (gi_seq (ge_var (i := 0))) (blkOk_by (N := ["parts", "deep", "least", "part"]) (sc := defScope (top 21)) (by decide +kernel)) (fun s1 H1 C1 cl1 fp1 => gg_name (i := 3) sc_are_parts.nd) (fun s1 H1 C1 cl1 fp1 => gts_nil) (fun s1 H1 C1 cl1 fp1 => ge_ix (q.blk [] s1 H1 _ _ fp1).hu (ge_var (i := 3)) (ge_int)))) (ga_cons (ge_var (i := 2)) (ga_nil))))))))) (gss_one (gs_ret (ge_bl))) (gss_nil)) (gss_one (gs_ret (ge_callB (cr_all rfl) cg_all Fc.n_all PyProof.Rows.boot_all (ga_cons (GN.ge (gn_comp (own := [("part", 3)]) sc_are_parts.nd (gi_seq (ge_var (i := 0))) (blkOk_by (N := ["parts", "deep", "least", "part"]) (sc := defScope (top 21)) (by decide +kernel)) (fun s1 H1 C1 cl1 fp1 => gg_name (i := 3) sc_are_parts.nd) (fun s1 H1 C1 cl1 fp1 => gts_nil) (fun s1 H1 C1 cl1 fp1 => ge_own (q.blk [] s1 H1 _ _ fp1) (C .is_shape) (ga_cons (ge_ix (q.blk [] s1 H1 _ _ fp1).hu (ge_var (i := 3)) (ge_int)) (ga_cons (ge_op op_sub og_sub (ge_var (i := 1)) (ge_int)) (ga_nil)))))) (ga_nil))))))⟩⟩
theorem w_look_shape (Fc : Facts w K mg) (C : ∀ f : Fnm, Callee Pg w K mg base k f.nm (s f.nm)) : Bd Pg w K mg base k ["shape"] "look_shape" (defScope (top 22)) (defBody (top 22)) (m_look_shape s) :=
  ⟨fun f cdv A outer s0 H E q hp => ⟨[], gss_one (gs_if (gt_not (gt_val (ge_own q (C .is_shape) (ga_cons (ge_var (i := 0)) (ga_cons (ge_gint Fc.c_MOST_DEEP) (ga_nil)))))) (gss_one (gs_raise q Fc.x_BadShape)) (gss_nil))⟩⟩
theorem w_is_of (Fc : Facts w K mg) (C : ∀ f : Fnm, Callee Pg w K mg base k f.nm (s f.nm)) : Bd Pg w K mg base k ["shape", "thing"] "is_of" (defScope (top 23)) (defBody (top 23)) (m_is_of s) :=
  ⟨fun f cdv A outer s0 H E q hp => ⟨[], gss_cons (gs_expr (ge_own q (C .look_shape) (ga_cons (ge_var (i := 0)) (ga_nil)))) (gss_one (gs_ret (ge_own q (C .is_one) (ga_cons (ge_var (i := 0)) (ga_cons (ge_var (i := 1)) (ga_nil))))))⟩⟩
theorem w_is_one (Fc : Facts w K mg) (C : ∀ f : Fnm, Callee Pg w K mg base k f.nm (s f.nm)) : Bd Pg w K mg base k ["shape", "thing", "word", "name", "part", "sign", "one"] "is_one" (defScope (top 24)) (defBody (top 24)) (m_is_one s) :=
  ⟨fun f cdv A outer s0 H E q hp => ⟨[], gss_cons (gs_asg (i := 2) sc_is_one.nd (ge_ix q.hu (ge_var (i := 0)) (ge_int))) (gss_cons (gs_if (gt_cmp (op_eqG q.hq) og_eq (ge_var (i := 2)) (ge_str)) (gss_one (gs_ret (ge_or (ge_isN (ge_var (i := 1))) (ge_one (ge_own q (C .is_one) (ga_cons (ge_ix q.hu (ge_var (i := 0)) (ge_int)) (ga_cons (ge_var (i := 1)) (ga_nil)))))))) (gss_nil)) (gss_cons (gs_if (gt_cmp (op_eqG q.hq) og_eq (ge_var (i := 2)) (ge_str)) (gss_one (gs_ret (ge_own q (C .is_whole) (ga_cons (ge_var (i := 1)) (ga_cons (ge_ix q.hu (ge_var (i := 0)) (ge_int)) (ga_cons (ge_ix q.hu (ge_var (i := 0)) (ge_int)) (ga_nil))))))) (gss_nil)) (gss_cons (gs_if (gt_cmp (op_eqG q.hq) og_eq (ge_var (i := 2)) (ge_str)) (gss_one (gs_ret (ge_isi (T := .bool) (ge_var (i := 1)) Fc.n_isinstance Fc.n_bool PyProof.Rows.boot_bool))) (gss_nil)) (gss_cons (gs_if (gt_cmp (op_eqG q.hq) og_eq (ge_var (i := 2)) (ge_str)) (gss_one (gs_ret (ge_and (ge_isi (T := .str) (ge_var (i := 1)) Fc.n_isinstance Fc.n_str PyProof.Rows.boot_str) (ge_one (ge_cmp (op_inG q.hu) og_in (ge_var (i := 1)) (ge_ix q.hu (ge_var (i := 0)) (ge_int))))))) (gss_nil)) (gss_cons (gs_if (gt_cmp (op_eqG q.hq) og_eq (ge_var (i := 2)) (ge_str)) (gss_one (gs_ret (ge_and (ge_isi (T := .str) (ge_var (i := 1)) Fc.n_isinstance Fc.n_str PyProof.Rows.boot_str) (ge_and (ge_cmp op_le og_le (ge_callB call_lenG cg_len Fc.n_len boot_len (ga_cons (ge_var (i := 1)) (ga_nil))) (ge_ix q.hu (ge_var (i := 0)) (ge_int))) (ge_one (ge_callB (cr_all rfl) cg_all Fc.n_all PyProof.Rows.boot_all (ga_cons (GN.ge (gn_comp (own := [("sign", 5)]) sc_is_one.nd (gi_seq (ge_var (i := 1))) (blkOk_by (N := ["shape", "thing", "word", "name", "part", "sign", "one"]) (sc := defScope (top 24)) (by decide +kernel)) (fun s1 H1 C1 cl1 fp1 => gg_name (i := 5) sc_is_one.nd) (fun s1 H1 C1 cl1 fp1 => gts_nil) (fun s1 H1 C1 cl1 fp1 => ge_cmp (op_inG (q.blk [] s1 H1 _ _ fp1).hu) og_in (ge_var (i := 5)) (ge_gstr Fc.c_LETTERS)))) (ga_nil)))))))) (gss_nil)) (gss_cons (gs_if (gt_cmp (op_eqG q.hq) og_eq (ge_var (i := 2)) (ge_str)) (gss_one (gs_ret (ge_and (ge_isi (T := .list) (ge_var (i := 1)) Fc.n_isinstance Fc.n_list PyProof.Rows.boot_list) (ge_and (ge_cmp op_le og_le (ge_callB call_lenG cg_len Fc.n_len boot_len (ga_cons (ge_var (i := 1)) (ga_nil))) (ge_ix q.hu (ge_var (i := 0)) (ge_int))) (ge_one (ge_callB (cr_all rfl) cg_all Fc.n_all PyProof.Rows.boot_all (ga_cons (GN.ge (gn_comp (own := [("one", 6)]) sc_is_one.nd (gi_seq (ge_var (i := 1))) (blkOk_by (N := ["shape", "thing", "word", "name", "part", "sign", "one"]) (sc := defScope (top 24)) (by decide +kernel)) (fun s1 H1 C1 cl1 fp1 => gg_name (i := 6) sc_is_one.nd) (fun s1 H1 C1 cl1 fp1 => gts_nil) (fun s1 H1 C1 cl1 fp1 => ge_own (q.blk [] s1 H1 _ _ fp1) (C .is_one) (ga_cons (ge_ix (q.blk [] s1 H1 _ _ fp1).hu (ge_var (i := 0)) (ge_int)) (ga_cons (ge_var (i := 6)) (ga_nil)))))) (ga_nil)))))))) (gss_nil)) (gss_cons (gs_if (gt_cmp (op_eqG q.hq) og_eq (ge_var (i := 2)) (ge_str)) (gss_one (gs_ret (ge_and (ge_isi (T := .tuple) (ge_var (i := 1)) Fc.n_isinstance Fc.n_tuple PyProof.Rows.boot_tuple) (ge_and (ge_cmp (op_eqG q.hq) og_eq (ge_callB call_lenG cg_len Fc.n_len boot_len (ga_cons (ge_var (i := 1)) (ga_nil))) (ge_int)) (ge_one (ge_own q (C .is_of_kind) (ga_cons (ge_var (i := 0)) (ga_cons (ge_var (i := 1)) (ga_nil))))))))) (gss_nil)) (gss_cons (gs_if (gt_w (gw_or (gt_not (gt_val (ge_isi (T := .dict) (ge_var (i := 1)) Fc.n_isinstance Fc.n_dict PyProof.Rows.boot_dict))) (gw_or1 (gt_cmp (op_neG q.hq) og_ne (ge_callB call_lenG cg_len Fc.n_len boot_len (ga_cons (ge_var (i := 1)) (ga_nil))) (ge_callB call_lenG cg_len Fc.n_len boot_len (ga_cons (ge_ix q.hu (ge_var (i := 0)) (ge_int)) (ga_nil))))))) (gss_one (gs_ret (ge_bl))) (gss_nil)) (gss_one (gs_ret (ge_callB (cr_all rfl) cg_all Fc.n_all PyProof.Rows.boot_all (ga_cons (GN.ge (gn_comp (own := [("name", 3), ("part", 4)]) sc_is_one.nd (gi_seq (ge_ix q.hu (ge_var (i := 0)) (ge_int))) (blkOk_by (N := ["shape", "thing", "word", "name", "part", "sign", "one"]) (sc := defScope (top 24)) (by decide +kernel)) (fun s1 H1 C1 cl1 fp1 => gg_tup (ggs_cons (gg_name (i := 3) sc_is_one.nd) (ggs_cons (gg_name (i := 4) sc_is_one.nd) (ggs_nil)))) (fun s1 H1 C1 cl1 fp1 => gts_nil) (fun s1 H1 C1 cl1 fp1 => ge_and (ge_cmp (op_inG (q.blk [] s1 H1 _ _ fp1).hu) og_in (ge_var (i := 3)) (ge_var (i := 1))) (ge_one (ge_own (q.blk [] s1 H1 _ _ fp1) (C .is_one) (ga_cons (ge_var (i := 4)) (ga_cons (ge_ix (q.blk [] s1 H1 _ _ fp1).hu (ge_var (i := 1)) (ge_var (i := 3))) (ga_nil)))))))) (ga_nil)))))))))))))⟩⟩
theorem w_is_of_kind (Fc : Facts w K mg) (C : ∀ f : Fnm, Callee Pg w K mg base k f.nm (s f.nm)) : Bd Pg w K mg base k ["shape", "thing", "one", "part"] "is_of_kind" (defScope (top 25)) (defBody (top 25)) (m_is_of_kind s) :=
  ⟨fun f cdv A outer s0 H E q hp => ⟨[], gss_one (gs_ret (ge_callB (cr_any rfl) cg_any Fc.n_any PyProof.Rows.boot_any (ga_cons (GN.ge (gn_comp (own := [("one", 2), ("part", 3)]) sc_is_of_kind.nd (gi_seq (ge_ix q.hu (ge_var (i := 0)) (ge_int))) (blkOk_by (N := ["shape", "thing", "one", "part"]) (sc := defScope (top 25)) (by decide +kernel)) (fun s1 H1 C1 cl1 fp1 => gg_tup (ggs_cons (gg_name (i := 2) sc_is_of_kind.nd) (ggs_cons (gg_name (i := 3) sc_is_of_kind.nd) (ggs_nil)))) (fun s1 H1 C1 cl1 fp1 => gts_nil) (fun s1 H1 C1 cl1 fp1 => ge_and (ge_isi (T := .str) (ge_ix (q.blk [] s1 H1 _ _ fp1).hu (ge_var (i := 1)) (ge_int)) Fc.n_isinstance Fc.n_str PyProof.Rows.boot_str) (ge_and (ge_cmp (op_eqG (q.blk [] s1 H1 _ _ fp1).hq) og_eq (ge_ix (q.blk [] s1 H1 _ _ fp1).hu (ge_var (i := 1)) (ge_int)) (ge_var (i := 2))) (ge_one (ge_own (q.blk [] s1 H1 _ _ fp1) (C .is_one) (ga_cons (ge_var (i := 3)) (ga_cons (ge_ix (q.blk [] s1 H1 _ _ fp1).hu (ge_var (i := 1)) (ge_int)) (ga_nil))))))))) (ga_nil))))⟩⟩
theorem w_look_thing (Fc : Facts w K mg) (C : ∀ f : Fnm, Callee Pg w K mg base k f.nm (s f.nm)) : Bd Pg w K mg base k ["shape", "thing"] "look_thing" (defScope (top 26)) (defBody (top 26)) (m_look_thing s) :=
  ⟨fun f cdv A outer s0 H E q hp => ⟨[], gss_cons (gs_expr (ge_own q (C .look_shape) (ga_cons (ge_var (i := 0)) (ga_nil)))) (gss_one (gs_if (gt_not (gt_val (ge_own q (C .is_one) (ga_cons (ge_var (i := 0)) (ga_cons (ge_var (i := 1)) (ga_nil)))))) (gss_one (gs_raise q Fc.x_BadThing)) (gss_nil)))⟩⟩
theorem w_part_of (Fc : Facts w K mg) (C : ∀ f : Fnm, Callee Pg w K mg base k f.nm (s f.nm)) : Bd Pg w K mg base k ["shape", "name", "some", "one", "part"] "part_of" (defScope (top 27)) (defBody (top 27)) (m_part_of s) :=
  ⟨fun f cdv A outer s0 H E q hp => ⟨[], gss_cons (gs_asgLc (i := 2) (own := [("one", 3), ("part", 4)]) sc_part_of.nd (gi_seq (ge_ix q.hu (ge_var (i := 0)) (ge_int))) (blkOk_by (N := ["shape", "name", "some", "one", "part"]) (sc := defScope (top 27)) (by decide +kernel)) (fun s1 H1 C1 cl1 fp1 => gg_tup (ggs_cons (gg_name (i := 3) sc_part_of.nd) (ggs_cons (gg_name (i := 4) sc_part_of.nd) (ggs_nil)))) (fun s1 H1 C1 cl1 fp1 => gts_one (gt_cmp (op_eqG (q.blk [] s1 H1 _ _ fp1).hq) og_eq (ge_var (i := 3)) (ge_var (i := 1)))) (fun s1 H1 C1 cl1 fp1 => ge_var (i := 4))) (gss_one (gs_ret (ge_if (gt_tru (ge_var (i := 2))) (ge_ix q.hu (ge_var (i := 2)) (ge_int)) (ge_non))))⟩⟩
theorem w_copied (Fc : Facts w K mg) (C : ∀ f : Fnm, Callee Pg w K mg base k f.nm (s f.nm)) : Bd Pg w K mg base k ["thing", "one", "name"] "copied" (defScope (top 28)) (defBody (top 28)) (m_copied s) :=
  ⟨fun f cdv A outer s0 H E q hp => ⟨[], gss_cons (gs_if (gt_val (ge_isi (T := .list) (ge_var (i := 0)) Fc.n_isinstance Fc.n_list PyProof.Rows.boot_list)) (gss_one (gs_ret (GN.ge (gn_comp (own := [("one", 1)]) sc_copied.nd (gi_seq (ge_var (i := 0))) (blkOk_by (N := ["thing", "one", "name"]) (sc := defScope (top 28)) (by decide +kernel)) (fun s1 H1 C1 cl1 fp1 => gg_name (i := 1) sc_copied.nd) (fun s1 H1 C1 cl1 fp1 => gts_nil) (fun s1 H1 C1 cl1 fp1 => ge_own (q.blk [] s1 H1 _ _ fp1) (C .copied) (ga_cons (ge_var (i := 1)) (ga_nil))))))) (gss_nil)) (gss_cons (gs_if (gt_val (ge_isi (T := .dict) (ge_var (i := 0)) Fc.n_isinstance Fc.n_dict PyProof.Rows.boot_dict)) (gss_one (gs_ret (GN.ge (gn_dictX (GN.ge (gn_compK (i := 0) (own := [("name", 2)]) sc_copied.nd (blkOk_by (N := ["thing", "one", "name"]) (sc := defScope (top 28)) (by decide +kernel)) (fun s1 H1 C1 cl1 fp1 => gg_name (i := 2) sc_copied.nd) (fun s1 H1 C1 cl1 fp1 => gts_nil) (fun s1 H1 C1 cl1 fp1 => ge_tup (ga_cons (ge_var (i := 2)) (ga_cons (ge_own (q.blk [] s1 H1 _ _ fp1) (C .copied) (ga_cons (ge_ix (q.blk [] s1 H1 _ _ fp1).hu (ge_var (i := 0)) (ge_var (i := 2))) (ga_nil))) (ga_nil)))))) Fc.n_dict)))) (gss_nil)) (gss_one (gs_ret (ge_if (gt_val (ge_isi (T := .tuple) (ge_var (i := 0)) Fc.n_isinstance Fc.n_tuple PyProof.Rows.boot_tuple)) (ge_tup (ga_cons (ge_ix q.hu (ge_var (i := 0)) (ge_int)) (ga_cons (ge_own q (C .copied) (ga_cons (ge_ix q.hu (ge_var (i := 0)) (ge_int)) (ga_nil))) (ga_nil)))) (ge_var (i := 0))))))⟩⟩
theorem w_fits_in (Fc : Facts w K mg) (C : ∀ f : Fnm, Callee Pg w K mg base k f.nm (s f.nm)) : Bd Pg w K mg base k ["one", "other", "word", "name", "part", "sign"] "fits_in" (defScope (top 30)) (defBody (top 30)) (m_fits_in s) :=
  ⟨fun f cdv A outer s0 H E q hp => ⟨[], gss_cons (gs_if (gt_cmp (op_eqG q.hq) og_eq (ge_ix q.hu (ge_var (i := 1)) (ge_int)) (ge_str)) (gss_one (gs_ret (ge_own q (C .fits_in) (ga_cons (ge_if (gt_cmp (op_eqG q.hq) og_eq (ge_ix q.hu (ge_var (i := 0)) (ge_int)) (ge_str)) (ge_ix q.hu (ge_var (i := 0)) (ge_int)) (ge_var (i := 0))) (ga_cons (ge_ix q.hu (ge_var (i := 1)) (ge_int)) (ga_nil)))))) (gss_nil)) (gss_cons (gs_if (gt_w (gw_and (gt_cmp (op_eqG q.hq) og_eq (ge_ix q.hu (ge_var (i := 0)) (ge_int)) (ge_str)) (gw_and1 (gt_cmp (op_eqG q.hq) og_eq (ge_ix q.hu (ge_var (i := 1)) (ge_int)) (ge_str))))) (gss_one (gs_ret (ge_callB (cr_all rfl) cg_all Fc.n_all PyProof.Rows.boot_all (ga_cons (GN.ge (gn_comp (own := [("word", 2)]) sc_fits_in.nd (gi_seq (ge_ix q.hu (ge_var (i := 0)) (ge_int))) (blkOk_by (N := ["one", "other", "word", "name", "part", "sign"]) (sc := defScope (top 30)) (by decide +kernel)) (fun s1 H1 C1 cl1 fp1 => gg_name (i := 2) sc_fits_in.nd) (fun s1 H1 C1 cl1 fp1 => gts_nil) (fun s1 H1 C1 cl1 fp1 => ge_and (ge_cmp op_le og_le (ge_callB call_lenG cg_len Fc.n_len boot_len (ga_cons (ge_var (i := 2)) (ga_nil))) (ge_ix (q.blk [] s1 H1 _ _ fp1).hu (ge_var (i := 1)) (ge_int))) (ge_one (ge_callB (cr_all rfl) cg_all Fc.n_all PyProof.Rows.boot_all (ga_cons (GN.ge (gn_comp (own := [("sign", 5)]) sc_fits_in.nd (gi_seq (ge_var (i := 2))) (blkOk_by (by kernel_rfl)) (fun s2 H2 C2 cl2 fp2 => gg_name (i := 5) sc_fits_in.nd) (fun s2 H2 C2 cl2 fp2 => gts_nil) (fun s2 H2 C2 cl2 fp2 => ge_cmp (op_inG ((q.blk [] s1 H1 _ _ fp1).blk [] s2 H2 _ _ fp2).hu) og_in (ge_var (i := 5)) (ge_gstr Fc.c_LETTERS)))) (ga_nil))))))) (ga_nil))))) (gss_nil)) (gss_cons (gs_if (gt_cmp (op_neG q.hq) og_ne (ge_ix q.hu (ge_var (i := 0)) (ge_int)) (ge_ix q.hu (ge_var (i := 1)) (ge_int))) (gss_one (gs_ret (ge_bl))) (gss_nil)) (gss_cons (gs_if (gt_cmp (op_eqG q.hq) og_eq (ge_ix q.hu (ge_var (i := 0)) (ge_int)) (ge_str)) (gss_one (gs_ret (ge_and (ge_cmp op_le og_le (ge_ix q.hu (ge_var (i := 1)) (ge_int)) (ge_ix q.hu (ge_var (i := 0)) (ge_int))) (ge_one (ge_cmp op_le og_le (ge_ix q.hu (ge_var (i := 0)) (ge_int)) (ge_ix q.hu (ge_var (i := 1)) (ge_int))))))) (gss_nil)) (gss_cons (gs_if (gt_cmp (op_eqG q.hq) og_eq (ge_ix q.hu (ge_var (i := 0)) (ge_int)) (ge_str)) (gss_one (gs_ret (ge_bl))) (gss_nil)) (gss_cons (gs_if (gt_cmp (op_eqG q.hq) og_eq (ge_ix q.hu (ge_var (i := 0)) (ge_int)) (ge_str)) (gss_one (gs_ret (ge_callB (cr_all rfl) cg_all Fc.n_all PyProof.Rows.boot_all (ga_cons (GN.ge (gn_comp (own := [("word", 2)]) sc_fits_in.nd (gi_seq (ge_ix q.hu (ge_var (i := 0)) (ge_int))) (blkOk_by (N := ["one", "other", "word", "name", "part", "sign"]) (sc := defScope (top 30)) (by decide +kernel)) (fun s1 H1 C1 cl1 fp1 => gg_name (i := 2) sc_fits_in.nd) (fun s1 H1 C1 cl1 fp1 => gts_nil) (fun s1 H1 C1 cl1 fp1 => ge_cmp (op_inG (q.blk [] s1 H1 _ _ fp1).hu) og_in (ge_var (i := 2)) (ge_ix (q.blk [] s1 H1 _ _ fp1).hu (ge_var (i := 1)) (ge_int))))) (ga_nil))))) (gss_nil)) (gss_cons (gs_if (gt_cmp (op_eqG q.hq) og_eq (ge_ix q.hu (ge_var (i := 0)) (ge_int)) (ge_str)) (gss_one (gs_ret (ge_cmp op_le og_le (ge_ix q.hu (ge_var (i := 0)) (ge_int)) (ge_ix q.hu (ge_var (i := 1)) (ge_int))))) (gss_nil)) (gss_cons (gs_if (gt_cmp (op_eqG q.hq) og_eq (ge_ix q.hu (ge_var (i := 0)) (ge_int)) (ge_str)) (gss_one (gs_ret (ge_and (ge_cmp op_le og_le (ge_ix q.hu (ge_var (i := 0)) (ge_int)) (ge_ix q.hu (ge_var (i := 1)) (ge_int))) (ge_one (ge_or (ge_cmp (op_eqG q.hq) og_eq (ge_ix q.hu (ge_var (i := 0)) (ge_int)) (ge_int)) (ge_one (ge_own q (C .fits_in) (ga_cons (ge_ix q.hu (ge_var (i := 0)) (ge_int)) (ga_cons (ge_ix q.hu (ge_var (i := 1)) (ge_int)) (ga_nil)))))))))) (gss_nil)) (gss_cons (gs_if (gt_w (gw_and (gt_cmp (op_eqG q.hq) og_eq (ge_ix q.hu (ge_var (i := 0)) (ge_int)) (ge_str)) (gw_and1 (gt_cmp (op_neG q.hq) og_ne (ge_callB call_lenG cg_len Fc.n_len boot_len (ga_cons (ge_ix q.hu (ge_var (i := 0)) (ge_int)) (ga_nil))) (ge_callB call_lenG cg_len Fc.n_len boot_len (ga_cons (ge_ix q.hu (ge_var (i := 1)) (ge_int)) (ga_nil))))))) (gss_one (gs_ret (ge_bl))) (gss_nil)) (gss_one (gs_ret (ge_callB (cr_all rfl) cg_all Fc.n_all PyProof.Rows.boot_all (ga_cons (GN.ge (gn_comp (own := [("name", 3), ("part", 4)]) sc_fits_in.nd (gi_seq (ge_ix q.hu (ge_var (i := 0)) (ge_int))) (blkOk_by (N := ["one", "other", "word", "name", "part", "sign"]) (sc := defScope (top 30)) (by decide +kernel)) (fun s1 H1 C1 cl1 fp1 => gg_tup (ggs_cons (gg_name (i := 3) sc_fits_in.nd) (ggs_cons (gg_name (i := 4) sc_fits_in.nd) (ggs_nil)))) (fun s1 H1 C1 cl1 fp1 => gts_nil) (fun s1 H1 C1 cl1 fp1 => ge_and (ge_notN (ge_own (q.blk [] s1 H1 _ _ fp1) (C .part_of) (ga_cons (ge_var (i := 1)) (ga_cons (ge_var (i := 3)) (ga_nil))))) (ge_one (ge_own (q.blk [] s1 H1 _ _ fp1) (C .fits_in) (ga_cons (ge_var (i := 4)) (ga_cons (ge_own (q.blk [] s1 H1 _ _ fp1) (C .part_of) (ga_cons (ge_var (i := 1)) (ga_cons (ge_var (i := 3)) (ga_nil)))) (ga_nil)))))))) (ga_nil)))))))))))))⟩⟩
theorem w_is_rule (Fc : Facts w K mg) (C : ∀ f : Fnm, Callee Pg w K mg base k f.nm (s f.nm)) : Bd Pg w K mg base k ["thing", "deep", "word", "good", "one"] "is_rule" (defScope (top 36)) (defBody (top 36)) (m_is_rule s) :=
  ⟨fun f cdv A outer s0 H E q hp => ⟨[], gss_cons (gs_if (gt_w (gw_or (gt_not (gt_val (ge_isi (T := .tuple) (ge_var (i := 0)) Fc.n_isinstance Fc.n_tuple PyProof.Rows.boot_tuple))) (gw_or (gt_cmp (op_eqG q.hq) og_eq (ge_callB call_lenG cg_len Fc.n_len boot_len (ga_cons (ge_var (i := 0)) (ga_nil))) (ge_int)) (gw_or (gt_cmp (op_eqG q.hq) og_eq (ge_var (i := 1)) (ge_int)) (gw_or1 (gt_not (gt_val (ge_isi (T := .str) (ge_ix q.hu (ge_var (i := 0)) (ge_int)) Fc.n_isinstance Fc.n_str PyProof.Rows.boot_str)))))))) (gss_one (gs_ret (ge_bl))) (gss_nil)) (gss_cons (gs_if (gt_cmp (op_neG q.hq) og_ne (ge_callB call_lenG cg_len Fc.n_len boot_len (ga_cons (ge_var (i := 0)) (ga_nil))) (ge_tab Fc.t_SIZES_rules.1 Fc.t_SIZES_rules.2 (ge_ix q.hu (ge_var (i := 0)) (ge_int)))) (gss_one (gs_ret (ge_bl))) (gss_nil)) (gss_cons (gs_asg (i := 2) sc_is_rule.nd (ge_ix q.hu (ge_var (i := 0)) (ge_int))) (gss_cons (gs_if (gt_cmp (op_inG q.hu) og_in (ge_var (i := 2)) (ge_tup (ga_cons (ge_str) (ga_cons (ge_str) (ga_cons (ge_str) (ga_cons (ge_str) (ga_cons (ge_str) (ga_nil)))))))) (gss_one (gs_ret (ge_bl))) (gss_nil)) (gss_cons (gs_if (gt_cmp (op_inG q.hu) og_in (ge_var (i := 2)) (ge_tup (ga_cons (ge_str) (ga_cons (ge_str) (ga_nil))))) (gss_one (gs_ret (ge_own q (C .is_whole) (ga_cons (ge_ix q.hu (ge_var (i := 0)) (ge_int)) (ga_cons (ge_op op_sub og_sub (ge_int) (ge_gint Fc.c_MOST_BY)) (ga_cons (ge_gint Fc.c_MOST_BY) (ga_nil))))))) (gss_nil)) (gss_cons (gs_if (gt_cmp (op_eqG q.hq) og_eq (ge_var (i := 2)) (ge_str)) (gss_one (gs_ret (ge_own q (C .is_word) (ga_cons (ge_ix q.hu (ge_var (i := 0)) (ge_int)) (ga_nil))))) (gss_nil)) (gss_cons (gs_if (gt_cmp (op_eqG q.hq) og_eq (ge_var (i := 2)) (ge_str)) (gss_one (gs_ret (ge_and (ge_own q (C .is_shape) (ga_cons (ge_ix q.hu (ge_var (i := 0)) (ge_int)) (ga_cons (ge_gint Fc.c_MOST_DEEP) (ga_nil)))) (ge_one (ge_own q (C .is_one) (ga_cons (ge_ix q.hu (ge_var (i := 0)) (ge_int)) (ga_cons (ge_ix q.hu (ge_var (i := 0)) (ge_int)) (ga_nil)))))))) (gss_nil)) (gss_cons (gs_if (gt_cmp (op_eqG q.hq) og_eq (ge_var (i := 2)) (ge_str)) (gss_one (gs_ret (ge_own q (C .is_shape) (ga_cons (ge_ix q.hu (ge_var (i := 0)) (ge_int)) (ga_cons (ge_gint Fc.c_MOST_DEEP) (ga_nil)))))) (gss_nil)) (gss_cons (gs_if (gt_cmp (op_eqG q.hq) og_eq (ge_var (i := 2)) (ge_str)) (gss_one (gs_ret (ge_and (ge_own q (C .is_word) (ga_cons (ge_ix q.hu (ge_var (i := 0)) (ge_int)) (ga_nil))) (ge_and (ge_own q (C .is_shape) (ga_cons (ge_ix q.hu (ge_var (i := 0)) (ge_int)) (ga_cons (ge_gint Fc.c_MOST_DEEP) (ga_nil)))) (ge_one (ge_cmp (op_eqG q.hq) og_eq (ge_ix q.hu (ge_ix q.hu (ge_var (i := 0)) (ge_int)) (ge_int)) (ge_str))))))) (gss_nil)) (gss_cons (gs_if (gt_cmp (op_eqG q.hq) og_eq (ge_var (i := 2)) (ge_str)) (gss_one (gs_ret (ge_own q (C .is_rule) (ga_cons (ge_ix q.hu (ge_var (i := 0)) (ge_int)) (ga_cons (ge_op op_sub og_sub (ge_var (i := 1)) (ge_int)) (ga_nil)))))) (gss_nil)) (gss_cons (gs_if (gt_cmp (op_eqG q.hq) og_eq (ge_var (i := 2)) (ge_str)) (gss_cons (gs_asg (i := 3) sc_is_rule.nd (ge_and (ge_isi (T := .tuple) (ge_ix q.hu (ge_var (i := 0)) (ge_int)) Fc.n_isinstance Fc.n_tuple PyProof.Rows.boot_tuple) (ge_one (ge_chain op_le og_le op_le og_le (ge_int) (ge_callB call_lenG cg_len Fc.n_len boot_len (ga_cons (ge_ix q.hu (ge_var (i := 0)) (ge_int)) (ga_nil))) (ge_gint Fc.c_MOST_THEN))))) (gss_one (gs_ret (ge_andT (ge_var (i := 3)) (ge_one (ge_callB (cr_all rfl) cg_all Fc.n_all PyProof.Rows.boot_all (ga_cons (GN.ge (gn_comp (own := [("one", 4)]) sc_is_rule.nd (gi_seq (ge_ix q.hu (ge_var (i := 0)) (ge_int))) (blkOk_by (N := ["thing", "deep", "word", "good", "one"]) (sc := defScope (top 36)) (by decide +kernel)) (fun s1 H1 C1 cl1 fp1 => gg_name (i := 4) sc_is_rule.nd) (fun s1 H1 C1 cl1 fp1 => gts_nil) (fun s1 H1 C1 cl1 fp1 => ge_own (q.blk [] s1 H1 _ _ fp1) (C .is_rule) (ga_cons (ge_var (i := 4)) (ga_cons (ge_op op_sub og_sub (ge_var (i := 1)) (ge_int)) (ga_nil)))))) (ga_nil)))))))) (gss_nil)) (gss_one (gs_ret (ge_and (ge_isi (T := .tuple) (ge_ix q.hu (ge_var (i := 0)) (ge_int)) Fc.n_isinstance Fc.n_tuple PyProof.Rows.boot_tuple) (ge_one (ge_own q (C .are_pairs) (ga_cons (ge_var (i := 2)) (ga_cons (ge_ix q.hu (ge_var (i := 0)) (ge_int)) (ga_cons (ge_var (i := 1)) (ga_nil)))))))))))))))))))⟩⟩
theorem w_are_pairs (Fc : Facts w K mg) (C : ∀ f : Fnm, Callee Pg w K mg base k f.nm (s f.nm)) : Bd Pg w K mg base k ["word", "pairs", "deep", "pair"] "are_pairs" (defScope (top 37)) (defBody (top 37)) (m_are_pairs s) :=
  ⟨fun f cdv A outer s0 H E q hp => ⟨[], gss_cons (gs_if (gt_not (gt_val (ge_callB (cr_all rfl) cg_all Fc.n_all PyProof.Rows.boot_all (ga_cons (GN.ge (gn_comp (own := [("pair", 3)]) sc_are_pairs.nd (gi_seq (ge_var (i := 1))) (blkOk_by (N := ["word", "pairs", "deep", "pair"]) (sc := defScope (top 37)) (by decide +kernel)) (fun s1 H1 C1 cl1 fp1 => gg_name (i := 3) sc_are_pairs.nd) (fun s1 H1 C1 cl1 fp1 => gts_nil) (fun s1 H1 C1 cl1 fp1 => ge_and (ge_isi (T := .tuple) (ge_var (i := 3)) Fc.n_isinstance Fc.n_tuple PyProof.Rows.boot_tuple) (ge_and (ge_cmp (op_eqG (q.blk [] s1 H1 _ _ fp1).hq) og_eq (ge_callB call_lenG cg_len Fc.n_len boot_len (ga_cons (ge_var (i := 3)) (ga_nil))) (ge_int)) (ge_one (ge_own (q.blk [] s1 H1 _ _ fp1) (C .is_word) (ga_cons (ge_ix (q.blk [] s1 H1 _ _ fp1).hu (ge_var (i := 3)) (ge_int)) (ga_nil)))))))) (ga_nil))))) (gss_one (gs_ret (ge_bl))) (gss_nil)) (gss_cons (gs_if (gt_not (gt_val (ge_own q (C .are_words) (ga_cons (GN.ge (gn_comp (own := [("pair", 3)]) sc_are_pairs.nd (gi_seq (ge_var (i := 1))) (blkOk_by (N := ["word", "pairs", "deep", "pair"]) (sc := defScope (top 37)) (by decide +kernel)) (fun s1 H1 C1 cl1 fp1 => gg_name (i := 3) sc_are_pairs.nd) (fun s1 H1 C1 cl1 fp1 => gts_nil) (fun s1 H1 C1 cl1 fp1 => ge_ix (q.blk [] s1 H1 _ _ fp1).hu (ge_var (i := 3)) (ge_int)))) (ga_cons (ge_callT call_int1 cg_int Fc.n_int PyProof.Rows.boot_int (ga_cons (ge_cmp (op_neG q.hq) og_ne (ge_var (i := 0)) (ge_str)) (ga_nil))) (ga_nil)))))) (gss_one (gs_ret (ge_bl))) (gss_nil)) (gss_cons (gs_if (gt_cmp (op_eqG q.hq) og_eq (ge_var (i := 0)) (ge_str)) (gss_one (gs_ret (ge_callB (cr_all rfl) cg_all Fc.n_all PyProof.Rows.boot_all (ga_cons (GN.ge (gn_comp (own := [("pair", 3)]) sc_are_pairs.nd (gi_seq (ge_var (i := 1))) (blkOk_by (N := ["word", "pairs", "deep", "pair"]) (sc := defScope (top 37)) (by decide +kernel)) (fun s1 H1 C1 cl1 fp1 => gg_name (i := 3) sc_are_pairs.nd) (fun s1 H1 C1 cl1 fp1 => gts_nil) (fun s1 H1 C1 cl1 fp1 => ge_own (q.blk [] s1 H1 _ _ fp1) (C .is_word) (ga_cons (ge_ix (q.blk [] s1 H1 _ _ fp1).hu (ge_var (i := 3)) (ge_int)) (ga_nil))))) (ga_nil))))) (gss_nil)) (gss_one (gs_ret (ge_callB (cr_all rfl) cg_all Fc.n_all PyProof.Rows.boot_all (ga_cons (GN.ge (gn_comp (own := [("pair", 3)]) sc_are_pairs.nd (gi_seq (ge_var (i := 1))) (blkOk_by (N := ["word", "pairs", "deep", "pair"]) (sc := defScope (top 37)) (by decide +kernel)) (fun s1 H1 C1 cl1 fp1 => gg_name (i := 3) sc_are_pairs.nd) (fun s1 H1 C1 cl1 fp1 => gts_nil) (fun s1 H1 C1 cl1 fp1 => ge_own (q.blk [] s1 H1 _ _ fp1) (C .is_rule) (ga_cons (ge_ix (q.blk [] s1 H1 _ _ fp1).hu (ge_var (i := 3)) (ge_int)) (ga_cons (ge_op op_sub og_sub (ge_var (i := 2)) (ge_int)) (ga_nil)))))) (ga_nil)))))))⟩⟩
theorem w_look_rule (Fc : Facts w K mg) (C : ∀ f : Fnm, Callee Pg w K mg base k f.nm (s f.nm)) : Bd Pg w K mg base k ["rule"] "look_rule" (defScope (top 38)) (defBody (top 38)) (m_look_rule s) :=
  ⟨fun f cdv A outer s0 H E q hp => ⟨[], gss_one (gs_if (gt_not (gt_val (ge_own q (C .is_rule) (ga_cons (ge_var (i := 0)) (ga_cons (ge_gint Fc.c_MOST_NEST) (ga_nil)))))) (gss_one (gs_raise q Fc.x_BadRule)) (gss_nil))⟩⟩
theorem w_need (Fc : Facts w K mg) (C : ∀ f : Fnm, Callee Pg w K mg base k f.nm (s f.nm)) : Bd Pg w K mg base k ["good"] "need" (defScope (top 39)) (defBody (top 39)) (m_need s) :=
  ⟨fun f cdv A outer s0 H E q hp => ⟨[], gss_one (gs_if (gt_not (gt_tru (ge_var (i := 0)))) (gss_one (gs_raise q Fc.x_BadRule)) (gss_nil))⟩⟩
theorem w_led (Fc : Facts w K mg) (C : ∀ f : Fnm, Callee Pg w K mg base k f.nm (s f.nm)) : Bd Pg w K mg base k ["rule", "shape"] "led" (defScope (top 40)) (defBody (top 40)) (m_led s) :=
  ⟨fun f cdv A outer s0 H E q hp => ⟨[], gss_cons (gs_expr (ge_own q (C .look_rule) (ga_cons (ge_var (i := 0)) (ga_nil)))) (gss_cons (gs_expr (ge_own q (C .look_shape) (ga_cons (ge_var (i := 1)) (ga_nil)))) (gss_one (gs_ret (ge_own q (C .goal) (ga_cons (ge_var (i := 0)) (ga_cons (ge_var (i := 1)) (ga_nil)))))))⟩⟩
theorem w_goal (Fc : Facts w K mg) (C : ∀ f : Fnm, Callee Pg w K mg base k f.nm (s f.nm)) : Bd Pg w K mg base k ["rule", "shape", "found"] "goal" (defScope (top 41)) (defBody (top 41)) (m_goal s) :=
  ⟨fun f cdv A outer s0 H E q hp => ⟨[], gss_cons (gs_asg (i := 2) sc_goal.nd (ge_own q (C .goal_of) (ga_cons (ge_var (i := 0)) (ga_cons (ge_var (i := 1)) (ga_nil))))) (gss_cons (gs_expr (ge_own q (C .need) (ga_cons (ge_own q (C .is_shape) (ga_cons (ge_var (i := 2)) (ga_cons (ge_gint Fc.c_MOST_DEEP) (ga_nil)))) (ga_nil)))) (gss_one (gs_ret (ge_var (i := 2)))))⟩⟩
theorem w_goal_of (Fc : Facts w K mg) (C : ∀ f : Fnm, Callee Pg w K mg base k f.nm (s f.nm)) : Bd Pg w K mg base k ["rule", "shape", "word", "one", "name"] "goal_of" (defScope (top 42)) (defBody (top 42)) (m_goal_of s) :=
  ⟨fun f cdv A outer s0 H E q hp => ⟨[], gss_cons (gs_asg (i := 2) sc_goal_of.nd (ge_ix q.hu (ge_var (i := 0)) (ge_int))) (gss_cons (gs_if (gt_cmp (op_eqG q.hq) og_eq (ge_var (i := 2)) (ge_str)) (gss_one (gs_ret (ge_var (i := 1)))) (gss_nil)) (gss_cons (gs_if (gt_cmp (op_eqG q.hq) og_eq (ge_var (i := 2)) (ge_str)) (gss_one (gs_ret (ge_ix q.hu (ge_var (i := 0)) (ge_int)))) (gss_nil)) (gss_cons (gs_if (gt_cmp (op_eqG q.hq) og_eq (ge_var (i := 2)) (ge_str)) (gss_cons (gs_for hp (gi_seq (ge_ix q.hu (ge_var (i := 0)) (ge_int))) (gg_name (i := 3) sc_goal_of.nd) (gss_one (gs_asg (i := 1) sc_goal_of.nd (ge_own q (C .goal) (ga_cons (ge_var (i := 3)) (ga_cons (ge_var (i := 1)) (ga_nil))))))) (gss_one (gs_ret (ge_var (i := 1))))) (gss_nil)) (gss_cons (gs_if (gt_cmp (op_eqG q.hq) og_eq (ge_var (i := 2)) (ge_str)) (gss_one (gs_ret (ge_tup (ga_cons (ge_str) (ga_cons (ge_callT call_tupleF cg_tuple Fc.n_tuple PyProof.Rows.boot_tuple (ga_cons (GN.ge (gn_comp (own := [("name", 4), ("one", 3)]) sc_goal_of.nd (gi_seq (ge_ix q.hu (ge_var (i := 0)) (ge_int))) (blkOk_by (N := ["rule", "shape", "word", "one", "name"]) (sc := defScope (top 42)) (by decide +kernel)) (fun s1 H1 C1 cl1 fp1 => gg_tup (ggs_cons (gg_name (i := 4) sc_goal_of.nd) (ggs_cons (gg_name (i := 3) sc_goal_of.nd) (ggs_nil)))) (fun s1 H1 C1 cl1 fp1 => gts_nil) (fun s1 H1 C1 cl1 fp1 => ge_tup (ga_cons (ge_var (i := 4)) (ga_cons (ge_own (q.blk [] s1 H1 _ _ fp1) (C .goal) (ga_cons (ge_var (i := 3)) (ga_cons (ge_var (i := 1)) (ga_nil)))) (ga_nil)))))) (ga_nil))) (ga_nil)))))) (gss_nil)) (gss_cons (gs_if (gt_cmp (op_eqG q.hq) og_eq (ge_var (i := 2)) (ge_str)) (gss_cons (gs_expr (ge_own q (C .need) (ga_cons (ge_own q (C .fits_in) (ga_cons (ge_var (i := 1)) (ga_cons (ge_ix q.hu (ge_var (i := 0)) (ge_int)) (ga_nil)))) (ga_nil)))) (gss_one (gs_ret (ge_ix q.hu (ge_var (i := 0)) (ge_int))))) (gss_nil)) (gss_cons (gs_if (gt_cmp (op_eqG q.hq) og_eq (ge_var (i := 2)) (ge_str)) (gss_cons (gs_expr (ge_own q (C .need) (ga_cons (ge_cmp (op_neG q.hq) og_ne (ge_ix q.hu (ge_var (i := 1)) (ge_int)) (ge_str)) (ga_nil)))) (gss_one (gs_ret (ge_tup (ga_cons (ge_str) (ga_cons (ge_var (i := 1)) (ga_nil))))))) (gss_nil)) (gss_cons (gs_if (gt_cmp (op_eqG q.hq) og_eq (ge_var (i := 2)) (ge_str)) (gss_cons (gs_expr (ge_own q (C .need) (ga_cons (ge_and (ge_notN (ge_own q (C .part_of) (ga_cons (ge_ix q.hu (ge_var (i := 0)) (ge_int)) (ga_cons (ge_ix q.hu (ge_var (i := 0)) (ge_int)) (ga_nil))))) (ge_one (ge_own q (C .fits_in) (ga_cons (ge_var (i := 1)) (ga_cons (ge_own q (C .part_of) (ga_cons (ge_ix q.hu (ge_var (i := 0)) (ge_int)) (ga_cons (ge_ix q.hu (ge_var (i := 0)) (ge_int)) (ga_nil)))) (ga_nil)))))) (ga_nil)))) (gss_one (gs_ret (ge_ix q.hu (ge_var (i := 0)) (ge_int))))) (gss_nil)) (gss_cons (gs_if (gt_cmp (op_inG q.hu) og_in (ge_var (i := 2)) (ge_tup (ga_cons (ge_str) (ga_cons (ge_str) (ga_nil))))) (gss_one (gs_ret (ge_own q (C .goal_number) (ga_cons (ge_var (i := 0)) (ga_cons (ge_var (i := 1)) (ga_nil)))))) (gss_nil)) (gss_one (gs_ret (ge_own q (C .goal_part) (ga_cons (ge_var (i := 0)) (ga_cons (ge_var (i := 1)) (ga_nil))))))))))))))⟩⟩
theorem w_goal_number (Fc : Facts w K mg) (C : ∀ f : Fnm, Callee Pg w K mg base k f.nm (s f.nm)) : Bd Pg w K mg base k ["rule", "shape", "ends", "one"] "goal_number" (defScope (top 43)) (defBody (top 43)) (m_goal_number s) :=
  ⟨fun f cdv A outer s0 H E q hp => ⟨[], gss_cons (gs_expr (ge_own q (C .need) (ga_cons (ge_cmp (op_eqG q.hq) og_eq (ge_ix q.hu (ge_var (i := 1)) (ge_int)) (ge_str)) (ga_nil)))) (gss_cons (gs_asgLc (i := 2) (own := [("one", 3)]) sc_goal_number.nd (gi_seq (ge_sl (ge_var (i := 1)) (go_some (ge_int)) go_none)) (blkOk_by (N := ["rule", "shape", "ends", "one"]) (sc := defScope (top 43)) (by decide +kernel)) (fun s1 H1 C1 cl1 fp1 => gg_name (i := 3) sc_goal_number.nd) (fun s1 H1 C1 cl1 fp1 => gts_nil) (fun s1 H1 C1 cl1 fp1 => ge_if (gt_cmp (op_eqG (q.blk [] s1 H1 _ _ fp1).hq) og_eq (ge_ix (q.blk [] s1 H1 _ _ fp1).hu (ge_var (i := 0)) (ge_int)) (ge_str)) (ge_op op_addG og_add (ge_var (i := 3)) (ge_ix (q.blk [] s1 H1 _ _ fp1).hu (ge_var (i := 0)) (ge_int))) (ge_op op_mulG og_mul (ge_var (i := 3)) (ge_ix (q.blk [] s1 H1 _ _ fp1).hu (ge_var (i := 0)) (ge_int))))) (gss_cons (gs_expr (ge_own q (C .need) (ga_cons (ge_and (ge_cmp op_le og_le (ge_callB (cr_max rfl) cg_max Fc.n_max PyProof.Rows.boot_max (ga_cons (ge_var (i := 2)) (ga_nil))) (ge_gint Fc.c_FAR)) (ge_one (ge_cmp op_ge og_ge (ge_callB (cr_min rfl) cg_min Fc.n_min PyProof.Rows.boot_min (ga_cons (ge_var (i := 2)) (ga_nil))) (ge_op op_sub og_sub (ge_int) (ge_gint Fc.c_FAR))))) (ga_nil)))) (gss_one (gs_ret (ge_tup (ga_cons (ge_str) (ga_cons (ge_callB (cr_min rfl) cg_min Fc.n_min PyProof.Rows.boot_min (ga_cons (ge_var (i := 2)) (ga_nil))) (ga_cons (ge_callB (cr_max rfl) cg_max Fc.n_max PyProof.Rows.boot_max (ga_cons (ge_var (i := 2)) (ga_nil))) (ga_nil)))))))))⟩⟩
theorem w_goal_part (Fc : Facts w K mg) (C : ∀ f : Fnm, Callee Pg w K mg base k f.nm (s f.nm)) : Bd Pg w K mg base k ["rule", "shape", "word", "words", "goals", "new", "found", "pair", "one", "name", "part", "k"] "goal_part" (defScope (top 44)) (defBody (top 44)) (m_goal_part s) :=
  ⟨fun f cdv A outer s0 H E q hp => ⟨[], gss_cons (gs_asg (i := 2) sc_goal_part.nd (ge_ix q.hu (ge_var (i := 0)) (ge_int))) (gss_cons (gs_if (gt_cmp (op_eqG q.hq) og_eq (ge_var (i := 2)) (ge_str)) (gss_cons (gs_expr (ge_own q (C .need) (ga_cons (ge_and (ge_cmp (op_eqG q.hq) og_eq (ge_ix q.hu (ge_var (i := 1)) (ge_int)) (ge_str)) (ge_one (ge_notN (ge_own q (C .part_of) (ga_cons (ge_var (i := 1)) (ga_cons (ge_ix q.hu (ge_var (i := 0)) (ge_int)) (ga_nil))))))) (ga_nil)))) (gss_one (gs_ret (ge_own q (C .part_of) (ga_cons (ge_var (i := 1)) (ga_cons (ge_ix q.hu (ge_var (i := 0)) (ge_int)) (ga_nil))))))) (gss_nil)) (gss_cons (gs_if (gt_cmp (op_eqG q.hq) og_eq (ge_var (i := 2)) (ge_str)) (gss_cons (gs_expr (ge_own q (C .need) (ga_cons (ge_cmp (op_eqG q.hq) og_eq (ge_ix q.hu (ge_var (i := 1)) (ge_int)) (ge_str)) (ga_nil)))) (gss_one (gs_ret (ge_tup (ga_cons (ge_str) (ga_cons (ge_own q (C .goal) (ga_cons (ge_ix q.hu (ge_var (i := 0)) (ge_int)) (ga_cons (ge_ix q.hu (ge_var (i := 1)) (ge_int)) (ga_nil)))) (ga_cons (ge_ix q.hu (ge_var (i := 1)) (ge_int)) (ga_nil)))))))) (gss_nil)) (gss_cons (gs_if (gt_cmp (op_eqG q.hq) og_eq (ge_var (i := 2)) (ge_str)) (gss_cons (gs_expr (ge_own q (C .need) (ga_cons (ge_and (ge_cmp (op_eqG q.hq) og_eq (ge_ix q.hu (ge_var (i := 1)) (ge_int)) (ge_str)) (ge_one (ge_cmp (op_neG q.hq) og_ne (ge_ix q.hu (ge_ix q.hu (ge_var (i := 1)) (ge_int)) (ge_int)) (ge_str)))) (ga_nil)))) (gss_one (gs_ret (ge_tup (ga_cons (ge_str) (ga_cons (ge_ix q.hu (ge_var (i := 1)) (ge_int)) (ga_nil))))))) (gss_nil)) (gss_cons (gs_if (gt_cmp (op_eqG q.hq) og_eq (ge_var (i := 2)) (ge_str)) (gss_cons (gs_expr (ge_own q (C .need) (ga_cons (ge_cmp (op_inG q.hu) og_in (ge_ix q.hu (ge_var (i := 1)) (ge_int)) (ge_tup (ga_cons (ge_str) (ga_cons (ge_str) (ga_nil))))) (ga_nil)))) (gss_one (gs_ret (ge_tup (ga_cons (ge_str) (ga_cons (ge_int) (ga_cons (ge_ix q.hu (ge_var (i := 1)) (ge_neg (ge_int))) (ga_nil)))))))) (gss_nil)) (gss_cons (gs_if (gt_cmp (op_eqG q.hq) og_eq (ge_var (i := 2)) (ge_str)) (gss_cons (gs_expr (ge_own q (C .need) (ga_cons (ge_and (ge_cmp (op_eqG q.hq) og_eq (ge_ix q.hu (ge_var (i := 1)) (ge_int)) (ge_str)) (ge_one (ge_own q (C .is_one) (ga_cons (ge_ix q.hu (ge_var (i := 1)) (ge_int)) (ga_cons (ge_ix q.hu (ge_var (i := 0)) (ge_int)) (ga_nil)))))) (ga_nil)))) (gss_one (gs_ret (ge_ix q.hu (ge_var (i := 1)) (ge_int))))) (gss_nil)) (gss_cons (gs_asgLc (i := 3) (own := [("pair", 7)]) sc_goal_part.nd (gi_seq (ge_ix q.hu (ge_var (i := 0)) (ge_int))) (blkOk_by (N := ["rule", "shape", "word", "words", "goals", "new", "found", "pair", "one", "name", "part", "k"]) (sc := defScope (top 44)) (by decide +kernel)) (fun s1 H1 C1 cl1 fp1 => gg_name (i := 7) sc_goal_part.nd) (fun s1 H1 C1 cl1 fp1 => gts_nil) (fun s1 H1 C1 cl1 fp1 => ge_ix (q.blk [] s1 H1 _ _ fp1).hu (ge_var (i := 7)) (ge_int))) (gss_cons (gs_expr (ge_own q (C .need) (ga_cons (ge_cmp (op_eqG q.hq) og_eq (ge_ix q.hu (ge_var (i := 1)) (ge_int)) (ge_if (gt_cmp (op_eqG q.hq) og_eq (ge_var (i := 2)) (ge_str)) (ge_str) (ge_str))) (ga_nil)))) (gss_cons (gs_expr (ge_own q (C .need) (ga_cons (ge_cmp (op_eqG q.hq) og_eq (ge_stk) (ge_stk)) (ga_nil)))) (gss_cons (gs_if (gt_cmp (op_eqG q.hq) og_eq (ge_var (i := 2)) (ge_str)) (gss_cons (gs_asg (i := 5) sc_goal_part.nd (GN.ge (gn_dictX (ge_ix q.hu (ge_var (i := 0)) (ge_int)) Fc.n_dict))) (gss_cons (gs_asg (i := 6) sc_goal_part.nd (GN.ge (gn_comp (own := [("one", 8)]) sc_goal_part.nd (gi_seq (ge_ix q.hu (ge_var (i := 1)) (ge_int))) (blkOk_by (N := ["rule", "shape", "word", "words", "goals", "new", "found", "pair", "one", "name", "part", "k"]) (sc := defScope (top 44)) (by decide +kernel)) (fun s1 H1 C1 cl1 fp1 => gg_name (i := 8) sc_goal_part.nd) (fun s1 H1 C1 cl1 fp1 => gts_nil) (fun s1 H1 C1 cl1 fp1 => ge_ix (q.blk [] s1 H1 _ _ fp1).hu (ge_var (i := 5)) (ge_var (i := 8)))))) (gss_one (gs_ret (ge_tup (ga_cons (ge_str) (ga_cons (ge_callT call_tupleF cg_tuple Fc.n_tuple PyProof.Rows.boot_tuple (ga_cons (GN.ge (gn_comp (own := [("k", 11)]) sc_goal_part.nd (gi_range1 (ge_callB call_lenG cg_len Fc.n_len boot_len (ga_cons (ge_var (i := 6)) (ga_nil))) Fc.n_range) (blkOk_by (N := ["rule", "shape", "word", "words", "goals", "new", "found", "pair", "one", "name", "part", "k"]) (sc := defScope (top 44)) (by decide +kernel)) (fun s1 H1 C1 cl1 fp1 => gg_name (i := 11) sc_goal_part.nd) (fun s1 H1 C1 cl1 fp1 => gts_one (gt_cmp (op_notInG (q.blk [] s1 H1 _ _ fp1).hu) og_notIn (ge_ix (q.blk [] s1 H1 _ _ fp1).hu (ge_var (i := 6)) (ge_var (i := 11))) (ge_sl (ge_var (i := 6)) go_none (go_some (ge_var (i := 11)))))) (fun s1 H1 C1 cl1 fp1 => ge_ix (q.blk [] s1 H1 _ _ fp1).hu (ge_var (i := 6)) (ge_var (i := 11))))) (ga_nil))) (ga_nil)))))))) (gss_nil)) (gss_cons (gs_asg (i := 4) sc_goal_part.nd (GN.ge (gn_comp (own := [("name", 9), ("one", 8)]) sc_goal_part.nd (gi_seq (ge_ix q.hu (ge_var (i := 0)) (ge_int))) (blkOk_by (N := ["rule", "shape", "word", "words", "goals", "new", "found", "pair", "one", "name", "part", "k"]) (sc := defScope (top 44)) (by decide +kernel)) (fun s1 H1 C1 cl1 fp1 => gg_tup (ggs_cons (gg_name (i := 9) sc_goal_part.nd) (ggs_cons (gg_name (i := 8) sc_goal_part.nd) (ggs_nil)))) (fun s1 H1 C1 cl1 fp1 => gts_nil) (fun s1 H1 C1 cl1 fp1 => ge_own (q.blk [] s1 H1 _ _ fp1) (C .goal) (ga_cons (ge_var (i := 8)) (ga_cons (ge_own (q.blk [] s1 H1 _ _ fp1) (C .part_of) (ga_cons (ge_var (i := 1)) (ga_cons (ge_var (i := 9)) (ga_nil)))) (ga_nil))))))) (gss_cons (gs_expr (ge_own q (C .need) (ga_cons (ge_callB (cr_all rfl) cg_all Fc.n_all PyProof.Rows.boot_all (ga_cons (GN.ge (gn_comp (own := [("one", 8)]) sc_goal_part.nd (gi_seq (ge_var (i := 4))) (blkOk_by (N := ["rule", "shape", "word", "words", "goals", "new", "found", "pair", "one", "name", "part", "k"]) (sc := defScope (top 44)) (by decide +kernel)) (fun s1 H1 C1 cl1 fp1 => gg_name (i := 8) sc_goal_part.nd) (fun s1 H1 C1 cl1 fp1 => gts_nil) (fun s1 H1 C1 cl1 fp1 => ge_cmp (op_eqG (q.blk [] s1 H1 _ _ fp1).hq) og_eq (ge_var (i := 8)) (ge_ix (q.blk [] s1 H1 _ _ fp1).hu (ge_var (i := 4)) (ge_int))))) (ga_nil))) (ga_nil)))) (gss_one (gs_ret (ge_ix q.hu (ge_var (i := 4)) (ge_int)))))))))))))))⟩⟩
theorem w_lead (Fc : Facts w K mg) (C : ∀ f : Fnm, Callee Pg w K mg base k f.nm (s f.nm)) : Bd Pg w K mg base k ["rule", "shape", "thing"] "lead" (defScope (top 45)) (defBody (top 45)) (m_lead s) :=
  ⟨fun f cdv A outer s0 H E q hp => ⟨[], gss_cons (gs_expr (ge_own q (C .led) (ga_cons (ge_var (i := 0)) (ga_cons (ge_var (i := 1)) (ga_nil))))) (gss_cons (gs_expr (ge_own q (C .look_thing) (ga_cons (ge_var (i := 1)) (ga_cons (ge_var (i := 2)) (ga_nil))))) (gss_one (gs_ret (ge_own q (C .copied) (ga_cons (ge_own q (C .behind) (ga_cons (ge_var (i := 0)) (ga_cons (ge_var (i := 2)) (ga_nil)))) (ga_nil))))))⟩⟩
theorem w_behind (Fc : Facts w K mg) (C : ∀ f : Fnm, Callee Pg w K mg base k f.nm (s f.nm)) : Bd Pg w K mg base k ["rule", "thing", "word", "one", "name"] "behind" (defScope (top 46)) (defBody (top 46)) (m_behind s) :=
  ⟨fun f cdv A outer s0 H E q hp => ⟨[], gss_cons (gs_asg (i := 2) sc_behind.nd (ge_ix q.hu (ge_var (i := 0)) (ge_int))) (gss_cons (gs_if (gt_cmp (op_inG q.hu) og_in (ge_var (i := 2)) (ge_tup (ga_cons (ge_str) (ga_cons (ge_str) (ga_cons (ge_str) (ga_nil)))))) (gss_one (gs_ret (ge_var (i := 1)))) (gss_nil)) (gss_cons (gs_if (gt_cmp (op_eqG q.hq) og_eq (ge_var (i := 2)) (ge_str)) (gss_one (gs_ret (ge_ix q.hu (ge_var (i := 0)) (ge_int)))) (gss_nil)) (gss_cons (gs_if (gt_cmp (op_eqG q.hq) og_eq (ge_var (i := 2)) (ge_str)) (gss_cons (gs_for hp (gi_seq (ge_ix q.hu (ge_var (i := 0)) (ge_int))) (gg_name (i := 3) sc_behind.nd) (gss_one (gs_asg (i := 1) sc_behind.nd (ge_own q (C .behind) (ga_cons (ge_var (i := 3)) (ga_cons (ge_var (i := 1)) (ga_nil))))))) (gss_one (gs_ret (ge_var (i := 1))))) (gss_nil)) (gss_cons (gs_if (gt_cmp (op_eqG q.hq) og_eq (ge_var (i := 2)) (ge_str)) (gss_one (gs_ret (GN.ge (gn_dictX (GN.ge (gn_comp (own := [("name", 4), ("one", 3)]) sc_behind.nd (gi_seq (ge_ix q.hu (ge_var (i := 0)) (ge_int))) (blkOk_by (N := ["rule", "thing", "word", "one", "name"]) (sc := defScope (top 46)) (by decide +kernel)) (fun s1 H1 C1 cl1 fp1 => gg_tup (ggs_cons (gg_name (i := 4) sc_behind.nd) (ggs_cons (gg_name (i := 3) sc_behind.nd) (ggs_nil)))) (fun s1 H1 C1 cl1 fp1 => gts_nil) (fun s1 H1 C1 cl1 fp1 => ge_tup (ga_cons (ge_var (i := 4)) (ga_cons (ge_own (q.blk [] s1 H1 _ _ fp1) (C .behind) (ga_cons (ge_var (i := 3)) (ga_cons (ge_var (i := 1)) (ga_nil)))) (ga_nil)))))) Fc.n_dict)))) (gss_nil)) (gss_cons (gs_if (gt_cmp (op_eqG q.hq) og_eq (ge_var (i := 2)) (ge_str)) (gss_one (gs_ret (GN.ge (gn_comp (own := [("one", 3)]) sc_behind.nd (gi_seq (ge_var (i := 1))) (blkOk_by (N := ["rule", "thing", "word", "one", "name"]) (sc := defScope (top 46)) (by decide +kernel)) (fun s1 H1 C1 cl1 fp1 => gg_name (i := 3) sc_behind.nd) (fun s1 H1 C1 cl1 fp1 => gts_nil) (fun s1 H1 C1 cl1 fp1 => ge_own (q.blk [] s1 H1 _ _ fp1) (C .behind) (ga_cons (ge_ix (q.blk [] s1 H1 _ _ fp1).hu (ge_var (i := 0)) (ge_int)) (ga_cons (ge_var (i := 3)) (ga_nil)))))))) (gss_nil)) (gss_cons (gs_if (gt_cmp (op_eqG q.hq) og_eq (ge_var (i := 2)) (ge_str)) (gss_one (gs_ret (ge_own q (C .behind) (ga_cons (ge_ix q.hu (GN.ge (gn_dictX (ge_ix q.hu (ge_var (i := 0)) (ge_int)) Fc.n_dict)) (ge_ix q.hu (ge_var (i := 1)) (ge_int))) (ga_cons (ge_ix q.hu (ge_var (i := 1)) (ge_int)) (ga_nil)))))) (gss_nil)) (gss_cons (gs_if (gt_cmp (op_eqG q.hq) og_eq (ge_var (i := 2)) (ge_str)) (gss_one (gs_ret (ge_ix q.hu (GN.ge (gn_dictX (ge_ix q.hu (ge_var (i := 0)) (ge_int)) Fc.n_dict)) (ge_var (i := 1))))) (gss_nil)) (gss_cons (gs_if (gt_cmp (op_eqG q.hq) og_eq (ge_var (i := 2)) (ge_str)) (gss_one (gs_ret (ge_ix q.hu (ge_var (i := 1)) (ge_ix q.hu (ge_var (i := 0)) (ge_int))))) (gss_nil)) (gss_cons (gs_if (gt_cmp (op_eqG q.hq) og_eq (ge_var (i := 2)) (ge_str)) (gss_one (gs_ret (ge_tup (ga_cons (ge_ix q.hu (ge_var (i := 0)) (ge_int)) (ga_cons (ge_var (i := 1)) (ga_nil)))))) (gss_nil)) (gss_cons (gs_if (gt_cmp (op_eqG q.hq) og_eq (ge_var (i := 2)) (ge_str)) (gss_one (gs_ret (ge_if (gt_isN (ge_var (i := 1))) (ge_ix q.hu (ge_var (i := 0)) (ge_int)) (ge_var (i := 1))))) (gss_nil)) (gss_cons (gs_if (gt_cmp (op_eqG q.hq) og_eq (ge_var (i := 2)) (ge_str)) (gss_one (gs_ret (ge_if (gt_tru (ge_var (i := 1))) (ge_ix q.hu (ge_var (i := 1)) (ge_int)) (ge_non)))) (gss_nil)) (gss_cons (gs_if (gt_cmp (op_eqG q.hq) og_eq (ge_var (i := 2)) (ge_str)) (gss_one (gs_ret (ge_callB call_lenG cg_len Fc.n_len boot_len (ga_cons (ge_var (i := 1)) (ga_nil))))) (gss_nil)) (gss_one (gs_ret (ge_if (gt_cmp (op_eqG q.hq) og_eq (ge_var (i := 2)) (ge_str)) (ge_op op_addG og_add (ge_var (i := 1)) (ge_ix q.hu (ge_var (i := 0)) (ge_int))) (ge_op op_mulG og_mul (ge_var (i := 1)) (ge_ix q.hu (ge_var (i := 0)) (ge_int))))))))))))))))))⟩⟩
theorem w_is_view (Fc : Facts w K mg) (C : ∀ f : Fnm, Callee Pg w K mg base k f.nm (s f.nm)) : Bd Pg w K mg base k ["rule", "one"] "is_view" (defScope (top 48)) (defBody (top 48)) (m_is_view s) :=
  ⟨fun f cdv A outer s0 H E q hp => ⟨[], gss_cons (gs_if (gt_cmp (op_eqG q.hq) og_eq (ge_ix q.hu (ge_var (i := 0)) (ge_int)) (ge_str)) (gss_one (gs_ret (ge_callB (cr_all rfl) cg_all Fc.n_all PyProof.Rows.boot_all (ga_cons (GN.ge (gn_comp (own := [("one", 1)]) sc_is_view.nd (gi_seq (ge_ix q.hu (ge_var (i := 0)) (ge_int))) (blkOk_by (N := ["rule", "one"]) (sc := defScope (top 48)) (by decide +kernel)) (fun s1 H1 C1 cl1 fp1 => gg_name (i := 1) sc_is_view.nd) (fun s1 H1 C1 cl1 fp1 => gts_nil) (fun s1 H1 C1 cl1 fp1 => ge_own (q.blk [] s1 H1 _ _ fp1) (C .is_view) (ga_cons (ge_var (i := 1)) (ga_nil))))) (ga_nil))))) (gss_nil)) (gss_one (gs_ret (ge_cmp (op_inG q.hu) og_in (ge_ix q.hu (ge_var (i := 0)) (ge_int)) (ge_tup (ga_cons (ge_str) (ga_cons (ge_str) (ga_nil)))))))⟩⟩
theorem w_put (Fc : Facts w K mg) (C : ∀ f : Fnm, Callee Pg w K mg base k f.nm (s f.nm)) : Bd Pg w K mg base k ["rule", "shape", "old", "new", "end"] "put" (defScope (top 49)) (defBody (top 49)) (m_put s) :=
  ⟨fun f cdv A outer s0 H E q hp => ⟨[], gss_cons (gs_asg (i := 4) sc_put.nd (ge_own q (C .led) (ga_cons (ge_var (i := 0)) (ga_cons (ge_var (i := 1)) (ga_nil))))) (gss_cons (gs_if (gt_not (gt_val (ge_own q (C .is_view) (ga_cons (ge_var (i := 0)) (ga_nil))))) (gss_one (gs_raise q Fc.x_NoBack)) (gss_nil)) (gss_cons (gs_if (gt_w (gw_or (gt_not (gt_val (ge_own q (C .is_one) (ga_cons (ge_var (i := 1)) (ga_cons (ge_var (i := 2)) (ga_nil)))))) (gw_or1 (gt_not (gt_val (ge_own q (C .is_one) (ga_cons (ge_var (i := 4)) (ga_cons (ge_var (i := 3)) (ga_nil))))))))) (gss_one (gs_raise q Fc.x_BadThing)) (gss_nil)) (gss_one (gs_ret (ge_own q (C .copied) (ga_cons (ge_own q (C .with_part) (ga_cons (ge_var (i := 0)) (ga_cons (ge_var (i := 2)) (ga_cons (ge_var (i := 3)) (ga_nil))))) (ga_nil)))))))⟩⟩
theorem w_with_part (Fc : Facts w K mg) (C : ∀ f : Fnm, Callee Pg w K mg base k f.nm (s f.nm)) : Bd Pg w K mg base k ["rule", "old", "new", "first", "name"] "with_part" (defScope (top 50)) (defBody (top 50)) (m_with_part s) :=
  ⟨fun f cdv A outer s0 H E q hp => ⟨[], gss_cons (gs_if (gt_cmp (op_eqG q.hq) og_eq (ge_ix q.hu (ge_var (i := 0)) (ge_int)) (ge_str)) (gss_one (gs_ret (ge_var (i := 2)))) (gss_nil)) (gss_cons (gs_if (gt_cmp (op_eqG q.hq) og_eq (ge_ix q.hu (ge_var (i := 0)) (ge_int)) (ge_str)) (gss_cons (gs_if (gt_cmp (op_eqG q.hq) og_eq (ge_ix q.hu (ge_var (i := 0)) (ge_int)) (ge_tup (ga_nil))) (gss_one (gs_ret (ge_var (i := 2)))) (gss_nil)) (gss_cons (gs_asg (i := 3) sc_with_part.nd (ge_ix q.hu (ge_ix q.hu (ge_var (i := 0)) (ge_int)) (ge_int))) (gss_one (gs_ret (ge_own q (C .with_part) (ga_cons (ge_var (i := 3)) (ga_cons (ge_var (i := 1)) (ga_cons (ge_own q (C .with_part) (ga_cons (ge_tup (ga_cons (ge_str) (ga_cons (ge_sl (ge_ix q.hu (ge_var (i := 0)) (ge_int)) (go_some (ge_int)) go_none) (ga_nil)))) (ga_cons (ge_own q (C .behind) (ga_cons (ge_var (i := 3)) (ga_cons (ge_var (i := 1)) (ga_nil)))) (ga_cons (ge_var (i := 2)) (ga_nil))))) (ga_nil))))))))) (gss_nil)) (gss_one (gs_ret (GN.ge (gn_dictX (GN.ge (gn_compK (i := 1) (own := [("name", 4)]) sc_with_part.nd (blkOk_by (N := ["rule", "old", "new", "first", "name"]) (sc := defScope (top 50)) (by decide +kernel)) (fun s1 H1 C1 cl1 fp1 => gg_name (i := 4) sc_with_part.nd) (fun s1 H1 C1 cl1 fp1 => gts_nil) (fun s1 H1 C1 cl1 fp1 => ge_tup (ga_cons (ge_var (i := 4)) (ga_cons (ge_if (gt_cmp (op_eqG (q.blk [] s1 H1 _ _ fp1).hq) og_eq (ge_var (i := 4)) (ge_ix (q.blk [] s1 H1 _ _ fp1).hu (ge_var (i := 0)) (ge_int))) (ge_var (i := 2)) (ge_ix (q.blk [] s1 H1 _ _ fp1).hu (ge_var (i := 1)) (ge_var (i := 4)))) (ga_nil)))))) Fc.n_dict)))))⟩⟩
theorem w_fields (Fc : Facts w K mg) (C : ∀ f : Fnm, Callee Pg w K mg base k f.nm (s f.nm)) : Bd Pg w K mg base k ["shape", "found", "name", "part", "one"] "fields" (defScope (top 51)) (defBody (top 51)) (m_fields s) :=
  ⟨fun f cdv A outer s0 H E q hp => ⟨[], gss_cons (gs_expr (ge_own q (C .look_shape) (ga_cons (ge_var (i := 0)) (ga_nil)))) (gss_cons (gs_asgN (i := 1) sc_fields.nd (gn_lst (ga_nil))) (gss_cons (gs_if (gt_cmp (op_eqG q.hq) og_eq (ge_ix q.hu (ge_var (i := 0)) (ge_int)) (ge_str)) (gss_one (gs_for hp (gi_seq (ge_ix q.hu (ge_var (i := 0)) (ge_int))) (gg_tup (ggs_cons (gg_name (i := 2) sc_fields.nd) (ggs_cons (gg_name (i := 3) sc_fields.nd) (ggs_nil)))) (gss_cons (gs_app (i := 1) (ge_tup (ga_cons (ge_str) (ga_cons (ge_var (i := 2)) (ga_nil))))) (gss_one (gs_for hp (gi_seq (ge_own q (C .fields) (ga_cons (ge_var (i := 3)) (ga_nil)))) (gg_name (i := 4) sc_fields.nd) (gss_one (gs_app (i := 1) (ge_tup (ga_cons (ge_str) (ga_cons (ge_op op_addG og_add (ge_tup (ga_cons (ge_tup (ga_cons (ge_str) (ga_cons (ge_var (i := 2)) (ga_nil)))) (ga_nil))) (ge_if (gt_cmp (op_eqG q.hq) og_eq (ge_ix q.hu (ge_var (i := 4)) (ge_int)) (ge_str)) (ge_ix q.hu (ge_var (i := 4)) (ge_int)) (ge_tup (ga_cons (ge_var (i := 4)) (ga_nil))))) (ga_nil))))))))))) (gss_nil)) (gss_frz [] (gss_one (gs_ret (ge_var (i := 1)))))))⟩⟩
theorem w_law_cell (Fc : Facts w K mg) (C : ∀ f : Fnm, Callee Pg w K mg base k f.nm (s f.nm)) : Bd Pg w K mg base k ["script", "k"] "_law_cell" (defScope (top 53)) (defBody (top 53)) (m_law_cell s) :=
  ⟨fun f cdv A outer s0 H E q hp => ⟨[], gss_cons (gs_if (gt_tru (ge_var (i := 0))) (gss_one (gs_ret (ge_ix q.hu (ge_var (i := 0)) (ge_op op_mod og_mod (ge_var (i := 1)) (ge_callB call_lenG cg_len Fc.n_len boot_len (ga_cons (ge_var (i := 0)) (ga_nil))))))) (gss_nil)) (gss_one (gs_ret (ge_int)))⟩⟩
theorem w_law_mix (Fc : Facts w K mg) (C : ∀ f : Fnm, Callee Pg w K mg base k f.nm (s f.nm)) : Bd Pg w K mg base k ["script", "k", "number"] "_law_mix" (defScope (top 54)) (defBody (top 54)) (m_law_mix s) :=
  ⟨fun f cdv A outer s0 H E q hp => ⟨[], gss_cons (gs_asg (i := 2) sc_law_mix.nd (ge_op op_mod og_mod (ge_op op_addG og_add (ge_own q (C .law_cell) (ga_cons (ge_var (i := 0)) (ga_cons (ge_var (i := 1)) (ga_nil)))) (ge_op op_mulG og_mul (ge_int) (ge_op op_addG og_add (ge_var (i := 1)) (ge_int)))) (ge_int))) (gss_cons (gs_asg (i := 2) sc_law_mix.nd (ge_op op_mod og_mod (ge_op op_pow og_pow (ge_var (i := 2)) (ge_int)) (ge_int))) (gss_one (gs_ret (ge_op op_mod og_mod (ge_op op_addG og_add (ge_op op_mulG og_mul (ge_op op_fdivW og_fdiv (ge_var (i := 2)) (ge_int)) (ge_int)) (ge_var (i := 2))) (ge_int)))))⟩⟩
theorem w_law_draw (Fc : Facts w K mg) (C : ∀ f : Fnm, Callee Pg w K mg base k f.nm (s f.nm)) : Bd Pg w K mg base k ["script", "town", "many"] "_law_draw" (defScope (top 55)) (defBody (top 55)) (m_law_draw s) :=
  ⟨fun f cdv A outer s0 H E q hp => ⟨[], gss_cons (gs_town (i := 1)) (gss_one (gs_ret (ge_op op_mod og_mod (ge_op op_fdivW og_fdiv (ge_own q (C .law_mix) (ga_cons (ge_var (i := 0)) (ga_cons (ge_callB call_lenG cg_len Fc.n_len boot_len (ga_cons (ge_var (i := 1)) (ga_nil))) (ga_nil)))) (ge_int)) (ge_var (i := 2)))))⟩⟩
theorem w_law_pick (Fc : Facts w K mg) (C : ∀ f : Fnm, Callee Pg w K mg base k f.nm (s f.nm)) : Bd Pg w K mg base k ["script", "town", "some"] "_law_pick" (defScope (top 56)) (defBody (top 56)) (m_law_pick s) :=
  ⟨fun f cdv A outer s0 H E q hp => ⟨[], gss_one (gs_ret (ge_ix q.hu (ge_var (i := 2)) (ge_own q (C .law_draw) (ga_cons (ge_var (i := 0)) (ga_cons (ge_var (i := 1)) (ga_cons (ge_callB call_lenG cg_len Fc.n_len boot_len (ga_cons (ge_var (i := 2)) (ga_nil))) (ga_nil)))))))⟩⟩
theorem w_law_refusal (Fc : Facts w K mg) (C : ∀ f : Fnm, Callee Pg w K mg base k f.nm (s f.nm)) : Bd Pg w K mg base k ["caught", "kinds"] "_law_refusal" (defScope (top 57)) (defBody (top 57)) (m_law_refusal s) :=
  ⟨fun f cdv A outer s0 H E q hp => ⟨[], gss_cons (gs_if (gt_isN (ge_var (i := 0))) (gss_one (gs_ret (ge_tup (ga_cons (ge_str) (ga_nil))))) (gss_nil)) (gss_cons (gs_asgN (i := 1) sc_law_refusal.nd (gn_lst (ga_cons (ge_isx (ge_var (i := 0)) (pe_cls Fc.g_BadShape) (.own _) Fc.i_BadShape.1 Fc.i_BadShape.2 Fc.n_isinstance) (ga_cons (ge_isx (ge_var (i := 0)) (pe_cls Fc.g_BadThing) (.own _) Fc.i_BadThing.1 Fc.i_BadThing.2 Fc.n_isinstance) (ga_cons (ge_isx (ge_var (i := 0)) (pe_cls Fc.g_BadRule) (.own _) Fc.i_BadRule.1 Fc.i_BadRule.2 Fc.n_isinstance) (ga_nil)))))) (gss_frz [] (gss_cons (gs_asgN (i := 1) sc_law_refusal.nd (gn_cat (ge_var (i := 1)) (ge_lst (ga_cons (ge_isx (ge_var (i := 0)) (pe_cls Fc.g_BadNumber) (.own _) Fc.i_BadNumber.1 Fc.i_BadNumber.2 Fc.n_isinstance) (ga_cons (ge_isx (ge_var (i := 0)) (pe_cls Fc.g_TooMany) (.own _) Fc.i_TooMany.1 Fc.i_TooMany.2 Fc.n_isinstance) (ga_cons (ge_isx (ge_var (i := 0)) (pe_cls Fc.g_NoBack) (.own _) Fc.i_NoBack.1 Fc.i_NoBack.2 Fc.n_isinstance) (ga_nil))))))) (gss_cons (gs_app (i := 1) (ge_isx (ge_var (i := 0)) (pe_cls Fc.g_BadChange) (.own _) Fc.i_BadChange.1 Fc.i_BadChange.2 Fc.n_isinstance)) (gss_frz [] (gss_cons (gs_if (gt_w (gw_or (gt_cmp (op_neG q.hq) og_ne (ge_mt PySem.F.plainAttrs_list PySem.F.slot_list_count PySem.F.type_list_count mt_countB mg_cntB (ge_var (i := 1)) (ga_cons (ge_bl) (ga_nil))) (ge_int)) (gw_or1 (gt_not (gt_val (ge_isx (ge_var (i := 0)) (pe_bcls Fc.n_ValueError boot_ValueError) (.ty "ValueError") Fc.i_ValueError.1 Fc.i_ValueError.2 Fc.n_isinstance)))))) (gss_one (gs_ret (ge_tup (ga_cons (ge_str) (ga_nil))))) (gss_nil)) (gss_one (gs_ret (ge_tup (ga_cons (ge_str) (ga_cons (ge_ix q.hu (ge_lst (ga_cons (ge_str) (ga_cons (ge_str) (ga_cons (ge_str) (ga_cons (ge_str) (ga_cons (ge_str) (ga_cons (ge_str) (ga_cons (ge_str) (ga_nil))))))))) (ge_mt PySem.F.plainAttrs_list PySem.F.slot_list_index PySem.F.type_list_index mt_index mg_idxL (ge_var (i := 1)) (ga_cons (ge_bl) (ga_nil)))) (ga_nil))))))))))))⟩⟩
theorem w_law_word (Fc : Facts w K mg) (C : ∀ f : Fnm, Callee Pg w K mg base k f.nm (s f.nm)) : Bd Pg w K mg base k ["script", "town", "signs", "k"] "_law_word" (defScope (top 58)) (defBody (top 58)) (m_law_word s) :=
  ⟨fun f cdv A outer s0 H E q hp => ⟨[], gss_cons (gs_asg (i := 2) sc_law_word.nd (ge_str)) (gss_cons (gs_if (gt_cmp op_gt og_gt (ge_own q (C .law_draw) (ga_cons (ge_var (i := 0)) (ga_cons (ge_var (i := 1)) (ga_cons (ge_int) (ga_nil))))) (ge_int)) (gss_one (gs_ret (ge_own q (C .law_pick) (ga_cons (ge_var (i := 0)) (ga_cons (ge_var (i := 1)) (ga_cons (ge_lst (ga_cons (ge_str) (ga_cons (ge_str) (ga_cons (ge_str) (ga_cons (ge_str) (ga_cons (ge_str) (ga_cons (ge_str) (ga_nil)))))))) (ga_nil))))))) (gss_nil)) (gss_one (gs_ret (ge_join (ge_str) (GN.ge (gn_comp (own := [("k", 3)]) sc_law_word.nd (gi_range1 (ge_op op_addG og_add (ge_int) (ge_own q (C .law_draw) (ga_cons (ge_var (i := 0)) (ga_cons (ge_var (i := 1)) (ga_cons (ge_int) (ga_nil)))))) Fc.n_range) (blkOk_by (N := ["script", "town", "signs", "k"]) (sc := defScope (top 58)) (by decide +kernel)) (fun s1 H1 C1 cl1 fp1 => gg_name (i := 3) sc_law_word.nd) (fun s1 H1 C1 cl1 fp1 => gts_nil) (fun s1 H1 C1 cl1 fp1 => ge_ix (q.blk [] s1 H1 _ _ fp1).hu (ge_var (i := 2)) (ge_own (q.blk [] s1 H1 _ _ fp1) (C .law_draw) (ga_cons (ge_var (i := 0)) (ga_cons (ge_var (i := 1)) (ga_cons (ge_int) (ga_nil))))))))))))⟩⟩
theorem w_law_words (Fc : Facts w K mg) (C : ∀ f : Fnm, Callee Pg w K mg base k f.nm (s f.nm)) : Bd Pg w K mg base k ["script", "town", "least_many", "found", "k"] "_law_words" (defScope (top 59)) (defBody (top 59)) (m_law_words s) :=
  ⟨fun f cdv A outer s0 H E q hp => ⟨[], gss_cons (gs_asgN (i := 3) sc_law_words.nd (gn_dct0)) (gss_cons (gs_for hp (gi_range1 (ge_op op_addG og_add (ge_var (i := 2)) (ge_own q (C .law_draw) (ga_cons (ge_var (i := 0)) (ga_cons (ge_var (i := 1)) (ga_cons (ge_int) (ga_nil)))))) Fc.n_range) (gg_name (i := 4) sc_law_words.nd) (gss_one (gs_put (i := 3) q.hu (ge_own q (C .law_word) (ga_cons (ge_var (i := 0)) (ga_cons (ge_var (i := 1)) (ga_nil)))) (ge_bl)))) (gss_frz [] (gss_one (gs_ret (ge_sl (ge_listKeys (ge_var (i := 3)) Fc.n_list) go_none (go_some (ge_int)))))))⟩⟩
theorem w_law_thing (Fc : Facts w K mg) (C : ∀ f : Fnm, Callee Pg w K mg base k f.nm (s f.nm)) : Bd Pg w K mg base k ["script", "town", "shape", "word", "found", "within_it", "is_none", "name", "part", "k"] "_law_thing" (defScope (top 60)) (defBody (top 60)) (m_law_thing s) :=
  ⟨fun f cdv A outer s0 H E q hp => ⟨[], gss_cons (gs_asg (i := 3) sc_law_thing.nd (ge_ix q.hu (ge_var (i := 2)) (ge_int))) (gss_cons (gs_if (gt_cmp (op_eqG q.hq) og_eq (ge_var (i := 3)) (ge_str)) (gss_cons (gs_asg (i := 5) sc_law_thing.nd (ge_op op_addG og_add (ge_ix q.hu (ge_var (i := 2)) (ge_int)) (ge_own q (C .law_draw) (ga_cons (ge_var (i := 0)) (ga_cons (ge_var (i := 1)) (ga_cons (ge_op op_addG og_add (ge_op op_sub og_sub (ge_ix q.hu (ge_var (i := 2)) (ge_int)) (ge_ix q.hu (ge_var (i := 2)) (ge_int))) (ge_int)) (ga_nil))))))) (gss_one (gs_ret (ge_own q (C .law_pick) (ga_cons (ge_var (i := 0)) (ga_cons (ge_var (i := 1)) (ga_cons (ge_lst (ga_cons (ge_ix q.hu (ge_var (i := 2)) (ge_int)) (ga_cons (ge_ix q.hu (ge_var (i := 2)) (ge_int)) (ga_cons (ge_var (i := 5)) (ga_nil))))) (ga_nil)))))))) (gss_nil)) (gss_cons (gs_if (gt_cmp (op_eqG q.hq) og_eq (ge_var (i := 3)) (ge_str)) (gss_one (gs_ret (ge_cmp (op_eqG q.hq) og_eq (ge_own q (C .law_draw) (ga_cons (ge_var (i := 0)) (ga_cons (ge_var (i := 1)) (ga_cons (ge_int) (ga_nil))))) (ge_int)))) (gss_nil)) (gss_cons (gs_if (gt_cmp (op_eqG q.hq) og_eq (ge_var (i := 3)) (ge_str)) (gss_one (gs_ret (ge_own q (C .law_pick) (ga_cons (ge_var (i := 0)) (ga_cons (ge_var (i := 1)) (ga_cons (ge_ix q.hu (ge_var (i := 2)) (ge_int)) (ga_nil))))))) (gss_nil)) (gss_cons (gs_if (gt_cmp (op_eqG q.hq) og_eq (ge_var (i := 3)) (ge_str)) (gss_one (gs_ret (ge_join (ge_str) (GN.ge (gn_comp (own := [("k", 9)]) sc_law_thing.nd (gi_range1 (ge_own q (C .law_draw) (ga_cons (ge_var (i := 0)) (ga_cons (ge_var (i := 1)) (ga_cons (ge_op op_addG og_add (ge_ix q.hu (ge_var (i := 2)) (ge_int)) (ge_int)) (ga_nil))))) Fc.n_range) (blkOk_by (N := ["script", "town", "shape", "word", "found", "within_it", "is_none", "name", "part", "k"]) (sc := defScope (top 60)) (by decide +kernel)) (fun s1 H1 C1 cl1 fp1 => gg_name (i := 9) sc_law_thing.nd) (fun s1 H1 C1 cl1 fp1 => gts_nil) (fun s1 H1 C1 cl1 fp1 => ge_own (q.blk [] s1 H1 _ _ fp1) (C .law_pick) (ga_cons (ge_var (i := 0)) (ga_cons (ge_var (i := 1)) (ga_cons (ge_str) (ga_nil)))))))))) (gss_nil)) (gss_cons (gs_if (gt_cmp (op_eqG q.hq) og_eq (ge_var (i := 3)) (ge_str)) (gss_one (gs_ret (GN.ge (gn_comp (own := [("k", 9)]) sc_law_thing.nd (gi_range1 (ge_own q (C .law_draw) (ga_cons (ge_var (i := 0)) (ga_cons (ge_var (i := 1)) (ga_cons (ge_op op_addG og_add (ge_ix q.hu (ge_var (i := 2)) (ge_int)) (ge_int)) (ga_nil))))) Fc.n_range) (blkOk_by (N := ["script", "town", "shape", "word", "found", "within_it", "is_none", "name", "part", "k"]) (sc := defScope (top 60)) (by decide +kernel)) (fun s1 H1 C1 cl1 fp1 => gg_name (i := 9) sc_law_thing.nd) (fun s1 H1 C1 cl1 fp1 => gts_nil) (fun s1 H1 C1 cl1 fp1 => ge_own (q.blk [] s1 H1 _ _ fp1) (C .law_thing) (ga_cons (ge_var (i := 0)) (ga_cons (ge_var (i := 1)) (ga_cons (ge_ix (q.blk [] s1 H1 _ _ fp1).hu (ge_var (i := 2)) (ge_int)) (ga_nil))))))))) (gss_nil)) (gss_cons (gs_if (gt_cmp (op_eqG q.hq) og_eq (ge_var (i := 3)) (ge_str)) (gss_cons (gs_asg (i := 6) sc_law_thing.nd (ge_cmp (op_eqG q.hq) og_eq (ge_own q (C .law_draw) (ga_cons (ge_var (i := 0)) (ga_cons (ge_var (i := 1)) (ga_cons (ge_int) (ga_nil))))) (ge_int))) (gss_one (gs_ret (ge_if (gt_tru (ge_var (i := 6))) (ge_non) (ge_own q (C .law_thing) (ga_cons (ge_var (i := 0)) (ga_cons (ge_var (i := 1)) (ga_cons (ge_ix q.hu (ge_var (i := 2)) (ge_int)) (ga_nil))))))))) (gss_nil)) (gss_cons (gs_if (gt_cmp (op_eqG q.hq) og_eq (ge_var (i := 3)) (ge_str)) (gss_cons (gs_un (ge_own q (C .law_pick) (ga_cons (ge_var (i := 0)) (ga_cons (ge_var (i := 1)) (ga_cons (ge_ix q.hu (ge_var (i := 2)) (ge_int)) (ga_nil))))) (gg_tup (ggs_cons (gg_name (i := 7) sc_law_thing.nd) (ggs_cons (gg_name (i := 8) sc_law_thing.nd) (ggs_nil))))) (gss_one (gs_ret (ge_tup (ga_cons (ge_var (i := 7)) (ga_cons (ge_own q (C .law_thing) (ga_cons (ge_var (i := 0)) (ga_cons (ge_var (i := 1)) (ga_cons (ge_var (i := 8)) (ga_nil))))) (ga_nil))))))) (gss_nil)) (gss_cons (gs_asgN (i := 4) sc_law_thing.nd (gn_dct0)) (gss_cons (gs_for hp (gi_seq (ge_ix q.hu (ge_var (i := 2)) (ge_int))) (gg_tup (ggs_cons (gg_name (i := 7) sc_law_thing.nd) (ggs_cons (gg_name (i := 8) sc_law_thing.nd) (ggs_nil)))) (gss_one (gs_put (i := 4) q.hu (ge_var (i := 7)) (ge_own q (C .law_thing) (ga_cons (ge_var (i := 0)) (ga_cons (ge_var (i := 1)) (ga_cons (ge_var (i := 8)) (ga_nil)))))))) (gss_frz [] (gss_one (gs_ret (ge_var (i := 4))))))))))))))⟩⟩
theorem w_law_same (Fc : Facts w K mg) (C : ∀ f : Fnm, Callee Pg w K mg base k f.nm (s f.nm)) : Bd Pg w K mg base k ["one", "other", "name", "k"] "_law_same" (defScope (top 61)) (defBody (top 61)) (m_law_same s) :=
  ⟨fun f cdv A outer s0 H E q hp => ⟨[], gss_cons (gs_if (gt_w (gw_and (gt_val (ge_isi (T := .dict) (ge_var (i := 0)) Fc.n_isinstance Fc.n_dict PyProof.Rows.boot_dict)) (gw_and1 (gt_val (ge_isi (T := .dict) (ge_var (i := 1)) Fc.n_isinstance Fc.n_dict PyProof.Rows.boot_dict))))) (gss_cons (gs_if (gt_cmp (op_neG q.hq) og_ne (ge_sortKeys (ge_var (i := 0)) Fc.n_sorted) (ge_sortKeys (ge_var (i := 1)) Fc.n_sorted)) (gss_one (gs_ret (ge_bl))) (gss_nil)) (gss_one (gs_ret (ge_cmp (op_eqG q.hq) og_eq (ge_callB call_lenG cg_len Fc.n_len boot_len (ga_cons (GN.ge (gn_comp (own := [("name", 2)]) sc_law_same.nd (gi_seq (ge_listKeys (ge_var (i := 0)) Fc.n_list)) (blkOk_by (N := ["one", "other", "name", "k"]) (sc := defScope (top 61)) (by decide +kernel)) (fun s1 H1 C1 cl1 fp1 => gg_name (i := 2) sc_law_same.nd) (fun s1 H1 C1 cl1 fp1 => gts_one (gt_not (gt_val (ge_own (q.blk [] s1 H1 _ _ fp1) (C .law_same) (ga_cons (ge_ix (q.blk [] s1 H1 _ _ fp1).hu (ge_var (i := 0)) (ge_var (i := 2))) (ga_cons (ge_ix (q.blk [] s1 H1 _ _ fp1).hu (ge_var (i := 1)) (ge_var (i := 2))) (ga_nil))))))) (fun s1 H1 C1 cl1 fp1 => ge_var (i := 2)))) (ga_nil))) (ge_int))))) (gss_nil)) (gss_cons (gs_if (gt_w (gw_or (gt_w (gw_and (gt_val (ge_isi (T := .list) (ge_var (i := 0)) Fc.n_isinstance Fc.n_list PyProof.Rows.boot_list)) (gw_and1 (gt_val (ge_isi (T := .list) (ge_var (i := 1)) Fc.n_isinstance Fc.n_list PyProof.Rows.boot_list))))) (gw_or1 (gt_w (gw_and (gt_val (ge_isi (T := .tuple) (ge_var (i := 0)) Fc.n_isinstance Fc.n_tuple PyProof.Rows.boot_tuple)) (gw_and1 (gt_val (ge_isi (T := .tuple) (ge_var (i := 1)) Fc.n_isinstance Fc.n_tuple PyProof.Rows.boot_tuple)))))))) (gss_one (gs_ret (ge_and (ge_cmp (op_eqG q.hq) og_eq (ge_callB call_lenG cg_len Fc.n_len boot_len (ga_cons (ge_var (i := 0)) (ga_nil))) (ge_callB call_lenG cg_len Fc.n_len boot_len (ga_cons (ge_var (i := 1)) (ga_nil)))) (ge_one (ge_callB (cr_all rfl) cg_all Fc.n_all PyProof.Rows.boot_all (ga_cons (GN.ge (gn_comp (own := [("k", 3)]) sc_law_same.nd (gi_range1 (ge_callB call_lenG cg_len Fc.n_len boot_len (ga_cons (ge_var (i := 0)) (ga_nil))) Fc.n_range) (blkOk_by (N := ["one", "other", "name", "k"]) (sc := defScope (top 61)) (by decide +kernel)) (fun s1 H1 C1 cl1 fp1 => gg_name (i := 3) sc_law_same.nd) (fun s1 H1 C1 cl1 fp1 => gts_nil) (fun s1 H1 C1 cl1 fp1 => ge_own (q.blk [] s1 H1 _ _ fp1) (C .law_same) (ga_cons (ge_ix (q.blk [] s1 H1 _ _ fp1).hu (ge_var (i := 0)) (ge_var (i := 3))) (ga_cons (ge_ix (q.blk [] s1 H1 _ _ fp1).hu (ge_var (i := 1)) (ge_var (i := 3))) (ga_nil)))))) (ga_nil))))))) (gss_nil)) (gss_one (gs_ret (ge_and (ge_cmp (op_eqG q.hq) og_eq (ge_var (i := 0)) (ge_var (i := 1))) (ge_one (ge_cmp (op_eqG q.hq) og_eq (ge_isi (T := .bool) (ge_var (i := 0)) Fc.n_isinstance Fc.n_bool PyProof.Rows.boot_bool) (ge_isi (T := .bool) (ge_var (i := 1)) Fc.n_isinstance Fc.n_bool PyProof.Rows.boot_bool)))))))⟩⟩
theorem w_law_levels (Fc : Facts w K mg) (C : ∀ f : Fnm, Callee Pg w K mg base k f.nm (s f.nm)) : Bd Pg w K mg base k ["shape", "name", "part"] "_law_levels" (defScope (top 65)) (defBody (top 65)) (m_law_levels s) :=
  ⟨fun f cdv A outer s0 H E q hp => ⟨[], gss_cons (gs_if (gt_cmp (op_inG q.hu) og_in (ge_ix q.hu (ge_var (i := 0)) (ge_int)) (ge_tup (ga_cons (ge_str) (ga_cons (ge_str) (ga_nil))))) (gss_one (gs_ret (ge_op op_addG og_add (ge_int) (ge_own q (C .law_levels) (ga_cons (ge_ix q.hu (ge_var (i := 0)) (ge_int)) (ga_nil)))))) (gss_nil)) (gss_cons (gs_if (gt_cmp (op_inG q.hu) og_in (ge_ix q.hu (ge_var (i := 0)) (ge_int)) (ge_tup (ga_cons (ge_str) (ga_cons (ge_str) (ga_nil))))) (gss_one (gs_ret (ge_op op_addG og_add (ge_int) (ge_callB (cr_max rfl) cg_max Fc.n_max PyProof.Rows.boot_max (ga_cons (ge_op op_addG og_add (ge_lst (ga_cons (ge_int) (ga_nil))) (GN.ge (gn_comp (own := [("name", 1), ("part", 2)]) sc_law_levels.nd (gi_seq (ge_ix q.hu (ge_var (i := 0)) (ge_int))) (blkOk_by (N := ["shape", "name", "part"]) (sc := defScope (top 65)) (by decide +kernel)) (fun s1 H1 C1 cl1 fp1 => gg_tup (ggs_cons (gg_name (i := 1) sc_law_levels.nd) (ggs_cons (gg_name (i := 2) sc_law_levels.nd) (ggs_nil)))) (fun s1 H1 C1 cl1 fp1 => gts_nil) (fun s1 H1 C1 cl1 fp1 => ge_own (q.blk [] s1 H1 _ _ fp1) (C .law_levels) (ga_cons (ge_var (i := 2)) (ga_nil)))))) (ga_nil)))))) (gss_nil)) (gss_one (gs_ret (ge_int))))⟩⟩
theorem w_law_part_of (Fc : Facts w K mg) (C : ∀ f : Fnm, Callee Pg w K mg base k f.nm (s f.nm)) : Bd Pg w K mg base k ["shape", "name", "some", "one", "part"] "_law_part_of" (defScope (top 66)) (defBody (top 66)) (m_law_part_of s) :=
  ⟨fun f cdv A outer s0 H E q hp => ⟨[], gss_cons (gs_asgLc (i := 2) (own := [("one", 3), ("part", 4)]) sc_law_part_of.nd (gi_seq (ge_ix q.hu (ge_var (i := 0)) (ge_int))) (blkOk_by (N := ["shape", "name", "some", "one", "part"]) (sc := defScope (top 66)) (by decide +kernel)) (fun s1 H1 C1 cl1 fp1 => gg_tup (ggs_cons (gg_name (i := 3) sc_law_part_of.nd) (ggs_cons (gg_name (i := 4) sc_law_part_of.nd) (ggs_nil)))) (fun s1 H1 C1 cl1 fp1 => gts_one (gt_cmp (op_eqG (q.blk [] s1 H1 _ _ fp1).hq) og_eq (ge_var (i := 3)) (ge_var (i := 1)))) (fun s1 H1 C1 cl1 fp1 => ge_var (i := 4))) (gss_one (gs_ret (ge_if (gt_cmp (op_neG q.hq) og_ne (ge_var (i := 2)) (ge_lst (ga_nil))) (ge_ix q.hu (ge_var (i := 2)) (ge_int)) (ge_non))))⟩⟩
theorem w_law_inside (Fc : Facts w K mg) (C : ∀ f : Fnm, Callee Pg w K mg base k f.nm (s f.nm)) : Bd Pg w K mg base k ["one", "other"] "_law_inside" (defScope (top 67)) (defBody (top 67)) (m_law_inside s) :=
  ⟨fun f cdv A outer s0 H E q hp => ⟨[], gss_one (gs_ret (ge_or (ge_cmp (op_eqG q.hq) og_eq (ge_var (i := 0)) (ge_var (i := 1))) (ge_one (ge_cmp (op_eqG q.hq) og_eq (ge_var (i := 1)) (ge_tup (ga_cons (ge_str) (ga_cons (ge_var (i := 0)) (ga_nil))))))))⟩⟩
theorem w_law_goal (Fc : Facts w K mg) (C : ∀ f : Fnm, Callee Pg w K mg base k f.nm (s f.nm)) : Bd Pg w K mg base k ["rule", "shape", "found"] "_law_goal" (defScope (top 68)) (defBody (top 68)) (m_law_goal s) :=
  ⟨fun f cdv A outer s0 H E q hp => ⟨[], gss_cons (gs_asg (i := 2) sc_law_goal.nd (ge_own q (C .law_goal_of) (ga_cons (ge_var (i := 0)) (ga_cons (ge_var (i := 1)) (ga_nil))))) (gss_one (gs_ret (ge_if (gt_w (gw_or (gt_isN (ge_var (i := 2))) (gw_or1 (gt_cmp op_gt og_gt (ge_own q (C .law_levels) (ga_cons (ge_var (i := 2)) (ga_nil))) (ge_int))))) (ge_non) (ge_var (i := 2)))))⟩⟩
theorem w_law_goal_of (Fc : Facts w K mg) (C : ∀ f : Fnm, Callee Pg w K mg base k f.nm (s f.nm)) : Bd Pg w K mg base k ["rule", "shape", "word", "one", "goals", "part", "ends", "name"] "_law_goal_of" (defScope (top 69)) (defBody (top 69)) (m_law_goal_of s) :=
  ⟨fun f cdv A outer s0 H E q hp => ⟨[], gss_cons (gs_asg (i := 2) sc_law_goal_of.nd (ge_ix q.hu (ge_var (i := 0)) (ge_int))) (gss_cons (gs_if (gt_cmp (op_eqG q.hq) og_eq (ge_var (i := 2)) (ge_str)) (gss_one (gs_ret (ge_var (i := 1)))) (gss_nil)) (gss_cons (gs_if (gt_cmp (op_eqG q.hq) og_eq (ge_var (i := 2)) (ge_str)) (gss_cons (gs_for hp (gi_seq (ge_ix q.hu (ge_var (i := 0)) (ge_int))) (gg_name (i := 3) sc_law_goal_of.nd) (gss_one (gs_asg (i := 1) sc_law_goal_of.nd (ge_if (gt_isN (ge_var (i := 1))) (ge_non) (ge_own q (C .law_goal) (ga_cons (ge_var (i := 3)) (ga_cons (ge_var (i := 1)) (ga_nil)))))))) (gss_one (gs_ret (ge_var (i := 1))))) (gss_nil)) (gss_cons (gs_if (gt_cmp (op_eqG q.hq) og_eq (ge_var (i := 2)) (ge_str)) (gss_cons (gs_asgLc (i := 4) (own := [("name", 7), ("one", 3)]) sc_law_goal_of.nd (gi_seq (ge_ix q.hu (ge_var (i := 0)) (ge_int))) (blkOk_by (N := ["rule", "shape", "word", "one", "goals", "part", "ends", "name"]) (sc := defScope (top 69)) (by decide +kernel)) (fun s1 H1 C1 cl1 fp1 => gg_tup (ggs_cons (gg_name (i := 7) sc_law_goal_of.nd) (ggs_cons (gg_name (i := 3) sc_law_goal_of.nd) (ggs_nil)))) (fun s1 H1 C1 cl1 fp1 => gts_nil) (fun s1 H1 C1 cl1 fp1 => ge_tup (ga_cons (ge_var (i := 7)) (ga_cons (ge_own (q.blk [] s1 H1 _ _ fp1) (C .law_goal) (ga_cons (ge_var (i := 3)) (ga_cons (ge_var (i := 1)) (ga_nil)))) (ga_nil))))) (gss_one (gs_ret (ge_if (gt_cmp (op_notInG q.hu) og_notIn (ge_non) (GN.ge (gn_comp (own := [("name", 7), ("one", 3)]) sc_law_goal_of.nd (gi_seq (ge_var (i := 4))) (blkOk_by (N := ["rule", "shape", "word", "one", "goals", "part", "ends", "name"]) (sc := defScope (top 69)) (by decide +kernel)) (fun s1 H1 C1 cl1 fp1 => gg_tup (ggs_cons (gg_name (i := 7) sc_law_goal_of.nd) (ggs_cons (gg_name (i := 3) sc_law_goal_of.nd) (ggs_nil)))) (fun s1 H1 C1 cl1 fp1 => gts_nil) (fun s1 H1 C1 cl1 fp1 => ge_var (i := 3))))) (ge_tup (ga_cons (ge_str) (ga_cons (ge_callT call_tupleF cg_tuple Fc.n_tuple PyProof.Rows.boot_tuple (ga_cons (ge_var (i := 4)) (ga_nil))) (ga_nil)))) (ge_non))))) (gss_nil)) (gss_cons (gs_if (gt_cmp (op_inG q.hu) og_in (ge_var (i := 2)) (ge_tup (ga_cons (ge_str) (ga_cons (ge_str) (ga_nil))))) (gss_one (gs_ret (ge_if (gt_w (gw_or (gt_cmp (op_eqG q.hq) og_eq (ge_var (i := 2)) (ge_str)) (gw_or1 (gt_val (ge_own q (C .law_inside) (ga_cons (ge_var (i := 1)) (ga_cons (ge_ix q.hu (ge_var (i := 0)) (ge_int)) (ga_nil)))))))) (ge_ix q.hu (ge_var (i := 0)) (ge_int)) (ge_non)))) (gss_nil)) (gss_cons (gs_if (gt_cmp (op_eqG q.hq) og_eq (ge_var (i := 2)) (ge_str)) (gss_one (gs_ret (ge_if (gt_cmp (op_eqG q.hq) og_eq (ge_ix q.hu (ge_var (i := 1)) (ge_int)) (ge_str)) (ge_non) (ge_tup (ga_cons (ge_str) (ga_cons (ge_var (i := 1)) (ga_nil))))))) (gss_nil)) (gss_cons (gs_if (gt_cmp (op_eqG q.hq) og_eq (ge_var (i := 2)) (ge_str)) (gss_cons (gs_asg (i := 5) sc_law_goal_of.nd (ge_own q (C .law_part_of) (ga_cons (ge_ix q.hu (ge_var (i := 0)) (ge_int)) (ga_cons (ge_ix q.hu (ge_var (i := 0)) (ge_int)) (ga_nil))))) (gss_one (gs_ret (ge_if (gt_w (gw_and (gt_notN (ge_var (i := 5))) (gw_and1 (gt_val (ge_own q (C .law_inside) (ga_cons (ge_var (i := 1)) (ga_cons (ge_var (i := 5)) (ga_nil)))))))) (ge_ix q.hu (ge_var (i := 0)) (ge_int)) (ge_non))))) (gss_nil)) (gss_cons (gs_if (gt_cmp (op_inG q.hu) og_in (ge_var (i := 2)) (ge_tup (ga_cons (ge_str) (ga_cons (ge_str) (ga_nil))))) (gss_cons (gs_if (gt_cmp (op_neG q.hq) og_ne (ge_ix q.hu (ge_var (i := 1)) (ge_int)) (ge_str)) (gss_one (gs_ret (ge_non))) (gss_nil)) (gss_cons (gs_asg (i := 6) sc_law_goal_of.nd (ge_stk)) (gss_one (gs_ret (ge_if (gt_w (gw_and (gt_cmp op_le og_le (ge_callB call_abs cg_abs Fc.n_abs PyProof.Rows.boot_abs (ga_cons (ge_ix q.hu (ge_var (i := 6)) (ge_int)) (ga_nil))) (ge_op op_pow og_pow (ge_int) (ge_int))) (gw_and1 (gt_cmp op_le og_le (ge_callB call_abs cg_abs Fc.n_abs PyProof.Rows.boot_abs (ga_cons (ge_ix q.hu (ge_var (i := 6)) (ge_int)) (ga_nil))) (ge_op op_pow og_pow (ge_int) (ge_int)))))) (ge_tup (ga_cons (ge_str) (ga_cons (ge_ix q.hu (ge_var (i := 6)) (ge_int)) (ga_cons (ge_ix q.hu (ge_var (i := 6)) (ge_int)) (ga_nil))))) (ge_non)))))) (gss_nil)) (gss_one (gs_ret (ge_own q (C .law_goal_apart) (ga_cons (ge_var (i := 0)) (ga_cons (ge_var (i := 1)) (ga_nil)))))))))))))⟩⟩
theorem w_law_goal_apart (Fc : Facts w K mg) (C : ∀ f : Fnm, Callee Pg w K mg base k f.nm (s f.nm)) : Bd Pg w K mg base k ["rule", "shape", "word", "words", "goals", "inner", "one", "name", "k", "old", "new", "part"] "_law_goal_apart" (defScope (top 70)) (defBody (top 70)) (m_law_goal_apart s) :=
  ⟨fun f cdv A outer s0 H E q hp => ⟨[], gss_cons (gs_asg (i := 2) sc_law_goal_apart.nd (ge_ix q.hu (ge_var (i := 0)) (ge_int))) (gss_cons (gs_if (gt_cmp (op_eqG q.hq) og_eq (ge_var (i := 2)) (ge_str)) (gss_one (gs_ret (ge_if (gt_cmp (op_eqG q.hq) og_eq (ge_ix q.hu (ge_var (i := 1)) (ge_int)) (ge_str)) (ge_own q (C .law_part_of) (ga_cons (ge_var (i := 1)) (ga_cons (ge_ix q.hu (ge_var (i := 0)) (ge_int)) (ga_nil)))) (ge_non)))) (gss_nil)) (gss_cons (gs_if (gt_cmp (op_eqG q.hq) og_eq (ge_var (i := 2)) (ge_str)) (gss_cons (gs_asg (i := 5) sc_law_goal_apart.nd (ge_if (gt_cmp (op_eqG q.hq) og_eq (ge_ix q.hu (ge_var (i := 1)) (ge_int)) (ge_str)) (ge_own q (C .law_goal) (ga_cons (ge_ix q.hu (ge_var (i := 0)) (ge_int)) (ga_cons (ge_ix q.hu (ge_var (i := 1)) (ge_int)) (ga_nil)))) (ge_non))) (gss_one (gs_ret (ge_if (gt_isN (ge_var (i := 5))) (ge_non) (ge_tup (ga_cons (ge_str) (ga_cons (ge_var (i := 5)) (ga_cons (ge_ix q.hu (ge_var (i := 1)) (ge_int)) (ga_nil))))))))) (gss_nil)) (gss_cons (gs_if (gt_cmp (op_eqG q.hq) og_eq (ge_var (i := 2)) (ge_str)) (gss_one (gs_ret (ge_if (gt_w (gw_and (gt_cmp (op_eqG q.hq) og_eq (ge_ix q.hu (ge_var (i := 1)) (ge_int)) (ge_str)) (gw_and1 (gt_cmp (op_neG q.hq) og_ne (ge_ix q.hu (ge_ix q.hu (ge_var (i := 1)) (ge_int)) (ge_int)) (ge_str))))) (ge_tup (ga_cons (ge_str) (ga_cons (ge_ix q.hu (ge_var (i := 1)) (ge_int)) (ga_nil)))) (ge_non)))) (gss_nil)) (gss_cons (gs_if (gt_cmp (op_eqG q.hq) og_eq (ge_var (i := 2)) (ge_str)) (gss_one (gs_ret (ge_if (gt_cmp (op_inG q.hu) og_in (ge_ix q.hu (ge_var (i := 1)) (ge_int)) (ge_tup (ga_cons (ge_str) (ga_cons (ge_str) (ga_nil))))) (ge_tup (ga_cons (ge_str) (ga_cons (ge_int) (ga_cons (ge_ix q.hu (ge_var (i := 1)) (ge_neg (ge_int))) (ga_nil))))) (ge_non)))) (gss_nil)) (gss_cons (gs_if (gt_cmp (op_eqG q.hq) og_eq (ge_var (i := 2)) (ge_str)) (gss_one (gs_ret (ge_if (gt_w (gw_and (gt_cmp (op_eqG q.hq) og_eq (ge_ix q.hu (ge_var (i := 1)) (ge_int)) (ge_str)) (gw_and1 (gt_val (ge_own q (C .is_of) (ga_cons (ge_ix q.hu (ge_var (i := 1)) (ge_int)) (ga_cons (ge_ix q.hu (ge_var (i := 0)) (ge_int)) (ga_nil)))))))) (ge_ix q.hu (ge_var (i := 1)) (ge_int)) (ge_non)))) (gss_nil)) (gss_cons (gs_if (gt_cmp (op_eqG q.hq) og_eq (ge_var (i := 2)) (ge_str)) (gss_cons (gs_if (gt_w (gw_or (gt_cmp (op_neG q.hq) og_ne (ge_ix q.hu (ge_var (i := 1)) (ge_int)) (ge_str)) (gw_or1 (gt_cmp (op_neG q.hq) og_ne (ge_stk) (ge_stk))))) (gss_one (gs_ret (ge_non))) (gss_nil)) (gss_cons (gs_asg (i := 3) sc_law_goal_apart.nd (GN.ge (gn_comp (own := [("one", 6)]) sc_law_goal_apart.nd (gi_seq (ge_ix q.hu (ge_var (i := 1)) (ge_int))) (blkOk_by (N := ["rule", "shape", "word", "words", "goals", "inner", "one", "name", "k", "old", "new", "part"]) (sc := defScope (top 70)) (by decide +kernel)) (fun s1 H1 C1 cl1 fp1 => gg_name (i := 6) sc_law_goal_apart.nd) (fun s1 H1 C1 cl1 fp1 => gts_nil) (fun s1 H1 C1 cl1 fp1 => ge_ix (q.blk [] s1 H1 _ _ fp1).hu (GN.ge (gn_comp (own := [("old", 9), ("new", 10)]) sc_law_goal_apart.nd (gi_seq (ge_ix (q.blk [] s1 H1 _ _ fp1).hu (ge_var (i := 0)) (ge_int))) (blkOk_by (by kernel_rfl)) (fun s2 H2 C2 cl2 fp2 => gg_tup (ggs_cons (gg_name (i := 9) sc_law_goal_apart.nd) (ggs_cons (gg_name (i := 10) sc_law_goal_apart.nd) (ggs_nil)))) (fun s2 H2 C2 cl2 fp2 => gts_one (gt_cmp (op_eqG ((q.blk [] s1 H1 _ _ fp1).blk [] s2 H2 _ _ fp2).hq) og_eq (ge_var (i := 9)) (ge_var (i := 6)))) (fun s2 H2 C2 cl2 fp2 => ge_var (i := 10)))) (ge_int))))) (gss_one (gs_ret (ge_tup (ga_cons (ge_str) (ga_cons (ge_callT call_tupleF cg_tuple Fc.n_tuple PyProof.Rows.boot_tuple (ga_cons (GN.ge (gn_comp (own := [("k", 8)]) sc_law_goal_apart.nd (gi_range1 (ge_callB call_lenG cg_len Fc.n_len boot_len (ga_cons (ge_var (i := 3)) (ga_nil))) Fc.n_range) (blkOk_by (N := ["rule", "shape", "word", "words", "goals", "inner", "one", "name", "k", "old", "new", "part"]) (sc := defScope (top 70)) (by decide +kernel)) (fun s1 H1 C1 cl1 fp1 => gg_name (i := 8) sc_law_goal_apart.nd) (fun s1 H1 C1 cl1 fp1 => gts_one (gt_cmp (op_notInG (q.blk [] s1 H1 _ _ fp1).hu) og_notIn (ge_ix (q.blk [] s1 H1 _ _ fp1).hu (ge_var (i := 3)) (ge_var (i := 8))) (ge_sl (ge_var (i := 3)) go_none (go_some (ge_var (i := 8)))))) (fun s1 H1 C1 cl1 fp1 => ge_ix (q.blk [] s1 H1 _ _ fp1).hu (ge_var (i := 3)) (ge_var (i := 8))))) (ga_nil))) (ga_nil)))))))) (gss_nil)) (gss_cons (gs_asg (i := 3) sc_law_goal_apart.nd (GN.ge (gn_comp (own := [("name", 7), ("one", 6)]) sc_law_goal_apart.nd (gi_seq (ge_ix q.hu (ge_var (i := 0)) (ge_int))) (blkOk_by (N := ["rule", "shape", "word", "words", "goals", "inner", "one", "name", "k", "old", "new", "part"]) (sc := defScope (top 70)) (by decide +kernel)) (fun s1 H1 C1 cl1 fp1 => gg_tup (ggs_cons (gg_name (i := 7) sc_law_goal_apart.nd) (ggs_cons (gg_name (i := 6) sc_law_goal_apart.nd) (ggs_nil)))) (fun s1 H1 C1 cl1 fp1 => gts_nil) (fun s1 H1 C1 cl1 fp1 => ge_var (i := 7))))) (gss_cons (gs_if (gt_w (gw_or (gt_cmp (op_neG q.hq) og_ne (ge_ix q.hu (ge_var (i := 1)) (ge_int)) (ge_str)) (gw_or1 (gt_cmp (op_neG q.hq) og_ne (ge_stk) (ge_stk))))) (gss_one (gs_ret (ge_non))) (gss_nil)) (gss_cons (gs_asg (i := 4) sc_law_goal_apart.nd (GN.ge (gn_comp (own := [("name", 7), ("one", 6)]) sc_law_goal_apart.nd (gi_seq (ge_ix q.hu (ge_var (i := 0)) (ge_int))) (blkOk_by (N := ["rule", "shape", "word", "words", "goals", "inner", "one", "name", "k", "old", "new", "part"]) (sc := defScope (top 70)) (by decide +kernel)) (fun s1 H1 C1 cl1 fp1 => gg_tup (ggs_cons (gg_name (i := 7) sc_law_goal_apart.nd) (ggs_cons (gg_name (i := 6) sc_law_goal_apart.nd) (ggs_nil)))) (fun s1 H1 C1 cl1 fp1 => gts_nil) (fun s1 H1 C1 cl1 fp1 => ge_own (q.blk [] s1 H1 _ _ fp1) (C .law_goal) (ga_cons (ge_var (i := 6)) (ga_cons (ge_own (q.blk [] s1 H1 _ _ fp1) (C .law_part_of) (ga_cons (ge_var (i := 1)) (ga_cons (ge_var (i := 7)) (ga_nil)))) (ga_nil))))))) (gss_one (gs_ret (ge_if (gt_cmp (op_eqG q.hq) og_eq (GN.ge (gn_comp (own := [("one", 6)]) sc_law_goal_apart.nd (gi_seq (ge_var (i := 4))) (blkOk_by (N := ["rule", "shape", "word", "words", "goals", "inner", "one", "name", "k", "old", "new", "part"]) (sc := defScope (top 70)) (by decide +kernel)) (fun s1 H1 C1 cl1 fp1 => gg_name (i := 6) sc_law_goal_apart.nd) (fun s1 H1 C1 cl1 fp1 => gts_one (gt_cmp (op_neG (q.blk [] s1 H1 _ _ fp1).hq) og_ne (ge_var (i := 6)) (ge_ix (q.blk [] s1 H1 _ _ fp1).hu (ge_var (i := 4)) (ge_int)))) (fun s1 H1 C1 cl1 fp1 => ge_var (i := 6)))) (ge_lst (ga_nil))) (ge_ix q.hu (ge_var (i := 4)) (ge_int)) (ge_non)))))))))))))⟩⟩
theorem w_law_told (Fc : Facts w K mg) (C : ∀ f : Fnm, Callee Pg w K mg base k f.nm (s f.nm)) : Bd Pg w K mg base k ["rule", "shape", "old", "new", "caught", "found", "e"] "_law_told" (defScope (top 71)) (defBody (top 71)) (m_law_told s) :=
  ⟨fun f cdv A outer s0 H E q hp => ⟨[], gss_cons (gs_asg (i := 4) sc_law_told.nd (ge_non)) (gss_cons (gs_asg (i := 5) sc_law_told.nd (ge_non)) (gss_cons (gs_tryK (k := 4) (i := 6) q sc_law_told.nd Fc.h_LeadError Fc.g_LeadError (fun W pn xe q hp => gss_one (gs_asg (i := 5) sc_law_told.nd (ge_own q (C .put) (ga_cons (ge_var (i := 0)) (ga_cons (ge_var (i := 1)) (ga_cons (ge_var (i := 2)) (ga_cons (ge_var (i := 3)) (ga_nil))))))))) (gss_one (gs_ret (ge_if (gt_isN (ge_var (i := 4))) (ge_tup (ga_cons (ge_str) (ga_cons (ge_var (i := 5)) (ga_nil)))) (ge_own q (C .law_refusal) (ga_cons (ge_var (i := 4)) (ga_nil))))))))⟩⟩
theorem w_law_paths (Fc : Facts w K mg) (C : ∀ f : Fnm, Callee Pg w K mg base k f.nm (s f.nm)) : Bd Pg w K mg base k ["shape", "found", "name", "part", "path"] "_law_paths" (defScope (top 72)) (defBody (top 72)) (m_law_paths s) :=
  ⟨fun f cdv A outer s0 H E q hp => ⟨[], gss_cons (gs_asg (i := 1) sc_law_paths.nd (ge_lst (ga_nil))) (gss_cons (gs_for hp (gi_seq (ge_if (gt_cmp (op_eqG q.hq) og_eq (ge_ix q.hu (ge_var (i := 0)) (ge_int)) (ge_str)) (ge_ix q.hu (ge_var (i := 0)) (ge_int)) (ge_tup (ga_nil)))) (gg_tup (ggs_cons (gg_name (i := 2) sc_law_paths.nd) (ggs_cons (gg_name (i := 3) sc_law_paths.nd) (ggs_nil)))) (gss_one (gs_asg (i := 1) sc_law_paths.nd (ge_op op_addG og_add (ge_op op_addG og_add (ge_var (i := 1)) (ge_lst (ga_cons (ge_tup (ga_cons (ge_var (i := 2)) (ga_nil))) (ga_nil)))) (GN.ge (gn_comp (own := [("path", 4)]) sc_law_paths.nd (gi_seq (ge_own q (C .law_paths) (ga_cons (ge_var (i := 3)) (ga_nil)))) (blkOk_by (N := ["shape", "found", "name", "part", "path"]) (sc := defScope (top 72)) (by decide +kernel)) (fun s1 H1 C1 cl1 fp1 => gg_name (i := 4) sc_law_paths.nd) (fun s1 H1 C1 cl1 fp1 => gts_nil) (fun s1 H1 C1 cl1 fp1 => ge_op op_addG og_add (ge_tup (ga_cons (ge_var (i := 2)) (ga_nil))) (ge_var (i := 4))))))))) (gss_one (gs_ret (ge_var (i := 1)))))⟩⟩
theorem w_law_with (Fc : Facts w K mg) (C : ∀ f : Fnm, Callee Pg w K mg base k f.nm (s f.nm)) : Bd Pg w K mg base k ["thing", "path", "new", "found"] "_law_with" (defScope (top 73)) (defBody (top 73)) (m_law_with s) :=
  ⟨fun f cdv A outer s0 H E q hp => ⟨[], gss_cons (gs_if (gt_cmp (op_eqG q.hq) og_eq (ge_var (i := 1)) (ge_tup (ga_nil))) (gss_one (gs_ret (ge_var (i := 2)))) (gss_nil)) (gss_cons (gs_asgN (i := 3) sc_law_with.nd (gn_dict (ge_var (i := 0)) Fc.n_dict)) (gss_cons (gs_put (i := 3) q.hu (ge_ix q.hu (ge_var (i := 1)) (ge_int)) (ge_own q (C .law_with) (ga_cons (ge_ix q.hu (ge_var (i := 0)) (ge_ix q.hu (ge_var (i := 1)) (ge_int))) (ga_cons (ge_sl (ge_var (i := 1)) (go_some (ge_int)) go_none) (ga_cons (ge_var (i := 2)) (ga_nil)))))) (gss_frz [] (gss_one (gs_ret (ge_var (i := 3)))))))⟩⟩
theorem w_law_rec (Fc : Facts w K mg) (C : ∀ f : Fnm, Callee Pg w K mg base k f.nm (s f.nm)) : Bd Pg w K mg base k ["script", "town", "deep", "parts", "name", "inner", "more"] "_law_rec" (defScope (top 74)) (defBody (top 74)) (m_law_rec s) :=
  ⟨fun f cdv A outer s0 H E q hp => ⟨[], gss_cons (gs_asgN (i := 3) sc_law_rec.nd (gn_lst (ga_nil))) (gss_cons (gs_for hp (gi_seq (ge_own q (C .law_words) (ga_cons (ge_var (i := 0)) (ga_cons (ge_var (i := 1)) (ga_cons (ge_int) (ga_nil)))))) (gg_name (i := 4) sc_law_rec.nd) (gss_cons (gs_asg (i := 5) sc_law_rec.nd (ge_if (gt_w (gw_and (gt_cmp op_gt og_gt (ge_var (i := 2)) (ge_int)) (gw_and1 (gt_cmp (op_eqG q.hq) og_eq (ge_own q (C .law_draw) (ga_cons (ge_var (i := 0)) (ga_cons (ge_var (i := 1)) (ga_cons (ge_int) (ga_nil))))) (ge_int))))) (ge_own q (C .law_rec) (ga_cons (ge_var (i := 0)) (ga_cons (ge_var (i := 1)) (ga_cons (ge_op op_sub og_sub (ge_var (i := 2)) (ge_int)) (ga_nil))))) (ge_tup (ga_cons (ge_str) (ga_nil))))) (gss_cons (gs_asg (i := 6) sc_law_rec.nd (ge_if (gt_cmp op_gt og_gt (ge_var (i := 2)) (ge_int)) (ge_tup (ga_cons (ge_str) (ga_cons (ge_tup (ga_cons (ge_str) (ga_cons (ge_int) (ga_nil)))) (ga_nil)))) (ge_tup (ga_cons (ge_str) (ga_cons (ge_int) (ga_nil)))))) (gss_one (gs_app (i := 3) (ge_tup (ga_cons (ge_var (i := 4)) (ga_cons (ge_own q (C .law_pick) (ga_cons (ge_var (i := 0)) (ga_cons (ge_var (i := 1)) (ga_cons (ge_lst (ga_cons (ge_var (i := 5)) (ga_cons (ge_var (i := 5)) (ga_cons (ge_tup (ga_cons (ge_str) (ga_cons (ge_int) (ga_cons (ge_int) (ga_nil))))) (ga_cons (ge_var (i := 6)) (ga_nil)))))) (ga_nil))))) (ga_nil))))))))) (gss_frz [] (gss_one (gs_ret (ge_tup (ga_cons (ge_str) (ga_cons (ge_callT call_tupleF cg_tuple Fc.n_tuple PyProof.Rows.boot_tuple (ga_cons (ge_var (i := 3)) (ga_nil))) (ga_nil))))))))⟩⟩
theorem w_law_others (Fc : Facts w K mg) (C : ∀ f : Fnm, Callee Pg w K mg base k f.nm (s f.nm)) : Bd Pg w K mg base k ["shape", "old", "name", "rule", "good"] "_law_others" (defScope (top 75)) (defBody (top 75)) (m_law_others s) :=
  ⟨fun f cdv A outer s0 H E q hp => ⟨[], gss_cons (gs_for hp (gi_seq (ge_lst (ga_cons (ge_tup (ga_cons (ge_str) (ga_nil))) (ga_cons (ge_tup (ga_cons (ge_str) (ga_cons (ge_tup (ga_nil)) (ga_nil)))) (ga_cons (ge_tup (ga_cons (ge_str) (ga_cons (ge_tup (ga_cons (ge_tup (ga_cons (ge_str) (ga_cons (ge_var (i := 2)) (ga_nil)))) (ga_cons (ge_tup (ga_cons (ge_str) (ga_nil))) (ga_nil)))) (ga_nil)))) (ga_cons (ge_tup (ga_cons (ge_str) (ga_cons (ge_tup (ga_cons (ge_str) (ga_nil))) (ga_cons (ge_bl) (ga_nil))))) (ga_nil))))))) (gg_name (i := 3) sc_law_others.nd) (gss_cons (gs_asg (i := 4) sc_law_others.nd (ge_notN (ge_own q (C .law_goal) (ga_cons (ge_var (i := 3)) (ga_cons (ge_var (i := 0)) (ga_nil)))))) (gss_one (gs_if (gt_cmp (op_neG q.hq) og_ne (ge_own q (C .law_told) (ga_cons (ge_var (i := 3)) (ga_cons (ge_var (i := 0)) (ga_cons (ge_var (i := 1)) (ga_cons (ge_tup (ga_cons (ge_int) (ga_cons (ge_int) (ga_nil)))) (ga_nil)))))) (ge_tup (ga_cons (ge_str) (ga_cons (ge_if (gt_tru (ge_var (i := 4))) (ge_str) (ge_str)) (ga_nil))))) (gss_one (gs_ret (ge_bl))) (gss_nil))))) (gss_one (gs_ret (ge_and (ge_cmp (op_eqG q.hq) og_eq (ge_own q (C .fields) (ga_cons (ge_tup (ga_cons (ge_str) (ga_nil))) (ga_nil))) (ge_lst (ga_nil))) (ge_one (ge_cmp (op_eqG q.hq) og_eq (ge_own q (C .fields) (ga_cons (ge_tup (ga_cons (ge_str) (ga_cons (ge_tup (ga_cons (ge_str) (ga_nil))) (ga_nil)))) (ga_nil))) (ge_lst (ga_nil)))))))⟩⟩
theorem all_ok (Fc : Facts w K mg) : ∀ (k : Nat) (f : Fnm), Callee Pg w K mg base k f.nm (sem k f.nm)
  | 0, .is_whole => callee_0 Fc.d_is_whole
  | 0, .is_word => callee_0 Fc.d_is_word
  | 0, .are_words => callee_0 Fc.d_are_words
  | 0, .is_shape => callee_0 Fc.d_is_shape
  | 0, .are_parts => callee_0 Fc.d_are_parts
  | 0, .look_shape => callee_0 Fc.d_look_shape
  | 0, .is_of => callee_0 Fc.d_is_of
  | 0, .is_one => callee_0 Fc.d_is_one
  | 0, .is_of_kind => callee_0 Fc.d_is_of_kind
  | 0, .look_thing => callee_0 Fc.d_look_thing
  | 0, .part_of => callee_0 Fc.d_part_of
  | 0, .copied => callee_0 Fc.d_copied
  | 0, .fits_in => callee_0 Fc.d_fits_in
  | 0, .is_rule => callee_0 Fc.d_is_rule
  | 0, .are_pairs => callee_0 Fc.d_are_pairs
  | 0, .look_rule => callee_0 Fc.d_look_rule
  | 0, .need => callee_0 Fc.d_need
  | 0, .led => callee_0 Fc.d_led
  | 0, .goal => callee_0 Fc.d_goal
  | 0, .goal_of => callee_0 Fc.d_goal_of
  | 0, .goal_number => callee_0 Fc.d_goal_number
  | 0, .goal_part => callee_0 Fc.d_goal_part
  | 0, .lead => callee_0 Fc.d_lead
  | 0, .behind => callee_0 Fc.d_behind
  | 0, .is_view => callee_0 Fc.d_is_view
  | 0, .put => callee_0 Fc.d_put
  | 0, .with_part => callee_0 Fc.d_with_part
  | 0, .fields => callee_0 Fc.d_fields
  | 0, .law_cell => callee_0 Fc.d_law_cell
  | 0, .law_mix => callee_0 Fc.d_law_mix
  | 0, .law_draw => callee_0 Fc.d_law_draw
  | 0, .law_pick => callee_0 Fc.d_law_pick
  | 0, .law_refusal => callee_0 Fc.d_law_refusal
  | 0, .law_word => callee_0 Fc.d_law_word
  | 0, .law_words => callee_0 Fc.d_law_words
  | 0, .law_thing => callee_0 Fc.d_law_thing
  | 0, .law_same => callee_0 Fc.d_law_same
  | 0, .law_rule => callee_0 Fc.d_law_rule
  | 0, .law_then => callee_0 Fc.d_law_then
  | 0, .law_rule_of => callee_0 Fc.d_law_rule_of
  | 0, .law_levels => callee_0 Fc.d_law_levels
  | 0, .law_part_of => callee_0 Fc.d_law_part_of
  | 0, .law_inside => callee_0 Fc.d_law_inside
  | 0, .law_goal => callee_0 Fc.d_law_goal
  | 0, .law_goal_of => callee_0 Fc.d_law_goal_of
  | 0, .law_goal_apart => callee_0 Fc.d_law_goal_apart
  | 0, .law_told => callee_0 Fc.d_law_told
  | 0, .law_paths => callee_0 Fc.d_law_paths
  | 0, .law_with => callee_0 Fc.d_law_with
  | 0, .law_rec => callee_0 Fc.d_law_rec
  | 0, .law_others => callee_0 Fc.d_law_others
  | k + 1, .is_whole => (u_is_whole k).symm ▸ callee_G Fc.d_is_whole sc_is_whole rfl rfl (w_is_whole Fc (all_ok Fc k))
  | k + 1, .is_word => (u_is_word k).symm ▸ callee_G Fc.d_is_word sc_is_word rfl rfl (w_is_word Fc (all_ok Fc k))
  | k + 1, .are_words => (u_are_words k).symm ▸ callee_G Fc.d_are_words sc_are_words rfl rfl (w_are_words Fc (all_ok Fc k))
  | k + 1, .is_shape => (u_is_shape k).symm ▸ callee_G Fc.d_is_shape sc_is_shape rfl rfl (w_is_shape Fc (all_ok Fc k))
  | k + 1, .are_parts => (u_are_parts k).symm ▸ callee_G Fc.d_are_parts sc_are_parts rfl rfl (w_are_parts Fc (all_ok Fc k))
  | k + 1, .look_shape => (u_look_shape k).symm ▸ callee_G Fc.d_look_shape sc_look_shape rfl rfl (w_look_shape Fc (all_ok Fc k))
  | k + 1, .is_of => (u_is_of k).symm ▸ callee_G Fc.d_is_of sc_is_of rfl rfl (w_is_of Fc (all_ok Fc k))
  | k + 1, .is_one => (u_is_one k).symm ▸ callee_G Fc.d_is_one sc_is_one rfl rfl (w_is_one Fc (all_ok Fc k))
  | k + 1, .is_of_kind => (u_is_of_kind k).symm ▸ callee_G Fc.d_is_of_kind sc_is_of_kind rfl rfl (w_is_of_kind Fc (all_ok Fc k))
  | k + 1, .look_thing => (u_look_thing k).symm ▸ callee_G Fc.d_look_thing sc_look_thing rfl rfl (w_look_thing Fc (all_ok Fc k))
  | k + 1, .part_of => (u_part_of k).symm ▸ callee_G Fc.d_part_of sc_part_of rfl rfl (w_part_of Fc (all_ok Fc k))
  | k + 1, .copied => (u_copied k).symm ▸ callee_G Fc.d_copied sc_copied rfl rfl (w_copied Fc (all_ok Fc k))
  | k + 1, .fits_in => (u_fits_in k).symm ▸ callee_G Fc.d_fits_in sc_fits_in rfl rfl (w_fits_in Fc (all_ok Fc k))
  | k + 1, .is_rule => (u_is_rule k).symm ▸ callee_G Fc.d_is_rule sc_is_rule rfl rfl (w_is_rule Fc (all_ok Fc k))
  | k + 1, .are_pairs => (u_are_pairs k).symm ▸ callee_G Fc.d_are_pairs sc_are_pairs rfl rfl (w_are_pairs Fc (all_ok Fc k))
  | k + 1, .look_rule => (u_look_rule k).symm ▸ callee_G Fc.d_look_rule sc_look_rule rfl rfl (w_look_rule Fc (all_ok Fc k))
  | k + 1, .need => (u_need k).symm ▸ callee_G Fc.d_need sc_need rfl rfl (w_need Fc (all_ok Fc k))
  | k + 1, .led => (u_led k).symm ▸ callee_G Fc.d_led sc_led rfl rfl (w_led Fc (all_ok Fc k))
  | k + 1, .goal => (u_goal k).symm ▸ callee_G Fc.d_goal sc_goal rfl rfl (w_goal Fc (all_ok Fc k))
  | k + 1, .goal_of => (u_goal_of k).symm ▸ callee_G Fc.d_goal_of sc_goal_of rfl rfl (w_goal_of Fc (all_ok Fc k))
  | k + 1, .goal_number => (u_goal_number k).symm ▸ callee_G Fc.d_goal_number sc_goal_number rfl rfl (w_goal_number Fc (all_ok Fc k))
  | k + 1, .goal_part => (u_goal_part k).symm ▸ callee_G Fc.d_goal_part sc_goal_part rfl rfl (w_goal_part Fc (all_ok Fc k))
  | k + 1, .lead => (u_lead k).symm ▸ callee_G Fc.d_lead sc_lead rfl rfl (w_lead Fc (all_ok Fc k))
  | k + 1, .behind => (u_behind k).symm ▸ callee_G Fc.d_behind sc_behind rfl rfl (w_behind Fc (all_ok Fc k))
  | k + 1, .is_view => (u_is_view k).symm ▸ callee_G Fc.d_is_view sc_is_view rfl rfl (w_is_view Fc (all_ok Fc k))
  | k + 1, .put => (u_put k).symm ▸ callee_G Fc.d_put sc_put rfl rfl (w_put Fc (all_ok Fc k))
  | k + 1, .with_part => (u_with_part k).symm ▸ callee_G Fc.d_with_part sc_with_part rfl rfl (w_with_part Fc (all_ok Fc k))
  | k + 1, .fields => (u_fields k).symm ▸ callee_G Fc.d_fields sc_fields rfl rfl (w_fields Fc (all_ok Fc k))
  | k + 1, .law_cell => (u_law_cell k).symm ▸ callee_G Fc.d_law_cell sc_law_cell rfl rfl (w_law_cell Fc (all_ok Fc k))
  | k + 1, .law_mix => (u_law_mix k).symm ▸ callee_G Fc.d_law_mix sc_law_mix rfl rfl (w_law_mix Fc (all_ok Fc k))
  | k + 1, .law_draw => (u_law_draw k).symm ▸ callee_G Fc.d_law_draw sc_law_draw rfl rfl (w_law_draw Fc (all_ok Fc k))
  | k + 1, .law_pick => (u_law_pick k).symm ▸ callee_G Fc.d_law_pick sc_law_pick rfl rfl (w_law_pick Fc (all_ok Fc k))
  | k + 1, .law_refusal => (u_law_refusal k).symm ▸ callee_G Fc.d_law_refusal sc_law_refusal rfl rfl (w_law_refusal Fc (all_ok Fc k))
  | k + 1, .law_word => (u_law_word k).symm ▸ callee_G Fc.d_law_word sc_law_word rfl rfl (w_law_word Fc (all_ok Fc k))
  | k + 1, .law_words => (u_law_words k).symm ▸ callee_G Fc.d_law_words sc_law_words rfl rfl (w_law_words Fc (all_ok Fc k))
  | k + 1, .law_thing => (u_law_thing k).symm ▸ callee_G Fc.d_law_thing sc_law_thing rfl rfl (w_law_thing Fc (all_ok Fc k))
  | k + 1, .law_same => (u_law_same k).symm ▸ callee_G Fc.d_law_same sc_law_same rfl rfl (w_law_same Fc (all_ok Fc k))
  | k + 1, .law_rule => (u_law_rule k).symm ▸ callee_stk Fc.d_law_rule
  | k + 1, .law_then => (u_law_then k).symm ▸ callee_stk Fc.d_law_then
  | k + 1, .law_rule_of => (u_law_rule_of k).symm ▸ callee_stk Fc.d_law_rule_of
  | k + 1, .law_levels => (u_law_levels k).symm ▸ callee_G Fc.d_law_levels sc_law_levels rfl rfl (w_law_levels Fc (all_ok Fc k))
  | k + 1, .law_part_of => (u_law_part_of k).symm ▸ callee_G Fc.d_law_part_of sc_law_part_of rfl rfl (w_law_part_of Fc (all_ok Fc k))
  | k + 1, .law_inside => (u_law_inside k).symm ▸ callee_G Fc.d_law_inside sc_law_inside rfl rfl (w_law_inside Fc (all_ok Fc k))
  | k + 1, .law_goal => (u_law_goal k).symm ▸ callee_G Fc.d_law_goal sc_law_goal rfl rfl (w_law_goal Fc (all_ok Fc k))
  | k + 1, .law_goal_of => (u_law_goal_of k).symm ▸ callee_G Fc.d_law_goal_of sc_law_goal_of rfl rfl (w_law_goal_of Fc (all_ok Fc k))
  | k + 1, .law_goal_apart => (u_law_goal_apart k).symm ▸ callee_G Fc.d_law_goal_apart sc_law_goal_apart rfl rfl (w_law_goal_apart Fc (all_ok Fc k))
  | k + 1, .law_told => (u_law_told k).symm ▸ callee_G Fc.d_law_told sc_law_told rfl rfl (w_law_told Fc (all_ok Fc k))
  | k + 1, .law_paths => (u_law_paths k).symm ▸ callee_G Fc.d_law_paths sc_law_paths rfl rfl (w_law_paths Fc (all_ok Fc k))
  | k + 1, .law_with => (u_law_with k).symm ▸ callee_G Fc.d_law_with sc_law_with rfl rfl (w_law_with Fc (all_ok Fc k))
  | k + 1, .law_rec => (u_law_rec k).symm ▸ callee_G Fc.d_law_rec sc_law_rec rfl rfl (w_law_rec Fc (all_ok Fc k))
  | k + 1, .law_others => (u_law_others k).symm ▸ callee_G Fc.d_law_others sc_law_others rfl rfl (w_law_others Fc (all_ok Fc k))
theorem w_law (Fc : Facts w K mg) (C : ∀ f : Fnm, Callee Pg w K mg base k f.nm (s f.nm))  : Bd Pg w K mg base k ["script", "town", "shape", "paths", "due", "path", "old", "rule", "part", "new", "found", "other", "name"] "law" (defScope (top 76)) (defBody (top 76)).tail (m_law s) :=
  ⟨fun f cdv A outer s0 H E q hp => ⟨[], gss_cons (gs_asg (i := 2) sc_law.nd (ge_own q (C .law_rec) (ga_cons (ge_var (i := 0)) (ga_cons (ge_var (i := 1)) (ga_cons (ge_int) (ga_nil)))))) (gss_cons (gs_asg (i := 3) sc_law.nd (ge_own q (C .law_paths) (ga_cons (ge_var (i := 2)) (ga_nil)))) (gss_cons (gs_asgN (i := 4) sc_law.nd (gn_lst (ga_nil))) (gss_cons (gs_for hp (gi_seq (ge_var (i := 3))) (gg_name (i := 5) sc_law.nd) (gss_one (gs_app (i := 4) (ge_if (gt_cmp (op_eqG q.hq) og_eq (ge_callB call_lenG cg_len Fc.n_len boot_len (ga_cons (ge_var (i := 5)) (ga_nil))) (ge_int)) (ge_tup (ga_cons (ge_str) (ga_cons (ge_ix q.hu (ge_var (i := 5)) (ge_int)) (ga_nil)))) (ge_tup (ga_cons (ge_str) (ga_cons (ge_callT call_tupleF cg_tuple Fc.n_tuple PyProof.Rows.boot_tuple (ga_cons (GN.ge (gn_comp (own := [("name", 12)]) sc_law.nd (gi_seq (ge_var (i := 5))) (blkOk_by (N := ["script", "town", "shape", "paths", "due", "path", "old", "rule", "part", "new", "found", "other", "name"]) (sc := defScope (top 76)) (by decide +kernel)) (fun s1 H1 C1 cl1 fp1 => gg_name (i := 12) sc_law.nd) (fun s1 H1 C1 cl1 fp1 => gts_nil) (fun s1 H1 C1 cl1 fp1 => ge_tup (ga_cons (ge_str) (ga_cons (ge_var (i := 12)) (ga_nil)))))) (ga_nil))) (ga_nil)))))))) (gss_frz [] (gss_cons (gs_if (gt_cmp (op_neG q.hq) og_ne (ge_own q (C .fields) (ga_cons (ge_var (i := 2)) (ga_nil))) (ge_var (i := 4))) (gss_one (gs_ret (ge_bl))) (gss_nil)) (gss_cons (gs_asg (i := 6) sc_law.nd (ge_own q (C .law_thing) (ga_cons (ge_var (i := 0)) (ga_cons (ge_var (i := 1)) (ga_cons (ge_var (i := 2)) (ga_nil)))))) (gss_cons (gs_for hp (gi_seq (ge_op op_addG og_add (ge_sl (ge_var (i := 3)) go_none (go_some (ge_int))) (ge_lst (ga_cons (ge_tup (ga_nil)) (ga_nil))))) (gg_name (i := 5) sc_law.nd) (gss_cons (gs_asg (i := 7) sc_law.nd (ge_if (gt_cmp (op_neG q.hq) og_ne (ge_var (i := 5)) (ge_tup (ga_nil))) (ge_tup (ga_cons (ge_str) (ga_cons (ge_callT call_tupleF cg_tuple Fc.n_tuple PyProof.Rows.boot_tuple (ga_cons (GN.ge (gn_comp (own := [("name", 12)]) sc_law.nd (gi_seq (ge_var (i := 5))) (blkOk_by (N := ["script", "town", "shape", "paths", "due", "path", "old", "rule", "part", "new", "found", "other", "name"]) (sc := defScope (top 76)) (by decide +kernel)) (fun s1 H1 C1 cl1 fp1 => gg_name (i := 12) sc_law.nd) (fun s1 H1 C1 cl1 fp1 => gts_nil) (fun s1 H1 C1 cl1 fp1 => ge_tup (ga_cons (ge_str) (ga_cons (ge_var (i := 12)) (ga_nil)))))) (ga_nil))) (ga_nil)))) (ge_tup (ga_cons (ge_str) (ga_nil))))) (gss_cons (gs_if (gt_cmp (op_eqG q.hq) og_eq (ge_own q (C .law_draw) (ga_cons (ge_var (i := 0)) (ga_cons (ge_var (i := 1)) (ga_cons (ge_int) (ga_nil))))) (ge_int)) (gss_one (gs_asg (i := 7) sc_law.nd (ge_tup (ga_cons (ge_str) (ga_cons (ge_tup (ga_cons (ge_tup (ga_cons (ge_str) (ga_nil))) (ga_cons (ge_var (i := 7)) (ga_cons (ge_tup (ga_cons (ge_str) (ga_cons (ge_tup (ga_cons (ge_tup (ga_cons (ge_str) (ga_nil))) (ga_nil))) (ga_nil)))) (ga_nil))))) (ga_nil)))))) (gss_nil)) (gss_cons (gs_asg (i := 8) sc_law.nd (ge_own q (C .led) (ga_cons (ge_var (i := 7)) (ga_cons (ge_var (i := 2)) (ga_nil))))) (gss_cons (gs_asg (i := 9) sc_law.nd (ge_own q (C .law_thing) (ga_cons (ge_var (i := 0)) (ga_cons (ge_var (i := 1)) (ga_cons (ge_var (i := 8)) (ga_nil)))))) (gss_cons (gs_asg (i := 10) sc_law.nd (ge_own q (C .law_told) (ga_cons (ge_var (i := 7)) (ga_cons (ge_var (i := 2)) (ga_cons (ge_var (i := 6)) (ga_cons (ge_var (i := 9)) (ga_nil))))))) (gss_cons (gs_if (gt_w (gw_or (gt_cmp (op_neG q.hq) og_ne (ge_ix q.hu (ge_var (i := 10)) (ge_int)) (ge_str)) (gw_or1 (gt_not (gt_val (ge_own q (C .law_same) (ga_cons (ge_ix q.hu (ge_var (i := 10)) (ge_int)) (ga_cons (ge_own q (C .law_with) (ga_cons (ge_var (i := 6)) (ga_cons (ge_var (i := 5)) (ga_cons (ge_var (i := 9)) (ga_nil))))) (ga_nil))))))))) (gss_one (gs_ret (ge_bl))) (gss_nil)) (gss_cons (gs_if (gt_w (gw_or (gt_not (gt_val (ge_own q (C .law_same) (ga_cons (ge_own q (C .lead) (ga_cons (ge_var (i := 7)) (ga_cons (ge_var (i := 2)) (ga_cons (ge_ix q.hu (ge_var (i := 10)) (ge_int)) (ga_nil))))) (ga_cons (ge_var (i := 9)) (ga_nil)))))) (gw_or1 (gt_not (gt_val (ge_own q (C .is_of) (ga_cons (ge_var (i := 2)) (ga_cons (ge_ix q.hu (ge_var (i := 10)) (ge_int)) (ga_nil))))))))) (gss_one (gs_ret (ge_bl))) (gss_nil)) (gss_cons (gs_if (gt_not (gt_val (ge_own q (C .law_same) (ga_cons (ge_own q (C .put) (ga_cons (ge_var (i := 7)) (ga_cons (ge_var (i := 2)) (ga_cons (ge_var (i := 6)) (ga_cons (ge_own q (C .lead) (ga_cons (ge_var (i := 7)) (ga_cons (ge_var (i := 2)) (ga_cons (ge_var (i := 6)) (ga_nil))))) (ga_nil)))))) (ga_cons (ge_var (i := 6)) (ga_nil)))))) (gss_one (gs_ret (ge_bl))) (gss_nil)) (gss_cons (gs_asg (i := 11) sc_law.nd (ge_own q (C .law_thing) (ga_cons (ge_var (i := 0)) (ga_cons (ge_var (i := 1)) (ga_cons (ge_var (i := 8)) (ga_nil)))))) (gss_cons (gs_if (gt_not (gt_val (ge_own q (C .law_same) (ga_cons (ge_own q (C .put) (ga_cons (ge_var (i := 7)) (ga_cons (ge_var (i := 2)) (ga_cons (ge_ix q.hu (ge_var (i := 10)) (ge_int)) (ga_cons (ge_var (i := 11)) (ga_nil)))))) (ga_cons (ge_own q (C .put) (ga_cons (ge_var (i := 7)) (ga_cons (ge_var (i := 2)) (ga_cons (ge_var (i := 6)) (ga_cons (ge_var (i := 11)) (ga_nil)))))) (ga_nil)))))) (gss_one (gs_ret (ge_bl))) (gss_nil)) (gss_cons (gs_if (gt_cmp (op_neG q.hq) og_ne (ge_own q (C .law_told) (ga_cons (ge_var (i := 7)) (ga_cons (ge_var (i := 2)) (ga_cons (ge_var (i := 6)) (ga_cons (ge_tup (ga_cons (ge_int) (ga_cons (ge_int) (ga_nil)))) (ga_nil)))))) (ge_tup (ga_cons (ge_str) (ga_cons (ge_str) (ga_nil))))) (gss_one (gs_ret (ge_bl))) (gss_nil)) (gss_one (gs_if (gt_cmp (op_neG q.hq) og_ne (ge_own q (C .law_told) (ga_cons (ge_var (i := 7)) (ga_cons (ge_var (i := 2)) (ga_cons (ge_tup (ga_cons (ge_int) (ga_cons (ge_int) (ga_nil)))) (ga_cons (ge_var (i := 9)) (ga_nil)))))) (ge_tup (ga_cons (ge_str) (ga_cons (ge_str) (ga_nil))))) (gss_one (gs_ret (ge_bl))) (gss_nil))))))))))))))) (gss_one (gs_ret (ge_own q (C .law_others) (ga_cons (ge_var (i := 2)) (ga_cons (ge_var (i := 6)) (ga_cons (ge_ix q.hu (ge_ix q.hu (ge_var (i := 3)) (ge_int)) (ge_int)) (ga_nil))))))))))))))⟩⟩
end
end Law
namespace Law
open PySem L2 G
@[simp] theorem z_number : tabGet tab_SIZES_shapes "number" 0 = 3 := by decide
@[simp] theorem z_truth : tabGet tab_SIZES_shapes "truth" 0 = 1 := by decide
@[simp] theorem z_word : tabGet tab_SIZES_shapes "word" 0 = 2 := by decide
@[simp] theorem z_text : tabGet tab_SIZES_shapes "text" 0 = 2 := by decide
@[simp] theorem z_list : tabGet tab_SIZES_shapes "list" 0 = 3 := by decide
@[simp] theorem z_rec : tabGet tab_SIZES_shapes "rec" 0 = 2 := by decide
@[simp] theorem z_kind : tabGet tab_SIZES_shapes "kind" 0 = 2 := by decide
@[simp] theorem z_maybe : tabGet tab_SIZES_shapes "maybe" 0 = 2 := by decide
theorem whole_ok (k : Nat) (t : D) (a b : Int) (S : Sx) : sem (k + 1) "is_whole" [.d t, .d (.int a), .d (.int b)] S = .ok (.bl (isWh t a b)) S := by
  rw [u_is_whole]
  unfold m_is_whole isWh
  cases t <;> simp [isi]
  rename_i i
  by_cases h : a ≤ i <;> simp [h]
theorem word_ok (k : Nat) (z : Str) (h : okW z) (S : Sx) : sem (k + 1) "is_word" [.d (.str z)] S = .ok (.bl true) S := by
  rw [u_is_word]
  unfold m_is_word
  obtain ⟨h1, h2, h3⟩ := h
  have e1 : (1 : Int) ≤ (z.length : Int) := by omega
  have e2 : (z.length : Int) ≤ 8 := by omega
  simp [isi, e1, e2]
  rw [sign_comp (y := "abcdefghijklmnopqrstuvwxyz") (fun c => by simp [turnF, bindT, wipeR])]
  simp
  intro i hi
  have := h3 z.cps[i] (by simp)
  simpa using this
theorem words_ok (k : Nat) (c : List D → D) (hc : c = .tup ∨ c = .lst) (ws : List Str) (m : Nat) (h1 : m ≤ ws.length) (h2 : ws.length ≤ 4) (h3 : ∀ w ∈ ws, okW w) (h4 : ws.Nodup) (S : Sx) : sem (k + 2) "are_words" [.d (c (ws.map .str)), .d (.int m)] S = .ok (.bl true) S := by
  rw [u_are_words]
  unfold m_are_words
  have e1 : (m : Int) ≤ (ws.length : Int) := by omega
  have e2 : (ws.length : Int) ≤ 4 := by omega
  have e3 : ws.length + 1 < 4096 := by omega
  have hcomp : ∀ ρ : Rho, ρ.length = 3 → compF (.n 2) [2] tYesF (eOwn (sem (k + 1) "is_word") (aCons (eVar 2) aNil)) ρ (ws.map .str) S = .ok (ws.map fun _ => .bl true) S := fun ρ hρ => by
    rw [cmp_map (g := fun _ => .bl true)]
    · simp
    · intro d hd
      obtain ⟨w, hw, rfl⟩ := List.mem_map.mp hd
      match ρ, hρ with
      | [a, b, c], _ => simp [turnF, bindT, wipeR, word_ok k w (h3 w hw)]
  have hl : lenSetD (.d (c (ws.map .str))) S = .ok (.d (.int (ws.length : Nat))) S := by
    rcases hc with rfl | rfl <;> simp [lenSetD, e3, distinct_nodup h4]
  have fin : (ws.map fun _ => (D.bl true)) = ws.map (fun _ => D.bl true) := rfl
  rcases hc with rfl | rfl
  · simp [e1, e2, hcomp, isSeq, hl]
  · simp [e1, e2, hcomp, isSeq, hl]
theorem shape_ok : ∀ (n j : Nat) (s : Sh) (deep : Int) (S : Sx), Gd n s → (n : Int) ≤ deep → sem (j + 2 * n + 4) "is_shape" [.d (enc s), .d (.int deep)] S = .ok (.bl true) S := by
  intro n
  induction n with
  | zero => intro j s deep S h; cases h
  | succ n ih =>
    intro j s deep S h hd
    have hk : j + 2 * (n + 1) + 4 = (j + 2 * n + 5) + 1 := by omega
    rw [hk, u_is_shape]
    unfold m_is_shape
    have hd0 : (deep == 0) = false := by simp; omega
    have hd1 : ((n : Nat) : Int) ≤ deep - 1 := by omega
    have ih1 : ∀ s : Sh, Gd n s → sem (j + 2 * n + 5) "is_shape" [.d (enc s), .d (.int (deep - 1))] S = .ok (.bl true) S := fun s hs => by
      have := ih (j + 1) s (deep - 1) S hs hd1
      rw [show j + 1 + 2 * n + 4 = j + 2 * n + 5 by omega] at this
      exact this
    have parts : ∀ (ps : List (Str × Sh)) (m : Nat), m ≤ ps.length → ps.length ≤ 4 → (∀ p ∈ ps, okW p.1) → (∀ p ∈ ps, Gd n p.2) → (ps.map (·.1)).Nodup → sem (j + 2 * n + 5) "are_parts" [.d (.tup (encs ps)), .d (.int deep), .d (.int m)] S = .ok (.bl true) S := by
      intro ps m h1 h2 h3 h4 h5
      rw [show j + 2 * n + 5 = (j + 2 * n + 4) + 1 by omega, u_are_parts]
      unfold m_are_parts
      rw [encs_map]
      have c1 : ∀ a b c d, compF (.n 3) [3] tYesF (eAndF (eIsi .tuple (eVar 3)) (eOp eqO (eCall lenG (aCons (eVar 3) aNil)) (eC (.int 2)))) [a, b, c, d] (ps.map encp) S = .ok (ps.map fun _ => .bl true) S := fun a b c d => by
        rw [cmp_map (g := fun _ => .bl true)]
        · simp
        · intro x hx
          obtain ⟨p, hp, rfl⟩ := List.mem_map.mp hx
          simp [turnF, bindT, wipeR, isi]
      have c2 : ∀ a b c d, compF (.n 3) [3] tYesF (eOwn (sem (j + 2 * n + 4) "is_word") (aCons (eIx (eVar 3) (eC (.int 0))) aNil)) [a, b, c, d] (ps.map encp) S = .ok (ps.map fun _ => .bl true) S := fun a b c d => by
        rw [cmp_map (g := fun _ => .bl true)]
        · simp
        · intro x hx
          obtain ⟨p, hp, rfl⟩ := List.mem_map.mp hx
          simp [turnF, bindT, wipeR, isi, word_ok (j + 2 * n + 3) p.1 (h3 p hp)]
      have c3 : ∀ a b c d, compF (.n 3) [3] tYesF (eIx (eVar 3) (eC (.int 0))) [a, b, c, d] (ps.map encp) S = .ok ((ps.map (·.1)).map .str) S := fun a b c d => by
        rw [cmp_map (g := fun x => match x with
          | .tup (y :: _) => y
          | _ => .non)]
        · simp
        · intro x hx
          obtain ⟨p, hp, rfl⟩ := List.mem_map.mp hx
          simp [turnF, bindT, wipeR, isi]
      have c4 : ∀ a c d, compF (.n 3) [3] tYesF (eOwn (sem (j + 2 * n + 4) "is_shape") (aCons (eIx (eVar 3) (eC (.int 1))) (aCons (eOp subD (eVar 1) (eC (.int 1))) aNil))) [a, some (.d (.int deep)), c, d] (ps.map encp) S = .ok (ps.map fun _ => .bl true) S := fun a c d => by
        rw [cmp_map (g := fun _ => .bl true)]
        · simp
        · intro x hx
          obtain ⟨p, hp, rfl⟩ := List.mem_map.mp hx
          have := ih j p.2 (deep - 1) S (h4 p hp) hd1
          simp [turnF, bindT, wipeR, isi, this]
      have c5 := words_ok (j + 2 * n + 2) .lst (.inr rfl) (ps.map (·.1)) m (by simpa using h1) (by simpa using h2) (fun w hw => by
        obtain ⟨p, hp, rfl⟩ := List.mem_map.mp hw
        exact h3 p hp) h5 S
      rw [show j + 2 * n + 2 + 2 = j + 2 * n + 4 by omega] at c5
      simp [c1, c2, c3, c4, c5, -List.map_map]
    cases h with
    | @num _ lo hi h1 h2 h3 =>
      simp [enc, isi, hd0, whole_ok, isWh, h1, h2, h3, Int.le_trans h2 h3]
    | tru => simp [enc, isi, hd0]
    | wrd h1 h2 h3 h4 =>
      have := words_ok (j + 2 * n + 3) .tup (.inl rfl) _ 1 h1 h2 h3 h4 S
      simp at this
      simp [enc, isi, hd0, this]
    | @txt _ m h1 =>
      have e1 : (m : Int) ≤ 4 := by omega
      simp [enc, isi, hd0, whole_ok, isWh, e1]
    | @lis _ m s h1 h2 =>
      have e1 : (m : Int) ≤ 4 := by omega
      simp [enc, isi, hd0, whole_ok, isWh, e1, ih1 s h1]
    | @may _ s h1 h2 =>
      obtain ⟨w, r, es, hw, _⟩ := enc_shape s
      have := ih1 s h1
      rw [es] at this
      simp [enc, isi, hd0, this, es, hw h2]
    | @rcd _ ps h1 h2 h3 h4 =>
      have := parts ps 0 (Nat.zero_le _) h1 h2 h3 h4
      simp at this
      simp [enc, isi, hd0, this, intG]
    | @knd _ ps h1 h2 h3 h4 h5 =>
      have := parts ps 1 h1 h2 h3 h4 h5
      simp at this
      simp [enc, isi, hd0, this, intG]
theorem look_ok (j : Nat) (s : Sh) (h : Gd 4 s) (S : Sx) : sem (j + 13) "look_shape" [.d (enc s)] S = .ok .non S := by
  rw [u_look_shape]
  unfold m_look_shape
  have := shape_ok 4 j s 4 S h (by simp)
  simp [this]
end Law
namespace Law
open PySem L2 G
theorem one_ok : ∀ (n j : Nat) (s : Sh) (t : D) (S : Sx), Gd n s → sem (j + 2 * n + 2) "is_one" [.d (enc s), .d t] S = .ok (.bl (oneP n s t)) S := by
  intro n
  induction n with
  | zero => intro j s t S h; cases h
  | succ n ih =>
    intro j s t S h
    have hk : j + 2 * (n + 1) + 2 = (j + 2 * n + 3) + 1 := by omega
    rw [hk, u_is_one]
    unfold m_is_one
    have ih1 : ∀ (s : Sh) (t : D), Gd n s → sem (j + 2 * n + 3) "is_one" [.d (enc s), .d t] S = .ok (.bl (oneP n s t)) S := fun s t hs => by
      have := ih (j + 1) s t S hs
      rw [show j + 1 + 2 * n + 2 = j + 2 * n + 3 by omega] at this
      exact this
    cases h with
    | @num _ lo hi h1 h2 h3 => simp [enc, whole_ok, oneP]
    | tru => simp [enc, oneP]
    | @wrd _ ws h1 h2 h3 h4 =>
      cases t <;> simp [enc, isi, oneP, inD_words]
    | @txt _ m h1 =>
      cases t <;> simp [enc, isi, oneP]
      rename_i z
      by_cases e : z.length ≤ m
      · have e' : (z.length : Int) ≤ (m : Int) := by omega
        simp [e]
        rw [sign_comp (y := "abc") (fun c => by simp [turnF, bindT, wipeR])]
        simp [letters]
      · simp [e]
    | @lis _ m s h1 h2 =>
      cases t <;> simp [enc, isi, oneP]
      rename_i xs
      by_cases e : xs.length ≤ m
      · simp [e]
        rw [cmp_map (g := fun x => .bl (oneP n s x))]
        · simp [List.all_map, Function.comp_def]
        · intro x hx
          simp [turnF, bindT, wipeR, ih1 s x h1]
      · simp [e]
    | @may _ s h1 h2 =>
      cases t <;> simp [enc, isN, oneP, ih1 s _ h1]
    | @rcd _ ps h1 h2 h3 h4 =>
      cases t <;> simp [enc, isi, oneP]
      rename_i kvs
      rw [encs_map]
      by_cases e : kvs.length = ps.length
      · simp [e]
        rw [cmp_overM (g := fun p => .bl (match lookK kvs (.inr p.1) with
            | some u => oneP n p.2 u
            | none => false))]
        · simp [List.all_map, Function.comp_def]; try rfl
        · intro p hp
          cases q : lookK kvs (.inr p.1) with
          | none => simp [turnF, bindT, wipeR, setAll, inD_key, q]
          | some u => simp [turnF, bindT, wipeR, setAll, inD_key, q, ih1 p.2 u (h3 p hp)]
      · simp [e]
    | @knd _ ps h1 h2 h3 h4 h5 =>
      have hk : ∀ (a u : D), sem (j + 2 * n + 3) "is_of_kind" [.d (.tup [.str "kind", .tup (encs ps)]), .d (.tup [a, u])] S = .ok (.bl (match a with
          | .str z => ps.any fun p => z == p.1 && oneP n p.2 u
          | _ => false)) S := fun a u => by
        rw [show j + 2 * n + 3 = (j + 2 * n + 2) + 1 by omega, u_is_of_kind]
        unfold m_is_of_kind
        rw [encs_map]
        simp
        rw [cmp_overM (g := fun p => .bl (match a with
          | .str z => z == p.1 && oneP n p.2 u
          | _ => false))]
        · cases a <;> simp [List.any_map, Function.comp_def]
        · intro p hp
          have := ih j p.2 u S (h4 p hp)
          cases a <;> simp [turnF, bindT, wipeR, setAll, isi]
          rename_i z
          by_cases e : z = p.1 <;> simp [e, this]
      cases t <;> simp [enc, isi, oneP]
      rename_i xs
      match xs with
      | [] => simp
      | [a] => simp
      | a :: b :: c :: r =>
        have e : ¬ ((r.length : Int) + 1 + 1 + 1 = 2) := by omega
        simp [e]
      | [a, u] =>
        simp [hk a u]
        cases a <;> simp
theorem look_sem (s : Sh) (h : Gd 4 s) (j : Nat) (hj : 13 ≤ j) (S : Sx) : sem j "look_shape" [.d (enc s)] S = .ok .non S := by
  have := look_ok (j - 13) s h S
  rwa [show j - 13 + 13 = j by omega] at this
theorem one_sem (n : Nat) (s : Sh) (t : D) (h : Gd n s) (j : Nat) (hj : 2 * n + 2 ≤ j) (S : Sx) : sem j "is_one" [.d (enc s), .d t] S = .ok (.bl (oneP n s t)) S := by
  have := one_ok n (j - (2 * n + 2)) s t S h
  rwa [show j - (2 * n + 2) + 2 * n + 2 = j by omega] at this
end Law
namespace Law
open PySem PySem.Spec L2 G
/-! is_shape of what is a shape but for its levels -/
theorem shape_lv : ∀ (m j : Nat) (s : Sh) (deep : Nat) (S : Sx), Gd m s → sem (j + 2 * m + 4) "is_shape" [.d (enc s), .d (.int (deep : Nat))] S = .ok (.bl (decide (lv s ≤ deep))) S := by
  intro m
  induction m with
  | zero => intro j s deep S h; cases h
  | succ m ih =>
    intro j s deep S h
    by_cases hle : lv s ≤ deep
    · rw [decide_eq_true hle]
      have g : Gd deep s := h.of_lv hle
      by_cases hd : deep ≤ m + 1
      · have := shape_ok deep (j + 2 * (m + 1 - deep)) s deep S g (Int.le_refl _)
        rwa [show j + 2 * (m + 1 - deep) + 2 * deep + 4 = j + 2 * (m + 1) + 4 by omega] at this
      · exact shape_ok (m + 1) j s deep S h (by omega)
    · rw [decide_eq_false hle]
      have hk : j + 2 * (m + 1) + 4 = (j + 2 * m + 5) + 1 := by omega
      rw [hk, u_is_shape]
      unfold m_is_shape
      cases deep with
      | zero =>
        obtain ⟨w, r, es, _⟩ := enc_shape s
        rw [es]
        simp [isi]
      | succ d =>
        have hd0 : (((d : Int) + 1) == 0) = false := by simp; omega
        have es : ((d : Int) + 1) - 1 = (d : Int) := by omega
        have ih1 : ∀ s : Sh, Gd m s → sem (j + 2 * m + 5) "is_shape" [.d (enc s), .d (.int (d : Int))] S = .ok (.bl (decide (lv s ≤ d))) S := fun s hs => by
          have := ih (j + 1) s d S hs
          rwa [show j + 1 + 2 * m + 4 = j + 2 * m + 5 by omega] at this
        have parts : ∀ (ps : List (Str × Sh)) (k : Nat), k ≤ ps.length → ps.length ≤ 4 → (∀ p ∈ ps, okW p.1) → (∀ p ∈ ps, Gd m p.2) → (ps.map (·.1)).Nodup → ¬ lvs ps ≤ d → sem (j + 2 * m + 5) "are_parts" [.d (.tup (encs ps)), .d (.int ((d : Int) + 1)), .d (.int k)] S = .ok (.bl false) S := by
          intro ps k h1 h2 h3 h4 h5 h6
          rw [show j + 2 * m + 5 = (j + 2 * m + 4) + 1 by omega, u_are_parts]
          unfold m_are_parts
          rw [encs_map]
          have c1 : ∀ a b c d, compF (.n 3) [3] tYesF (eAndF (eIsi .tuple (eVar 3)) (eOp eqO (eCall lenG (aCons (eVar 3) aNil)) (eC (.int 2)))) [a, b, c, d] (ps.map encp) S = .ok (ps.map fun _ => .bl true) S := fun a b c d => by
            rw [cmp_overM (g := fun _ => .bl true)]
            intro p hp
            simp [turnF, bindT, wipeR, isi]
          have c2 : ∀ a b c d, compF (.n 3) [3] tYesF (eOwn (sem (j + 2 * m + 4) "is_word") (aCons (eIx (eVar 3) (eC (.int 0))) aNil)) [a, b, c, d] (ps.map encp) S = .ok (ps.map fun _ => .bl true) S := fun a b c d => by
            rw [cmp_overM (g := fun _ => .bl true)]
            intro p hp
            simp [turnF, bindT, wipeR, isi, word_ok (j + 2 * m + 3) p.1 (h3 p hp)]
          have c3 : ∀ a b c d, compF (.n 3) [3] tYesF (eIx (eVar 3) (eC (.int 0))) [a, b, c, d] (ps.map encp) S = .ok ((ps.map (·.1)).map .str) S := fun a b c d => by
            rw [cmp_overM (g := fun p => .str p.1)]
            · simp
            · intro p hp
              simp [turnF, bindT, wipeR, isi]
          have c4 : ∀ a c e, compF (.n 3) [3] tYesF (eOwn (sem (j + 2 * m + 4) "is_shape") (aCons (eIx (eVar 3) (eC (.int 1))) (aCons (eOp subD (eVar 1) (eC (.int 1))) aNil))) [a, some (.d (.int ((d : Int) + 1))), c, e] (ps.map encp) S = .ok ((ps.map fun p => decide (lv p.2 ≤ d)).map .bl) S := fun a c e => by
            rw [cmp_overM (g := fun p => .bl (decide (lv p.2 ≤ d)))]
            · simp
            · intro p hp
              have := ih j p.2 d S (h4 p hp)
              simp [turnF, bindT, wipeR, isi, es, this]
          have c5 := words_ok (j + 2 * m + 2) .lst (.inr rfl) (ps.map (·.1)) k (by simpa using h1) (by simpa using h2) (fun w hw => by
            obtain ⟨p, hp, rfl⟩ := List.mem_map.mp hw
            exact h3 p hp) h5 S
          rw [show j + 2 * m + 2 + 2 = j + 2 * m + 4 by omega] at c5
          have al : ((ps.map fun p => decide (lv p.2 ≤ d)).all id) = false := by
            cases e : ((ps.map fun p => decide (lv p.2 ≤ d)).all id) with
            | false => rfl
            | true =>
              exfalso; apply h6
              rw [lvs_le]
              intro p hp
              have := List.all_eq_true.mp e (decide (lv p.2 ≤ d)) (List.mem_map.mpr ⟨p, hp, rfl⟩)
              simpa using this
          generalize (ps.map fun p => decide (lv p.2 ≤ d)) = X at *
          have aT : ((ps.map fun _ => true).all id) = true := by simp
          have bT' : boolsOf (ps.map fun _ => D.bl true) = some (ps.map fun _ => true) := by
            have := boolsOf_mapF (fun _ : Str × Sh => true) ps
            simpa using this
          simp [c1, c2, c3, c4, c5, al, -List.map_map, bT']
        cases h with
        | num h1 h2 h3 => simp [lv] at hle
        | tru => simp [lv] at hle
        | wrd h1 h2 h3 h4 => simp [lv] at hle
        | txt h1 => simp [lv] at hle
        | @lis _ k s h1 h2 =>
          have : ¬ lv s ≤ d := by simp only [lv] at hle; omega
          have i1 := ih1 s h1
          rw [decide_eq_false this] at i1
          simp [enc, isi, hd0, es, i1]
        | @may _ s h1 h2 =>
          have : ¬ lv s ≤ d := by simp only [lv] at hle; omega
          have i1 := ih1 s h1
          rw [decide_eq_false this] at i1
          simp [enc, isi, hd0, es, i1]
        | @rcd _ ps h1 h2 h3 h4 =>
          have : ¬ lvs ps ≤ d := by simp only [lv] at hle; omega
          have := parts ps 0 (Nat.zero_le _) h1 h2 h3 h4 this
          simp at this
          simp [enc, isi, hd0, this, intG]
        | @knd _ ps h1 h2 h3 h4 h5 =>
          have : ¬ lvs ps ≤ d := by simp only [lv] at hle; omega
          have := parts ps 1 h1 h2 h3 h4 h5 this
          simp at this
          simp [enc, isi, hd0, this, intG]
theorem shape_sem (s : Sh) (m : Nat) (h : Gd m s) (deep : Nat) (j : Nat) (hj : 2 * m + 4 ≤ j) (S : Sx) : sem j "is_shape" [.d (enc s), .d (.int (deep : Nat))] S = .ok (.bl (decide (lv s ≤ deep))) S := by
  have := shape_lv m (j - (2 * m + 4)) s deep S h
  rwa [show j - (2 * m + 4) + 2 * m + 4 = j by omega] at this
end Law
namespace Law
open PySem PySem.Spec L2 G
theorem lthing_sem (s : Sh) (t : D) (h : Gd 4 s) (j : Nat) (hj : 14 ≤ j) (S : Sx) : sem j "look_thing" [.d (enc s), .d t] S = if oneP 4 s t = true then .ok .non S else .exc "BadThing" S := by
  obtain ⟨j, rfl⟩ : ∃ i, j = i + 1 := ⟨j - 1, by omega⟩
  rw [u_look_thing]
  unfold m_look_thing
  have l1 := look_sem s h j (by omega) S
  have o1 := one_sem 4 s t h j (by omega) S
  by_cases c : oneP 4 s t = true
  · simp [l1, o1, c]
  · simp [l1, o1, c]
end Law
namespace Law
open PySem PySem.Spec L2 G
/-! ### copied -/
theorem copied_sem : ∀ (n : Nat) (s : Sh) (t : D) (j : Nat) (S : Sx), Gd n s → oneP n s t = true → n + 1 ≤ j → sem j "copied" [.d t] S = .ok t S := by
  intro n
  induction n using Nat.strongRecOn with
  | ind n ih =>
    intro s t j S h o hj
    obtain ⟨j, rfl⟩ : ∃ i, j = i + 1 := ⟨j - 1, by omega⟩
    rw [u_copied]
    unfold m_copied
    rcases one_kind h o with (rfl | ⟨b, rfl⟩ | ⟨i, rfl⟩ | ⟨z, rfl⟩) | ⟨xs, rfl, e2, e3⟩ | ⟨l, rfl, e2, e3, e4, e5⟩ | ⟨z, u, rfl, e2, n', s', e3, e4, e5⟩
    · simp [isi]
    · simp [isi]
    · simp [isi]
    · simp [isi]
    · have hc := cmp_map (t := .n 1) (W := [1]) (ft := tYesF) (fe := eOwn (sem j "copied") (aCons (eVar 1) aNil)) (ρ := [some (.d (.lst xs)), none, none]) (S := S) (g := id) (ds := xs) fun x hx => by
        obtain ⟨n', s', a, b, c⟩ := e3 x hx
        have := ih n' a s' x j S b c (by omega)
        simp [turnF, bindT, wipeR, this]
      simp [isi, hc]
    · have ek : (kd l).map (fun kv => keyVal kv.1) = l.map fun q => .str q.1 := by simp [kd, keyVal]
      have hc : compF (.n 2) [2] tYesF (eTup (aCons (eVar 2) (aCons (eOwn (sem j "copied") (aCons (eIx (eVar 0) (eVar 2)) aNil)) aNil))) [some (.d (.dct (kd l))), none, none] (l.map fun q => .str q.1) S = .ok (l.map fun q => .tup [.str q.1, q.2]) S := by
        rw [cmp_overM (g := fun q => .tup [.str q.1, q.2])]
        intro q hq
        obtain ⟨n', s', a, b, c⟩ := e5 q hq
        have := ih n' a s' q.2 j S b c (by omega)
        have l1 := look_in e2 hq
        simp [turnF, bindT, wipeR, look_kd, l1, this, dats]
      have hp := pairsK l
      have hm := mergeN (l := kd l) (acc := []) (by
        have : (kd l).map (·.1) = (l.map (·.1)).map Sum.inr := by simp [kd]
        rw [List.nil_append, this]; exact nd_inr e2)
      rw [List.nil_append] at hm
      simp [isi, ek, hc, hp, hm]
    · have := ih n' e3 s' u j S e4 e5 (by omega)
      simp [isi, this, dats]
end Law
namespace Law
open PySem PySem.Spec L2 G
theorem cutTk (xs : List D) (r : Nat) : cutD xs none (some (r : Nat)) = xs.take r := by
  unfold cutD
  have e1 : HT.sIx xs.length 0 none = 0 := rfl
  have e2 : HT.sIx xs.length xs.length (some (r : Int)) = min r xs.length := HT.sIx_nat _ _ r
  rw [e1, e2]
  simp
theorem cutDr (xs : List D) (r : Nat) : cutD xs (some (r : Nat)) none = xs.drop r := by
  unfold cutD
  have e1 : HT.sIx xs.length 0 (some (r : Int)) = min r xs.length := HT.sIx_nat _ _ r
  have e2 : HT.sIx xs.length xs.length none = xs.length := rfl
  rw [e1, e2]
  by_cases h : r ≤ xs.length
  · rw [Nat.min_eq_left h]
    exact List.take_of_length_le (by simp)
  · have h' : xs.length ≤ r := by omega
    rw [Nat.min_eq_right h', List.drop_eq_nil_of_le h']
    simp
@[simp] theorem eqD_tnil0 : eqD (.tup []) (.tup []) = some true := by unfold eqD; simp [eqvD, eqvL, strK, strKL, depthD, depthL]
theorem eqD_tcons {x : D} {xs : List D} (h : (x :: xs).all isKey = true) : eqD (.tup (x :: xs)) (.tup []) = some false := by
  have hk : strKL (x :: xs) = true := strKL_all fun y hy => by
    have := List.all_eq_true.mp h y hy
    cases y <;> simp [isKey] at this <;> simp [strK]
  unfold eqD
  rw [if_pos ⟨by simpa [strK] using hk, by simp [strK, strKL], by simp [depthD, depthL]⟩]
  simp [eqvD, eqvL]
end Law
namespace Law
open PySem PySem.Spec L2 G
theorem filt_look (z : Str) : ∀ ps : List (Str × Sh), ∃ r, (ps.filterMap fun p => if p.1 = z then some (enc p.2) else none) = (lookS ps z).elim [] (fun s => enc s :: r)
  | [] => ⟨[], rfl⟩
  | p :: ps => by
    obtain ⟨r, h⟩ := filt_look z ps
    rw [lookS_cons]
    by_cases e : p.1 = z
    · exact ⟨_, by rw [List.filterMap_cons]; simp only [e, if_true, Option.elim]; rfl⟩
    · refine ⟨r, ?_⟩
      rw [List.filterMap_cons]; simp only [e, if_false]; exact h
theorem part_ok (z0 z : Str) (ps : List (Str × Sh)) (j : Nat) (hj : 1 ≤ j) (S : Sx) : sem j "part_of" [.d (.tup [.str z0, .tup (encs ps)]), .d (.str z)] S = .ok ((lookS ps z).elim .non enc) S := by
  obtain ⟨j, rfl⟩ : ∃ i, j = i + 1 := ⟨j - 1, by omega⟩
  rw [u_part_of]
  unfold m_part_of
  rw [encs_map]
  obtain ⟨r, h⟩ := filt_look z ps
  simp
  rw [cmp_over (g := fun p => if p.1 = z then some (enc p.2) else none), h]
  · cases lookS ps z <;> simp [truA]
  · intro p hp
    by_cases e : p.1 = z <;> simp [turnF, bindT, wipeR, setAll, e]
theorem enc_notN (s : Sh) : isN (.d (enc s)) = false := by cases s <;> rfl
end Law
namespace Law
open PySem PySem.Spec L2 G
theorem of_ok (j : Nat) (s : Sh) (t : D) (S : Sx) (h : Gd 4 s) : sem (j + 14) "is_of" [.d (enc s), .d t] S = .ok (.bl (oneP 4 s t)) S := by
  rw [u_is_of]
  unfold m_is_of
  have e1 := look_ok j s h S
  have e2 := one_ok 4 (j + 3) s t S h
  rw [show j + 3 + 2 * 4 + 2 = j + 13 by omega] at e2
  simp [e1, e2]
theorem of_sem (s : Sh) (t : D) (h : Gd 4 s) (j : Nat) (hj : 14 ≤ j) (S : Sx) : sem j "is_of" [.d (enc s), .d t] S = .ok (.bl (oneP 4 s t)) S := by
  have := of_ok (j - 14) s t S h
  rwa [show j - 14 + 14 = j by omega] at this
end Law
namespace Law
open PySem PySem.Spec L2 G
/-! ### _law_same -/
theorem eq_strs {a b : List Str} : eqD (.lst (a.map .str)) (.lst (b.map .str)) = some (decide (a = b)) := by
  have e : ∀ a b : List Str, eqvL (a.map .str) (b.map .str) = decide (a = b) := by
    intro a
    induction a with
    | nil => intro b; cases b <;> simp [eqvL]
    | cons x r ih => intro b; cases b with
      | nil => simp [eqvL]
      | cons y q => simp [eqvL, eqvD, ih]; rw [Bool.eq_iff_iff]; simp
  have t : ∀ a : List Str, strKL (a.map .str) = true ∧ depthL (a.map .str) = 0 := by
    intro a
    induction a with
    | nil => simp [strKL, depthL]
    | cons x r ih => simp [strKL, depthL, strK, depthD, ih]
  unfold eqD
  rw [if_pos (by simp [strK, depthD, t])]
  simp [eqvD, e]
theorem all_range {f : Nat → Bool} {xs ys : List D} {g : D → D → Bool} (hl : xs.length = ys.length) (h : ∀ k (h1 : k < xs.length) (h2 : k < ys.length), f k = g xs[k] ys[k]) : (List.range xs.length).all f = all2 g xs ys := by
  induction xs generalizing ys f with
  | nil => cases ys <;> simp [all2]
  | cons x r ih =>
    cases ys with
    | nil => simp at hl
    | cons y q =>
      rw [List.length_cons, List.range_succ_eq_map, List.all_cons, List.all_map, all2]
      have h0 := h 0 (by simp) (by simp)
      simp at h0
      rw [h0, ih (f := f ∘ Nat.succ) (by simpa using hl) fun k h1 h2 => by
        have := h (k + 1) (by simpa using h1) (by simpa using h2)
        simpa using this]
theorem same_leaf (j : Nat) (t u : D) (S : Sx) (q : eqD t u = some (eqvD t u)) (h1 : (isi .dict t && isi .dict u) = false) (h2 : (isi .list t && isi .list u) = false) (h3 : (isi .tuple t && isi .tuple u) = false) : sem (j + 1) "_law_same" [.d t, .d u] S = .ok (.bl (leafQ t u)) S := by
  rw [u_law_same]
  unfold m_law_same
  have e : ∀ (T : PyT) (a b : Option A), tAndF (tst (eIsi T (eVar 0))) (tst (eIsi T (eVar 1))) [some (.d t), some (.d u), a, b] S = .ok (isi T t && isi T u) S := by
    intro T a b
    cases e1 : isi T t <;> simp [e1]
  simp only [ev_run, List.length_cons, List.length_nil, if_true, List.map_cons, List.map_nil, List.replicate_succ, List.replicate_zero, List.cons_append, List.nil_append, ev_seq, ev_sif, ev_tor, e, h1, h2, h3, onT_ok, bind_ok, Bool.false_eq_true, if_false, ev_snil, then_nx]
  unfold leafQ
  cases e2 : eqvD t u <;> simp [q, e2]
theorem range_cmp {t : Nat} {fe : Fe} {ρ : Rho} {S : Sx} {n : Nat} {f : Nat → Bool} (h : ∀ k, k < n → turnF (.n t) [t] tYesF fe (.int (k : Nat)) ρ S = .ok (some (.bl (f k))) S) : compF (.n t) [t] tYesF fe ρ ((List.range n).map fun i => .int (i : Nat)) S = .ok (((List.range n).map f).map .bl) S := by
  rw [cmp_overM (g := fun k => .bl (f k))]
  · simp
  · intro k hk
    exact h k (by simpa using hk)
theorem same_sem : ∀ (n : Nat) (t u : D) (j : Nat) (S : Sx), Tm n t → Tm n u → n ≤ 100 → n + 1 ≤ j → sem j "_law_same" [.d t, .d u] S = .ok (.bl (sameD n t u)) S := by
  intro n
  induction n with
  | zero =>
    intro t u j S ht hu hn hj
    obtain ⟨j, rfl⟩ : ∃ i, j = i + 1 := ⟨j - 1, by omega⟩
    have q := eqD_tm ht hu (.inl hn)
    cases ht <;> cases hu <;> exact same_leaf j _ _ S q rfl rfl rfl
  | succ n ih =>
    intro t u j S ht hu hn hj
    obtain ⟨j, rfl⟩ : ∃ i, j = i + 1 := ⟨j - 1, by omega⟩
    have q := eqD_tm ht hu (.inl hn)
    cases ht with
    | @lst _ xs hx1 hx2 =>
      cases hu with
      | @lst _ ys hy1 hy2 =>
        rw [u_law_same]
        unfold m_law_same
        have r1 := rng1C_nat (S := S) (j := (xs.length : Int)) (k := xs.length) rfl hx1
        by_cases c : xs.length = ys.length
        · have c' : (ys.length : Int) = (xs.length : Int) := by omega
          have hc : ∀ a b : Option A, compF (.n 3) [3] tYesF (eOwn (sem j "_law_same") (aCons (eIx (eVar 0) (eVar 3)) (aCons (eIx (eVar 1) (eVar 3)) aNil))) [some (.d (.lst xs)), some (.d (.lst ys)), a, b] ((List.range xs.length).map fun i => .int (i : Nat)) S = .ok (((List.range xs.length).map fun k => sameD n (xs.getD k .non) (ys.getD k .non)).map .bl) S := fun a b => by
            refine range_cmp fun k hk => ?_
            have hk2 : k < ys.length := by omega
            have := ih xs[k] ys[k] j S (hx2 _ (List.getElem_mem hk)) (hy2 _ (List.getElem_mem hk2)) (by omega) (by omega)
            simp [turnF, bindT, wipeR, G.atI_nat hk, G.atI_nat hk2, this, hk, hk2]
          have := all_range (f := fun k => sameD n (xs.getD k .non) (ys.getD k .non)) (g := sameD n) c (fun k h1 h2 => by simp [h1, h2])
          simp [isi, c', hc, r1, sameD, c.symm, ← this]
        · have c' : ¬ (xs.length : Int) = (ys.length : Int) := by omega
          simp [isi, c', sameD, c]
      | _ => exact same_leaf j _ _ S q rfl rfl rfl
    | @tup _ xs hx1 hx2 =>
      cases hu with
      | @tup _ ys hy1 hy2 =>
        rw [u_law_same]
        unfold m_law_same
        have r1 := rng1C_nat (S := S) (j := (xs.length : Int)) (k := xs.length) rfl hx1
        by_cases c : xs.length = ys.length
        · have c' : (ys.length : Int) = (xs.length : Int) := by omega
          have hc : ∀ a b : Option A, compF (.n 3) [3] tYesF (eOwn (sem j "_law_same") (aCons (eIx (eVar 0) (eVar 3)) (aCons (eIx (eVar 1) (eVar 3)) aNil))) [some (.d (.tup xs)), some (.d (.tup ys)), a, b] ((List.range xs.length).map fun i => .int (i : Nat)) S = .ok (((List.range xs.length).map fun k => sameD n (xs.getD k .non) (ys.getD k .non)).map .bl) S := fun a b => by
            refine range_cmp fun k hk => ?_
            have hk2 : k < ys.length := by omega
            have := ih xs[k] ys[k] j S (hx2 _ (List.getElem_mem hk)) (hy2 _ (List.getElem_mem hk2)) (by omega) (by omega)
            simp [turnF, bindT, wipeR, G.atI_nat hk, G.atI_nat hk2, this, hk, hk2]
          have := all_range (f := fun k => sameD n (xs.getD k .non) (ys.getD k .non)) (g := sameD n) c (fun k h1 h2 => by simp [h1, h2])
          simp [isi, c', hc, r1, sameD, c.symm, ← this]
        · have c' : ¬ (xs.length : Int) = (ys.length : Int) := by omega
          simp [isi, c', sameD, c]
      | _ => exact same_leaf j _ _ S q rfl rfl rfl
    | @dct _ a ha1 ha2 ha3 =>
      cases hu with
      | @dct _ b hb1 hb2 hb3 =>
        rw [u_law_same]
        unfold m_law_same
        have s1 : sortKeysD (.dct (kd a)) = some (.lst ((sortK (a.map (·.1))).map .str)) := by simp [sortKeysD, ha1]
        have s2 : sortKeysD (.dct (kd b)) = some (.lst ((sortK (b.map (·.1))).map .str)) := by simp [sortKeysD, hb1]
        by_cases c : (a.map (·.1)).Perm (b.map (·.1))
        · have c1 : sortK (a.map (·.1)) = sortK (b.map (·.1)) := sortK_iff.mpr c
          have kq := (keysQ_iff ha3 hb3).mpr c
          have ek : (kd a).map (fun kv => keyVal kv.1) = a.map fun q => .str q.1 := by simp [kd, keyVal]
          have hc : ∀ x y : Option A, compF (.n 2) [2] (tNotF (tst (eOwn (sem j "_law_same") (aCons (eIx (eVar 0) (eVar 2)) (aCons (eIx (eVar 1) (eVar 2)) aNil))))) (eVar 2) [some (.d (.dct (kd a))), some (.d (.dct (kd b))), x, y] (a.map fun q => .str q.1) S = .ok ((a.filter fun q => !((look b q.1).elim false (sameD n q.2))).map fun q => .str q.1) S := fun x y => by
            have hp := cmp_pure (t := .n 2) (W := [2]) (ft := tNotF (tst (eOwn (sem j "_law_same") (aCons (eIx (eVar 0) (eVar 2)) (aCons (eIx (eVar 1) (eVar 2)) aNil))))) (fe := eVar 2) (ρ := [some (.d (.dct (kd a))), some (.d (.dct (kd b))), x, y]) (S := S)
              (g := fun d => match d with
                | .str z => if (look a z).elim false (fun v => (look b z).elim false (sameD n v)) = true then none else some (D.str z)
                | _ => none) (ds := a.map fun q => .str q.1) ?_
            · rw [hp]
              congr 1
              rw [List.filterMap_map]
              have : ∀ l : List (Str × D), (∀ q ∈ l, q ∈ a) → l.filterMap ((fun d => match d with
                | D.str z => if (look a z).elim false (fun v => (look b z).elim false (sameD n v)) = true then none else some (D.str z)
                | _ => none) ∘ fun q => D.str q.1) = (l.filter fun q => !((look b q.1).elim false (sameD n q.2))).map fun q => D.str q.1 := by
                intro l hl
                induction l with
                | nil => rfl
                | cons q r ihr =>
                  have hq := look_in ha3 (hl q List.mem_cons_self)
                  have ir := ihr fun x hx => hl x (List.mem_cons_of_mem _ hx)
                  cases e : (look b q.1).elim false (sameD n q.2) <;> simp [List.filterMap_cons, hq, e, ir]
              exact this a fun _ h => h
            · intro d hd
              obtain ⟨q, hq, rfl⟩ := List.mem_map.mp hd
              have l1 := look_in ha3 hq
              obtain ⟨v, l2⟩ := look_some.mpr (c.mem_iff.mp (List.mem_map.mpr ⟨q, hq, rfl⟩))
              have := ih q.2 v j S (ha2 q hq) (hb2 _ (look_of l2)) (by omega) (by omega)
              cases e : sameD n q.2 v <;> simp [turnF, bindT, wipeR, l1, l2, this, e]
          simp [isi, s1, s2, eq_strs, c1, keysD, ek, itemsOf, hc, sameD, kq]
          rw [Bool.eq_iff_iff]
          rw [show kd a = a.map (fun q => (Sum.inr q.1, q.2)) from rfl, List.all_map]
          simp only [Function.comp_def, look_kd, beq_iff_eq, List.all_eq_true]
          constructor
          · intro h q hq
            have h0 : (a.filter fun q => !(look b q.1).elim false (sameD n q.2)) = [] := List.eq_nil_of_length_eq_zero (by omega)
            have := List.filter_eq_nil_iff.mp h0 q hq
            simpa using this
          · intro h
            have h0 : (a.filter fun q => !(look b q.1).elim false (sameD n q.2)) = [] := List.filter_eq_nil_iff.mpr fun q hq => by simp [h q hq]
            rw [h0]; rfl
        · have c1 : ¬ sortK (a.map (·.1)) = sortK (b.map (·.1)) := fun e => c (sortK_iff.mp e)
          have kq : keysQ (kd a) (kd b) = false := by
            cases e : keysQ (kd a) (kd b) with
            | false => rfl
            | true => exact absurd ((keysQ_iff ha3 hb3).mp e) c
          simp [isi, s1, s2, eq_strs, c1, sameD, kq]
      | _ => exact same_leaf j _ _ S q rfl rfl rfl
    | _ =>
      cases hu <;> exact same_leaf j _ _ S q rfl rfl rfl
end Law
namespace Law
open PySem L2 G
@[simp] theorem ev_stown {i : Nat} {ρ : Rho} {S : Sx} : sTown i ρ S = (match ρ[i]? with
  | some (some (.hot k)) => (match S[k]? with
    | some (.zs n) => if n < sizeLine then .nx ρ (S.set k (.zs (n + 1))) else .stuck
    | _ => .stuck)
  | _ => .stuck) := rfl
@[simp] theorem lenG_scr {S : Sx} {ns : List Int} : lenG S [.scr ns] = some (.int (ns.length : Nat)) := rfl
@[simp] theorem lenG_hot {n : Nat} : lenG [.zs n] [.hot 0] = some (.int (n : Nat)) := by simp [lenG]
@[simp] theorem ixA_scr {ns : List Int} {i : Int} {S : Sx} : ixA (.scr ns) (.d (.int i)) S = ofO ((atI ns i).map .int) S := rfl
theorem cell_ok (j : Nat) (ns : List Int) (k : Int) (S : Sx) : ∃ c, sem (j + 1) "_law_cell" [.scr ns, .d (.int k)] S = .ok (.int c) S := by
  rw [u_law_cell]
  unfold m_law_cell
  cases ns with
  | nil => exact ⟨0, by simp [truA]⟩
  | cons a r =>
    have h0 : (0 : Int) < ((a :: r).length : Nat) := by rw [List.length_cons]; omega
    obtain ⟨x, _, hx⟩ := atI_int' (xs := a :: r) (i := k % ((a :: r).length : Nat)) (Int.emod_nonneg _ (by omega)) (Int.emod_lt_of_pos _ h0)
    refine ⟨x, ?_⟩
    have h0' : (0 : Int) < (r.length : Int) + 1 := by omega
    have hx' : atI (a :: r) (k % ((r.length : Int) + 1)) = some x := by simpa using hx
    simp [truA, modD_int h0', hx']
theorem mix_ok (j : Nat) (ns : List Int) (k : Nat) (hk : k ≤ 2 ^ 30) (S : Sx) : ∃ r, sem (j + 2) "_law_mix" [.scr ns, .d (.int (k : Nat))] S = .ok (.int r) S := by
  rw [u_law_mix]
  unfold m_law_mix
  obtain ⟨c, hc⟩ := cell_ok j ns k S
  have m1 : mulD (.int 104729) (.int ((k : Int) + 1)) = some (.int (104729 * ((k : Int) + 1))) := mulD_int (by decide) (by omega)
  have b1 : ∀ x : Int, 0 ≤ x % 4294967291 ∧ x % 4294967291 < 4294967291 := fun x => ⟨Int.emod_nonneg _ (by decide), Int.emod_lt_of_pos _ (by decide)⟩
  have b2 : ∀ x : Int, 0 ≤ x % 4294967279 ∧ x % 4294967279 < 4294967279 := fun x => ⟨Int.emod_nonneg _ (by decide), Int.emod_lt_of_pos _ (by decide)⟩
  have p1 : ∀ x : Int, 0 ≤ x → x < 4294967291 → powD (.int x) (.int 5) = some (.int (x ^ 5)) := fun x h0 h1 => powD_int (j := 5) (by omega) (by decide)
  have d1 : ∀ x : Int, fdivD (.int x) (.int 64) = some (.int (x / 64)) := fun x => fdivD_int (by decide) (by decide)
  have m2 : ∀ x : Int, 0 ≤ x → x < 4294967279 → mulD (.int (x / 64)) (.int 69621) = some (.int (x / 64 * 69621)) := fun x h0 h1 => mulD_int (by omega) (by decide)
  simp [hc, m1, modD_int, p1 _ (b1 _).1 (b1 _).2, d1, m2 _ (b2 _).1 (b2 _).2]
/-- a result, the town grown by at most b -/
def Rn (r : Res D) (n b : Nat) (P : D → Prop) : Prop := ∃ d n', r = .ok d [.zs n'] ∧ n ≤ n' ∧ n' ≤ n + b ∧ P d
theorem draw_ok (j : Nat) (ns : List Int) (m : Int) (n : Nat) (hm : 0 < m) (hn : n < 16777216) : ∃ r : Nat, (r : Int) < m ∧ sem (j + 3) "_law_draw" [.scr ns, .hot 0, .d (.int m)] [.zs n] = .ok (.int (r : Nat)) [.zs (n + 1)] := by
  obtain ⟨r, hr⟩ := mix_ok j ns (n + 1) (by omega) [.zs (n + 1)]
  have h0 := Int.emod_nonneg (r / 8) (show m ≠ 0 by omega)
  have h1 := Int.emod_lt_of_pos (r / 8) hm
  refine ⟨(r / 8 % m).toNat, by omega, ?_⟩
  rw [u_law_draw]
  unfold m_law_draw
  have d1 : fdivD (.int r) (.int 8) = some (.int (r / 8)) := fdivD_int (by decide) (by decide)
  simp at hr
  simp [hn, hr, d1, modD_int hm]
  omega
theorem pick_lst (j : Nat) (ns : List Int) (xs : List D) (n : Nat) (hx : xs ≠ []) (hn : n < 16777216) : ∃ d ∈ xs, sem (j + 4) "_law_pick" [.scr ns, .hot 0, .d (.lst xs)] [.zs n] = .ok d [.zs (n + 1)] := by
  have hl : 0 < xs.length := List.length_pos_iff.mpr hx
  obtain ⟨r, h1, h2⟩ := draw_ok j ns (xs.length : Nat) n (by omega) hn
  have hr : r < xs.length := by omega
  refine ⟨xs[r], List.getElem_mem hr, ?_⟩
  rw [u_law_pick]
  unfold m_law_pick
  simp [h2, G.atI_nat hr]
theorem pick_tup (j : Nat) (ns : List Int) (xs : List D) (n : Nat) (hx : xs ≠ []) (hn : n < 16777216) : ∃ d ∈ xs, sem (j + 4) "_law_pick" [.scr ns, .hot 0, .d (.tup xs)] [.zs n] = .ok d [.zs (n + 1)] := by
  have hl : 0 < xs.length := List.length_pos_iff.mpr hx
  obtain ⟨r, h1, h2⟩ := draw_ok j ns (xs.length : Nat) n (by omega) hn
  have hr : r < xs.length := by omega
  refine ⟨xs[r], List.getElem_mem hr, ?_⟩
  rw [u_law_pick]
  unfold m_law_pick
  simp [h2, G.atI_nat hr]
theorem sign_at {z : Str} {r : Nat} (h : r < z.cps.size) : ixD (.str z) (.int (r : Nat)) = some (.str ⟨#[z.cps[r]]⟩) := by
  show (atI z.cps.toList (r : Nat)).map _ = _
  rw [G.atI_nat (by simpa using h)]
  simp
theorem pick_str (j : Nat) (ns : List Int) (z : Str) (n : Nat) (hx : 0 < z.cps.size) (hn : n < 16777216) : ∃ c ∈ z.cps.toList, sem (j + 4) "_law_pick" [.scr ns, .hot 0, .d (.str z)] [.zs n] = .ok (.str ⟨#[c]⟩) [.zs (n + 1)] := by
  obtain ⟨r, h1, h2⟩ := draw_ok j ns (z.cps.size : Nat) n (by omega) hn
  have hr : r < z.cps.size := by omega
  refine ⟨z.cps[r], by simp, ?_⟩
  rw [u_law_pick]
  unfold m_law_pick
  have hl : z.length = z.cps.size := rfl
  simp [hl, h2, sign_at hr]
/-- a comprehension whose turns each draw -/
theorem comp_rn {t : Tgt} {W : List Nat} {ft : Ft} {fe : Fe} {ρ : Rho} {b : Nat} {P : D → D → Prop} : ∀ {ds : List D} {n : Nat}, (∀ d ∈ ds, ∀ n', n ≤ n' → n' ≤ n + ds.length * b → ∃ y n2, turnF t W ft fe d ρ [.zs n'] = .ok (some y) [.zs n2] ∧ n' ≤ n2 ∧ n2 ≤ n' + b ∧ P d y) →
    ∃ ys n', compF t W ft fe ρ ds [.zs n] = .ok ys [.zs n'] ∧ n ≤ n' ∧ n' ≤ n + ds.length * b ∧ Paired P ds ys
  | [], n, _ => ⟨[], n, rfl, Nat.le_refl _, by simp, .nil⟩
  | d :: ds, n, h => by
    have e : (d :: ds).length * b = ds.length * b + b := by rw [List.length_cons, Nat.succ_mul]
    obtain ⟨y, n2, h1, h2, h3, h4⟩ := h d List.mem_cons_self n (Nat.le_refl _) (by omega)
    obtain ⟨ys, n3, h5, h6, h7, h8⟩ := comp_rn (ds := ds) (n := n2) (fun x hx n' a1 a2 => h x (List.mem_cons_of_mem _ hx) n' (by omega) (by omega))
    refine ⟨y :: ys, n3, ?_, by omega, by omega, .cons h4 h8⟩
    rw [compF_cons, h1, bind_ok, h5, bind_ok]
    rfl
theorem paired_all {α β : Type} {P : α → β → Prop} {Q : β → Prop} (h : ∀ a b, P a b → Q b) : ∀ {xs : List α} {ys : List β}, Paired P xs ys → ∀ y ∈ ys, Q y
  | _, _, .nil, y, hy => by cases hy
  | _, _, .cons p r, y, hy => by
    rcases List.mem_cons.mp hy with rfl | hy
    · exact h _ _ p
    · exact paired_all h r y hy
theorem strsOf_signs : ∀ {ys : List D} (Q : Nat → Prop), (∀ y ∈ ys, ∃ c, y = .str ⟨#[c]⟩ ∧ Q c) → ∃ cs : List Nat, ys = cs.map (fun c => .str ⟨#[c]⟩) ∧ ∀ c ∈ cs, Q c
  | [], Q, _ => ⟨[], rfl, by simp⟩
  | y :: ys, Q, h => by
    obtain ⟨c, rfl, hc⟩ := h y List.mem_cons_self
    obtain ⟨cs, rfl, hcs⟩ := strsOf_signs Q fun z hz => h z (List.mem_cons_of_mem _ hz)
    refine ⟨c :: cs, rfl, fun x hx => ?_⟩
    rcases List.mem_cons.mp hx with rfl | hx
    · exact hc
    · exact hcs x hx
theorem join_signs (cs : List Nat) : Txt.join ("" : Str) (cs.map fun c => (⟨#[c]⟩ : Str)) = ⟨cs.toArray⟩ := by
  show Builtin.Str.glued ("" : Str) _ = _
  rw [StrLaws.glued_eq_join]
  induction cs with
  | nil => rfl
  | cons c r ih =>
    cases r with
    | nil => rfl
    | cons d r =>
      show (⟨#[c]⟩ : Str) ++ ("" : Str) ++ Str.join ("" : Str) (((d :: r).map fun c => (⟨#[c]⟩ : Str))) = _
      rw [ih]
      have e : ("" : Str) = ⟨#[]⟩ := by decide
      rw [e]
      show (⟨(#[c] ++ #[]) ++ (d :: r).toArray⟩ : Str) = _
      simp
theorem sum1 : ∀ cs : List Nat, ((cs.map fun c => (⟨#[c]⟩ : Str)).map (·.length)).sum = cs.length
  | [] => rfl
  | c :: r => by
    have := sum1 r
    simp only [List.map_cons, List.sum_cons, List.length_cons, this]
    show 1 + r.length = _
    omega
theorem joinD_signs (cs : List Nat) (h : cs.length ≤ 1000) : joinD (.str "") (.lst (cs.map fun c => .str ⟨#[c]⟩)) = some (.str ⟨cs.toArray⟩) := by
  have e : cs.map (fun c => D.str ⟨#[c]⟩) = (cs.map fun c => (⟨#[c]⟩ : Str)).map .str := by simp
  rw [e]
  have e2 := sum1 cs
  have e3 : ("" : Str).length = 0 := by decide
  simp only [joinD, strsOf_map, Option.bind_some, e2, e3, join_signs, List.length_map, Nat.mul_zero, Nat.add_zero]
  have e4 : (⟨cs.toArray⟩ : Str).length = cs.length := by show cs.toArray.size = _; simp
  rw [e4, sl_line, if_pos ⟨by omega, by omega⟩]
end Law
namespace Law
open PySem L2 G
/-! ### words -/
theorem okW_fix : ∀ w ∈ (["a", "b", "c", "ab", "name", "size"] : List Str), okW w := by
  intro w hw
  unfold okW
  simp only [List.mem_cons, List.not_mem_nil, or_false] at hw
  rcases hw with rfl | rfl | rfl | rfl | rfl | rfl <;> decide
theorem lword_ok (j : Nat) (ns : List Int) (n : Nat) (hn : n + 10 < 16777216) : Rn (sem (j + 5) "_law_word" [.scr ns, .hot 0] [.zs n]) n 10 (fun d => ∃ z, d = .str z ∧ okW z) := by
  rw [u_law_word]
  unfold m_law_word
  obtain ⟨r, h1, h2⟩ := draw_ok (j + 1) ns 6 n (by decide) (by omega)
  rw [show j + 1 + 3 = j + 4 by omega] at h2
  by_cases e : 0 < r
  · obtain ⟨d, hd, h3⟩ := pick_lst j ns [.str "a", .str "b", .str "c", .str "ab", .str "name", .str "size"] (n + 1) (by simp) (by omega)
    obtain ⟨w, hw, rfl⟩ : ∃ w ∈ (["a", "b", "c", "ab", "name", "size"] : List Str), d = .str w := by
      simp only [List.mem_cons, List.not_mem_nil, or_false] at hd
      rcases hd with rfl | rfl | rfl | rfl | rfl | rfl
      · exact ⟨_, by simp, rfl⟩
      · exact ⟨_, by simp, rfl⟩
      · exact ⟨_, by simp, rfl⟩
      · exact ⟨_, by simp, rfl⟩
      · exact ⟨_, by simp, rfl⟩
      · exact ⟨_, by simp, rfl⟩
    refine ⟨.str w, n + 1 + 1, ?_, by omega, by omega, w, rfl, okW_fix w hw⟩
    simp [h2, e, h3]
  · obtain ⟨q, h3, h4⟩ := draw_ok (j + 1) ns 8 (n + 1) (by decide) (by omega)
    rw [show j + 1 + 3 = j + 4 by omega] at h4
    obtain ⟨ys, n', c1, c2, c3, c4⟩ := comp_rn (t := .n 3) (W := [3]) (ft := tYesF) (fe := eIx (eVar 2) (eOwn (sem (j + 4) "_law_draw") (aCons (eVar 0) (aCons (eVar 1) (aCons (eC (.int 26)) aNil)))))
      (ρ := [some (.scr ns), some (.hot 0), some (.d (.str "abcdefghijklmnopqrstuvwxyz")), none]) (b := 1) (P := fun _ y => ∃ c, y = .str ⟨#[c]⟩ ∧ c ∈ ("abcdefghijklmnopqrstuvwxyz" : Str).cps.toList) (ds := (List.range (q + 1)).map fun i => .int (i : Nat)) (n := n + 2) (fun d hd n' a1 a2 => by
        obtain ⟨i, _, rfl⟩ := List.mem_map.mp hd
        simp at a2
        obtain ⟨r2, b1, b2⟩ := draw_ok (j + 1) ns 26 n' (by decide) (by omega)
        rw [show j + 1 + 3 = j + 4 by omega] at b2
        have hz : ("abcdefghijklmnopqrstuvwxyz" : Str).cps.size = 26 := by decide
        have hr : r2 < ("abcdefghijklmnopqrstuvwxyz" : Str).cps.size := by omega
        refine ⟨.str ⟨#[("abcdefghijklmnopqrstuvwxyz" : Str).cps[r2]]⟩, n' + 1, ?_, by omega, by omega, _, rfl, by simp⟩
        simp [turnF, bindT, wipeR, b2, sign_at hr])
    obtain ⟨cs, rfl, hcs⟩ := strsOf_signs (fun c => c ∈ ("abcdefghijklmnopqrstuvwxyz" : Str).cps.toList) (paired_all (Q := fun (y : D) => ∃ c, y = .str ⟨#[c]⟩ ∧ c ∈ ("abcdefghijklmnopqrstuvwxyz" : Str).cps.toList) (fun _ _ h => h) c4)
    have hlen := Paired.length c4
    simp at hlen c3
    have hq : q + 1 ≤ 8 := by omega
    refine ⟨.str ⟨cs.toArray⟩, n', ?_, by omega, by omega, _, rfl, ?_⟩
    · have e1 : (1 : Int) + (q : Int) ≤ 16777216 := by omega
      have e2 : ((1 : Int) + (q : Int)).toNat = q + 1 := by omega
      have e3 : -1073741824 ≤ (1 : Int) + (q : Int) := by omega
      have e4 := joinD_signs cs (by omega)
      simp [h2, e, h4, e1, e2, e3, c1, e4]
    · refine ⟨?_, ?_, ?_⟩
      · show 1 ≤ cs.toArray.size; simp; omega
      · show cs.toArray.size ≤ 8; simp; omega
      · intro c hc; exact hcs c (by simpa using hc)
end Law
namespace Law
open PySem L2 G
/-- a loop whose turns each draw; Inv tells of the items gone through -/
theorem for_rn {t : Tgt} {f : Fs} {b T : Nat} {Inv : List D → Rho → Prop} : ∀ {ds dn : List D} {ρ : Rho} {n : Nat}, dn.length + ds.length = T → Inv dn ρ →
    (∀ d ∈ ds, ∀ dn ρ n', dn.length < T → n ≤ n' → n' ≤ n + ds.length * b → Inv dn ρ → ∃ ρ1 ρ2 n2, bindT t d ρ = some ρ1 ∧ f ρ1 [.zs n'] = .nx ρ2 [.zs n2] ∧ n' ≤ n2 ∧ n2 ≤ n' + b ∧ Inv (dn ++ [d]) ρ2) →
    ∃ ρ' n', forF t f ds ρ [.zs n] = .nx ρ' [.zs n'] ∧ n ≤ n' ∧ n' ≤ n + ds.length * b ∧ Inv (dn ++ ds) ρ'
  | [], dn, ρ, n, _, h, _ => ⟨ρ, n, rfl, Nat.le_refl _, by simp, by simpa using h⟩
  | d :: ds, dn, ρ, n, hT, h, st => by
    have e : (d :: ds).length * b = ds.length * b + b := by rw [List.length_cons, Nat.succ_mul]
    rw [List.length_cons] at hT
    obtain ⟨ρ1, ρ2, n2, h1, h2, h3, h4, h5⟩ := st d List.mem_cons_self dn ρ n (by omega) (Nat.le_refl _) (by omega) h
    obtain ⟨ρ', n', g1, g2, g3, g4⟩ := for_rn (ds := ds) (dn := dn ++ [d]) (ρ := ρ2) (n := n2) (by simp; omega) h5 (fun x hx dn ρ n' a0 a1 a2 => st x (List.mem_cons_of_mem _ hx) dn ρ n' a0 (by omega) (by omega))
    refine ⟨ρ', n', ?_, by omega, by omega, by simpa using g4⟩
    simp only [forF, h1, h2, g1]
def putS (l : List (Str × D)) (z : Str) (u : D) : List (Str × D) := if (l.any fun q => decide (q.1 = z)) = true then l.map (fun q => if q.1 = z then (q.1, u) else q) else l ++ [(z, u)]
theorem putD_kd (l : List (Str × D)) (z : Str) (u : D) : putD (kd l) (.inr z) u = kd (putS l z u) := by
  unfold putD putS
  have e : ((kd l).any fun kv => decide (kv.1 = .inr z)) = l.any fun q => decide (q.1 = z) := by
    unfold kd; rw [List.any_map]; congr 1; funext q; simp
  rw [e]
  split
  · unfold kd
    rw [List.map_map, List.map_map]
    refine List.map_congr_left fun q _ => ?_
    by_cases e : q.1 = z <;> simp [e]
  · simp [kd]
theorem putS_keys (l : List (Str × D)) (z : Str) (u : D) : (putS l z u).map (·.1) = if z ∈ l.map (·.1) then l.map (·.1) else l.map (·.1) ++ [z] := by
  unfold putS
  have e : (l.any fun q => decide (q.1 = z)) = true ↔ z ∈ l.map (·.1) := by simp
  by_cases h : z ∈ l.map (·.1)
  · rw [if_pos (e.mpr h), if_pos h, List.map_map]
    refine List.map_congr_left fun q _ => ?_
    by_cases e : q.1 = z <;> simp [e]
  · rw [if_neg (fun q => h (e.mp q)), if_neg h]; simp
theorem putS_nodup {l : List (Str × D)} {z : Str} {u : D} (h : (l.map (·.1)).Nodup) : ((putS l z u).map (·.1)).Nodup := by
  rw [putS_keys]
  split
  · exact h
  · rename_i hz
    rw [List.nodup_append]
    exact ⟨h, by simp, fun a ha b hb e => hz (by simp at hb; rw [← hb, ← e]; exact ha)⟩
theorem putS_mem {l : List (Str × D)} {z : Str} {u : D} {q : Str × D} (h : q ∈ putS l z u) : q ∈ l ∨ q = (z, u) := by
  unfold putS at h
  split at h
  · obtain ⟨r, hr, e⟩ := List.mem_map.mp h
    split at e
    · rename_i ez; rw [← e, ez]; exact .inr rfl
    · rw [← e]; exact .inl hr
  · rcases List.mem_append.mp h with h | h
    · exact .inl h
    · simp at h; exact .inr h
theorem putS_len (l : List (Str × D)) (z : Str) (u : D) : (putS l z u).length ≤ l.length + 1 ∧ l.length ≤ (putS l z u).length ∧ 1 ≤ (putS l z u).length := by
  unfold putS
  split
  · rename_i h
    have : l ≠ [] := fun e => by rw [e] at h; cases h
    have := List.length_pos_iff.mpr this
    simp; omega
  · simp
@[simp] theorem keysD_kd (l : List (Str × D)) : keysD (.dct (kd l)) = some (.lst ((l.map (·.1)).map .str)) := by
  simp [keysD, kd, keyVal]
theorem cut4 (xs : List D) : cutD xs none (some 4) = xs.take 4 := by
  unfold cutD
  have e1 : HT.sIx xs.length 0 none = 0 := rfl
  rw [e1]
  have e2 : HT.sIx xs.length xs.length (some 4) = min 4 xs.length := HT.sIx_nat _ _ 4
  rw [e2]
  simp
theorem lwords_ok (j : Nat) (ns : List Int) (least n : Nat) (hl : least ≤ 1) (hn : n + 70 < 16777216) : Rn (sem (j + 6) "_law_words" [.scr ns, .hot 0, .d (.int (least : Nat))] [.zs n]) n 60 (fun d => ∃ ws : List Str, d = .lst (ws.map .str) ∧ least ≤ ws.length ∧ ws.length ≤ 4 ∧ (∀ w ∈ ws, okW w) ∧ ws.Nodup) := by
  rw [u_law_words]
  unfold m_law_words
  obtain ⟨r, h1, h2⟩ := draw_ok (j + 2) ns 5 n (by decide) (by omega)
  rw [show j + 2 + 3 = j + 5 by omega] at h2
  obtain ⟨ρ', n', g1, g2, g3, l, v, rfl, g5, g6, g7, g8⟩ := for_rn (t := .n 4) (f := sPut 3 (eOwn (sem (j + 5) "_law_word") (aCons (eVar 0) (aCons (eVar 1) aNil))) (eC (.bl true))) (b := 10) (T := least + r)
    (Inv := fun dn ρ => ∃ (l : List (Str × D)) (v : Option A), ρ = [some (.scr ns), some (.hot 0), some (.d (.int (least : Nat))), some (.d (.dct (kd l))), v] ∧ (l.map (·.1)).Nodup ∧ (∀ q ∈ l, okW q.1) ∧ l.length ≤ dn.length ∧ (1 ≤ dn.length → 1 ≤ l.length))
    (ds := (List.range (least + r)).map fun i => .int (i : Nat)) (dn := []) (ρ := [some (.scr ns), some (.hot 0), some (.d (.int (least : Nat))), some (.d (.dct (kd []))), none]) (n := n + 1) (by simp)
    ⟨[], none, rfl, by simp, by simp, by simp, by simp⟩ (by
      rintro d hd dn ρ n' a0 a1 a2 ⟨l, v, rfl, i1, i2, i3, i4⟩
      simp at a2
      obtain ⟨dd, n2, w1, w2, w3, z, rfl, w4⟩ := lword_ok j ns n' (by omega)
      refine ⟨_, [some (.scr ns), some (.hot 0), some (.d (.int (least : Nat))), some (.d (.dct (kd (putS l z (.bl true))))), some (.d d)], n2, rfl, ?_, w2, w3, putS l z (.bl true), some (.d d), rfl, putS_nodup i1, ?_, ?_, ?_⟩
      · have hlen : l.length < 16777216 := by omega
        simp [w1, keyD, hlen, putD_kd]
      · intro q hq
        rcases putS_mem hq with h | h
        · exact i2 q h
        · rw [h]; exact w4
      · have := (putS_len l z (.bl true)).1
        simp; omega
      · intro _; exact (putS_len l z (.bl true)).2.2)
  simp at g3 g7 g8
  refine ⟨.lst (((l.map (·.1)).take 4).map .str), n', ?_, by omega, by omega, (l.map (·.1)).take 4, rfl, ?_, ?_, ?_, ?_⟩
  · have e1 : (least : Int) + (r : Int) ≤ 16777216 := by omega
    have e2 : ((least : Int) + (r : Int)).toNat = least + r := by omega
    have e3 : -1073741824 ≤ (least : Int) + (r : Int) := by omega
    have e4 : kd [] = [] := rfl
    rw [e4] at g1
    simp [h2, e1, e2, e3, g1, slD, cut4, List.map_take]
  · rw [List.length_take, List.length_map]
    by_cases e : least = 0
    · omega
    · have := g8 (by omega); omega
  · rw [List.length_take]; omega
  · intro w hw
    obtain ⟨q, hq, rfl⟩ := List.mem_map.mp (List.mem_of_mem_take hw)
    exact g6 q hq
  · exact g5.sublist (List.take_sublist _ _)
end Law
namespace Law
open PySem L2 G
def bT : Nat → Nat
  | 0 => 0
  | d + 1 => 10 + 4 * bT d
theorem Wd.mono {c c' : Nat} (hc : c ≤ c') : ∀ {n n' : Nat} {t : D}, Wd c n t → n ≤ n' → Wd c' n' t
  | _, _, _, .non, _ => .non
  | _, _, _, .bl, _ => .bl
  | _, _, _, .int, _ => .int
  | _, _, _, .str, _ => .str
  | _, n' + 1, _, .lst a b, h => .lst (by omega) fun x hx => (b x hx).mono hc (by omega)
  | _, n' + 1, _, .tup0, h => .tup0
  | _, n' + 1, _, .tup1, h => .tup1
  | _, n' + 1, _, .tup2 a, h => .tup2 (a.mono hc (by omega))
  | _, n' + 1, _, .dct a b d, h => .dct (by omega) (fun x hx => (b x hx).mono hc (by omega)) d
theorem putS_new {l : List (Str × D)} {z : Str} {u : D} (h : z ∉ l.map (·.1)) : putS l z u = l ++ [(z, u)] := by
  unfold putS
  rw [if_neg]
  intro e
  apply h
  simpa using e
theorem thing_loop {k n b : Nat} {ns : List Int} {a2 a3 a5 a6 a9 : Option A} : ∀ {ps : List (Str × Sh)} {l : List (Str × D)} {N : Nat} {v7 v8 : Option A}, (∀ p ∈ ps, ∀ N, N + 5 * b + 20 < 16777216 → Rn (sem k "_law_thing" [.scr ns, .hot 0, .d (enc p.2)] [.zs N]) N b (fun t => oneP n p.2 t = true ∧ Wd 4 n t)) →
    (l.map (·.1) ++ ps.map (·.1)).Nodup → l.length + ps.length ≤ 100 → N + ps.length * b + 5 * b + 20 < 16777216 →
    ∃ l' N' v7' v8', forF (.t [7, 8]) (sPut 4 (eVar 7) (eOwn (sem k "_law_thing") (aCons (eVar 0) (aCons (eVar 1) (aCons (eVar 8) aNil))))) (ps.map encp) [some (.scr ns), some (.hot 0), a2, a3, some (.d (.dct (kd l))), a5, a6, v7, v8, a9] [.zs N] =
      .nx [some (.scr ns), some (.hot 0), a2, a3, some (.d (.dct (kd (l ++ l')))), a5, a6, v7', v8', a9] [.zs N'] ∧ N ≤ N' ∧ N' ≤ N + ps.length * b ∧ Paired (fun (p : Str × Sh) (q : Str × D) => q.1 = p.1 ∧ oneP n p.2 q.2 = true ∧ Wd 4 n q.2) ps l'
  | [], l, N, v7, v8, _, _, _, _ => ⟨[], N, v7, v8, by simp [forF], Nat.le_refl _, by simp, .nil⟩
  | p :: ps, l, N, v7, v8, h, hn, hl, hN => by
    have e : (p :: ps).length * b = ps.length * b + b := by rw [List.length_cons, Nat.succ_mul]
    obtain ⟨t, N1, h1, h2, h3, h4, h5⟩ := h p List.mem_cons_self N (by omega)
    have hp : p.1 ∉ l.map (·.1) := by
      rw [List.nodup_append] at hn
      intro q
      exact hn.2.2 p.1 q p.1 (by simp) rfl
    have hn' : ((l ++ [(p.1, t)]).map (·.1) ++ ps.map (·.1)).Nodup := by simpa using hn
    obtain ⟨l', N2, v7', v8', g1, g2, g3, g4⟩ := thing_loop (ps := ps) (l := l ++ [(p.1, t)]) (N := N1) (v7 := some (.d (.str p.1))) (v8 := some (.d (enc p.2))) (fun q hq => h q (List.mem_cons_of_mem _ hq)) hn' (by simp at hl ⊢; omega) (by omega)
    refine ⟨(p.1, t) :: l', N2, v7', v8', ?_, by omega, by omega, .cons ⟨rfl, h4, h5⟩ g4⟩
    have hll : l.length < 16777216 := by simp at hl; omega
    rw [List.map_cons, encp_e]
    simp only [forF, bindT, List.length_cons, List.length_nil, if_true]
    simp [setAll, h1, keyD, hll, putD_kd, putS_new hp]
    simpa using g1
theorem paired_look {n : Nat} : ∀ {ps : List (Str × Sh)} {l : List (Str × D)}, Paired (fun (p : Str × Sh) (q : Str × D) => q.1 = p.1 ∧ oneP n p.2 q.2 = true ∧ Wd 4 n q.2) ps l → (ps.map (·.1)).Nodup → (∀ p ∈ ps, ∃ u, look l p.1 = some u ∧ oneP n p.2 u = true) ∧ l.map (·.1) = ps.map (·.1) ∧ ∀ q ∈ l, Wd 4 n q.2
  | _, _, .nil, _ => ⟨by simp, rfl, by simp⟩
  | p :: ps, q :: l, .cons ⟨h1, h2, h3⟩ r, hn => by
    simp only [List.map_cons, List.nodup_cons] at hn
    obtain ⟨i1, i2, i3⟩ := paired_look r hn.2
    refine ⟨fun x hx => ?_, by simp [h1, i2], fun x hx => ?_⟩
    · rcases List.mem_cons.mp hx with rfl | hx
      · exact ⟨q.2, by simp [look, h1], h2⟩
      · obtain ⟨u, e1, e2⟩ := i1 x hx
        refine ⟨u, ?_, e2⟩
        have ne : ¬ q.1 = x.1 := fun e => hn.1 (by rw [← h1, e]; exact List.mem_map_of_mem hx)
        unfold look at e1 ⊢
        simp [ne]
        simpa using e1
    · rcases List.mem_cons.mp hx with rfl | hx
      · exact h3
      · exact i3 x hx
theorem lthing_ok : ∀ (n j : Nat) (ns : List Int) (s : Sh) (N : Nat), Gd n s → N + 5 * bT n + 20 < 16777216 → Rn (sem (j + n + 5) "_law_thing" [.scr ns, .hot 0, .d (enc s)] [.zs N]) N (bT n) (fun t => oneP n s t = true ∧ Wd 4 n t) := by
  intro n
  induction n with
  | zero => intro j ns s N h; cases h
  | succ n ih =>
    intro j ns s N h hN
    have hb : bT (n + 1) = 10 + 4 * bT n := rfl
    rw [show j + (n + 1) + 5 = (j + n + 5) + 1 by omega, u_law_thing]
    unfold m_law_thing
    cases h with
    | @num _ lo hi h1 h2 h3 =>
      obtain ⟨r, r1, r2⟩ := draw_ok (j + n + 2) ns (hi - lo + 1) N (by omega) (by omega)
      obtain ⟨x, hx, p1⟩ := pick_lst (j + n + 1) ns [.int lo, .int hi, .int (lo + (r : Nat))] (N + 1) (by simp) (by omega)
      rw [show j + n + 2 + 3 = j + n + 5 by omega] at r2
      rw [show j + n + 1 + 4 = j + n + 5 by omega] at p1
      obtain ⟨i, rfl, hi1, hi2⟩ : ∃ i, x = .int i ∧ lo ≤ i ∧ i ≤ hi := by
        simp only [List.mem_cons, List.not_mem_nil, or_false] at hx
        rcases hx with rfl | rfl | rfl
        · exact ⟨_, rfl, by omega, by omega⟩
        · exact ⟨_, rfl, by omega, by omega⟩
        · exact ⟨_, rfl, by omega, by omega⟩
      refine ⟨.int i, N + 1 + 1, ?_, by omega, by omega, by simp [oneP, isWh, hi1, hi2], .int⟩
      simp [enc, r2, p1]
    | tru =>
      obtain ⟨r, r1, r2⟩ := draw_ok (j + n + 2) ns 2 N (by decide) (by omega)
      rw [show j + n + 2 + 3 = j + n + 5 by omega] at r2
      refine ⟨.bl ((r : Int) == 0), N + 1, ?_, by omega, by omega, rfl, .bl⟩
      simp [enc, r2]
    | @wrd _ ws h1 h2 h3 h4 =>
      obtain ⟨x, hx, p1⟩ := pick_tup (j + n + 1) ns (ws.map .str) N (by intro e; simp at e; rw [e] at h1; simp at h1) (by omega)
      rw [show j + n + 1 + 4 = j + n + 5 by omega] at p1
      obtain ⟨w, hw, rfl⟩ := List.mem_map.mp hx
      refine ⟨.str w, N + 1, ?_, by omega, by omega, ?_, .str⟩
      · simp [enc, p1]
      · simp only [oneP, List.any_eq_true]
        exact ⟨w, hw, beq_self_eq_true _⟩
    | @txt _ m h1 =>
      obtain ⟨r, r1, r2⟩ := draw_ok (j + n + 2) ns ((m : Int) + 1) N (by omega) (by omega)
      rw [show j + n + 2 + 3 = j + n + 5 by omega] at r2
      obtain ⟨ys, N', c1, c2, c3, c4⟩ := comp_rn (t := .n 9) (W := [9]) (ft := tYesF) (fe := eOwn (sem (j + n + 5) "_law_pick") (aCons (eVar 0) (aCons (eVar 1) (aCons (eC (.str "abc")) aNil))))
        (ρ := [some (.scr ns), some (.hot 0), some (.d (enc (.txt m))), some (.d (.str "text")), none, none, none, none, none, none]) (b := 1) (P := fun (_ y : D) => ∃ c, y = .str ⟨#[c]⟩ ∧ c ∈ ("abc" : Str).cps.toList) (ds := (List.range r).map fun i => .int (i : Nat)) (n := N + 1) (fun x hx N' a1 a2 => by
          simp at a2
          obtain ⟨c, hc, p1⟩ := pick_str (j + n + 1) ns "abc" N' (by decide) (by omega)
          rw [show j + n + 1 + 4 = j + n + 5 by omega] at p1
          refine ⟨.str ⟨#[c]⟩, N' + 1, ?_, by omega, by omega, c, rfl, hc⟩
          simp [turnF, bindT, wipeR, p1])
      obtain ⟨cs, rfl, hcs⟩ := strsOf_signs (fun c => c ∈ ("abc" : Str).cps.toList) (paired_all (Q := fun (y : D) => ∃ c, y = .str ⟨#[c]⟩ ∧ c ∈ ("abc" : Str).cps.toList) (fun _ _ h => h) c4)
      have hlen := Paired.length c4
      simp at hlen c3
      refine ⟨.str ⟨cs.toArray⟩, N', ?_, by omega, by omega, ?_, .str⟩
      · have e1 : (r : Int) ≤ 16777216 := by omega
        have e3 : -1073741824 ≤ (r : Int) := by omega
        have e4 := joinD_signs cs (by omega)
        simp [enc] at c1
        simp [enc, r2, e1, e3, c1, e4]
      · have e1 : (⟨cs.toArray⟩ : Str).length ≤ m := by show cs.toArray.size ≤ m; simp; omega
        simp only [oneP, decide_eq_true e1, Bool.true_and, letters, List.all_eq_true, decide_eq_true_eq]
        intro c hc
        exact hcs c (by simpa using hc)
    | @lis _ m s h1 h2 =>
      obtain ⟨r, r1, r2⟩ := draw_ok (j + n + 2) ns ((m : Int) + 1) N (by omega) (by omega)
      rw [show j + n + 2 + 3 = j + n + 5 by omega] at r2
      have hr : r * bT n ≤ 4 * bT n := Nat.mul_le_mul_right _ (by omega)
      obtain ⟨ys, N', c1, c2, c3, c4⟩ := comp_rn (t := .n 9) (W := [9]) (ft := tYesF) (fe := eOwn (sem (j + n + 5) "_law_thing") (aCons (eVar 0) (aCons (eVar 1) (aCons (eIx (eVar 2) (eC (.int 1))) aNil))))
        (ρ := [some (.scr ns), some (.hot 0), some (.d (enc (.lis s m))), some (.d (.str "list")), none, none, none, none, none, none]) (b := bT n) (P := fun (_ y : D) => oneP n s y = true ∧ Wd 4 n y) (ds := (List.range r).map fun i => .int (i : Nat)) (n := N + 1) (fun x hx N' a1 a2 => by
          simp at a2
          obtain ⟨t, N2, q1, q2, q3, q4⟩ := ih j ns s N' h1 (by omega)
          refine ⟨t, N2, ?_, q2, q3, q4⟩
          simp [turnF, bindT, wipeR, q1, enc])
      have hlen := Paired.length c4
      simp at hlen c3
      have all := paired_all (Q := fun (y : D) => oneP n s y = true ∧ Wd 4 n y) (fun _ _ h => h) c4
      refine ⟨.lst ys, N', ?_, by omega, by omega, ?_, .lst (by omega) fun x hx => (all x hx).2⟩
      · have e1 : (r : Int) ≤ 16777216 := by omega
        have e3 : -1073741824 ≤ (r : Int) := by omega
        simp [enc] at c1
        simp [enc, r2, e1, e3, c1]
      · have e1 : ys.length ≤ m := by omega
        simp only [oneP, decide_eq_true e1, Bool.true_and, List.all_eq_true]
        exact fun x hx => (all x hx).1
    | @may _ s h1 h2 =>
      obtain ⟨r, r1, r2⟩ := draw_ok (j + n + 2) ns 3 N (by decide) (by omega)
      rw [show j + n + 2 + 3 = j + n + 5 by omega] at r2
      by_cases e : r = 0
      · refine ⟨.non, N + 1, ?_, by omega, by omega, rfl, .non⟩
        simp [enc, r2, e, truA]
      · obtain ⟨t, N2, q1, q2, q3, q4, q5⟩ := ih j ns s (N + 1) h1 (by omega)
        refine ⟨t, N2, ?_, by omega, by omega, ?_, q5.mono (Nat.le_refl _) (by omega)⟩
        · have e' : ¬ ((r : Int) = 0) := by omega
          have e'' : ((r : Int) == 0) = false := by simpa using e'
          simp [enc, r2, e'', truA, q1]
        · cases t <;> simp [oneP, q4]
    | @rcd _ ps h1 h2 h3 h4 =>
      have hps : ps.length * bT n ≤ 4 * bT n := Nat.mul_le_mul_right _ h1
      obtain ⟨l', N', v7, v8, g1, g2, g3, g4⟩ := thing_loop (k := j + n + 5) (n := n) (b := bT n) (ns := ns) (a2 := some (.d (.tup [.str "rec", .tup (ps.map encp)]))) (a3 := some (.d (.str "rec"))) (a5 := none) (a6 := none) (a9 := none) (ps := ps) (l := []) (N := N) (v7 := none) (v8 := none)
        (fun p hp N hN => ih j ns p.2 N (h3 p hp) (by omega)) (by simpa using h4) (by simp; omega) (by omega)
      obtain ⟨i1, i2, i3⟩ := paired_look g4 h4
      refine ⟨.dct (kd l'), N', ?_, by omega, by omega, ?_, .dct (by rw [← List.length_map (f := (·.1)), i2, List.length_map]; exact h1) i3 (by rw [i2]; exact h4)⟩
      · have e0 : kd [] = [] := rfl
        rw [e0] at g1
        simp at g1
        simp [enc, encs_map, g1]
      · have el : l'.length = ps.length := by rw [← List.length_map (f := (·.1)), i2, List.length_map]
        simp only [oneP, kd_len, el, beq_self_eq_true, Bool.true_and, List.all_eq_true, look_kd]
        intro p hp
        obtain ⟨u, e1, e2⟩ := i1 p hp
        rw [e1]; exact e2
    | @knd _ ps h1 h2 h3 h4 h5 =>
      obtain ⟨x, hx, p1⟩ := pick_tup (j + n + 1) ns (ps.map encp) N (by intro e; simp at e; rw [e] at h1; simp at h1) (by omega)
      rw [show j + n + 1 + 4 = j + n + 5 by omega] at p1
      obtain ⟨p, hp, rfl⟩ := List.mem_map.mp hx
      obtain ⟨t, N2, q1, q2, q3, q4, q5⟩ := ih j ns p.2 (N + 1) (h4 p hp) (by omega)
      refine ⟨.tup [.str p.1, t], N2, ?_, by omega, by omega, ?_, .tup2 q5⟩
      · simp [enc, encs_map, p1, bindT, setAll, q1]
      · simp only [oneP, List.any_eq_true, Bool.and_eq_true, beq_iff_eq]
        exact ⟨p, hp, rfl, q4⟩
end Law
namespace Law
open PySem L2 G
/-! ### _law_refusal -/
def exW : List (Str × Str) := [("BadShape", "shape"), ("BadThing", "thing"), ("BadRule", "rule"), ("BadNumber", "number"), ("TooMany", "many"), ("NoBack", "back"), ("BadChange", "change")]
def refD (w : Str) : D := .tup [.str "refused", .str w]
def fndD (d : D) : D := .tup [.str "found", d]
theorem isx_eval {cs ds : List Str} {c : Str} {i : Nat} {ρ : Rho} {S : Sx} {b : Bool} (h : ρ[i]? = some (some (.exc c))) (hb : (if c ∈ cs then some true else if c ∈ ds then some false else none) = some b) : eIsx cs ds (eVar i) ρ S = .ok (.d (.bl b)) S := by
  rw [ev_isx, ev_var, h]
  simp only [bind_ok]
  by_cases h1 : c ∈ cs
  · rw [if_pos h1] at hb ⊢; cases hb; rfl
  · rw [if_neg h1] at hb ⊢
    by_cases h2 : c ∈ ds
    · rw [if_pos h2] at hb ⊢; cases hb; rfl
    · rw [if_neg h2] at hb; cases hb
def isIn (cs ds : List Str) (c : Str) : Option Bool := if c ∈ cs then some true else if c ∈ ds then some false else none
theorem ref_main {c w : Str} {k : Nat} (hk : k < 7) (h : exW[k]? = some (c, w)) (b : Nat → Bool) (hb : ∀ i, b i = decide (i = k))
    (h0 : isIn isT_BadShape isF_BadShape c = some (b 0)) (h1 : isIn isT_BadThing isF_BadThing c = some (b 1)) (h2 : isIn isT_BadRule isF_BadRule c = some (b 2)) (h3 : isIn isT_BadNumber isF_BadNumber c = some (b 3)) (h4 : isIn isT_TooMany isF_TooMany c = some (b 4)) (h5 : isIn isT_NoBack isF_NoBack c = some (b 5)) (h6 : isIn isT_BadChange isF_BadChange c = some (b 6)) (h7 : isIn isT_ValueError isF_ValueError c = some true)
    (j : Nat) (hj : 1 ≤ j) (S : Sx) : sem j "_law_refusal" [.exc c] S = .ok (refD w) S := by
  obtain ⟨j, rfl⟩ : ∃ i, j = i + 1 := ⟨j - 1, by omega⟩
  rw [u_law_refusal]
  unfold m_law_refusal
  have e : ∀ (cs ds : List Str) (b : Bool), isIn cs ds c = some b → ∀ a : Option A, eIsx cs ds (eVar 0) [some (.exc c), a] S = .ok (.d (.bl b)) S := fun cs ds b hb a => isx_eval rfl hb
  have cnt : cntB (.d (.lst [.bl (b 0), .bl (b 1), .bl (b 2), .bl (b 3), .bl (b 4), .bl (b 5), .bl (b 6)])) [.d (.bl true)] = some (.int 1) := by
    have : k = 0 ∨ k = 1 ∨ k = 2 ∨ k = 3 ∨ k = 4 ∨ k = 5 ∨ k = 6 := by omega
    rcases this with rfl | rfl | rfl | rfl | rfl | rfl | rfl <;> simp [hb, cntB, boolsO]
  have idx : idxL (.d (.lst [.bl (b 0), .bl (b 1), .bl (b 2), .bl (b 3), .bl (b 4), .bl (b 5), .bl (b 6)])) [.d (.bl true)] = some (.int (k : Nat)) := by
    have : k = 0 ∨ k = 1 ∨ k = 2 ∨ k = 3 ∨ k = 4 ∨ k = 5 ∨ k = 6 := by omega
    rcases this with rfl | rfl | rfl | rfl | rfl | rfl | rfl <;> simp [hb, idxL, idxF, flatD, eqF]
  have at_ : atI [D.str "shape", .str "thing", .str "rule", .str "number", .str "many", .str "back", .str "change"] (k : Nat) = some (.str w) := by
    have : k = 0 ∨ k = 1 ∨ k = 2 ∨ k = 3 ∨ k = 4 ∨ k = 5 ∨ k = 6 := by omega
    rcases this with rfl | rfl | rfl | rfl | rfl | rfl | rfl <;> (simp [exW] at h; obtain ⟨_, rfl⟩ := h; rfl)
  simp [-ev_isx, isN, e _ _ _ h0, e _ _ _ h1, e _ _ _ h2, e _ _ _ h3, e _ _ _ h4, e _ _ _ h5, e _ _ _ h6, e _ _ _ h7, dats, catN, cnt, idx, at_, refD]
theorem refusal_ok {c w : Str} (h : (c, w) ∈ exW) (j : Nat) (hj : 1 ≤ j) (S : Sx) : sem j "_law_refusal" [.exc c] S = .ok (refD w) S := by
  unfold exW at h
  simp only [List.mem_cons, List.not_mem_nil, or_false, Prod.mk.injEq] at h
  rcases h with ⟨rfl, rfl⟩ | ⟨rfl, rfl⟩ | ⟨rfl, rfl⟩ | ⟨rfl, rfl⟩ | ⟨rfl, rfl⟩ | ⟨rfl, rfl⟩ | ⟨rfl, rfl⟩
  · exact ref_main (k := 0) (by decide) rfl (fun i => decide (i = 0)) (fun _ => rfl) (by decide) (by decide) (by decide) (by decide) (by decide) (by decide) (by decide) (by decide) j hj S
  · exact ref_main (k := 1) (by decide) rfl (fun i => decide (i = 1)) (fun _ => rfl) (by decide) (by decide) (by decide) (by decide) (by decide) (by decide) (by decide) (by decide) j hj S
  · exact ref_main (k := 2) (by decide) rfl (fun i => decide (i = 2)) (fun _ => rfl) (by decide) (by decide) (by decide) (by decide) (by decide) (by decide) (by decide) (by decide) j hj S
  · exact ref_main (k := 3) (by decide) rfl (fun i => decide (i = 3)) (fun _ => rfl) (by decide) (by decide) (by decide) (by decide) (by decide) (by decide) (by decide) (by decide) j hj S
  · exact ref_main (k := 4) (by decide) rfl (fun i => decide (i = 4)) (fun _ => rfl) (by decide) (by decide) (by decide) (by decide) (by decide) (by decide) (by decide) (by decide) j hj S
  · exact ref_main (k := 5) (by decide) rfl (fun i => decide (i = 5)) (fun _ => rfl) (by decide) (by decide) (by decide) (by decide) (by decide) (by decide) (by decide) (by decide) j hj S
  · exact ref_main (k := 6) (by decide) rfl (fun i => decide (i = 6)) (fun _ => rfl) (by decide) (by decide) (by decide) (by decide) (by decide) (by decide) (by decide) (by decide) j hj S
/-- what is told of a result -/
def tellD (r : Res D) : Res D := match r with
  | .ok d S => .ok (fndD d) S
  | .exc c S => (match exW.lookup c with
    | some w => .ok (refD w) S
    | none => .stuck)
  | .stuck => .stuck
@[simp] theorem tell_ok {d : D} {S : Sx} : tellD (.ok d S) = .ok (fndD d) S := rfl
theorem look_exW {c w : Str} (h : exW.lookup c = some w) : (c, w) ∈ exW := by
  unfold exW at h ⊢
  simp only [List.lookup] at h
  repeat' split at h
  all_goals first | (cases h; rename_i q; have := eq_of_beq q; subst this; simp) | cases h
theorem caught_all {c w : Str} (h : (c, w) ∈ exW) : c ∈ caught_LeadError := by
  unfold exW at h
  simp only [List.mem_cons, List.not_mem_nil, or_false, Prod.mk.injEq] at h
  rcases h with ⟨rfl, rfl⟩ | ⟨rfl, rfl⟩ | ⟨rfl, rfl⟩ | ⟨rfl, rfl⟩ | ⟨rfl, rfl⟩ | ⟨rfl, rfl⟩ | ⟨rfl, rfl⟩ <;> decide
end Law
namespace Law
open PySem PySem.Spec L2 G
/-! rules that look at fields -/
def fD (z : Str) : D := .tup [.str "field", .str z]
def kD : D := .tup [.str "keep"]
def tD (xs : List D) : D := .tup [.str "then", .tup xs]
def r1 (p : List Str) : D := match p with
  | [] => kD
  | z :: p => tD (fD z :: p.map fD)
def r2 (p : List Str) : D := tD [kD, r1 p, tD [kD]]
theorem r1_cons {p : List Str} (h : p ≠ []) : r1 p = tD (p.map fD) := by cases p <;> first | exact absurd rfl h | rfl
theorem in_cons {ws : List Str} {z : Str} {b : Bool} (h : (ws.any fun w => w == z) = b) : inD (.str z) (.tup (ws.map .str)) = some (.bl b) := by rw [inD_words, h]
@[simp] theorem in5 (z : Str) : inD (.str z) (.tup [.str "keep", .str "some", .str "first", .str "size", .str "else"]) = some (.bl (([("keep" : Str), "some", "first", "size", "else"]).any fun w => w == z)) := inD_words (ws := ["keep", "some", "first", "size", "else"])
@[simp] theorem in2a (z : Str) : inD (.str z) (.tup [.str "add", .str "times"]) = some (.bl (([("add" : Str), "times"]).any fun w => w == z)) := inD_words (ws := ["add", "times"])
@[simp] theorem in3k (z : Str) : inD (.str z) (.tup [.str "keep", .str "some", .str "wide"]) = some (.bl (([("keep" : Str), "some", "wide"]).any fun w => w == z)) := inD_words (ws := ["keep", "some", "wide"])
@[simp] theorem in2k (z : Str) : inD (.str z) (.tup [.str "keep", .str "field"]) = some (.bl (([("keep" : Str), "field"]).any fun w => w == z)) := inD_words (ws := ["keep", "field"])
@[simp] theorem zr_keep : tabGet tab_SIZES_rules "keep" 0 = 1 := by decide
@[simp] theorem zr_field : tabGet tab_SIZES_rules "field" 0 = 2 := by decide
@[simp] theorem zr_then : tabGet tab_SIZES_rules "then" 0 = 2 := by decide
@[simp] theorem zr_some : tabGet tab_SIZES_rules "some" 0 = 1 := by decide
@[simp] theorem zr_make : tabGet tab_SIZES_rules "make" 0 = 2 := by decide
@[simp] theorem zr_give : tabGet tab_SIZES_rules "give" 0 = 3 := by decide
@[simp] theorem qr_keep_field : (("keep" : Str) == "field") = false := by decide
@[simp] theorem qr_keep_then : (("keep" : Str) == "then") = false := by decide
@[simp] theorem qr_keep_some : (("keep" : Str) == "some") = false := by decide
@[simp] theorem qr_keep_make : (("keep" : Str) == "make") = false := by decide
@[simp] theorem qr_keep_give : (("keep" : Str) == "give") = false := by decide
@[simp] theorem qr_keep_each : (("keep" : Str) == "each") = false := by decide
@[simp] theorem qr_keep_cases : (("keep" : Str) == "cases") = false := by decide
@[simp] theorem qr_keep_tag : (("keep" : Str) == "tag") = false := by decide
@[simp] theorem qr_keep_add : (("keep" : Str) == "add") = false := by decide
@[simp] theorem qr_keep_times : (("keep" : Str) == "times") = false := by decide
@[simp] theorem qr_keep_rename : (("keep" : Str) == "rename") = false := by decide
@[simp] theorem qr_keep_else : (("keep" : Str) == "else") = false := by decide
@[simp] theorem qr_keep_first : (("keep" : Str) == "first") = false := by decide
@[simp] theorem qr_keep_size : (("keep" : Str) == "size") = false := by decide
@[simp] theorem qr_keep_wide : (("keep" : Str) == "wide") = false := by decide
@[simp] theorem qr_field_keep : (("field" : Str) == "keep") = false := by decide
@[simp] theorem qr_field_then : (("field" : Str) == "then") = false := by decide
@[simp] theorem qr_field_some : (("field" : Str) == "some") = false := by decide
@[simp] theorem qr_field_make : (("field" : Str) == "make") = false := by decide
@[simp] theorem qr_field_give : (("field" : Str) == "give") = false := by decide
@[simp] theorem qr_field_each : (("field" : Str) == "each") = false := by decide
@[simp] theorem qr_field_cases : (("field" : Str) == "cases") = false := by decide
@[simp] theorem qr_field_tag : (("field" : Str) == "tag") = false := by decide
@[simp] theorem qr_field_add : (("field" : Str) == "add") = false := by decide
@[simp] theorem qr_field_times : (("field" : Str) == "times") = false := by decide
@[simp] theorem qr_field_rename : (("field" : Str) == "rename") = false := by decide
@[simp] theorem qr_field_else : (("field" : Str) == "else") = false := by decide
@[simp] theorem qr_field_first : (("field" : Str) == "first") = false := by decide
@[simp] theorem qr_field_size : (("field" : Str) == "size") = false := by decide
@[simp] theorem qr_field_wide : (("field" : Str) == "wide") = false := by decide
@[simp] theorem qr_then_keep : (("then" : Str) == "keep") = false := by decide
@[simp] theorem qr_then_field : (("then" : Str) == "field") = false := by decide
@[simp] theorem qr_then_some : (("then" : Str) == "some") = false := by decide
@[simp] theorem qr_then_make : (("then" : Str) == "make") = false := by decide
@[simp] theorem qr_then_give : (("then" : Str) == "give") = false := by decide
@[simp] theorem qr_then_each : (("then" : Str) == "each") = false := by decide
@[simp] theorem qr_then_cases : (("then" : Str) == "cases") = false := by decide
@[simp] theorem qr_then_tag : (("then" : Str) == "tag") = false := by decide
@[simp] theorem qr_then_add : (("then" : Str) == "add") = false := by decide
@[simp] theorem qr_then_times : (("then" : Str) == "times") = false := by decide
@[simp] theorem qr_then_rename : (("then" : Str) == "rename") = false := by decide
@[simp] theorem qr_then_else : (("then" : Str) == "else") = false := by decide
@[simp] theorem qr_then_first : (("then" : Str) == "first") = false := by decide
@[simp] theorem qr_then_size : (("then" : Str) == "size") = false := by decide
@[simp] theorem qr_then_wide : (("then" : Str) == "wide") = false := by decide
@[simp] theorem qr_some_keep : (("some" : Str) == "keep") = false := by decide
@[simp] theorem qr_some_field : (("some" : Str) == "field") = false := by decide
@[simp] theorem qr_some_then : (("some" : Str) == "then") = false := by decide
@[simp] theorem qr_some_make : (("some" : Str) == "make") = false := by decide
@[simp] theorem qr_some_give : (("some" : Str) == "give") = false := by decide
@[simp] theorem qr_some_each : (("some" : Str) == "each") = false := by decide
@[simp] theorem qr_some_cases : (("some" : Str) == "cases") = false := by decide
@[simp] theorem qr_some_tag : (("some" : Str) == "tag") = false := by decide
@[simp] theorem qr_some_add : (("some" : Str) == "add") = false := by decide
@[simp] theorem qr_some_times : (("some" : Str) == "times") = false := by decide
@[simp] theorem qr_some_rename : (("some" : Str) == "rename") = false := by decide
@[simp] theorem qr_some_else : (("some" : Str) == "else") = false := by decide
@[simp] theorem qr_some_first : (("some" : Str) == "first") = false := by decide
@[simp] theorem qr_some_size : (("some" : Str) == "size") = false := by decide
@[simp] theorem qr_some_wide : (("some" : Str) == "wide") = false := by decide
@[simp] theorem qr_make_keep : (("make" : Str) == "keep") = false := by decide
@[simp] theorem qr_make_field : (("make" : Str) == "field") = false := by decide
@[simp] theorem qr_make_then : (("make" : Str) == "then") = false := by decide
@[simp] theorem qr_make_some : (("make" : Str) == "some") = false := by decide
@[simp] theorem qr_make_give : (("make" : Str) == "give") = false := by decide
@[simp] theorem qr_make_each : (("make" : Str) == "each") = false := by decide
@[simp] theorem qr_make_cases : (("make" : Str) == "cases") = false := by decide
@[simp] theorem qr_make_tag : (("make" : Str) == "tag") = false := by decide
@[simp] theorem qr_make_add : (("make" : Str) == "add") = false := by decide
@[simp] theorem qr_make_times : (("make" : Str) == "times") = false := by decide
@[simp] theorem qr_make_rename : (("make" : Str) == "rename") = false := by decide
@[simp] theorem qr_make_else : (("make" : Str) == "else") = false := by decide
@[simp] theorem qr_make_first : (("make" : Str) == "first") = false := by decide
@[simp] theorem qr_make_size : (("make" : Str) == "size") = false := by decide
@[simp] theorem qr_make_wide : (("make" : Str) == "wide") = false := by decide
@[simp] theorem qr_give_keep : (("give" : Str) == "keep") = false := by decide
@[simp] theorem qr_give_field : (("give" : Str) == "field") = false := by decide
@[simp] theorem qr_give_then : (("give" : Str) == "then") = false := by decide
@[simp] theorem qr_give_some : (("give" : Str) == "some") = false := by decide
@[simp] theorem qr_give_make : (("give" : Str) == "make") = false := by decide
@[simp] theorem qr_give_each : (("give" : Str) == "each") = false := by decide
@[simp] theorem qr_give_cases : (("give" : Str) == "cases") = false := by decide
@[simp] theorem qr_give_tag : (("give" : Str) == "tag") = false := by decide
@[simp] theorem qr_give_add : (("give" : Str) == "add") = false := by decide
@[simp] theorem qr_give_times : (("give" : Str) == "times") = false := by decide
@[simp] theorem qr_give_rename : (("give" : Str) == "rename") = false := by decide
@[simp] theorem qr_give_else : (("give" : Str) == "else") = false := by decide
@[simp] theorem qr_give_first : (("give" : Str) == "first") = false := by decide
@[simp] theorem qr_give_size : (("give" : Str) == "size") = false := by decide
@[simp] theorem qr_give_wide : (("give" : Str) == "wide") = false := by decide
@[simp] theorem qr_each_keep : (("each" : Str) == "keep") = false := by decide
@[simp] theorem qr_each_field : (("each" : Str) == "field") = false := by decide
@[simp] theorem qr_each_then : (("each" : Str) == "then") = false := by decide
@[simp] theorem qr_each_some : (("each" : Str) == "some") = false := by decide
@[simp] theorem qr_each_make : (("each" : Str) == "make") = false := by decide
@[simp] theorem qr_each_give : (("each" : Str) == "give") = false := by decide
@[simp] theorem qr_each_cases : (("each" : Str) == "cases") = false := by decide
@[simp] theorem qr_each_tag : (("each" : Str) == "tag") = false := by decide
@[simp] theorem qr_each_add : (("each" : Str) == "add") = false := by decide
@[simp] theorem qr_each_times : (("each" : Str) == "times") = false := by decide
@[simp] theorem qr_each_rename : (("each" : Str) == "rename") = false := by decide
@[simp] theorem qr_each_else : (("each" : Str) == "else") = false := by decide
@[simp] theorem qr_each_first : (("each" : Str) == "first") = false := by decide
@[simp] theorem qr_each_size : (("each" : Str) == "size") = false := by decide
@[simp] theorem qr_each_wide : (("each" : Str) == "wide") = false := by decide
@[simp] theorem qr_cases_keep : (("cases" : Str) == "keep") = false := by decide
@[simp] theorem qr_cases_field : (("cases" : Str) == "field") = false := by decide
@[simp] theorem qr_cases_then : (("cases" : Str) == "then") = false := by decide
@[simp] theorem qr_cases_some : (("cases" : Str) == "some") = false := by decide
@[simp] theorem qr_cases_make : (("cases" : Str) == "make") = false := by decide
@[simp] theorem qr_cases_give : (("cases" : Str) == "give") = false := by decide
@[simp] theorem qr_cases_each : (("cases" : Str) == "each") = false := by decide
@[simp] theorem qr_cases_tag : (("cases" : Str) == "tag") = false := by decide
@[simp] theorem qr_cases_add : (("cases" : Str) == "add") = false := by decide
@[simp] theorem qr_cases_times : (("cases" : Str) == "times") = false := by decide
@[simp] theorem qr_cases_rename : (("cases" : Str) == "rename") = false := by decide
@[simp] theorem qr_cases_else : (("cases" : Str) == "else") = false := by decide
@[simp] theorem qr_cases_first : (("cases" : Str) == "first") = false := by decide
@[simp] theorem qr_cases_size : (("cases" : Str) == "size") = false := by decide
@[simp] theorem qr_cases_wide : (("cases" : Str) == "wide") = false := by decide
@[simp] theorem qr_tag_keep : (("tag" : Str) == "keep") = false := by decide
@[simp] theorem qr_tag_field : (("tag" : Str) == "field") = false := by decide
@[simp] theorem qr_tag_then : (("tag" : Str) == "then") = false := by decide
@[simp] theorem qr_tag_some : (("tag" : Str) == "some") = false := by decide
@[simp] theorem qr_tag_make : (("tag" : Str) == "make") = false := by decide
@[simp] theorem qr_tag_give : (("tag" : Str) == "give") = false := by decide
@[simp] theorem qr_tag_each : (("tag" : Str) == "each") = false := by decide
@[simp] theorem qr_tag_cases : (("tag" : Str) == "cases") = false := by decide
@[simp] theorem qr_tag_add : (("tag" : Str) == "add") = false := by decide
@[simp] theorem qr_tag_times : (("tag" : Str) == "times") = false := by decide
@[simp] theorem qr_tag_rename : (("tag" : Str) == "rename") = false := by decide
@[simp] theorem qr_tag_else : (("tag" : Str) == "else") = false := by decide
@[simp] theorem qr_tag_first : (("tag" : Str) == "first") = false := by decide
@[simp] theorem qr_tag_size : (("tag" : Str) == "size") = false := by decide
@[simp] theorem qr_tag_wide : (("tag" : Str) == "wide") = false := by decide
@[simp] theorem qr_add_keep : (("add" : Str) == "keep") = false := by decide
@[simp] theorem qr_add_field : (("add" : Str) == "field") = false := by decide
@[simp] theorem qr_add_then : (("add" : Str) == "then") = false := by decide
@[simp] theorem qr_add_some : (("add" : Str) == "some") = false := by decide
@[simp] theorem qr_add_make : (("add" : Str) == "make") = false := by decide
@[simp] theorem qr_add_give : (("add" : Str) == "give") = false := by decide
@[simp] theorem qr_add_each : (("add" : Str) == "each") = false := by decide
@[simp] theorem qr_add_cases : (("add" : Str) == "cases") = false := by decide
@[simp] theorem qr_add_tag : (("add" : Str) == "tag") = false := by decide
@[simp] theorem qr_add_times : (("add" : Str) == "times") = false := by decide
@[simp] theorem qr_add_rename : (("add" : Str) == "rename") = false := by decide
@[simp] theorem qr_add_else : (("add" : Str) == "else") = false := by decide
@[simp] theorem qr_add_first : (("add" : Str) == "first") = false := by decide
@[simp] theorem qr_add_size : (("add" : Str) == "size") = false := by decide
@[simp] theorem qr_add_wide : (("add" : Str) == "wide") = false := by decide
@[simp] theorem qr_times_keep : (("times" : Str) == "keep") = false := by decide
@[simp] theorem qr_times_field : (("times" : Str) == "field") = false := by decide
@[simp] theorem qr_times_then : (("times" : Str) == "then") = false := by decide
@[simp] theorem qr_times_some : (("times" : Str) == "some") = false := by decide
@[simp] theorem qr_times_make : (("times" : Str) == "make") = false := by decide
@[simp] theorem qr_times_give : (("times" : Str) == "give") = false := by decide
@[simp] theorem qr_times_each : (("times" : Str) == "each") = false := by decide
@[simp] theorem qr_times_cases : (("times" : Str) == "cases") = false := by decide
@[simp] theorem qr_times_tag : (("times" : Str) == "tag") = false := by decide
@[simp] theorem qr_times_add : (("times" : Str) == "add") = false := by decide
@[simp] theorem qr_times_rename : (("times" : Str) == "rename") = false := by decide
@[simp] theorem qr_times_else : (("times" : Str) == "else") = false := by decide
@[simp] theorem qr_times_first : (("times" : Str) == "first") = false := by decide
@[simp] theorem qr_times_size : (("times" : Str) == "size") = false := by decide
@[simp] theorem qr_times_wide : (("times" : Str) == "wide") = false := by decide
@[simp] theorem qr_rename_keep : (("rename" : Str) == "keep") = false := by decide
@[simp] theorem qr_rename_field : (("rename" : Str) == "field") = false := by decide
@[simp] theorem qr_rename_then : (("rename" : Str) == "then") = false := by decide
@[simp] theorem qr_rename_some : (("rename" : Str) == "some") = false := by decide
@[simp] theorem qr_rename_make : (("rename" : Str) == "make") = false := by decide
@[simp] theorem qr_rename_give : (("rename" : Str) == "give") = false := by decide
@[simp] theorem qr_rename_each : (("rename" : Str) == "each") = false := by decide
@[simp] theorem qr_rename_cases : (("rename" : Str) == "cases") = false := by decide
@[simp] theorem qr_rename_tag : (("rename" : Str) == "tag") = false := by decide
@[simp] theorem qr_rename_add : (("rename" : Str) == "add") = false := by decide
@[simp] theorem qr_rename_times : (("rename" : Str) == "times") = false := by decide
@[simp] theorem qr_rename_else : (("rename" : Str) == "else") = false := by decide
@[simp] theorem qr_rename_first : (("rename" : Str) == "first") = false := by decide
@[simp] theorem qr_rename_size : (("rename" : Str) == "size") = false := by decide
@[simp] theorem qr_rename_wide : (("rename" : Str) == "wide") = false := by decide
@[simp] theorem qr_else_keep : (("else" : Str) == "keep") = false := by decide
@[simp] theorem qr_else_field : (("else" : Str) == "field") = false := by decide
@[simp] theorem qr_else_then : (("else" : Str) == "then") = false := by decide
@[simp] theorem qr_else_some : (("else" : Str) == "some") = false := by decide
@[simp] theorem qr_else_make : (("else" : Str) == "make") = false := by decide
@[simp] theorem qr_else_give : (("else" : Str) == "give") = false := by decide
@[simp] theorem qr_else_each : (("else" : Str) == "each") = false := by decide
@[simp] theorem qr_else_cases : (("else" : Str) == "cases") = false := by decide
@[simp] theorem qr_else_tag : (("else" : Str) == "tag") = false := by decide
@[simp] theorem qr_else_add : (("else" : Str) == "add") = false := by decide
@[simp] theorem qr_else_times : (("else" : Str) == "times") = false := by decide
@[simp] theorem qr_else_rename : (("else" : Str) == "rename") = false := by decide
@[simp] theorem qr_else_first : (("else" : Str) == "first") = false := by decide
@[simp] theorem qr_else_size : (("else" : Str) == "size") = false := by decide
@[simp] theorem qr_else_wide : (("else" : Str) == "wide") = false := by decide
@[simp] theorem qr_first_keep : (("first" : Str) == "keep") = false := by decide
@[simp] theorem qr_first_field : (("first" : Str) == "field") = false := by decide
@[simp] theorem qr_first_then : (("first" : Str) == "then") = false := by decide
@[simp] theorem qr_first_some : (("first" : Str) == "some") = false := by decide
@[simp] theorem qr_first_make : (("first" : Str) == "make") = false := by decide
@[simp] theorem qr_first_give : (("first" : Str) == "give") = false := by decide
@[simp] theorem qr_first_each : (("first" : Str) == "each") = false := by decide
@[simp] theorem qr_first_cases : (("first" : Str) == "cases") = false := by decide
@[simp] theorem qr_first_tag : (("first" : Str) == "tag") = false := by decide
@[simp] theorem qr_first_add : (("first" : Str) == "add") = false := by decide
@[simp] theorem qr_first_times : (("first" : Str) == "times") = false := by decide
@[simp] theorem qr_first_rename : (("first" : Str) == "rename") = false := by decide
@[simp] theorem qr_first_else : (("first" : Str) == "else") = false := by decide
@[simp] theorem qr_first_size : (("first" : Str) == "size") = false := by decide
@[simp] theorem qr_first_wide : (("first" : Str) == "wide") = false := by decide
@[simp] theorem qr_size_keep : (("size" : Str) == "keep") = false := by decide
@[simp] theorem qr_size_field : (("size" : Str) == "field") = false := by decide
@[simp] theorem qr_size_then : (("size" : Str) == "then") = false := by decide
@[simp] theorem qr_size_some : (("size" : Str) == "some") = false := by decide
@[simp] theorem qr_size_make : (("size" : Str) == "make") = false := by decide
@[simp] theorem qr_size_give : (("size" : Str) == "give") = false := by decide
@[simp] theorem qr_size_each : (("size" : Str) == "each") = false := by decide
@[simp] theorem qr_size_cases : (("size" : Str) == "cases") = false := by decide
@[simp] theorem qr_size_tag : (("size" : Str) == "tag") = false := by decide
@[simp] theorem qr_size_add : (("size" : Str) == "add") = false := by decide
@[simp] theorem qr_size_times : (("size" : Str) == "times") = false := by decide
@[simp] theorem qr_size_rename : (("size" : Str) == "rename") = false := by decide
@[simp] theorem qr_size_else : (("size" : Str) == "else") = false := by decide
@[simp] theorem qr_size_first : (("size" : Str) == "first") = false := by decide
@[simp] theorem qr_size_wide : (("size" : Str) == "wide") = false := by decide
@[simp] theorem qr_wide_keep : (("wide" : Str) == "keep") = false := by decide
@[simp] theorem qr_wide_field : (("wide" : Str) == "field") = false := by decide
@[simp] theorem qr_wide_then : (("wide" : Str) == "then") = false := by decide
@[simp] theorem qr_wide_some : (("wide" : Str) == "some") = false := by decide
@[simp] theorem qr_wide_make : (("wide" : Str) == "make") = false := by decide
@[simp] theorem qr_wide_give : (("wide" : Str) == "give") = false := by decide
@[simp] theorem qr_wide_each : (("wide" : Str) == "each") = false := by decide
@[simp] theorem qr_wide_cases : (("wide" : Str) == "cases") = false := by decide
@[simp] theorem qr_wide_tag : (("wide" : Str) == "tag") = false := by decide
@[simp] theorem qr_wide_add : (("wide" : Str) == "add") = false := by decide
@[simp] theorem qr_wide_times : (("wide" : Str) == "times") = false := by decide
@[simp] theorem qr_wide_rename : (("wide" : Str) == "rename") = false := by decide
@[simp] theorem qr_wide_else : (("wide" : Str) == "else") = false := by decide
@[simp] theorem qr_wide_first : (("wide" : Str) == "first") = false := by decide
@[simp] theorem qr_wide_size : (("wide" : Str) == "size") = false := by decide
/-! ### is_rule -/
theorem rule_keep (j : Nat) (hj : 1 ≤ j) (d : Int) (hd : d ≠ 0) (S : Sx) : sem j "is_rule" [.d kD, .d (.int d)] S = .ok (.bl true) S := by
  obtain ⟨j, rfl⟩ : ∃ i, j = i + 1 := ⟨j - 1, by omega⟩
  rw [u_is_rule]
  unfold m_is_rule
  have hd' : (d == 0) = false := by simpa using hd
  simp [kD, isi, hd', dats]
theorem rule_some (j : Nat) (hj : 1 ≤ j) (d : Int) (hd : d ≠ 0) (S : Sx) : sem j "is_rule" [.d (.tup [.str "some"]), .d (.int d)] S = .ok (.bl true) S := by
  obtain ⟨j, rfl⟩ : ∃ i, j = i + 1 := ⟨j - 1, by omega⟩
  rw [u_is_rule]
  unfold m_is_rule
  have hd' : (d == 0) = false := by simpa using hd
  simp [isi, hd', dats]
theorem rule_field (z : Str) (hz : okW z) (j : Nat) (hj : 2 ≤ j) (d : Int) (hd : d ≠ 0) (S : Sx) : sem j "is_rule" [.d (fD z), .d (.int d)] S = .ok (.bl true) S := by
  obtain ⟨j, rfl⟩ : ∃ i, j = i + 2 := ⟨j - 2, by omega⟩
  rw [show j + 2 = j + 1 + 1 by rfl, u_is_rule]
  unfold m_is_rule
  have hd' : (d == 0) = false := by simpa using hd
  have w := word_ok j z hz S
  simp [fD, isi, hd', dats, w]
theorem rule_then (xs : List D) (j : Nat) (hj : 1 ≤ j) (d : Int) (hd : d ≠ 0) (S : Sx) (h1 : 1 ≤ xs.length) (h2 : xs.length ≤ 8) (h : ∀ x ∈ xs, sem (j - 1) "is_rule" [.d x, .d (.int (d - 1))] S = .ok (.bl true) S) : sem j "is_rule" [.d (tD xs), .d (.int d)] S = .ok (.bl true) S := by
  obtain ⟨j, rfl⟩ : ∃ i, j = i + 1 := ⟨j - 1, by omega⟩
  rw [Nat.add_sub_cancel] at h
  rw [u_is_rule]
  unfold m_is_rule
  have hd' : (d == 0) = false := by simpa using hd
  have e1 : (1 : Int) ≤ (xs.length : Nat) := by omega
  have e2 : ((xs.length : Nat) : Int) ≤ 8 := by omega
  have hc : ∀ a2 a3 a4 : Option A, compF (.n 4) [4] tYesF (eOwn (sem j "is_rule") (aCons (eVar 4) (aCons (eOp subD (eVar 1) (eC (.int 1))) aNil))) [some (.d (.tup [.str "then", .tup xs])), some (.d (.int d)), a2, a3, a4] xs S = .ok (xs.map fun _ => .bl true) S := fun a2 a3 a4 => by
    rw [cmp_map (g := fun _ => .bl true)]
    intro x hx
    simp [turnF, bindT, wipeR, h x hx]
  have bT' : boolsOf (xs.map fun _ => D.bl true) = some (xs.map fun _ => true) := by
    have := boolsOf_mapF (fun _ : D => true) xs
    simpa using this
  simp [tD, isi, hd', dats, e1, e2, truA, hc, bT']
theorem rule_r1 (p : List Str) (hp : ∀ z ∈ p, okW z) (hl : p.length ≤ 8) (j : Nat) (hj : 4 ≤ j) (d : Int) (hd : 2 ≤ d) (S : Sx) : sem j "is_rule" [.d (r1 p), .d (.int d)] S = .ok (.bl true) S := by
  cases p with
  | nil => exact rule_keep j (by omega) d (by omega) S
  | cons z p =>
    refine rule_then _ j (by omega) d (by omega) S (by simp) (by simpa using hl) fun x hx => ?_
    rw [← List.map_cons] at hx
    obtain ⟨w, hw, rfl⟩ := List.mem_map.mp hx
    exact rule_field w (hp w hw) _ (by omega) _ (by omega) S
def rul (b : Bool) (p : List Str) : D := if b then r2 p else r1 p
theorem rule_rul (b : Bool) (p : List Str) (hp : ∀ z ∈ p, okW z) (hl : p.length ≤ 8) (j : Nat) (hj : 8 ≤ j) (S : Sx) : sem j "is_rule" [.d (rul b p), .d (.int 8)] S = .ok (.bl true) S := by
  cases b with
  | false => exact rule_r1 p hp hl j (by omega) 8 (by omega) S
  | true =>
    refine rule_then _ j (by omega) 8 (by omega) S (by simp) (by simp) fun x hx => ?_
    simp only [List.mem_cons, List.not_mem_nil, or_false] at hx
    rcases hx with rfl | rfl | rfl
    · exact rule_keep _ (by omega) _ (by omega) S
    · exact rule_r1 p hp hl _ (by omega) _ (by omega) S
    · refine rule_then _ _ (by omega) _ (by omega) S (by simp) (by simp) fun x hx => ?_
      simp at hx
      subst hx
      exact rule_keep _ (by omega) _ (by omega) S
theorem lookr_ok (r : D) (j : Nat) (hj : 1 ≤ j) (S : Sx) (h : sem (j - 1) "is_rule" [.d r, .d (.int 8)] S = .ok (.bl true) S) : sem j "look_rule" [.d r] S = .ok .non S := by
  obtain ⟨j, rfl⟩ : ∃ i, j = i + 1 := ⟨j - 1, by omega⟩
  rw [Nat.add_sub_cancel] at h
  rw [u_look_rule]
  unfold m_look_rule
  simp [h]
theorem need_ok (b : Bool) (j : Nat) (hj : 1 ≤ j) (S : Sx) : sem j "need" [.d (.bl b)] S = if b = true then .ok .non S else .exc "BadRule" S := by
  obtain ⟨j, rfl⟩ : ∃ i, j = i + 1 := ⟨j - 1, by omega⟩
  rw [u_need]
  unfold m_need
  cases b <;> simp [truA]
/-! ### goal -/
theorem goal_of_ok (r : D) (s s' : Sh) (m : Nat) (hm : m ≤ 10) (h : Gd m s') (j : Nat) (hj : 40 ≤ j) (S : Sx) (g : sem (j - 1) "goal_of" [.d r, .d (enc s)] S = .ok (enc s') S) : sem j "goal" [.d r, .d (enc s)] S = if lv s' ≤ 4 then .ok (enc s') S else .exc "BadRule" S := by
  obtain ⟨j, rfl⟩ : ∃ i, j = i + 1 := ⟨j - 1, by omega⟩
  rw [Nat.add_sub_cancel] at g
  rw [u_goal]
  unfold m_goal
  have h1 := shape_sem s' m h 4 j (by omega) S
  have h2 := need_ok (decide (lv s' ≤ 4)) j (by omega) S
  simp at h1
  by_cases c : lv s' ≤ 4
  · simp [c] at h1 h2
    simp [g, h1, h2, c]
  · simp [c] at h1 h2
    simp [g, h1, h2, c]
theorem goal_keep (s : Sh) (h : Gd 4 s) (j : Nat) (hj : 40 ≤ j) (S : Sx) : sem j "goal" [.d kD, .d (enc s)] S = .ok (enc s) S := by
  have := goal_of_ok kD s s 4 (by omega) h j hj S (by
    obtain ⟨j, rfl⟩ : ∃ i, j = i + 2 := ⟨j - 2, by omega⟩
    rw [show j + 2 - 1 = j + 1 by omega, u_goal_of]
    unfold m_goal_of
    simp [kD])
  rw [this, if_pos h.lv]
theorem goal_field (ps : List (Str × Sh)) (z : Str) (s' : Sh) (n : Nat) (hn : n ≤ 3) (h : Gd (n + 1) (.rcd ps)) (hm : (z, s') ∈ ps) (j : Nat) (hj : 40 ≤ j) (S : Sx) : sem j "goal" [.d (fD z), .d (enc (.rcd ps))] S = .ok (enc s') S := by
  cases h with
  | rcd h1 h2 h3 h4 =>
    have g := h3 _ hm
    have := goal_of_ok (fD z) (.rcd ps) s' n (by omega) g j hj S (by
      obtain ⟨j, rfl⟩ : ∃ i, j = i + 3 := ⟨j - 3, by omega⟩
      have e1 := lookS_in h4 hm
      dsimp only at e1
      have po := part_ok "rec" z ps j (by omega) S
      rw [e1] at po
      have nd := need_ok true j (by omega) S
      have gp : sem (j + 1) "goal_part" [.d (fD z), .d (enc (.rcd ps))] S = .ok (enc s') S := by
        rw [u_goal_part]
        unfold m_goal_part
        simp at po nd
        simp [fD, enc, po, enc_notN, nd]
      rw [show j + 3 - 1 = (j + 1) + 1 by omega, u_goal_of]
      unfold m_goal_of
      simp only [fD] at gp
      simp [fD, gp, dats])
    rw [this, if_pos (Nat.le_trans g.lv (by omega))]
/-- a then, one behind the other -/
theorem goal_loop {j : Nat} {S : Sx} {a0 a2 a4 : Option A} : ∀ {xs : List D} {ss : List Sh} {s : Sh} (v3 : Option A), ss.length = xs.length → (∀ (i : Nat) (x : D) (a b : Sh), xs[i]? = some x → (s :: ss)[i]? = some a → ss[i]? = some b → sem j "goal" [.d x, .d (enc a)] S = .ok (enc b) S) →
    ∃ v3', forF (.n 3) (sAsg 1 (eOwn (sem j "goal") (aCons (eVar 3) (aCons (eVar 1) (aNil))))) xs [a0, some (.d (enc s)), a2, v3, a4] S = .nx [a0, some (.d (enc (ss.getLastD s))), a2, v3', a4] S
  | [], [], s, v3, _, _ => ⟨v3, by simp [forF]⟩
  | x :: xs, b :: ss, s, v3, hl, h => by
    have h0 := h 0 x s b rfl rfl rfl
    obtain ⟨v3', g⟩ := goal_loop (a0 := a0) (a2 := a2) (a4 := a4) (j := j) (S := S) (xs := xs) (ss := ss) (s := b) (some (.d x)) (by simpa using hl) (fun i x a b' e1 e2 e3 => h (i + 1) x a b' (by simpa using e1) (by simpa using e2) (by simpa using e3))
    refine ⟨v3', ?_⟩
    rw [List.getLastD_cons]
    simp only [forF, bindT]
    simp [h0]
    simpa using g
theorem goal_then (xs : List D) (ss : List Sh) (s : Sh) (hl : ss.length = xs.length) (j : Nat) (hj : 45 ≤ j) (S : Sx) (hg : Gd 4 (ss.getLastD s)) (h : ∀ (i : Nat) (x : D) (a b : Sh), xs[i]? = some x → (s :: ss)[i]? = some a → ss[i]? = some b → sem (j - 2) "goal" [.d x, .d (enc a)] S = .ok (enc b) S) :
    sem j "goal" [.d (tD xs), .d (enc s)] S = .ok (enc (ss.getLastD s)) S := by
  have := goal_of_ok (tD xs) s (ss.getLastD s) 4 (by omega) hg j (by omega) S (by
    obtain ⟨j, rfl⟩ : ∃ i, j = i + 2 := ⟨j - 2, by omega⟩
    rw [show j + 2 - 2 = j by omega] at h
    rw [show j + 2 - 1 = j + 1 by omega, u_goal_of]
    unfold m_goal_of
    obtain ⟨v3, g⟩ := goal_loop (a0 := some (.d (.tup [.str "then", .tup xs]))) (a2 := some (.d (.str "then"))) (a4 := none) (j := j) (S := S) (xs := xs) (ss := ss) (s := s) none hl h
    simp [tD, itemsOf]
    rw [g]
    simp)
  rw [this, if_pos hg.lv]
/-- the shapes on the way of a path -/
theorem goal_r1 {n n' : Nat} {s s' : Sh} {p : List Str} (u : Sub n s p n' s') (h : Gd n s) (hn : n ≤ 4) (j : Nat) (hj : 50 ≤ j) (S : Sx) : sem j "goal" [.d (r1 p), .d (enc s)] S = .ok (enc s') S := by
  cases p with
  | nil => cases u; exact goal_keep s (h.le hn) j (by omega) S
  | cons z p =>
    have key : ∀ {n n' : Nat} {s s' : Sh} {p : List Str}, Sub n s p n' s' → Gd n s → n ≤ 4 → ∃ ss : List Sh, ss.length = (p.map fD).length ∧ ss.getLastD s = s' ∧ ∀ (i : Nat) (x : D) (a b : Sh), (p.map fD)[i]? = some x → (s :: ss)[i]? = some a → ss[i]? = some b → sem (j - 2) "goal" [.d x, .d (enc a)] S = .ok (enc b) S := by
      intro n n' s s' p u
      induction u with
      | nil => intro h hn; exact ⟨[], by simp, rfl, by simp⟩
      | @cons n n' ps z s s' p hm u ih =>
        intro h hn
        have hh := h
        cases h with
        | rcd h1 h2 h3 h4 =>
          obtain ⟨ss, e1, e2, e3⟩ := ih (h3 _ hm) (by omega)
          refine ⟨s :: ss, by simpa using e1, by rw [List.getLastD_cons]; exact e2, ?_⟩
          intro i x a b f1 f2 f3
          cases i with
          | zero =>
            simp at f1 f2 f3
            subst f1 f2 f3
            exact goal_field ps z s n (by omega) hh hm _ (by omega) S
          | succ i => exact e3 i x a b (by simpa using f1) (by simpa using f2) (by simpa using f3)
    obtain ⟨ss, e1, e2, e3⟩ := key u h hn
    obtain ⟨g1, g2, _⟩ := u.gd h
    have := goal_then ((z :: p).map fD) ss s e1 j (by omega) S (by rw [e2]; exact g1.le (by omega)) e3
    rw [e2] at this
    exact this
theorem goal_rul {n n' : Nat} {s s' : Sh} {p : List Str} (u : Sub n s p n' s') (h : Gd n s) (hn : n ≤ 4) (b : Bool) (j : Nat) (hj : 60 ≤ j) (S : Sx) : sem j "goal" [.d (rul b p), .d (enc s)] S = .ok (enc s') S := by
  cases b with
  | false => exact goal_r1 u h hn j (by omega) S
  | true =>
    obtain ⟨g1, g2, _⟩ := u.gd h
    have hs := h.le hn
    have hs' : Gd 4 s' := g1.le (by omega)
    refine goal_then [kD, r1 p, tD [kD]] [s, s', s'] s (by simp) j (by omega) S hs' ?_
    intro i x a b f1 f2 f3
    match i with
    | 0 => simp at f1 f2 f3; subst f1 f2 f3; exact goal_keep _ hs _ (by omega) S
    | 1 => simp at f1 f2 f3; subst f1 f2 f3; exact goal_r1 u h hn _ (by omega) S
    | 2 =>
      simp at f1 f2 f3
      subst f1 f2 f3
      refine goal_then [kD] [s'] s' (by simp) _ (by omega) S hs' ?_
      intro i x a b f1 f2 f3
      match i with
      | 0 => simp at f1 f2 f3; subst f1 f2 f3; exact goal_keep _ hs' _ (by omega) S
      | i + 1 => simp at f1
    | i + 3 => simp at f1
theorem led_ok (r : D) (s : Sh) (h : Gd 4 s) (j : Nat) (hj : 30 ≤ j) (S : Sx) (hr : sem (j - 2) "is_rule" [.d r, .d (.int 8)] S = .ok (.bl true) S) : sem j "led" [.d r, .d (enc s)] S = sem (j - 1) "goal" [.d r, .d (enc s)] S := by
  obtain ⟨j, rfl⟩ : ∃ i, j = i + 2 := ⟨j - 2, by omega⟩
  rw [show j + 2 = j + 1 + 1 by rfl, u_led]
  unfold m_led
  have l1 := lookr_ok r (j + 1) (by omega) S (by simpa using hr)
  have l2 := look_sem s h (j + 1) (by omega) S
  simp only [Nat.add_sub_cancel]
  cases e : sem (j + 1) "goal" [.d r, .d (enc s)] S with
  | ok d S' => simp [l1, l2, e]
  | exc c S' => simp [l1, l2, e]
  | stuck => simp [l1, l2, e, onE]; rfl
theorem led_rul {n n' : Nat} {s s' : Sh} {p : List Str} (u : Sub n s p n' s') (h : Gd n s) (hn : n ≤ 4) (b : Bool) (j : Nat) (hj : 70 ≤ j) (S : Sx) : sem j "led" [.d (rul b p), .d (enc s)] S = .ok (enc s') S := by
  obtain ⟨g1, g2, g3, g4⟩ := u.gd h
  rw [led_ok _ s (h.le hn) j (by omega) S (rule_rul b p g4 (by omega) _ (by omega) S)]
  exact goal_rul u h hn b _ (by omega) S
end Law
namespace Law
open PySem PySem.Spec L2 G
theorem beh_keep (t : D) (j : Nat) (hj : 1 ≤ j) (S : Sx) : sem j "behind" [.d kD, .d t] S = .ok t S := by
  obtain ⟨j, rfl⟩ : ∃ i, j = i + 1 := ⟨j - 1, by omega⟩
  rw [u_behind]
  unfold m_behind
  simp [kD, dats]
theorem beh_field (z : Str) (l : List (Str × D)) (u : D) (h : look l z = some u) (j : Nat) (hj : 1 ≤ j) (S : Sx) : sem j "behind" [.d (fD z), .d (.dct (kd l))] S = .ok u S := by
  obtain ⟨j, rfl⟩ : ∃ i, j = i + 1 := ⟨j - 1, by omega⟩
  rw [u_behind]
  unfold m_behind
  simp [fD, dats, look_kd, h]
theorem beh_loop {j : Nat} {S : Sx} {a0 a2 a4 : Option A} : ∀ {xs : List D} {ss : List D} {t : D} (v3 : Option A), ss.length = xs.length → (∀ (i : Nat) (x a b : D), xs[i]? = some x → (t :: ss)[i]? = some a → ss[i]? = some b → sem j "behind" [.d x, .d a] S = .ok b S) →
    ∃ v3', forF (.n 3) (sAsg 1 (eOwn (sem j "behind") (aCons (eVar 3) (aCons (eVar 1) (aNil))))) xs [a0, some (.d t), a2, v3, a4] S = .nx [a0, some (.d (ss.getLastD t)), a2, v3', a4] S
  | [], [], t, v3, _, _ => ⟨v3, by simp [forF]⟩
  | x :: xs, b :: ss, t, v3, hl, h => by
    have h0 := h 0 x t b rfl rfl rfl
    obtain ⟨v3', g⟩ := beh_loop (a0 := a0) (a2 := a2) (a4 := a4) (j := j) (S := S) (xs := xs) (ss := ss) (t := b) (some (.d x)) (by simpa using hl) (fun i x a b' e1 e2 e3 => h (i + 1) x a b' (by simpa using e1) (by simpa using e2) (by simpa using e3))
    refine ⟨v3', ?_⟩
    rw [List.getLastD_cons]
    simp only [forF, bindT]
    simp [h0]
    simpa using g
theorem beh_then (xs ss : List D) (t : D) (hl : ss.length = xs.length) (j : Nat) (hj : 1 ≤ j) (S : Sx) (h : ∀ (i : Nat) (x a b : D), xs[i]? = some x → (t :: ss)[i]? = some a → ss[i]? = some b → sem (j - 1) "behind" [.d x, .d a] S = .ok b S) : sem j "behind" [.d (tD xs), .d t] S = .ok (ss.getLastD t) S := by
  obtain ⟨j, rfl⟩ : ∃ i, j = i + 1 := ⟨j - 1, by omega⟩
  rw [Nat.add_sub_cancel] at h
  rw [u_behind]
  unfold m_behind
  obtain ⟨v3, g⟩ := beh_loop (a0 := some (.d (.tup [.str "then", .tup xs]))) (a2 := some (.d (.str "then"))) (a4 := none) (j := j) (S := S) (xs := xs) (ss := ss) (t := t) none hl h
  simp [tD, itemsOf, dats]
  rw [g]
  simp
theorem beh_r1 {p : List Str} {t w v r : D} (u : Pt p t w v r) (j : Nat) (hj : 5 ≤ j) (S : Sx) : sem j "behind" [.d (r1 p), .d t] S = .ok w S := by
  cases p with
  | nil => cases u; exact beh_keep t j (by omega) S
  | cons z p =>
    have key : ∀ {p : List Str} {t w v r : D}, Pt p t w v r → ∃ ss : List D, ss.length = (p.map fD).length ∧ ss.getLastD t = w ∧ ∀ (i : Nat) (x a b : D), (p.map fD)[i]? = some x → (t :: ss)[i]? = some a → ss[i]? = some b → sem (j - 1) "behind" [.d x, .d a] S = .ok b S := by
      intro p t w v r u
      induction u with
      | nil => exact ⟨[], by simp, rfl, by simp⟩
      | @cons z p l u w v r ll nd lk h ih =>
        obtain ⟨ss, e1, e2, e3⟩ := ih
        refine ⟨u :: ss, by simpa using e1, by rw [List.getLastD_cons]; exact e2, ?_⟩
        intro i x a b f1 f2 f3
        cases i with
        | zero =>
          simp at f1 f2 f3
          subst f1 f2 f3
          exact beh_field z l u lk _ (by omega) S
        | succ i => exact e3 i x a b (by simpa using f1) (by simpa using f2) (by simpa using f3)
    obtain ⟨ss, e1, e2, e3⟩ := key u
    have := beh_then ((z :: p).map fD) ss t e1 j (by omega) S e3
    rw [e2] at this
    exact this
theorem beh_rul {p : List Str} {t w v r : D} (u : Pt p t w v r) (b : Bool) (j : Nat) (hj : 10 ≤ j) (S : Sx) : sem j "behind" [.d (rul b p), .d t] S = .ok w S := by
  cases b with
  | false => exact beh_r1 u j (by omega) S
  | true =>
    refine beh_then [kD, r1 p, tD [kD]] [t, w, w] t (by simp) j (by omega) S ?_
    intro i x a b f1 f2 f3
    match i with
    | 0 => simp at f1 f2 f3; subst f1 f2 f3; exact beh_keep _ _ (by omega) S
    | 1 => simp at f1 f2 f3; subst f1 f2 f3; exact beh_r1 u _ (by omega) S
    | 2 =>
      simp at f1 f2 f3
      subst f1 f2 f3
      refine beh_then [kD] [w] w (by simp) _ (by omega) S ?_
      intro i x a b f1 f2 f3
      match i with
      | 0 => simp at f1 f2 f3; subst f1 f2 f3; exact beh_keep _ _ (by omega) S
      | i + 1 => simp at f1
    | i + 3 => simp at f1
/-! ### is_view -/
theorem view_then (xs : List D) (f : D → Bool) (j : Nat) (hj : 1 ≤ j) (S : Sx) (h : ∀ x ∈ xs, sem (j - 1) "is_view" [.d x] S = .ok (.bl (f x)) S) : sem j "is_view" [.d (tD xs)] S = .ok (.bl (xs.all f)) S := by
  obtain ⟨j, rfl⟩ : ∃ i, j = i + 1 := ⟨j - 1, by omega⟩
  rw [Nat.add_sub_cancel] at h
  rw [u_is_view]
  unfold m_is_view
  have hc : ∀ a1 : Option A, compF (.n 1) [1] tYesF (eOwn (sem j "is_view") (aCons (eVar 1) aNil)) [some (.d (.tup [.str "then", .tup xs])), a1] xs S = .ok ((xs.map f).map .bl) S := fun a1 => by
    rw [cmp_map (g := fun x => .bl (f x))]
    · simp
    · intro x hx
      simp [turnF, bindT, wipeR, h x hx]
  have e : (xs.map f).all id = xs.all f := by rw [List.all_map]; rfl
  generalize xs.map f = X at *
  simp [tD, itemsOf, hc, e]
theorem view_leaf (w : Str) (r : List D) (hw : (w == ("then" : Str)) = false) (j : Nat) (hj : 1 ≤ j) (S : Sx) : sem j "is_view" [.d (.tup (.str w :: r))] S = .ok (.bl (([("keep" : Str), "field"]).any fun v => v == w)) S := by
  obtain ⟨j, rfl⟩ : ∃ i, j = i + 1 := ⟨j - 1, by omega⟩
  rw [u_is_view]
  unfold m_is_view
  simp [hw, dats]
theorem view_keep (j : Nat) (hj : 1 ≤ j) (S : Sx) : sem j "is_view" [.d kD] S = .ok (.bl true) S := by
  have := view_leaf "keep" [] (by simp) j hj S
  simpa [kD] using this
theorem view_field (z : Str) (j : Nat) (hj : 1 ≤ j) (S : Sx) : sem j "is_view" [.d (fD z)] S = .ok (.bl true) S := by
  have := view_leaf "field" [.str z] (by simp) j hj S
  simpa [fD] using this
theorem view_r1 (p : List Str) (j : Nat) (hj : 3 ≤ j) (S : Sx) : sem j "is_view" [.d (r1 p)] S = .ok (.bl true) S := by
  cases p with
  | nil => exact view_keep j (by omega) S
  | cons z p =>
    have := view_then ((z :: p).map fD) (fun _ => true) j (by omega) S fun x hx => by
      obtain ⟨w, hw, rfl⟩ := List.mem_map.mp hx
      exact view_field w _ (by omega) S
    have e : ((z :: p).map fD).all (fun _ => true) = true := by simp
    rw [e] at this
    exact this
theorem view_rul (b : Bool) (p : List Str) (j : Nat) (hj : 6 ≤ j) (S : Sx) : sem j "is_view" [.d (rul b p)] S = .ok (.bl true) S := by
  cases b with
  | false => exact view_r1 p j (by omega) S
  | true =>
    have := view_then [kD, r1 p, tD [kD]] (fun _ => true) j (by omega) S fun x hx => by
      simp only [List.mem_cons, List.not_mem_nil, or_false] at hx
      rcases hx with rfl | rfl | rfl
      · exact view_keep _ (by omega) S
      · exact view_r1 p _ (by omega) S
      · have := view_then [kD] (fun _ => true) (j - 1) (by omega) S fun x hx => by
          simp at hx; subst hx; exact view_keep _ (by omega) S
        simpa using this
    simpa [rul, r2] using this
/-! ### with_part -/
theorem wp_keep (t v : D) (j : Nat) (hj : 1 ≤ j) (S : Sx) : sem j "with_part" [.d kD, .d t, .d v] S = .ok v S := by
  obtain ⟨j, rfl⟩ : ∃ i, j = i + 1 := ⟨j - 1, by omega⟩
  rw [u_with_part]
  unfold m_with_part
  simp [kD]
theorem wp_nil (t v : D) (j : Nat) (hj : 1 ≤ j) (S : Sx) : sem j "with_part" [.d (tD []), .d t, .d v] S = .ok v S := by
  obtain ⟨j, rfl⟩ : ∃ i, j = i + 1 := ⟨j - 1, by omega⟩
  rw [u_with_part]
  unfold m_with_part
  simp [tD, dats]
theorem wp_field (z : Str) (l : List (Str × D)) (nd : (l.map (·.1)).Nodup) (v : D) (j : Nat) (hj : 1 ≤ j) (S : Sx) : sem j "with_part" [.d (fD z), .d (.dct (kd l)), .d v] S = .ok (.dct (kd (chgK z v l))) S := by
  obtain ⟨j, rfl⟩ : ∃ i, j = i + 1 := ⟨j - 1, by omega⟩
  rw [u_with_part]
  unfold m_with_part
  have ek : (kd l).map (fun kv => keyVal kv.1) = l.map fun q => .str q.1 := by simp [kd, keyVal]
  have cm : chgK z v l = l.map fun q => (q.1, if q.1 = z then v else q.2) := by
    clear ek nd
    induction l with
    | nil => rfl
    | cons q r ih =>
      rw [chgK, ih, List.map_cons]
      congr 1
      by_cases e : q.1 = z
      · rw [if_pos e, if_pos e, e]
      · rw [if_neg e, if_neg e]
  have hc : ∀ a3 a4 : Option A, compF (.n 4) [4] tYesF (eTup (aCons (eVar 4) (aCons (eIf (tst (eOp eqO (eVar 4) (eIx (eVar 0) (eC (.int 1))))) (eVar 2) (eIx (eVar 1) (eVar 4))) (aNil)))) [some (.d (.tup [.str "field", .str z])), some (.d (.dct (kd l))), some (.d v), a3, a4] (l.map fun q => .str q.1) S = .ok ((chgK z v l).map fun q => .tup [.str q.1, q.2]) S := fun a3 a4 => by
    rw [cmp_overM (g := fun q => .tup [.str q.1, if q.1 = z then v else q.2]), cm]
    · simp
    · intro q hq
      have l1 := look_in nd hq
      by_cases e : q.1 = z <;> simp [turnF, bindT, wipeR, e, look_kd, l1, dats]
  have hpk := pairsK (chgK z v l)
  have hm := mergeN (l := kd (chgK z v l)) (acc := []) (by
    have e1 : (kd (chgK z v l)).map (·.1) = ((chgK z v l).map (·.1)).map Sum.inr := by simp [kd]
    rw [List.nil_append, e1, chgK_names]; exact nd_inr nd)
  rw [List.nil_append] at hm
  generalize chgK z v l = X at *
  simp [fD, ek, hc, hpk, hm]
theorem eqt_cons (x : D) (xs : List D) (h : strKL (x :: xs) = true) : eqD (.tup (x :: xs)) (.tup []) = some false := by
  unfold eqD
  rw [if_pos ⟨by simpa [strK] using h, by simp [strK, strKL], by simp [depthD, depthL]⟩]
  simp [eqvD, eqvL]
theorem wp_then (x : D) (xs : List D) (t b v r1 r : D) (hk : strKL (x :: xs) = true) (j : Nat) (hj : 1 ≤ j) (S : Sx) (h1 : sem (j - 1) "behind" [.d x, .d t] S = .ok b S) (h2 : sem (j - 1) "with_part" [.d (tD xs), .d b, .d v] S = .ok r1 S) (h3 : sem (j - 1) "with_part" [.d x, .d t, .d r1] S = .ok r S) : sem j "with_part" [.d (tD (x :: xs)), .d t, .d v] S = .ok r S := by
  obtain ⟨j, rfl⟩ : ∃ i, j = i + 1 := ⟨j - 1, by omega⟩
  rw [Nat.add_sub_cancel] at h1 h2 h3
  rw [u_with_part]
  unfold m_with_part
  have c1 := cutDr (x :: xs) 1
  simp at c1
  have e := eqt_cons x xs hk
  simp only [tD] at h2 ⊢
  simp [dats, e, slD, c1, h1, h2, h3]
theorem strK_fs : ∀ p : List Str, strKL (p.map fD) = true
  | [] => rfl
  | z :: p => by simp [strKL, strK_fs p, fD, strK]
theorem wp_path {p : List Str} {t w v r : D} (u : Pt p t w v r) : ∀ (j : Nat) (S : Sx), 2 * p.length + 5 ≤ j → sem j "with_part" [.d (tD (p.map fD)), .d t, .d v] S = .ok r S := by
  induction u with
  | nil => intro j S hj; exact wp_nil _ _ j (by omega) S
  | @cons z p l u w v r ll nd lk h ih =>
    intro j S hj
    simp only [List.length_cons] at hj
    exact wp_then (fD z) (p.map fD) _ u v r _ (strK_fs (z :: p)) j (by omega) S (beh_field z l u lk _ (by omega) S) (ih _ S (by omega)) (wp_field z l nd r _ (by omega) S)
theorem wp_r1 {p : List Str} {t w v r : D} (u : Pt p t w v r) (j : Nat) (hj : 2 * p.length + 6 ≤ j) (S : Sx) : sem j "with_part" [.d (r1 p), .d t, .d v] S = .ok r S := by
  cases p with
  | nil => cases u; exact wp_keep _ _ j (by omega) S
  | cons z p => exact wp_path u j S (by omega)
theorem wp_rul {p : List Str} {t w v r : D} (u : Pt p t w v r) (b : Bool) (j : Nat) (hj : 2 * p.length + 20 ≤ j) (S : Sx) : sem j "with_part" [.d (rul b p), .d t, .d v] S = .ok r S := by
  cases b with
  | false => exact wp_r1 u j (by omega) S
  | true =>
    have k1 : strKL [kD, r1 p, tD [kD]] = true := by
      have : strK (r1 p) = true := by
        cases p with
        | nil => simp [r1, kD, strK, strKL]
        | cons z p =>
          have := strK_fs (z :: p)
          simpa [r1, tD, strK, strKL] using this
      simp [strKL, this, kD, tD, strK]
    have k2 : strKL [r1 p, tD [kD]] = true := by
      simp only [strKL, Bool.and_eq_true] at k1 ⊢
      exact k1.2
    refine wp_then kD [r1 p, tD [kD]] t t v r r k1 j (by omega) S (beh_keep t _ (by omega) S) ?_ (wp_keep _ _ _ (by omega) S)
    refine wp_then (r1 p) [tD [kD]] t w v v r k2 _ (by omega) S (beh_r1 u _ (by omega) S) ?_ (wp_r1 u _ (by omega) S)
    refine wp_then (tD [kD]) [] w w v v v (by simp [strKL, kD, tD, strK]) _ (by omega) S ?_ (wp_nil _ _ _ (by omega) S) ?_
    · refine beh_then [kD] [w] w (by simp) _ (by omega) S ?_
      intro i x a b f1 f2 f3
      match i with
      | 0 => simp at f1 f2 f3; subst f1 f2 f3; exact beh_keep _ _ (by omega) S
      | i + 1 => simp at f1
    · exact wp_then kD [] w w v v v (by simp [strKL, kD, strK]) _ (by omega) S (beh_keep w _ (by omega) S) (wp_nil _ _ _ (by omega) S) (wp_keep _ _ _ (by omega) S)
/-! ### lead, put -/
section
variable {n' : Nat} {s s' : Sh} {p : List Str} (u : Sub 4 s p n' s') (h : Gd 4 s)
include u h
theorem lead_sem {t w v r : D} (ot : oneP 4 s t = true) (ow : oneP n' s' w = true) (pt : Pt p t w v r) (b : Bool) (j : Nat) (hj : 80 ≤ j) (S : Sx) : sem j "lead" [.d (rul b p), .d (enc s), .d t] S = .ok w S := by
  obtain ⟨j, rfl⟩ : ∃ i, j = i + 1 := ⟨j - 1, by omega⟩
  rw [u_lead]
  unfold m_lead
  obtain ⟨g1, g2, g3, g4⟩ := u.gd h
  have l1 := led_rul u h (by omega) b j (by omega) S
  have l2 := lthing_sem s t h j (by omega) S
  rw [if_pos ot] at l2
  have l3 := beh_rul pt b j (by omega) S
  have l4 := copied_sem n' s' w j S g1 ow (by omega)
  simp [l1, l2, l3, l4]
theorem put_sem {t v w r : D} (ot : oneP 4 s t = true) (ov : oneP n' s' v = true) (or : oneP 4 s r = true) (pt : Pt p t w v r) (b : Bool) (j : Nat) (hj : 80 ≤ j) (S : Sx) : sem j "put" [.d (rul b p), .d (enc s), .d t, .d v] S = .ok r S := by
  obtain ⟨j, rfl⟩ : ∃ i, j = i + 1 := ⟨j - 1, by omega⟩
  rw [u_put]
  unfold m_put
  obtain ⟨g1, g2, g3, g4⟩ := u.gd h
  have l1 := led_rul u h (by omega) b j (by omega) S
  have l2 := view_rul b p j (by omega) S
  have l3 := one_sem 4 s t h j (by omega) S
  have l4 := one_sem n' s' v g1 j (by omega) S
  have l5 := wp_rul pt b j (by omega) S
  have l6 := copied_sem 4 s r j S h or (by omega)
  rw [ot] at l3
  rw [ov] at l4
  simp [l1, l2, l3, l4, l5, l6]
theorem put_bad (t v : D) (hb : oneP 4 s t = false ∨ oneP n' s' v = false) (b : Bool) (j : Nat) (hj : 80 ≤ j) (S : Sx) : sem j "put" [.d (rul b p), .d (enc s), .d t, .d v] S = .exc "BadThing" S := by
  obtain ⟨j, rfl⟩ : ∃ i, j = i + 1 := ⟨j - 1, by omega⟩
  rw [u_put]
  unfold m_put
  obtain ⟨g1, g2, g3, g4⟩ := u.gd h
  have l1 := led_rul u h (by omega) b j (by omega) S
  have l2 := view_rul b p j (by omega) S
  have l3 := one_sem 4 s t h j (by omega) S
  have l4 := one_sem n' s' v g1 j (by omega) S
  cases e : oneP 4 s t with
  | false => rw [e] at l3; simp [l1, l2, l3]
  | true =>
    rcases hb with hb | hb
    · rw [e] at hb; cases hb
    · rw [e] at l3
      rw [hb] at l4
      simp [l1, l2, l3, l4]
end
/-! ### _law_with -/
theorem putS_chgK {z : Str} {v u : D} {l : List (Str × D)} (h : look l z = some u) : putS l z v = chgK z v l := by
  unfold putS
  have h1 : (l.any fun q => decide (q.1 = z)) = true := by
    have : z ∈ l.map (·.1) := look_some.mp ⟨u, h⟩
    obtain ⟨q, hq, e⟩ := List.mem_map.mp this
    exact List.any_eq_true.mpr ⟨q, hq, by simpa using e⟩
  rw [if_pos h1]
  clear h h1
  induction l with
  | nil => rfl
  | cons q r ih =>
    rw [chgK, ← ih, List.map_cons]
    congr 1
    by_cases e : q.1 = z
    · simp [e]
    · simp [e]
theorem with_sem {p : List Str} {t w v r : D} (u : Pt p t w v r) : ∀ (j : Nat) (S : Sx), p.length + 1 ≤ j → sem j "_law_with" [.d t, .d (.tup (p.map .str)), .d v] S = .ok r S := by
  induction u with
  | nil =>
    intro j S hj
    obtain ⟨j, rfl⟩ : ∃ i, j = i + 1 := ⟨j - 1, by omega⟩
    rw [u_law_with]
    unfold m_law_with
    simp [dats]
  | @cons z p l u w v r ll nd lk h ih =>
    intro j S hj
    obtain ⟨j, rfl⟩ : ∃ i, j = i + 1 := ⟨j - 1, by omega⟩
    rw [u_law_with]
    unfold m_law_with
    have c1 := cutDr (.str z :: p.map D.str) 1
    simp at c1
    have e := eqt_cons (.str z) (p.map D.str) (by simp only [strKL, strK, Bool.true_and]; exact strKL_all fun x hx => by obtain ⟨y, _, rfl⟩ := List.mem_map.mp hx; rfl)
    have i1 := ih j S (by simp at hj; omega)
    have hl : l.length < 16777216 := by omega
    simp [dats, e, slD, c1, look_kd, lk, i1, keyD, hl, putD_kd, putS_chgK lk]
end Law
namespace Law
open PySem PySem.Spec L2 G
def pathD (p : List Str) : D := .tup (p.map .str)
theorem paths_sem : ∀ (n : Nat) (s : Sh) (j : Nat) (S : Sx), Gd n s → n ≤ 4 → n + 1 ≤ j → sem j "_law_paths" [.d (enc s)] S = .ok (.lst ((pathsN n s).map pathD)) S := by
  intro n
  induction n with
  | zero => intro s j S h; cases h
  | succ n ih =>
    intro s j S h hn hj
    obtain ⟨j, rfl⟩ : ∃ i, j = i + 1 := ⟨j - 1, by omega⟩
    rw [u_law_paths]
    unfold m_law_paths
    have hpc : pc (n + 1) ≤ 400 := by
      have : n = 0 ∨ n = 1 ∨ n = 2 ∨ n = 3 := by omega
      rcases this with rfl | rfl | rfl | rfl <;> decide
    have pl := paths_len h
    cases h with
    | @rcd _ ps h1 h2 h3 h4 =>
      obtain ⟨v, g⟩ := for_acc (t := .t [2, 3]) (f := sAsg 1 (eOp addD (eOp addD (eVar 1) (eLst (aCons (eTup (aCons (eVar 2) (aNil))) (aNil)))) (dA (eComp (iSeq (eOwn (sem j "_law_paths") (aCons (eVar 3) (aNil)))) (.n 4) [4] (tYesF) (eOp addD (eTup (aCons (eVar 2) (aNil))) (eVar 4)))))) (en := encp) (g := fun p => pathD [p.1] :: ((pathsN n p.2).map (p.1 :: ·)).map pathD) (mk := fun acc (v : Option A × Option A) => [some (.d (.tup [.str "rec", .tup (ps.map encp)])), some (.d (.lst acc)), v.1, v.2, none]) (S := S) (xs := ps) (fun p hp acc v hl => by
        have i1 := ih p.2 j S (h3 p hp) (by omega) (by omega)
        refine ⟨[some (.d (.tup [.str "rec", .tup (ps.map encp)])), some (.d (.lst acc)), some (.d (.str p.1)), some (.d (enc p.2)), none], (some (.d (.str p.1)), some (.d (enc p.2))), by simp [bindT, setAll], ?_⟩
        have hc : ∀ a0 a1 a3 : Option A, compF (.n 4) [4] tYesF (eOp addD (eTup (aCons (eVar 2) (aNil))) (eVar 4)) [a0, a1, some (.d (.str p.1)), a3, none] ((pathsN n p.2).map pathD) S = .ok (((pathsN n p.2).map (p.1 :: ·)).map pathD) S := fun a0 a1 a3 => by
          rw [cmp_overM (g := fun q => pathD (p.1 :: q))]
          · simp
          · intro q hq
            obtain ⟨_, n', s', u⟩ := paths_sub hq
            have ql : q.length ≤ 100 := by have := (u.gd (h3 p hp)).2.2.1; omega
            have ad : addD (.tup [.str p.1]) (.tup (q.map .str)) = some (.tup ([.str p.1] ++ q.map .str)) := addD_tup (by simp; omega)
            simp [turnF, bindT, wipeR, dats, pathD, ad]
        simp only [List.length_cons] at hl
        have l1 : acc.length + [D.tup [.str p.1]].length ≤ 16777216 := by simp; omega
        have l2 : (acc ++ [D.tup [.str p.1]]).length + (((pathsN n p.2).map (p.1 :: ·)).map pathD).length ≤ 16777216 := by simp at hl ⊢; omega
        have a1 := addD_lst l1
        have a2 := addD_lst l2
        generalize ((pathsN n p.2).map (p.1 :: ·)).map pathD = X at *
        generalize (pathsN n p.2).map pathD = Y at *
        simp [dats, a1, i1, itemsOf, hc]
        simp at a2
        simp [a2, pathD]) [] (none, none) (by
          have e : (ps.flatMap fun p => pathD [p.1] :: ((pathsN n p.2).map (p.1 :: ·)).map pathD) = (pathsN (n + 1) (.rcd ps)).map pathD := by rw [pathsN, List.map_flatMap]; rfl
          rw [e]; simp; omega)
      have e : (ps.flatMap fun p => pathD [p.1] :: ((pathsN n p.2).map (p.1 :: ·)).map pathD) = (pathsN (n + 1) (.rcd ps)).map pathD := by rw [pathsN, List.map_flatMap]; rfl
      rw [e] at g
      simp only [List.nil_append] at g
      simp [enc, encs_map, dats, itemsOf]
      rw [g]
      simp
    | _ => simp [enc, dats, itemsOf, forF, pathsN]
def fieldD : List Str → D
  | [z] => fD z
  | p => tD (p.map fD)
theorem field_more (z : Str) {q : List Str} (h : q ≠ []) : fieldD (z :: q) = tD (fD z :: q.map fD) := by cases q <;> first | exact absurd rfl h | rfl
theorem fields_sem : ∀ (n : Nat) (s : Sh) (j : Nat) (S : Sx), Gd n s → n ≤ 4 → n + 20 ≤ j → sem j "fields" [.d (enc s)] S = .ok (.lst ((pathsN n s).map fieldD)) S := by
  intro n
  induction n with
  | zero => intro s j S h; cases h
  | succ n ih =>
    intro s j S h hn hj
    obtain ⟨j, rfl⟩ : ∃ i, j = i + 1 := ⟨j - 1, by omega⟩
    rw [u_fields]
    unfold m_fields
    have ls := look_sem s (h.le (by omega)) j (by omega) S
    have hpc : pc (n + 1) ≤ 400 := by
      have : n = 0 ∨ n = 1 ∨ n = 2 ∨ n = 3 := by omega
      rcases this with rfl | rfl | rfl | rfl <;> decide
    have pl := paths_len h
    cases h with
    | @rcd _ ps h1 h2 h3 h4 =>
      have e : (ps.flatMap fun p => fieldD [p.1] :: ((pathsN n p.2).map (p.1 :: ·)).map fieldD) = (pathsN (n + 1) (.rcd ps)).map fieldD := by rw [pathsN, List.map_flatMap]; rfl
      obtain ⟨v, g⟩ := for_acc (t := .t [2, 3]) (f := sSeq (sApp 1 (eTup (aCons (eC (.str "field")) (aCons (eVar 2) (aNil))))) (sFor (iSeq (eOwn (sem j "fields") (aCons (eVar 3) (aNil)))) (.n 4) (sApp 1 (eTup (aCons (eC (.str "then")) (aCons (eOp addD (eTup (aCons (eTup (aCons (eC (.str "field")) (aCons (eVar 2) (aNil)))) (aNil))) (eIf (tst (eOp eqO (eIx (eVar 4) (eC (.int 0))) (eC (.str "then")))) (eIx (eVar 4) (eC (.int 1))) (eTup (aCons (eVar 4) (aNil))))) (aNil))))))) (en := encp) (g := fun p => fieldD [p.1] :: ((pathsN n p.2).map (p.1 :: ·)).map fieldD) (mk := fun acc (v : Option A × Option A × Option A) => [some (.d (.tup [.str "rec", .tup (ps.map encp)])), some (.d (.lst acc)), v.1, v.2.1, v.2.2]) (S := S) (xs := ps) (fun p hp acc v hl => by
        have i1 := ih p.2 j S (h3 p hp) (by omega) (by omega)
        simp only [List.length_cons] at hl
        have e2 : ((pathsN n p.2).flatMap fun q => [fieldD (p.1 :: q)]) = ((pathsN n p.2).map (p.1 :: ·)).map fieldD := by
          rw [List.map_map]
          induction pathsN n p.2 with
          | nil => rfl
          | cons a r ih => simp [List.flatMap_cons, ih]
        obtain ⟨v4, g2⟩ := for_acc (t := .n 4) (f := sApp 1 (eTup (aCons (eC (.str "then")) (aCons (eOp addD (eTup (aCons (eTup (aCons (eC (.str "field")) (aCons (eVar 2) (aNil)))) (aNil))) (eIf (tst (eOp eqO (eIx (eVar 4) (eC (.int 0))) (eC (.str "then")))) (eIx (eVar 4) (eC (.int 1))) (eTup (aCons (eVar 4) (aNil))))) (aNil))))) (en := fieldD) (g := fun q => [fieldD (p.1 :: q)]) (mk := fun acc (v : Option A) => [some (.d (.tup [.str "rec", .tup (ps.map encp)])), some (.d (.lst acc)), some (.d (.str p.1)), some (.d (enc p.2)), v]) (S := S) (xs := pathsN n p.2) (fun q hq acc v hl => by
          obtain ⟨hq0, n', s', u⟩ := paths_sub hq
          have ql : q.length ≤ 100 := by have := (u.gd (h3 p hp)).2.2.1; omega
          refine ⟨[some (.d (.tup [.str "rec", .tup (ps.map encp)])), some (.d (.lst acc)), some (.d (.str p.1)), some (.d (enc p.2)), some (.d (fieldD q))], some (.d (fieldD q)), by simp [bindT], ?_⟩
          have hl' : acc.length < 16777216 := by simp at hl; omega
          rw [field_more p.1 hq0]
          match q, hq0, ql with
          | [z], _, _ =>
            have ad : addD (.tup [.tup [.str "field", .str p.1]]) (.tup [.tup [.str "field", .str z]]) = some (.tup [.tup [.str "field", .str p.1], .tup [.str "field", .str z]]) := addD_tup (by simp)
            simp [fieldD, fD, tD, dats, ad, hl']
          | z :: z2 :: q, _, ql =>
            have ad : addD (.tup [.tup [.str "field", .str p.1]]) (.tup ((z :: z2 :: q).map fD)) = some (.tup ([.tup [.str "field", .str p.1]] ++ (z :: z2 :: q).map fD)) := addD_tup (by simp at ql ⊢; omega)
            simp only [List.map_cons] at ad
            simp [fieldD, tD, dats, ad, hl']
            simp [fD]) (acc ++ [fieldD [p.1]]) v.2.2 (by rw [e2]; simp at hl ⊢; omega)
        rw [e2] at g2
        refine ⟨[some (.d (.tup [.str "rec", .tup (ps.map encp)])), some (.d (.lst acc)), some (.d (.str p.1)), some (.d (enc p.2)), v.2.2], (some (.d (.str p.1)), some (.d (enc p.2)), v4), by simp [bindT, setAll], ?_⟩
        have hl' : acc.length < 16777216 := by simp at hl; omega
        have e3 : fieldD [p.1] = .tup [.str "field", .str p.1] := rfl
        rw [e3] at g2 ⊢
        generalize ((pathsN n p.2).map (p.1 :: ·)).map fieldD = X at *
        simp [dats, hl', i1, itemsOf]
        rw [g2]
        simp) [] (none, none, none) (by rw [e]; simp; omega)
      rw [e] at g
      simp only [List.nil_append] at g
      simp only [enc, encs_map] at ls
      simp [enc, encs_map, ls, dats, itemsOf]
      rw [g]
      simp
    | num h1 h2 h3 => simp only [enc] at ls; simp [enc, ls, dats, pathsN]
    | tru => simp only [enc] at ls; simp [enc, ls, dats, pathsN]
    | wrd h1 h2 h3 h4 => simp only [enc] at ls; simp [enc, ls, dats, pathsN]
    | txt h1 => simp only [enc] at ls; simp [enc, ls, dats, pathsN]
    | lis h1 h2 => simp only [enc] at ls; simp [enc, ls, dats, pathsN]
    | may h1 h2 => simp only [enc] at ls; simp [enc, ls, dats, pathsN]
    | knd h1 h2 h3 h4 h5 => simp only [enc] at ls; simp [enc, ls, dats, pathsN]
/-! ### _law_rec -/
def bR : Nat → Nat
  | 0 => 0
  | d + 1 => 100 + 4 * (bR d + 2)
theorem rec_loop {k d b : Nat} {ns : List Int} (hk : 4 ≤ k) (hd1 : 1 ≤ d) (sub : 1 < d → ∀ N, N + 9 * b + 400 < 16777216 → Rn (sem k "_law_rec" [.scr ns, .hot 0, .d (.int ((d : Int) - 1))] [.zs N]) N b (fun x => ∃ s, x = enc s ∧ Gd d s)) : ∀ {ws : List Str} {qs : List (Str × Sh)} {N : Nat} {v4 v5 v6 : Option A},
    qs.length + ws.length ≤ 100 → N + ws.length * (b + 2) + 9 * b + 500 < 16777216 →
    ∃ qs' N' v4' v5' v6', forF (.n 4) (sSeq (sAsg 5 (eIf (tAndF (tst (eOp gtD (eVar 2) (eC (.int 1)))) (tst (eOp eqO (eOwn (sem k "_law_draw") (aCons (eVar 0) (aCons (eVar 1) (aCons (eC (.int 2)) (aNil))))) (eC (.int 0))))) (eOwn (sem k "_law_rec") (aCons (eVar 0) (aCons (eVar 1) (aCons (eOp subD (eVar 2) (eC (.int 1))) (aNil))))) (eTup (aCons (eC (.str "truth")) (aNil))))) (sSeq (sAsg 6 (eIf (tst (eOp gtD (eVar 2) (eC (.int 1)))) (eTup (aCons (eC (.str "maybe")) (aCons (eTup (aCons (eC (.str "text")) (aCons (eC (.int 2)) (aNil)))) (aNil)))) (eTup (aCons (eC (.str "text")) (aCons (eC (.int 2)) (aNil)))))) (sApp 3 (eTup (aCons (eVar 4) (aCons (eOwn (sem k "_law_pick") (aCons (eVar 0) (aCons (eVar 1) (aCons (eLst (aCons (eVar 5) (aCons (eVar 5) (aCons (eTup (aCons (eC (.str "number")) (aCons (eC (.int 0)) (aCons (eC (.int 9)) (aNil))))) (aCons (eVar 6) (aNil)))))) (aNil))))) (aNil)))))))
      (ws.map .str) [some (.scr ns), some (.hot 0), some (.d (.int (d : Nat))), some (.d (.lst (encs qs))), v4, v5, v6] [.zs N] =
      .nx [some (.scr ns), some (.hot 0), some (.d (.int (d : Nat))), some (.d (.lst (encs (qs ++ qs')))), v4', v5', v6'] [.zs N'] ∧ N ≤ N' ∧ N' ≤ N + ws.length * (b + 2) ∧ qs'.map (·.1) = ws ∧ ∀ q ∈ qs', Gd d q.2
  | [], qs, N, v4, v5, v6, _, _ => ⟨[], N, v4, v5, v6, by simp [forF], Nat.le_refl _, by simp, rfl, by simp⟩
  | w :: ws, qs, N, v4, v5, v6, hl, hN => by
    have e : (w :: ws).length * (b + 2) = ws.length * (b + 2) + (b + 2) := by rw [List.length_cons, Nat.succ_mul]
    have hll : (encs qs).length < 16777216 := by rw [encs_map, List.length_map]; simp at hl; omega
    have key : ∃ s N1 i5 m6, Gd d s ∧ N ≤ N1 ∧ N1 ≤ N + (b + 2) ∧ ∀ v4 v5 v6 : Option A, (sSeq (sAsg 5 (eIf (tAndF (tst (eOp gtD (eVar 2) (eC (.int 1)))) (tst (eOp eqO (eOwn (sem k "_law_draw") (aCons (eVar 0) (aCons (eVar 1) (aCons (eC (.int 2)) (aNil))))) (eC (.int 0))))) (eOwn (sem k "_law_rec") (aCons (eVar 0) (aCons (eVar 1) (aCons (eOp subD (eVar 2) (eC (.int 1))) (aNil))))) (eTup (aCons (eC (.str "truth")) (aNil))))) (sSeq (sAsg 6 (eIf (tst (eOp gtD (eVar 2) (eC (.int 1)))) (eTup (aCons (eC (.str "maybe")) (aCons (eTup (aCons (eC (.str "text")) (aCons (eC (.int 2)) (aNil)))) (aNil)))) (eTup (aCons (eC (.str "text")) (aCons (eC (.int 2)) (aNil)))))) (sApp 3 (eTup (aCons (eVar 4) (aCons (eOwn (sem k "_law_pick") (aCons (eVar 0) (aCons (eVar 1) (aCons (eLst (aCons (eVar 5) (aCons (eVar 5) (aCons (eTup (aCons (eC (.str "number")) (aCons (eC (.int 0)) (aCons (eC (.int 9)) (aNil))))) (aCons (eVar 6) (aNil)))))) (aNil))))) (aNil)))))))
      [some (.scr ns), some (.hot 0), some (.d (.int (d : Nat))), some (.d (.lst (encs qs))), some (.d (.str w)), v5, v6] [.zs N] = .nx [some (.scr ns), some (.hot 0), some (.d (.int (d : Nat))), some (.d (.lst (encs qs ++ [.tup [.str w, enc s]]))), some (.d (.str w)), i5, m6] [.zs N1] := by
      obtain ⟨d, rfl⟩ : ∃ i, d = i + 1 := ⟨d - 1, by omega⟩
      have pk : ∀ (i5 more : Sh) (N1 : Nat), N1 < 16777216 → Gd (d + 1) i5 → Gd (d + 1) more → ∃ s, Gd (d + 1) s ∧ sem k "_law_pick" [.scr ns, .hot 0, .d (.lst [enc i5, enc i5, .tup [.str "number", .int 0, .int 9], enc more])] [.zs N1] = .ok (enc s) [.zs (N1 + 1)] := by
        intro i5 more N1 h1 h2 h3
        obtain ⟨y, hy, p1⟩ := pick_lst (k - 4) ns [enc i5, enc i5, .tup [.str "number", .int 0, .int 9], enc more] N1 (by simp) h1
        rw [show k - 4 + 4 = k by omega] at p1
        simp only [List.mem_cons, List.not_mem_nil, or_false] at hy
        rcases hy with rfl | rfl | rfl | rfl
        · exact ⟨i5, h2, p1⟩
        · exact ⟨i5, h2, p1⟩
        · exact ⟨.num 0 9, .num (by omega) (by omega) (by omega), by simpa only [enc] using p1⟩
        · exact ⟨more, h3, p1⟩
      by_cases c : 1 < d + 1
      · have c' : (1 : Int) < ((d + 1 : Nat) : Int) := by omega
        have c'' : (1 : Int) < (d : Int) + 1 := by omega
        obtain ⟨r, r1, r2⟩ := draw_ok (k - 3) ns 2 N (by decide) (by omega)
        rw [show k - 3 + 3 = k by omega] at r2
        have hm : Gd (d + 1) (.may (.txt 2)) := by
          obtain ⟨d, rfl⟩ : ∃ i, d = i + 1 := ⟨d - 1, by omega⟩
          exact .may (.txt (by omega)) rfl
        by_cases r0 : ((r : Int) == 0) = true
        · obtain ⟨x, N2, s1, s2, s3, s, rfl, s4⟩ := sub c (N + 1) (by omega)
          obtain ⟨s5, g5, p1⟩ := pk s (.may (.txt 2)) N2 (by omega) s4 hm
          refine ⟨s5, N2 + 1, some (.d (enc s)), some (.d (enc (.may (.txt 2)))), g5, by omega, by omega, fun v4 v5 v6 => ?_⟩
          simp [enc] at p1 s1
          simp [c'', r2, r0, s1, dats, p1, hll, enc]
        · simp only [Bool.not_eq_true] at r0
          obtain ⟨s5, g5, p1⟩ := pk .tru (.may (.txt 2)) (N + 1) (by omega) .tru hm
          refine ⟨s5, N + 1 + 1, some (.d (enc .tru)), some (.d (enc (.may (.txt 2)))), g5, by omega, by omega, fun v4 v5 v6 => ?_⟩
          simp [enc] at p1
          simp [c'', r2, r0, dats, p1, hll, enc]
      · have c' : ¬ (1 : Int) < ((d + 1 : Nat) : Int) := by omega
        have c'' : ¬ (1 : Int) < (d : Int) + 1 := by omega
        obtain ⟨s5, g5, p1⟩ := pk .tru (.txt 2) N (by omega) .tru (.txt (by omega))
        refine ⟨s5, N + 1, some (.d (enc .tru)), some (.d (enc (.txt 2))), g5, by omega, by omega, fun v4 v5 v6 => ?_⟩
        simp [enc] at p1
        simp [c'', dats, p1, hll, enc]
    obtain ⟨s, N1, i5, m6, gs, n1, n2, kf⟩ := key
    have kf := kf v4 v5 v6
    have ee : encs (qs ++ [(w, s)]) = encs qs ++ [.tup [.str w, enc s]] := by simp [encs_map]
    rw [← ee] at kf
    obtain ⟨qs', N2, v4', v5', v6', g1, g2, g3, g4, g5⟩ := rec_loop hk hd1 sub (ws := ws) (qs := qs ++ [(w, s)]) (N := N1) (v4 := some (.d (.str w))) (v5 := i5) (v6 := m6) (by simp at hl ⊢; omega) (by omega)
    refine ⟨(w, s) :: qs', N2, v4', v5', v6', ?_, by omega, by omega, by simp [g4], fun q hq => ?_⟩
    · rw [List.map_cons]
      simp only [forF]
      have hb : bindT (.n 4) (.str w) [some (.scr ns), some (.hot 0), some (.d (.int (d : Nat))), some (.d (.lst (encs qs))), v4, v5, v6] = some [some (.scr ns), some (.hot 0), some (.d (.int (d : Nat))), some (.d (.lst (encs qs))), some (.d (.str w)), v5, v6] := by simp [bindT]
      rw [hb]
      dsimp only
      rw [kf]
      dsimp only
      rw [g1]
      simp
    · rcases List.mem_cons.mp hq with rfl | hq
      · exact gs
      · exact g5 q hq
theorem lrec_ok : ∀ (d j : Nat) (ns : List Int) (N : Nat), 1 ≤ d → N + 9 * bR d + 400 < 16777216 → d + 7 ≤ j → Rn (sem j "_law_rec" [.scr ns, .hot 0, .d (.int (d : Nat))] [.zs N]) N (bR d) (fun x => ∃ ps, x = enc (.rcd ps) ∧ Gd (d + 1) (.rcd ps) ∧ 1 ≤ ps.length) := by
  intro d
  induction d with
  | zero => intro j ns N h; omega
  | succ d ih =>
    intro j ns N _ hN hj
    have hb : bR (d + 1) = 100 + 4 * (bR d + 2) := rfl
    obtain ⟨j, rfl⟩ : ∃ i, j = i + 7 := ⟨j - 7, by omega⟩
    rw [show j + 7 = (j + 6) + 1 by omega, u_law_rec]
    unfold m_law_rec
    obtain ⟨x, N1, w1, w2, w3, ws, rfl, w4, w5, w6, w7⟩ := lwords_ok j ns 1 N (by decide) (by omega)
    have hw : ws.length * (bR d + 2) ≤ 4 * (bR d + 2) := Nat.mul_le_mul_right _ w5
    obtain ⟨qs, N2, v4, v5, v6, g1, g2, g3, g4, g5⟩ := rec_loop (k := j + 6) (d := d + 1) (b := bR d) (ns := ns) (by omega) (by omega) (fun hd N hN => by
      obtain ⟨x, n', a1, a2, a3, ps, rfl, a4, _⟩ := ih (j + 6) ns N (by omega) (by omega) (by omega)
      refine ⟨_, n', ?_, a2, a3, _, rfl, a4⟩
      rw [show (((d + 1 : Nat) : Int) - 1) = (d : Nat) by omega]; exact a1) (ws := ws) (qs := []) (N := N1) (v4 := none) (v5 := none) (v6 := none) (by simp; omega) (by omega)
    have ql : qs.length = ws.length := by rw [← g4, List.length_map]
    refine ⟨enc (.rcd qs), N2, ?_, by omega, by omega, qs, rfl, .rcd (by omega) (fun p hp => w6 _ (by rw [← g4]; exact List.mem_map_of_mem hp)) g5 (by rw [g4]; exact w7), by omega⟩
    simp at w1 g1
    simp [w1, dats, itemsOf]
    have ee : encs ([] : List (Str × Sh)) = [] := rfl
    rw [ee] at g1
    rw [g1]
    simp [tupleG, dats, enc]
end Law
namespace Law
open PySem PySem.Spec L2 G
/-! ### _law_levels -/
@[simp] theorem in2l (z : Str) : inD (.str z) (.tup [.str "list", .str "maybe"]) = some (.bl (([("list" : Str), "maybe"]).any fun w => w == z)) := inD_words (ws := ["list", "maybe"])
@[simp] theorem in2r (z : Str) : inD (.str z) (.tup [.str "rec", .str "kind"]) = some (.bl (([("rec" : Str), "kind"]).any fun w => w == z)) := inD_words (ws := ["rec", "kind"])
@[simp] theorem in2g (z : Str) : inD (.str z) (.tup [.str "give", .str "wide"]) = some (.bl (([("give" : Str), "wide"]).any fun w => w == z)) := inD_words (ws := ["give", "wide"])
theorem lvs_mem : ∀ ps : List (Str × Sh), lvs ps = 0 ∨ ∃ p ∈ ps, lv p.2 = lvs ps
  | [] => .inl rfl
  | p :: r => by
    simp only [lvs, lvp_e]
    rcases lvs_mem r with h | ⟨q, hq, h⟩
    · by_cases c : lv p.2 ≤ lvs r
      · exact .inl (by omega)
      · exact .inr ⟨p, List.mem_cons_self, by omega⟩
    · by_cases c : lv p.2 ≤ lvs r
      · exact .inr ⟨q, List.mem_cons_of_mem _ hq, by omega⟩
      · exact .inr ⟨p, List.mem_cons_self, by omega⟩
theorem maxI_lvs (ps : List (Str × Sh)) : maxI (0 :: ps.map fun p => ((lv p.2 : Nat) : Int)) = (lvs ps : Nat) := by
  obtain ⟨h1, h2⟩ := maxI_ok (ns := 0 :: ps.map fun p => ((lv p.2 : Nat) : Int)) (by simp)
  generalize maxI (0 :: ps.map fun p => ((lv p.2 : Nat) : Int)) = m at *
  have a : m ≤ (lvs ps : Nat) := by
    rcases List.mem_cons.mp h1 with rfl | h1
    · omega
    · obtain ⟨p, hp, rfl⟩ := List.mem_map.mp h1
      have := lvs_le.mp (Nat.le_refl (lvs ps)) p hp
      omega
  have b : ((lvs ps : Nat) : Int) ≤ m := by
    rcases lvs_mem ps with h | ⟨p, hp, h⟩
    · have := h2 0 List.mem_cons_self; omega
    · have := h2 (lv p.2 : Nat) (List.mem_cons_of_mem _ (List.mem_map.mpr ⟨p, hp, rfl⟩)); omega
  omega
theorem levels_sem : ∀ (n : Nat) (s : Sh) (j : Nat) (S : Sx), Gd n s → n + 1 ≤ j → sem j "_law_levels" [.d (enc s)] S = .ok (.int (lv s : Nat)) S := by
  intro n
  induction n with
  | zero => intro s j S h; cases h
  | succ n ih =>
    intro s j S h hj
    obtain ⟨j, rfl⟩ : ∃ i, j = i + 1 := ⟨j - 1, by omega⟩
    rw [u_law_levels]
    unfold m_law_levels
    have parts : ∀ (w : Str) (ps : List (Str × Sh)), ps.length ≤ 4 → (∀ p ∈ ps, Gd n p.2) → ∀ a1 a2 : Option A, compF (.t [1, 2]) [1, 2] tYesF (eOwn (sem j "_law_levels") (aCons (eVar 2) aNil)) [some (.d (.tup [.str w, .tup (ps.map encp)])), a1, a2] (ps.map encp) S = .ok ((ps.map fun p => ((lv p.2 : Nat) : Int)).map .int) S := fun w ps h1 h3 a1 a2 => by
      rw [cmp_overM (g := fun p => .int (lv p.2 : Nat))]
      · simp
      · intro p hp
        simp [turnF, bindT, wipeR, setAll, ih p.2 j S (h3 p hp) (by omega)]
    have mx : ∀ (ps : List (Str × Sh)), ps.length ≤ 4 → ∃ X, addD (.lst [.int 0]) (.lst ((ps.map fun p => ((lv p.2 : Nat) : Int)).map .int)) = some X ∧ maxG S [.d X] = some (.int (lvs ps : Nat)) := fun ps h1 => by
      refine ⟨_, addD_lst (by simp; omega), ?_⟩
      have e : ([D.int 0] ++ (ps.map fun p => ((lv p.2 : Nat) : Int)).map .int) = (0 :: ps.map fun p => ((lv p.2 : Nat) : Int)).map .int := by simp
      rw [e]
      have m := maxI_lvs ps
      have hne : (0 :: ps.map fun p => ((lv p.2 : Nat) : Int)).isEmpty = false := rfl
      generalize (0 :: ps.map fun p => ((lv p.2 : Nat) : Int)) = Y at *
      have hne' : Y ≠ [] := by intro z; rw [z] at hne; cases hne
      simp [maxG, hne', m]
    cases h with
    | @lis _ k s h1 h2 => simp [enc, dats, ih s j S h1 (by omega), lv]
    | @may _ s h1 h2 => simp [enc, dats, ih s j S h1 (by omega), lv]
    | @rcd _ ps h1 h2 h3 h4 =>
      obtain ⟨X, m1, m2⟩ := mx ps h1
      have pp := parts "rec" ps h1 h3
      generalize (ps.map fun p => ((lv p.2 : Nat) : Int)).map D.int = Z at *
      simp [enc, encs_map, dats, itemsOf, pp, m1, m2, lv]
    | @knd _ ps h1 h2 h3 h4 h5 =>
      obtain ⟨X, m1, m2⟩ := mx ps h2
      have pp := parts "kind" ps h2 h4
      generalize (ps.map fun p => ((lv p.2 : Nat) : Int)).map D.int = Z at *
      simp [enc, encs_map, dats, itemsOf, pp, m1, m2, lv]
    | _ => simp [enc, dats, lv]
/-! ### _law_goal -/
theorem lg_s (r : D) (s s' : Sh) (m : Nat) (hm : m ≤ 10) (h : Gd m s') (j : Nat) (hj : 20 ≤ j) (S : Sx) (g : sem (j - 1) "_law_goal_of" [.d r, .d (enc s)] S = .ok (enc s') S) : sem j "_law_goal" [.d r, .d (enc s)] S = .ok (if lv s' ≤ 4 then enc s' else .non) S := by
  obtain ⟨j, rfl⟩ : ∃ i, j = i + 1 := ⟨j - 1, by omega⟩
  rw [Nat.add_sub_cancel] at g
  rw [u_law_goal]
  unfold m_law_goal
  have l := levels_sem m s' j S h (by omega)
  by_cases c : lv s' ≤ 4
  · have c' : ¬ (4 : Int) < ((lv s' : Nat) : Int) := by omega
    simp [g, enc_notN, l, c, c']
  · have c' : (4 : Int) < ((lv s' : Nat) : Int) := by omega
    simp [g, enc_notN, l, c, c']
theorem lg_n (r s : D) (j : Nat) (hj : 20 ≤ j) (S : Sx) (g : sem (j - 1) "_law_goal_of" [.d r, .d s] S = .ok .non S) : sem j "_law_goal" [.d r, .d s] S = .ok .non S := by
  obtain ⟨j, rfl⟩ : ∃ i, j = i + 1 := ⟨j - 1, by omega⟩
  rw [Nat.add_sub_cancel] at g
  rw [u_law_goal]
  unfold m_law_goal
  simp [g, isN]
theorem lg_some (s : Sh) (m : Nat) (hm : m ≤ 9) (h : Gd m s) (j : Nat) (hj : 20 ≤ j) (S : Sx) : sem j "_law_goal" [.d (.tup [.str "some"]), .d (enc s)] S = .ok (if isMay s = false ∧ lv s ≤ 3 then enc (.may s) else .non) S := by
  obtain ⟨j, rfl⟩ : ∃ i, j = i + 2 := ⟨j - 2, by omega⟩
  obtain ⟨w, r, es, h1, h2⟩ := enc_shape s
  cases em : isMay s with
  | true =>
    rw [if_neg (by simp)]
    refine lg_n _ _ _ (by omega) S ?_
    have ew := h2 em
    subst ew
    rw [show j + 2 - 1 = j + 1 by omega, u_law_goal_of, es]
    unfold m_law_goal_of
    simp [dats]
  | false =>
    have := lg_s (.tup [.str "some"]) s (.may s) (m + 1) (by omega) (.may h em) (j + 2) (by omega) S (by
      rw [show j + 2 - 1 = j + 1 by omega, u_law_goal_of]
      unfold m_law_goal_of
      have ew := h1 em
      rw [es]
      simp [dats, ew, enc, es])
    rw [this]
    have e : (lv (.may s) ≤ 4) ↔ lv s ≤ 3 := by simp only [lv]; omega
    by_cases c : lv s ≤ 3
    · rw [if_pos (e.mpr c), if_pos ⟨rfl, c⟩]
    · rw [if_neg (fun q => c (e.mp q)), if_neg (fun q => c q.2)]
theorem lg_make (s : Sh) (j : Nat) (hj : 20 ≤ j) (S : Sx) : sem j "_law_goal" [.d (.tup [.str "make", .tup []]), .d (enc s)] S = .ok (enc (.rcd [])) S := by
  obtain ⟨j, rfl⟩ : ∃ i, j = i + 2 := ⟨j - 2, by omega⟩
  have := lg_s (.tup [.str "make", .tup []]) s (.rcd []) 1 (by omega) (.rcd (by simp) (by simp) (by simp) (by simp)) (j + 2) (by omega) S (by
    rw [show j + 2 - 1 = j + 1 by omega, u_law_goal_of]
    unfold m_law_goal_of
    have ni : notInD .non (.lst []) = some (.bl true) := by simp [notInD, inB, inSeq, flatD]
    simp [dats, itemsOf, compF, ni, tupleG, enc, encs])
  rw [this]; simp [lv, lvs]
theorem lg_give (s : Sh) (j : Nat) (hj : 20 ≤ j) (S : Sx) : sem j "_law_goal" [.d (.tup [.str "give", .tup [.str "truth"], .bl true]), .d (enc s)] S = .ok (enc .tru) S := by
  obtain ⟨j, rfl⟩ : ∃ i, j = i + 2 := ⟨j - 2, by omega⟩
  have := lg_s (.tup [.str "give", .tup [.str "truth"], .bl true]) s .tru 1 (by omega) .tru (j + 2) (by omega) S (by
    rw [show j + 2 - 1 = j + 1 by omega, u_law_goal_of]
    unfold m_law_goal_of
    simp [dats, enc])
  rw [this]; simp [lv]
theorem lpart_ok (ps : List (Str × Sh)) (nd : (ps.map (·.1)).Nodup) (z : Str) (s : Sh) (hm : (z, s) ∈ ps) (w : Str) (j : Nat) (hj : 1 ≤ j) (S : Sx) : sem j "_law_part_of" [.d (.tup [.str w, .tup (encs ps)]), .d (.str z)] S = .ok (enc s) S := by
  obtain ⟨j, rfl⟩ : ∃ i, j = i + 1 := ⟨j - 1, by omega⟩
  rw [u_law_part_of]
  unfold m_law_part_of
  rw [encs_map]
  obtain ⟨r, h⟩ := filt_look z ps
  have e := lookS_in nd hm
  dsimp only at e
  rw [e] at h
  simp [itemsOf]
  rw [cmp_over (g := fun p => if p.1 = z then some (enc p.2) else none), h]
  · simp [dats]
  · intro p hp
    by_cases e : p.1 = z <;> simp [turnF, bindT, wipeR, setAll, e]
theorem lg_field (ps : List (Str × Sh)) (z : Str) (s : Sh) (n : Nat) (hn : n ≤ 3) (h : Gd (n + 1) (.rcd ps)) (hm : (z, s) ∈ ps) (j : Nat) (hj : 20 ≤ j) (S : Sx) : sem j "_law_goal" [.d (fD z), .d (enc (.rcd ps))] S = .ok (enc s) S := by
  obtain ⟨j, rfl⟩ : ∃ i, j = i + 3 := ⟨j - 3, by omega⟩
  cases h with
  | rcd h1 h2 h3 h4 =>
    have g := h3 _ hm
    have po := lpart_ok ps h4 z s hm "rec" j (by omega) S
    have ap : sem (j + 1) "_law_goal_apart" [.d (fD z), .d (enc (.rcd ps))] S = .ok (enc s) S := by
      rw [u_law_goal_apart]
      unfold m_law_goal_apart
      simp [fD, enc, po]
    have := lg_s (fD z) (.rcd ps) s n (by omega) g (j + 3) (by omega) S (by
      rw [show j + 3 - 1 = (j + 1) + 1 by omega, u_law_goal_of]
      unfold m_law_goal_of
      simp only [fD] at ap
      simp [fD, dats, ap])
    rw [this, if_pos (Nat.le_trans g.lv (by omega))]
theorem lg_fs (ps : List (Str × Sh)) (z : Str) (s : Sh) (h : Gd 4 (.rcd ps)) (hm : (z, s) ∈ ps) (j : Nat) (hj : 30 ≤ j) (S : Sx) : sem j "_law_goal" [.d (tD [fD z, .tup [.str "some"]]), .d (enc (.rcd ps))] S = .ok (if isMay s = false then enc (.may s) else .non) S := by
  have g : Gd 3 s := by cases h with | rcd h1 h2 h3 h4 => exact h3 _ hm
  obtain ⟨j, rfl⟩ : ∃ i, j = i + 2 := ⟨j - 2, by omega⟩
  have f1 := lg_field ps z s 3 (by omega) h hm j (by omega) S
  have f2 := lg_some s 3 (by omega) g j (by omega) S
  have go : sem (j + 1) "_law_goal_of" [.d (tD [fD z, .tup [.str "some"]]), .d (enc (.rcd ps))] S = .ok (if isMay s = false then enc (.may s) else .non) S := by
    rw [u_law_goal_of]
    unfold m_law_goal_of
    have e0 : isN (.d (enc (.rcd ps))) = false := enc_notN _
    cases em : isMay s with
    | false =>
      rw [if_pos ⟨em, g.lv⟩] at f2
      simp only [fD] at f1 f2
      generalize enc (.rcd ps) = X at *
      simp [tD, fD, dats, itemsOf, forF, bindT, e0, f1, enc_notN, f2]
    | true =>
      rw [if_neg (by simp [em])] at f2
      simp only [fD] at f1 f2
      generalize enc (.rcd ps) = X at *
      simp [tD, fD, dats, itemsOf, forF, bindT, e0, f1, enc_notN, f2]
  cases em : isMay s with
  | false =>
    rw [em] at go
    simp at go
    have := lg_s (tD [fD z, .tup [.str "some"]]) (.rcd ps) (.may s) 4 (by omega) (.may g em) (j + 2) (by omega) S (by simpa using go)
    rw [this, if_pos (by simp only [lv]; have := g.lv; omega)]
    simp
  | true =>
    rw [em] at go
    simp at go
    have := lg_n (tD [fD z, .tup [.str "some"]]) (enc (.rcd ps)) (j + 2) (by omega) S (by simpa using go)
    rw [this]; simp
/-! ### led of those -/
theorem goal_some (s : Sh) (m : Nat) (hm : m ≤ 9) (h : Gd m s) (j : Nat) (hj : 40 ≤ j) (S : Sx) : sem j "goal" [.d (.tup [.str "some"]), .d (enc s)] S = if isMay s = false ∧ lv s ≤ 3 then .ok (enc (.may s)) S else .exc "BadRule" S := by
  obtain ⟨j, rfl⟩ : ∃ i, j = i + 2 := ⟨j - 2, by omega⟩
  obtain ⟨w, r, es, h1, h2⟩ := enc_shape s
  cases em : isMay s with
  | true =>
    rw [if_neg (by simp)]
    have ew := h2 em
    subst ew
    have nd := need_ok false j (by omega) S
    simp at nd
    have : sem (j + 1) "goal_of" [.d (.tup [.str "some"]), .d (enc s)] S = .exc "BadRule" S := by
      rw [u_goal_of, es]
      unfold m_goal_of
      simp [dats, nd]
    rw [show j + 2 = (j + 1) + 1 by omega, u_goal]
    unfold m_goal
    simp [this]
  | false =>
    have ew := h1 em
    have nd := need_ok true j (by omega) S
    simp at nd
    have := goal_of_ok (.tup [.str "some"]) s (.may s) (m + 1) (by omega) (.may h em) (j + 2) (by omega) S (by
      rw [show j + 2 - 1 = j + 1 by omega, u_goal_of]
      unfold m_goal_of
      rw [es]
      simp [dats, ew, nd, enc, es])
    rw [this]
    have e : (lv (.may s) ≤ 4) ↔ lv s ≤ 3 := by simp only [lv]; omega
    by_cases c : lv s ≤ 3
    · rw [if_pos (e.mpr c), if_pos ⟨rfl, c⟩]
    · rw [if_neg (fun q => c (e.mp q)), if_neg (fun q => c q.2)]
theorem goal_make (s : Sh) (j : Nat) (hj : 40 ≤ j) (S : Sx) : sem j "goal" [.d (.tup [.str "make", .tup []]), .d (enc s)] S = .ok (enc (.rcd [])) S := by
  obtain ⟨j, rfl⟩ : ∃ i, j = i + 2 := ⟨j - 2, by omega⟩
  have := goal_of_ok (.tup [.str "make", .tup []]) s (.rcd []) 1 (by omega) (.rcd (by simp) (by simp) (by simp) (by simp)) (j + 2) (by omega) S (by
    rw [show j + 2 - 1 = j + 1 by omega, u_goal_of]
    unfold m_goal_of
    simp [dats, itemsOf, compF, tupleG, enc, encs])
  rw [this]; simp [lv, lvs]
theorem goal_give (s : Sh) (j : Nat) (hj : 40 ≤ j) (S : Sx) : sem j "goal" [.d (.tup [.str "give", .tup [.str "truth"], .bl true]), .d (enc s)] S = .ok (enc .tru) S := by
  obtain ⟨j, rfl⟩ : ∃ i, j = i + 2 := ⟨j - 2, by omega⟩
  have := goal_of_ok (.tup [.str "give", .tup [.str "truth"], .bl true]) s .tru 1 (by omega) .tru (j + 2) (by omega) S (by
    rw [show j + 2 - 1 = j + 1 by omega, u_goal_of]
    unfold m_goal_of
    simp [dats, enc])
  rw [this]; simp [lv]
theorem goal_fs (ps : List (Str × Sh)) (z : Str) (s : Sh) (h : Gd 4 (.rcd ps)) (hm : (z, s) ∈ ps) (j : Nat) (hj : 60 ≤ j) (S : Sx) : sem j "goal" [.d (tD [fD z, .tup [.str "some"]]), .d (enc (.rcd ps))] S = if isMay s = false then .ok (enc (.may s)) S else .exc "BadRule" S := by
  have g : Gd 3 s := by cases h with | rcd h1 h2 h3 h4 => exact h3 _ hm
  cases em : isMay s with
  | false =>
    rw [if_pos rfl]
    refine goal_then [fD z, .tup [.str "some"]] [s, .may s] (.rcd ps) (by simp) j (by omega) S (.may g em) ?_
    intro i x a b f1 f2 f3
    match i with
    | 0 => simp at f1 f2 f3; subst f1 f2 f3; exact goal_field ps z _ 3 (by omega) h hm _ (by omega) S
    | 1 =>
      simp at f1 f2 f3; subst f1 f2 f3
      have := goal_some s 3 (by omega) g (j - 2) (by omega) S
      rwa [if_pos ⟨em, g.lv⟩] at this
    | i + 2 => simp at f1
  | true =>
    rw [if_neg (by simp)]
    obtain ⟨j, rfl⟩ : ∃ i, j = i + 2 := ⟨j - 2, by omega⟩
    have f1 := goal_field ps z s 3 (by omega) h hm j (by omega) S
    have f2 := goal_some s 3 (by omega) g j (by omega) S
    rw [if_neg (by simp [em])] at f2
    have : sem (j + 1) "goal_of" [.d (tD [fD z, .tup [.str "some"]]), .d (enc (.rcd ps))] S = .exc "BadRule" S := by
      rw [u_goal_of]
      unfold m_goal_of
      simp only [fD] at f1
      generalize enc (.rcd ps) = X at *
      simp [tD, fD, dats, itemsOf, forF, bindT, f1, f2]
    rw [show j + 2 = (j + 1) + 1 by omega, u_goal]
    unfold m_goal
    simp [this]
theorem rule_make (j : Nat) (hj : 10 ≤ j) (S : Sx) : sem j "is_rule" [.d (.tup [.str "make", .tup []]), .d (.int 8)] S = .ok (.bl true) S := by
  obtain ⟨j, rfl⟩ : ∃ i, j = i + 4 := ⟨j - 4, by omega⟩
  rw [show j + 4 = j + 3 + 1 by rfl, u_is_rule]
  unfold m_is_rule
  have w := words_ok j .lst (.inr rfl) [] 0 (by simp) (by simp) (by simp) (by simp) S
  have ap : sem (j + 3) "are_pairs" [.d (.str "make"), .d (.tup []), .d (.int 8)] S = .ok (.bl true) S := by
    rw [show j + 3 = j + 2 + 1 by rfl, u_are_pairs]
    unfold m_are_pairs
    simp at w
    simp [itemsOf, compF, boolsOf, intG, w]
  simp [isi, dats, ap]
theorem rule_give (j : Nat) (hj : 40 ≤ j) (S : Sx) : sem j "is_rule" [.d (.tup [.str "give", .tup [.str "truth"], .bl true]), .d (.int 8)] S = .ok (.bl true) S := by
  obtain ⟨j, rfl⟩ : ∃ i, j = i + 1 := ⟨j - 1, by omega⟩
  rw [u_is_rule]
  unfold m_is_rule
  have h1 := shape_sem .tru 1 .tru 4 j (by omega) S
  have h2 := one_sem 1 .tru (.bl true) .tru j (by omega) S
  simp [enc, lv] at h1
  simp [enc, oneP, isi] at h2
  simp [isi, dats, h1, h2]
end Law
namespace Law
open PySem PySem.Spec L2 G
theorem all2_refl {n : Nat} : ∀ {xs : List D}, (∀ x ∈ xs, sameD n x x = true) → all2 (sameD n) xs xs = true
  | [], _ => rfl
  | x :: xs, h => by simp only [all2, h x List.mem_cons_self, Bool.true_and]; exact all2_refl fun y hy => h y (List.mem_cons_of_mem _ hy)
theorem same_me {n : Nat} {s : Sh} {t : D} (h : Gd n s) (hn : n ≤ 4) (o : oneP n s t = true) (j : Nat) (hj : 20 ≤ j) (S : Sx) : sem j "_law_same" [.d t, .d t] S = .ok (.bl true) S := by
  have tt := (one_tm h o).mono (show n ≤ 12 by omega)
  rw [same_sem 12 _ _ j S tt tt (by omega) (by omega), same_self h o (by omega)]
theorem told4_f (j : Nat) (x y z u d : D) (S S' : Sx) (h : sem j "put" [.d x, .d y, .d z, .d u] S = .ok d S') : sem (j + 1) "_law_told" [.d x, .d y, .d z, .d u] S = .ok (fndD d) S' := by
  rw [u_law_told]
  unfold m_law_told
  have b : (sAsg 5 (eOwn (sem j "put") (aCons (eVar 0) (aCons (eVar 1) (aCons (eVar 2) (aCons (eVar 3) (aNil))))))) [some (.d x), some (.d y), some (.d z), some (.d u), some (.d .non), some (.d .non), none] S = .nx [some (.d x), some (.d y), some (.d z), some (.d u), some (.d .non), some (.d d), none] S' := by simp [h]
  simp [tryK_ok b, isN, dats, fndD]
theorem told4_x (j : Nat) (hj : 1 ≤ j) (x y z u : D) (S S' : Sx) (c v : Str) (hc : (c, v) ∈ exW) (h : sem j "put" [.d x, .d y, .d z, .d u] S = .exc c S') : sem (j + 1) "_law_told" [.d x, .d y, .d z, .d u] S = .ok (refD v) S' := by
  rw [u_law_told]
  unfold m_law_told
  have b : (sAsg 5 (eOwn (sem j "put") (aCons (eVar 0) (aCons (eVar 1) (aCons (eVar 2) (aCons (eVar 3) (aNil))))))) [some (.d x), some (.d y), some (.d z), some (.d u), some (.d .non), some (.d .non), none] S = .xc c [some (.d x), some (.d y), some (.d z), some (.d u), some (.d .non), some (.d .non), none] S' := by simp [h]
  have r := refusal_ok hc j hj S'
  have t := tryK_xc (cs := caught_LeadError) (k := 4) (i := 6) b (caught_all hc) (by simp)
  simp [t, isN, r]
theorem eq_ref (w : Str) : eqD (refD w) (refD w) = some true := by unfold eqD; simp [refD, strK, strKL, depthD, depthL, eqvD, eqvL]
/-! ### rules that only lead there -/
theorem put_nv (r s g t v : D) (w : Str) (rr : List D) (j : Nat) (hj : 1 ≤ j) (S : Sx) (h1 : sem (j - 1) "led" [.d r, .d s] S = .ok g S) (h2 : sem (j - 1) "is_view" [.d r] S = .ok (.bl false) S) : sem j "put" [.d r, .d s, .d t, .d v] S = .exc "NoBack" S := by
  obtain ⟨j, rfl⟩ : ∃ i, j = i + 1 := ⟨j - 1, by omega⟩
  rw [Nat.add_sub_cancel] at h1 h2
  rw [u_put]
  unfold m_put
  simp [h1, h2]
theorem put_br (r s t v : D) (j : Nat) (hj : 1 ≤ j) (S : Sx) (h1 : sem (j - 1) "led" [.d r, .d s] S = .exc "BadRule" S) : sem j "put" [.d r, .d s, .d t, .d v] S = .exc "BadRule" S := by
  obtain ⟨j, rfl⟩ : ∃ i, j = i + 1 := ⟨j - 1, by omega⟩
  rw [Nat.add_sub_cancel] at h1
  rw [u_put]
  unfold m_put
  simp [h1]
/-- what is told of a rule, and what is due -/
def Due (r s old : D) (S : Sx) : Prop := ∃ (good : Bool) (d : D), sem 99 "_law_goal" [.d r, .d s] S = .ok d S ∧ isN (.d d) = !good ∧ sem 99 "_law_told" [.d r, .d s, .d old, .d (.tup [.int 0, .int 0])] S = .ok (refD (if good = true then "back" else "rule")) S
theorem due_some (s : Sh) (h : Gd 4 s) (hm : isMay s = false) (old : D) (S : Sx) : Due (.tup [.str "some"]) (enc s) old S := by
  have l := lg_some s 4 (by omega) h 99 (by omega) S
  have r := rule_some 95 (by omega) 8 (by omega) S
  have ld := led_ok (.tup [.str "some"]) s h 97 (by omega) S r
  have g := goal_some s 4 (by omega) h 96 (by omega) S
  by_cases c : lv s ≤ 3
  · rw [if_pos ⟨hm, c⟩] at l g
    rw [g] at ld
    refine ⟨true, _, l, enc_notN _, ?_⟩
    have v := view_leaf "some" [] (by simp) 97 (by omega) S
    simp at v
    exact told4_x 98 (by omega) _ _ _ _ S S "NoBack" "back" (by decide) (put_nv _ _ _ _ _ "" [] 98 (by omega) S ld v)
  · rw [if_neg (fun q => c q.2)] at l g
    rw [g] at ld
    exact ⟨false, _, l, rfl, told4_x 98 (by omega) _ _ _ _ S S "BadRule" "rule" (by decide) (put_br _ _ _ _ 98 (by omega) S ld)⟩
theorem due_make (s : Sh) (h : Gd 4 s) (old : D) (S : Sx) : Due (.tup [.str "make", .tup []]) (enc s) old S := by
  have l := lg_make s 99 (by omega) S
  have r := rule_make 95 (by omega) S
  have ld := led_ok (.tup [.str "make", .tup []]) s h 97 (by omega) S r
  have g := goal_make s 96 (by omega) S
  rw [g] at ld
  have v := view_leaf "make" [.tup []] (by simp) 97 (by omega) S
  simp at v
  exact ⟨true, _, l, enc_notN _, told4_x 98 (by omega) _ _ _ _ S S "NoBack" "back" (by decide) (put_nv _ _ _ _ _ "" [] 98 (by omega) S ld v)⟩
theorem due_give (s : Sh) (h : Gd 4 s) (old : D) (S : Sx) : Due (.tup [.str "give", .tup [.str "truth"], .bl true]) (enc s) old S := by
  have l := lg_give s 99 (by omega) S
  have r := rule_give 95 (by omega) S
  have ld := led_ok (.tup [.str "give", .tup [.str "truth"], .bl true]) s h 97 (by omega) S r
  have g := goal_give s 96 (by omega) S
  rw [g] at ld
  have v := view_leaf "give" [.tup [.str "truth"], .bl true] (by simp) 97 (by omega) S
  simp at v
  exact ⟨true, _, l, enc_notN _, told4_x 98 (by omega) _ _ _ _ S S "NoBack" "back" (by decide) (put_nv _ _ _ _ _ "" [] 98 (by omega) S ld v)⟩
theorem due_fs (ps : List (Str × Sh)) (z : Str) (s : Sh) (h : Gd 4 (.rcd ps)) (hm : (z, s) ∈ ps) (old : D) (S : Sx) : Due (.tup [.str "then", .tup [.tup [.str "field", .str z], .tup [.str "some"]]]) (enc (.rcd ps)) old S := by
  show Due (tD [fD z, .tup [.str "some"]]) _ _ _
  have okz : okW z := by cases h with | rcd h1 h2 h3 h4 => exact h2 _ hm
  have l := lg_fs ps z s h hm 99 (by omega) S
  have r : sem 95 "is_rule" [.d (tD [fD z, .tup [.str "some"]]), .d (.int 8)] S = .ok (.bl true) S := by
    refine rule_then _ 95 (by omega) 8 (by omega) S (by simp) (by simp) fun x hx => ?_
    simp only [List.mem_cons, List.not_mem_nil, or_false] at hx
    rcases hx with rfl | rfl
    · exact rule_field z okz _ (by omega) _ (by omega) S
    · exact rule_some _ (by omega) _ (by omega) S
  have ld := led_ok (tD [fD z, .tup [.str "some"]]) (.rcd ps) h 97 (by omega) S r
  have g := goal_fs ps z s h hm 96 (by omega) S
  cases em : isMay s with
  | false =>
    rw [if_pos em] at l g
    rw [g] at ld
    refine ⟨true, _, l, enc_notN _, ?_⟩
    have v := view_then [fD z, .tup [.str "some"]] (fun x => match x with
      | .tup (.str w :: _) => ([("keep" : Str), "field"]).any fun v => v == w
      | _ => false) 97 (by omega) S fun x hx => by
      simp only [List.mem_cons, List.not_mem_nil, or_false] at hx
      rcases hx with rfl | rfl
      · have := view_leaf "field" [.str z] (by simp) 96 (by omega) S
        simpa [fD] using this
      · have := view_leaf "some" [] (by simp) 96 (by omega) S
        simpa using this
    simp [fD] at v
    exact told4_x 98 (by omega) _ _ _ _ S S "NoBack" "back" (by decide) (put_nv _ _ _ _ _ "" [] 98 (by omega) S ld (by simpa [fD] using v))
  | true =>
    rw [if_neg (by simp [em])] at l g
    rw [g] at ld
    exact ⟨false, _, l, rfl, told4_x 98 (by omega) _ _ _ _ S S "BadRule" "rule" (by decide) (put_br _ _ _ _ 98 (by omega) S ld)⟩
noncomputable def othB : Fs := sSeq (sAsg 4 (eNotN (eOwn (sem 99 "_law_goal") (aCons (eVar 3) (aCons (eVar 0) (aNil)))))) (sIf (tst (eOp neO (eOwn (sem 99 "_law_told") (aCons (eVar 3) (aCons (eVar 0) (aCons (eVar 1) (aCons (eTup (aCons (eC (.int 0)) (aCons (eC (.int 0)) (aNil)))) (aNil)))))) (eTup (aCons (eC (.str "refused")) (aCons (eIf (tTru (eVar 4)) (eC (.str "back")) (eC (.str "rule"))) (aNil)))))) (sRet (eC (.bl false))) (sNil))
theorem oth_step (r s old nm : D) (v3 v4 : Option A) (S : Sx) (du : Due r s old S) : ∃ v4', othB [some (.d s), some (.d old), some (.d nm), some (.d r), v4] S = .nx [some (.d s), some (.d old), some (.d nm), some (.d r), v4'] S := by
  obtain ⟨good, d, h1, h2, h3⟩ := du
  have e := eq_ref (if good = true then "back" else "rule")
  unfold othB
  refine ⟨some (.d (.bl good)), ?_⟩
  simp only [refD] at h3 e
  cases good <;> simp at h2 h3 e <;> simp [h1, h2, dats, h3, truA, e]
theorem others_sem (ps : List (Str × Sh)) (z : Str) (s : Sh) (h : Gd 4 (.rcd ps)) (hm : (z, s) ∈ ps) (old : D) (S : Sx) : sem 100 "_law_others" [.d (enc (.rcd ps)), .d old, .d (.str z)] S = .ok (.bl true) S := by
  rw [u_law_others]
  unfold m_law_others
  have f1 := fields_sem 1 .tru 99 S .tru (by omega) (by omega)
  have f2 := fields_sem 2 (.may .tru) 99 S (.may .tru rfl) (by omega) (by omega)
  simp [enc, pathsN] at f1 f2
  obtain ⟨w1, g1⟩ := oth_step _ _ old (.str z) none none S (due_some (.rcd ps) h rfl old S)
  obtain ⟨w2, g2⟩ := oth_step _ _ old (.str z) none w1 S (due_make (.rcd ps) h old S)
  obtain ⟨w3, g3⟩ := oth_step _ _ old (.str z) none w2 S (due_fs ps z s h hm old S)
  obtain ⟨w4, g4⟩ := oth_step _ _ old (.str z) none w3 S (due_give (.rcd ps) h old S)
  have lo : forF (.n 3) othB [.tup [.str "some"], .tup [.str "make", .tup []], .tup [.str "then", .tup [.tup [.str "field", .str z], .tup [.str "some"]]], .tup [.str "give", .tup [.str "truth"], .bl true]] [some (.d (enc (.rcd ps))), some (.d old), some (.d (.str z)), none, none] S = .nx [some (.d (enc (.rcd ps))), some (.d old), some (.d (.str z)), some (.d (.tup [.str "give", .tup [.str "truth"], .bl true])), w4] S := by
    have b : ∀ (r : D) (a b : Option A), bindT (.n 3) r [some (.d (enc (.rcd ps))), some (.d old), some (.d (.str z)), a, b] = some [some (.d (enc (.rcd ps))), some (.d old), some (.d (.str z)), some (.d r), b] := fun r a b => by simp [bindT]
    simp only [forF, b, g1, g2, g3, g4]
  unfold othB at lo
  generalize enc (.rcd ps) = X at *
  simp [dats, itemsOf]
  rw [lo]
  simp [dats, f1, f2]
theorem bT_le {n : Nat} (h : n ≤ 4) : bT n ≤ bT 4 := by
  have : n = 0 ∨ n = 1 ∨ n = 2 ∨ n = 3 ∨ n = 4 := by omega
  rcases this with rfl | rfl | rfl | rfl | rfl <;> decide
theorem fs_comp (p : List Str) (ρ : Rho) (hρ : ρ.length = 13) (S : Sx) : compF (.n 12) [12] tYesF (eTup (aCons (eC (.str "field")) (aCons (eVar 12) aNil))) ρ (p.map .str) S = .ok (p.map fD) S := by
  rw [cmp_overM (g := fD)]
  intro z hz
  match ρ, hρ with
  | [a, b, c, d, e, f, g, h, i, j, k, l, m], _ => simp [turnF, bindT, wipeR, dats, fD]
noncomputable def pathB : Fs := sSeq (sAsg 7 (eIf (tst (eOp neO (eVar 5) (eTup (aNil)))) (eTup (aCons (eC (.str "then")) (aCons (eCall tupleG (aCons (dA (eComp (iSeq (eVar 5)) (.n 12) [12] (tYesF) (eTup (aCons (eC (.str "field")) (aCons (eVar 12) (aNil)))))) (aNil))) (aNil)))) (eTup (aCons (eC (.str "keep")) (aNil))))) (sSeq (sIf (tst (eOp eqO (eOwn (sem 100 "_law_draw") (aCons (eVar 0) (aCons (eVar 1) (aCons (eC (.int 3)) (aNil))))) (eC (.int 0)))) (sAsg 7 (eTup (aCons (eC (.str "then")) (aCons (eTup (aCons (eTup (aCons (eC (.str "keep")) (aNil))) (aCons (eVar 7) (aCons (eTup (aCons (eC (.str "then")) (aCons (eTup (aCons (eTup (aCons (eC (.str "keep")) (aNil))) (aNil))) (aNil)))) (aNil))))) (aNil))))) (sNil)) (sSeq (sAsg 8 (eOwn (sem 100 "led") (aCons (eVar 7) (aCons (eVar 2) (aNil))))) (sSeq (sAsg 9 (eOwn (sem 100 "_law_thing") (aCons (eVar 0) (aCons (eVar 1) (aCons (eVar 8) (aNil)))))) (sSeq (sAsg 10 (eOwn (sem 100 "_law_told") (aCons (eVar 7) (aCons (eVar 2) (aCons (eVar 6) (aCons (eVar 9) (aNil))))))) (sSeq (sIf (tOrF (tst (eOp neO (eIx (eVar 10) (eC (.int 0))) (eC (.str "found")))) (tNotF (tst (eOwn (sem 100 "_law_same") (aCons (eIx (eVar 10) (eC (.int 1))) (aCons (eOwn (sem 100 "_law_with") (aCons (eVar 6) (aCons (eVar 5) (aCons (eVar 9) (aNil))))) (aNil))))))) (sRet (eC (.bl false))) (sNil)) (sSeq (sIf (tOrF (tNotF (tst (eOwn (sem 100 "_law_same") (aCons (eOwn (sem 100 "lead") (aCons (eVar 7) (aCons (eVar 2) (aCons (eIx (eVar 10) (eC (.int 1))) (aNil))))) (aCons (eVar 9) (aNil)))))) (tNotF (tst (eOwn (sem 100 "is_of") (aCons (eVar 2) (aCons (eIx (eVar 10) (eC (.int 1))) (aNil))))))) (sRet (eC (.bl false))) (sNil)) (sSeq (sIf (tNotF (tst (eOwn (sem 100 "_law_same") (aCons (eOwn (sem 100 "put") (aCons (eVar 7) (aCons (eVar 2) (aCons (eVar 6) (aCons (eOwn (sem 100 "lead") (aCons (eVar 7) (aCons (eVar 2) (aCons (eVar 6) (aNil))))) (aNil)))))) (aCons (eVar 6) (aNil)))))) (sRet (eC (.bl false))) (sNil)) (sSeq (sAsg 11 (eOwn (sem 100 "_law_thing") (aCons (eVar 0) (aCons (eVar 1) (aCons (eVar 8) (aNil)))))) (sSeq (sIf (tNotF (tst (eOwn (sem 100 "_law_same") (aCons (eOwn (sem 100 "put") (aCons (eVar 7) (aCons (eVar 2) (aCons (eIx (eVar 10) (eC (.int 1))) (aCons (eVar 11) (aNil)))))) (aCons (eOwn (sem 100 "put") (aCons (eVar 7) (aCons (eVar 2) (aCons (eVar 6) (aCons (eVar 11) (aNil)))))) (aNil)))))) (sRet (eC (.bl false))) (sNil)) (sSeq (sIf (tst (eOp neO (eOwn (sem 100 "_law_told") (aCons (eVar 7) (aCons (eVar 2) (aCons (eVar 6) (aCons (eTup (aCons (eC (.int 0)) (aCons (eC (.int 0)) (aNil)))) (aNil)))))) (eTup (aCons (eC (.str "refused")) (aCons (eC (.str "thing")) (aNil)))))) (sRet (eC (.bl false))) (sNil)) (sIf (tst (eOp neO (eOwn (sem 100 "_law_told") (aCons (eVar 7) (aCons (eVar 2) (aCons (eTup (aCons (eC (.int 0)) (aCons (eC (.int 0)) (aNil)))) (aCons (eVar 9) (aNil)))))) (eTup (aCons (eC (.str "refused")) (aCons (eC (.str "thing")) (aNil)))))) (sRet (eC (.bl false))) (sNil))))))))))))
theorem path_ok (ns : List Int) (s : Sh) (h : Gd 4 s) (old : D) (oo : oneP 4 s old = true) (p : List Str) (n' : Nat) (s' : Sh) (u : Sub 4 s p n' s') (a3 a4 a7 a8 a9 a10 a11 a12 : Option A) (N : Nat) (hN : N ≤ 10000000) :
    ∃ N' b7 b8 b9 b10 b11, pathB [some (.scr ns), some (.hot 0), some (.d (enc s)), a3, a4, some (.d (pathD p)), some (.d old), a7, a8, a9, a10, a11, a12] [.zs N] = .nx [some (.scr ns), some (.hot 0), some (.d (enc s)), a3, a4, some (.d (pathD p)), some (.d old), b7, b8, b9, b10, b11, a12] [.zs N'] ∧ N ≤ N' ∧ N' ≤ N + (1 + 2 * bT 4) := by
  obtain ⟨g1, g2, g3, g4⟩ := u.gd h
  have hb4 : bT 4 ≤ 100000 := by decide
  have hbn := bT_le g2
  obtain ⟨r, q1, q2⟩ := draw_ok 97 ns 3 N (by decide) (by omega)
  simp at q2
  obtain ⟨bl, hbl⟩ : ∃ b, ((r : Int) == 0) = b := ⟨_, rfl⟩
  have ld := led_rul u h (by omega) bl 100 (by omega) [.zs (N + 1)]
  obtain ⟨t, N2, t1, t2, t3, t4, t5⟩ := lthing_ok n' (95 - n') ns s' (N + 1) g1 (by omega)
  rw [show 95 - n' + n' + 5 = 100 by omega] at t1
  obtain ⟨w, res, pt, ow, ores⟩ := pt_ex u (t := old) (v := t) h oo
  have ores := ores t4
  have pu := told4_f 99 _ _ _ _ _ [.zs N2] _ (put_sem u h oo t4 ores pt bl 99 (by omega) [.zs N2])
  have wi := with_sem pt 100 [.zs N2] (by omega)
  have s1 := same_me h (by omega) ores 100 (by omega) [.zs N2]
  have le1 := lead_sem u h ores t4 pt.back bl 100 (by omega) [.zs N2]
  have s2 := same_me g1 g2 t4 100 (by omega) [.zs N2]
  have io := of_sem s res h 100 (by omega) [.zs N2]
  rw [ores] at io
  have le2 := lead_sem u h oo ow pt bl 100 (by omega) [.zs N2]
  have pu2 := put_sem u h oo ow oo pt.old bl 100 (by omega) [.zs N2]
  have s3 := same_me h (by omega) oo 100 (by omega) [.zs N2]
  obtain ⟨x, N3, x1, x2, x3, x4, x5⟩ := lthing_ok n' (95 - n') ns s' N2 g1 (by omega)
  rw [show 95 - n' + n' + 5 = 100 by omega] at x1
  obtain ⟨w', res2, pt2, ow2, ores2⟩ := pt_ex u (t := old) (v := x) h oo
  have ores2 := ores2 x4
  have ew : w' = w := by
    have a := beh_r1 pt 10 (by omega) []
    have b := beh_r1 pt2 10 (by omega) []
    rw [a] at b
    injection b with b _
    exact b.symm
  subst ew
  have pu3 := put_sem u h ores x4 ores2 (pt.again pt2) bl 100 (by omega) [.zs N3]
  have pu4 := put_sem u h oo x4 ores2 pt2 bl 100 (by omega) [.zs N3]
  have s4 := same_me h (by omega) ores2 100 (by omega) [.zs N3]
  have b1 := told4_x 99 (by omega) _ _ _ _ [.zs N3] _ "BadThing" "thing" (by decide) (put_bad u h old (.tup [.int 0, .int 0]) (.inr (out_00 g1 .non (.int 0) 0)) bl 99 (by omega) [.zs N3])
  have b2 := told4_x 99 (by omega) _ _ _ _ [.zs N3] _ "BadThing" "thing" (by decide) (put_bad u h (.tup [.int 0, .int 0]) t (.inl (out_00 h .non (.int 0) 0)) bl 99 (by omega) [.zs N3])
  have e1 := eq_ref "thing"
  simp only [refD] at b1 b2 e1
  simp only [fndD] at pu
  refine ⟨N3, some (.d (rul bl p)), some (.d (enc s')), some (.d t), some (.d (.tup [.str "found", res])), some (.d x), ?_, by omega, by omega⟩
  have ru : ∀ (a7 : Option A), (sIf (tst (eOp eqO (eOwn (sem 100 "_law_draw") (aCons (eVar 0) (aCons (eVar 1) (aCons (eC (.int 3)) (aNil))))) (eC (.int 0)))) (sAsg 7 (eTup (aCons (eC (.str "then")) (aCons (eTup (aCons (eTup (aCons (eC (.str "keep")) (aNil))) (aCons (eVar 7) (aCons (eTup (aCons (eC (.str "then")) (aCons (eTup (aCons (eTup (aCons (eC (.str "keep")) (aNil))) (aNil))) (aNil)))) (aNil))))) (aNil))))) (sNil)) [some (.scr ns), some (.hot 0), some (.d (enc s)), a3, a4, some (.d (pathD p)), some (.d old), some (.d (r1 p)), a8, a9, a10, a11, a12] [.zs N] = .nx [some (.scr ns), some (.hot 0), some (.d (enc s)), a3, a4, some (.d (pathD p)), some (.d old), some (.d (rul bl p)), a8, a9, a10, a11, a12] [.zs (N + 1)] := fun a7 => by
    cases bl <;> simp [q2, hbl, rul, r2, tD, kD, dats]
  have fi : (sAsg 7 (eIf (tst (eOp neO (eVar 5) (eTup (aNil)))) (eTup (aCons (eC (.str "then")) (aCons (eCall tupleG (aCons (dA (eComp (iSeq (eVar 5)) (.n 12) [12] (tYesF) (eTup (aCons (eC (.str "field")) (aCons (eVar 12) (aNil)))))) (aNil))) (aNil)))) (eTup (aCons (eC (.str "keep")) (aNil))))) [some (.scr ns), some (.hot 0), some (.d (enc s)), a3, a4, some (.d (pathD p)), some (.d old), a7, a8, a9, a10, a11, a12] [.zs N] = .nx [some (.scr ns), some (.hot 0), some (.d (enc s)), a3, a4, some (.d (pathD p)), some (.d old), some (.d (r1 p)), a8, a9, a10, a11, a12] [.zs N] := by
    cases p with
    | nil => simp [pathD, dats, r1, kD]
    | cons z p =>
      have e := eqt_cons (.str z) (p.map D.str) (by simp only [strKL, strK, Bool.true_and]; exact strKL_all fun x hx => by obtain ⟨y, _, rfl⟩ := List.mem_map.mp hx; rfl)
      have fc := fun ρ hρ => fs_comp (z :: p) ρ hρ [.zs N]
      simp only [pathD, List.map_cons] at fc ⊢
      simp [dats, e, itemsOf, fc, tupleG, r1, tD]
  unfold pathB
  rw [ev_seq, fi, then_nx, ev_seq, ru a7, then_nx]
  have wi' : sem 100 "_law_with" [.d old, .d (pathD p), .d t] [.zs N2] = .ok res [.zs N2] := wi
  generalize pathD p = PD at *
  generalize rul bl p = RU at *
  simp [ld, t1, pu, wi', s1, le1, s2, io, le2, pu2, s3, x1, pu3, pu4, s4, dats, b1, b2, e1]
theorem eqvf (p : List Str) : eqvL (p.map fD) (p.map fD) = true := by
  induction p with
  | nil => rfl
  | cons z p ih => simp [eqvL, ih, fD, eqvD]
theorem eqvF (p : List Str) : eqvD (fieldD p) (fieldD p) = true := by
  match p with
  | [] => simp [fieldD, tD, eqvD, eqvL]
  | [z] => simp [fieldD, fD, eqvD, eqvL]
  | z :: w :: p =>
    have := eqvf (z :: w :: p)
    simp only [fieldD, tD, eqvD, eqvL, this]
    simp
theorem eqFs (ps : List (List Str)) (hl : ps.length ≤ 1000) (hp : ∀ p ∈ ps, p.length ≤ 100) : eqD (.lst (ps.map fieldD)) (.lst (ps.map fieldD)) = some true := by
  have tf : ∀ z, Tm 1 (fD z) := fun z => .tup (by simp) fun x hx => by
    simp only [List.mem_cons, List.not_mem_nil, or_false] at hx
    rcases hx with rfl | rfl <;> exact .str
  have tm : Tm 4 (.lst (ps.map fieldD)) := by
    refine .lst (by simp; omega) fun x hx => ?_
    obtain ⟨p, k, rfl⟩ := List.mem_map.mp hx
    have hh := hp p k
    have tt : ∀ q : List Str, q.length ≤ 100 → Tm 3 (tD (q.map fD)) := fun q hq => .tup (by simp) fun x hx => by
      simp only [List.mem_cons, List.not_mem_nil, or_false] at hx
      rcases hx with rfl | rfl
      · exact .str
      · refine .tup (by simp; omega) fun x hx => ?_
        obtain ⟨z, _, rfl⟩ := List.mem_map.mp hx
        exact tf z
    match p, hh with
    | [], _ => exact tt [] (by simp)
    | [z], _ => exact (tf z).mono (by omega)
    | z :: w :: p, hh => exact tt (z :: w :: p) hh
  rw [eqD_tm tm tm (.inl (by omega))]
  congr 1
  simp only [eqvD]
  clear tm hp hl
  induction ps with
  | nil => rfl
  | cons p r ih => simp [eqvL, ih, eqvF p]
theorem flat1 {α β : Type} (f : α → β) : ∀ l : List α, (l.flatMap fun q => [f q]) = l.map f
  | [] => rfl
  | a :: r => by rw [List.flatMap_cons, flat1 f r]; rfl
structure Q42 where
  n : Nat
  a5 : Option A
  a7 : Option A
  a8 : Option A
  a9 : Option A
  a10 : Option A
  a11 : Option A
theorem math (ns : List Int) (h : ns.length ≤ 63) : ∃ S, outF (m_law (sem 100) (some (.scr ns) :: some (.hot 0) :: List.replicate 11 none) [.zs 0]) = .ok (.bl true) S := by
  have hb : bR 3 ≤ 50000 := by decide
  have hb4 : bT 4 ≤ 100000 := by decide
  obtain ⟨x, n1, d1, d2, d3, ps, rfl, hg, hp1⟩ := lrec_ok 3 100 ns 0 (by omega) (by omega) (by omega)
  simp at d1
  have hg : Gd 4 (.rcd ps) := hg
  have pa := paths_sem 4 (.rcd ps) 100 [.zs n1] hg (by omega) (by omega)
  have fl := fields_sem 4 (.rcd ps) 100 [.zs n1] hg (by omega) (by omega)
  have pl := paths_len hg
  have hpc : pc 4 ≤ 400 := by decide
  obtain ⟨old, n2, o1, o2, o3, o4, o5⟩ := lthing_ok 4 91 ns (.rcd ps) n1 hg (by omega)
  simp at o1
  generalize hP : pathsN 4 (.rcd ps) = P at *
  have hlen : ∀ p ∈ P, p.length ≤ 100 := fun p hp => by
    rw [← hP] at hp
    obtain ⟨_, n', s', u⟩ := paths_sub hp
    have := (u.gd hg).2.2.1; omega
  have efs := eqFs P (by omega) hlen
  obtain ⟨v5, du⟩ := for_acc (t := .n 5) (f := sApp 4 (eIf (tst (eOp eqO (eCall lenG (aCons (eVar 5) (aNil))) (eC (.int 1)))) (eTup (aCons (eC (.str "field")) (aCons (eIx (eVar 5) (eC (.int 0))) (aNil)))) (eTup (aCons (eC (.str "then")) (aCons (eCall tupleG (aCons (dA (eComp (iSeq (eVar 5)) (.n 12) [12] (tYesF) (eTup (aCons (eC (.str "field")) (aCons (eVar 12) (aNil)))))) (aNil))) (aNil)))))) (en := pathD) (g := fun p => [fieldD p]) (mk := fun acc (v : Option A) => [some (.scr ns), some (.hot 0), some (.d (enc (.rcd ps))), some (.d (.lst (P.map pathD))), some (.d (.lst acc)), v, none, none, none, none, none, none, none]) (S := [.zs n1]) (xs := P) (fun p hp acc v hl => by
    have hl' : acc.length < 16777216 := by simp at hl; omega
    refine ⟨[some (.scr ns), some (.hot 0), some (.d (enc (.rcd ps))), some (.d (.lst (P.map pathD))), some (.d (.lst acc)), some (.d (pathD p)), none, none, none, none, none, none, none], some (.d (pathD p)), by simp [bindT], ?_⟩
    match p with
    | [] =>
      have fc := fun ρ hρ => fs_comp [] ρ hρ [.zs n1]
      simp only [List.map_nil] at fc
      simp [pathD, fieldD, dats, itemsOf, fc, tupleG, tD, hl']
    | [z] => simp [pathD, fieldD, fD, dats, hl']
    | z :: w :: p =>
      have fc := fun ρ hρ => fs_comp (z :: w :: p) ρ hρ [.zs n1]
      have hne : ¬ ((p.length : Int) + 1 + 1 = 1) := by omega
      simp only [List.map_cons] at fc
      simp [pathD, fieldD, dats, itemsOf, hne, fc, tupleG, tD, hl']) [] none (by
        rw [flat1]; simp; omega)
  rw [flat1] at du
  simp only [List.nil_append] at du
  have c12 := cutTk (P.map pathD) 12
  have hl12 : ((P.map pathD).take 12).length + [D.tup []].length ≤ 16777216 := by simp; omega
  have ad := addD_lst hl12
  have eL : (P.map pathD).take 12 ++ [D.tup []] = (P.take 12 ++ [[]]).map pathD := by simp [pathD]
  rw [eL] at ad
  -- first path
  obtain ⟨p0, pr, ep0⟩ : ∃ q r, ps = q :: r := by
    cases ps with
    | nil => simp at hp1
    | cons q r => exact ⟨q, r, rfl⟩
  have hP0 : ∃ r, P = [p0.1] :: r := by
    rw [← hP, ep0, pathsN, List.flatMap_cons]
    exact ⟨_, rfl⟩
  obtain ⟨Pr, hP0⟩ := hP0
  have ot := fun S => others_sem ps p0.1 p0.2 hg (by rw [ep0]; exact List.mem_cons_self) old S
  unfold m_law
  simp only [t_law0, t_law1, t_law2, t_law3, t_law4, t_law5, t_law6, t_law7]
  simp [d1, pa, dats, itemsOf]
  rw [du]
  simp [fl, efs, o1, slD]
  have c12' : cutD (P.map pathD) none (some 12) = (P.map pathD).take 12 := c12
  have gs : ∀ N a5 a7 a8 a9 a10 a11, ∃ S, outF (sRet (eOwn (sem 100 "_law_others") (aCons (eVar 2) (aCons (eVar 6) (aCons (eIx (eIx (eVar 3) (eC (.int 0))) (eC (.int 0))) (aNil))))) [some (.scr ns), some (.hot 0), some (.d (enc (.rcd ps))), some (.d (.lst (P.map pathD))), some (.d (.lst (P.map fieldD))), a5, some (.d old), a7, a8, a9, a10, a11, none] [.zs N]) = .ok (.bl true) S := by
    intro N a5 a7 a8 a9 a10 a11
    have ot' := ot [.zs N]
    refine ⟨[.zs N], ?_⟩
    rw [hP0]
    simp [pathD, ot']
  have ad' : addD (.lst (cutD (P.map pathD) none (some 12))) (.lst [.tup []]) = some (.lst ((P.take 12 ++ [[]]).map pathD)) := by rw [c12']; exact ad
  generalize hQ : (P.take 12 ++ [[]]).map pathD = Q at *
  simp [ad', itemsOf]
  have hQl : Q.length ≤ 13 := by rw [← hQ]; simp; omega
  have hQm : ∀ x ∈ Q, ∃ q n' s', x = pathD q ∧ Sub 4 (.rcd ps) q n' s' := by
    intro x hx
    rw [← hQ] at hx
    obtain ⟨q, hq, rfl⟩ := List.mem_map.mp hx
    rcases List.mem_append.mp hq with hq | hq
    · have hq := List.mem_of_mem_take hq
      rw [← hP] at hq
      obtain ⟨_, n', s', u⟩ := paths_sub hq
      exact ⟨q, n', s', rfl, u⟩
    · simp at hq
      subst hq
      exact ⟨[], 4, _, rfl, .nil⟩
  show (fun o => ∃ S, outF (thenS o _) = .ok (.bl true) S) (forF _ _ _ _ _)
  refine for_inv_P (G := fun o => ∃ S, outF (thenS o _) = .ok (.bl true) S) (fun (q : Q42) => [some (.scr ns), some (.hot 0), some (.d (enc (.rcd ps))), some (.d (.lst (P.map pathD))), some (.d (.lst (P.map fieldD))), q.a5, some (.d old), q.a7, q.a8, q.a9, q.a10, q.a11, none]) (fun q => [.zs q.n]) (fun i q => q.n ≤ n2 + i * (1 + 2 * bT 4)) ⟨n2, v5, none, none, none, none, none⟩ rfl rfl (by simp) ?_ ?_
  · rintro i hi ⟨m, b5, b7, b8, b9, b10, b11⟩ hm
    dsimp only at hm ⊢
    obtain ⟨q, n', s', eq, u⟩ := hQm _ (List.getElem_mem hi)
    have him : i * (1 + 2 * bT 4) ≤ 13 * (1 + 2 * bT 4) := Nat.mul_le_mul_right _ (by omega)
    obtain ⟨m', c7, c8, c9, c10, c11, g1, g2, g3⟩ := path_ok ns (.rcd ps) hg old o4 q n' s' u (some (.d (.lst (P.map pathD)))) (some (.d (.lst (P.map fieldD)))) b7 b8 b9 b10 b11 none m (by omega)
    rw [eq]
    refine ⟨_, ⟨m', some (.d (pathD q)), c7, c8, c9, c10, c11⟩, rfl, ?_, ?_⟩
    · unfold pathB at g1
      simpa using g1
    · dsimp only
      rw [Nat.add_mul, Nat.one_mul]; omega
  · rintro ⟨m, b5, b7, b8, b9, b10, b11⟩ hm
    dsimp only
    rw [then_nx]
    exact gs m b5 b7 b8 b9 b10 b11
end Law
namespace Law
open PySem L2 G
open PySem.W (Frag)
theorem exq_at {K : Frag} (h : exq K = true) (i : Nat) {f : Frag → Bool} (e : exql[i]? = some f) : f K = true := List.all_eq_true.mp h f (List.mem_of_getElem? e)
theorem isx_of {K : Frag} {u : Value} {b : Bool} {l : List Str} (h : (l.all fun y => excIsB K (He.ga K y) && PySem.W.kitOne K (.ref (He.ga K y)) u == some b) = true) : ∀ c ∈ l, ExcIs K (He.ga K c) ∧ PySem.W.kitOne K (.ref (He.ga K c)) u = some b := fun c hc => by
  have := List.all_eq_true.mp h c hc
  simp only [Bool.and_eq_true, beq_iff_eq] at this
  exact ⟨excIs_of this.1, this.2⟩
theorem facts_of {w : World} {K : Frag} {h : Heap} {mg : Str → Option Value} (X : K.In h) (Gn : h.Ns mainGlobals mg) (c : He.SaysX fa fn tbs [] exq w h K) : Facts w K mg where
  d_is_whole := by
    obtain ⟨fd, F⟩ := c.t.d.def_ 0 (d := h_is_whole) rfl
    exact ⟨_, fd, F, He.glo_ok X Gn (c.t.d.fact 0 (f := .glo "is_whole") rfl), FunD.bindsN F fun _ _ _ _ _ _ us hl => match us, hl with | [_, _, _], _ => rfl⟩
  d_is_word := by
    obtain ⟨fd, F⟩ := c.t.d.def_ 1 (d := h_is_word) rfl
    exact ⟨_, fd, F, He.glo_ok X Gn (c.t.d.fact 1 (f := .glo "is_word") rfl), FunD.bindsN F fun _ _ _ _ _ _ us hl => match us, hl with | [_], _ => rfl⟩
  d_are_words := by
    obtain ⟨fd, F⟩ := c.t.d.def_ 2 (d := h_are_words) rfl
    exact ⟨_, fd, F, He.glo_ok X Gn (c.t.d.fact 2 (f := .glo "are_words") rfl), FunD.bindsN F fun _ _ _ _ _ _ us hl => match us, hl with | [_, _], _ => rfl⟩
  d_is_shape := by
    obtain ⟨fd, F⟩ := c.t.d.def_ 3 (d := h_is_shape) rfl
    exact ⟨_, fd, F, He.glo_ok X Gn (c.t.d.fact 3 (f := .glo "is_shape") rfl), FunD.bindsN F fun _ _ _ _ _ _ us hl => match us, hl with | [_, _], _ => rfl⟩
  d_are_parts := by
    obtain ⟨fd, F⟩ := c.t.d.def_ 4 (d := h_are_parts) rfl
    exact ⟨_, fd, F, He.glo_ok X Gn (c.t.d.fact 4 (f := .glo "are_parts") rfl), FunD.bindsN F fun _ _ _ _ _ _ us hl => match us, hl with | [_, _, _], _ => rfl⟩
  d_look_shape := by
    obtain ⟨fd, F⟩ := c.t.d.def_ 5 (d := h_look_shape) rfl
    exact ⟨_, fd, F, He.glo_ok X Gn (c.t.d.fact 5 (f := .glo "look_shape") rfl), FunD.bindsN F fun _ _ _ _ _ _ us hl => match us, hl with | [_], _ => rfl⟩
  d_is_of := by
    obtain ⟨fd, F⟩ := c.t.d.def_ 6 (d := h_is_of) rfl
    exact ⟨_, fd, F, He.glo_ok X Gn (c.t.d.fact 6 (f := .glo "is_of") rfl), FunD.bindsN F fun _ _ _ _ _ _ us hl => match us, hl with | [_, _], _ => rfl⟩
  d_is_one := by
    obtain ⟨fd, F⟩ := c.t.d.def_ 7 (d := h_is_one) rfl
    exact ⟨_, fd, F, He.glo_ok X Gn (c.t.d.fact 7 (f := .glo "is_one") rfl), FunD.bindsN F fun _ _ _ _ _ _ us hl => match us, hl with | [_, _], _ => rfl⟩
  d_is_of_kind := by
    obtain ⟨fd, F⟩ := c.t.d.def_ 8 (d := h_is_of_kind) rfl
    exact ⟨_, fd, F, He.glo_ok X Gn (c.t.d.fact 8 (f := .glo "is_of_kind") rfl), FunD.bindsN F fun _ _ _ _ _ _ us hl => match us, hl with | [_, _], _ => rfl⟩
  d_look_thing := by
    obtain ⟨fd, F⟩ := c.t.d.def_ 9 (d := h_look_thing) rfl
    exact ⟨_, fd, F, He.glo_ok X Gn (c.t.d.fact 9 (f := .glo "look_thing") rfl), FunD.bindsN F fun _ _ _ _ _ _ us hl => match us, hl with | [_, _], _ => rfl⟩
  d_part_of := by
    obtain ⟨fd, F⟩ := c.t.d.def_ 10 (d := h_part_of) rfl
    exact ⟨_, fd, F, He.glo_ok X Gn (c.t.d.fact 10 (f := .glo "part_of") rfl), FunD.bindsN F fun _ _ _ _ _ _ us hl => match us, hl with | [_, _], _ => rfl⟩
  d_copied := by
    obtain ⟨fd, F⟩ := c.t.d.def_ 11 (d := h_copied) rfl
    exact ⟨_, fd, F, He.glo_ok X Gn (c.t.d.fact 11 (f := .glo "copied") rfl), FunD.bindsN F fun _ _ _ _ _ _ us hl => match us, hl with | [_], _ => rfl⟩
  d_fits_in := by
    obtain ⟨fd, F⟩ := c.t.d.def_ 12 (d := h_fits_in) rfl
    exact ⟨_, fd, F, He.glo_ok X Gn (c.t.d.fact 12 (f := .glo "fits_in") rfl), FunD.bindsN F fun _ _ _ _ _ _ us hl => match us, hl with | [_, _], _ => rfl⟩
  d_is_rule := by
    obtain ⟨fd, F⟩ := c.t.d.def_ 13 (d := h_is_rule) rfl
    exact ⟨_, fd, F, He.glo_ok X Gn (c.t.d.fact 13 (f := .glo "is_rule") rfl), FunD.bindsN F fun _ _ _ _ _ _ us hl => match us, hl with | [_, _], _ => rfl⟩
  d_are_pairs := by
    obtain ⟨fd, F⟩ := c.t.d.def_ 14 (d := h_are_pairs) rfl
    exact ⟨_, fd, F, He.glo_ok X Gn (c.t.d.fact 14 (f := .glo "are_pairs") rfl), FunD.bindsN F fun _ _ _ _ _ _ us hl => match us, hl with | [_, _, _], _ => rfl⟩
  d_look_rule := by
    obtain ⟨fd, F⟩ := c.t.d.def_ 15 (d := h_look_rule) rfl
    exact ⟨_, fd, F, He.glo_ok X Gn (c.t.d.fact 15 (f := .glo "look_rule") rfl), FunD.bindsN F fun _ _ _ _ _ _ us hl => match us, hl with | [_], _ => rfl⟩
  d_need := by
    obtain ⟨fd, F⟩ := c.t.d.def_ 16 (d := h_need) rfl
    exact ⟨_, fd, F, He.glo_ok X Gn (c.t.d.fact 16 (f := .glo "need") rfl), FunD.bindsN F fun _ _ _ _ _ _ us hl => match us, hl with | [_], _ => rfl⟩
  d_led := by
    obtain ⟨fd, F⟩ := c.t.d.def_ 17 (d := h_led) rfl
    exact ⟨_, fd, F, He.glo_ok X Gn (c.t.d.fact 17 (f := .glo "led") rfl), FunD.bindsN F fun _ _ _ _ _ _ us hl => match us, hl with | [_, _], _ => rfl⟩
  d_goal := by
    obtain ⟨fd, F⟩ := c.t.d.def_ 18 (d := h_goal) rfl
    exact ⟨_, fd, F, He.glo_ok X Gn (c.t.d.fact 18 (f := .glo "goal") rfl), FunD.bindsN F fun _ _ _ _ _ _ us hl => match us, hl with | [_, _], _ => rfl⟩
  d_goal_of := by
    obtain ⟨fd, F⟩ := c.t.d.def_ 19 (d := h_goal_of) rfl
    exact ⟨_, fd, F, He.glo_ok X Gn (c.t.d.fact 19 (f := .glo "goal_of") rfl), FunD.bindsN F fun _ _ _ _ _ _ us hl => match us, hl with | [_, _], _ => rfl⟩
  d_goal_number := by
    obtain ⟨fd, F⟩ := c.t.d.def_ 20 (d := h_goal_number) rfl
    exact ⟨_, fd, F, He.glo_ok X Gn (c.t.d.fact 20 (f := .glo "goal_number") rfl), FunD.bindsN F fun _ _ _ _ _ _ us hl => match us, hl with | [_, _], _ => rfl⟩
  d_goal_part := by
    obtain ⟨fd, F⟩ := c.t.d.def_ 21 (d := h_goal_part) rfl
    exact ⟨_, fd, F, He.glo_ok X Gn (c.t.d.fact 21 (f := .glo "goal_part") rfl), FunD.bindsN F fun _ _ _ _ _ _ us hl => match us, hl with | [_, _], _ => rfl⟩
  d_lead := by
    obtain ⟨fd, F⟩ := c.t.d.def_ 22 (d := h_lead) rfl
    exact ⟨_, fd, F, He.glo_ok X Gn (c.t.d.fact 22 (f := .glo "lead") rfl), FunD.bindsN F fun _ _ _ _ _ _ us hl => match us, hl with | [_, _, _], _ => rfl⟩
  d_behind := by
    obtain ⟨fd, F⟩ := c.t.d.def_ 23 (d := h_behind) rfl
    exact ⟨_, fd, F, He.glo_ok X Gn (c.t.d.fact 23 (f := .glo "behind") rfl), FunD.bindsN F fun _ _ _ _ _ _ us hl => match us, hl with | [_, _], _ => rfl⟩
  d_is_view := by
    obtain ⟨fd, F⟩ := c.t.d.def_ 24 (d := h_is_view) rfl
    exact ⟨_, fd, F, He.glo_ok X Gn (c.t.d.fact 24 (f := .glo "is_view") rfl), FunD.bindsN F fun _ _ _ _ _ _ us hl => match us, hl with | [_], _ => rfl⟩
  d_put := by
    obtain ⟨fd, F⟩ := c.t.d.def_ 25 (d := h_put) rfl
    exact ⟨_, fd, F, He.glo_ok X Gn (c.t.d.fact 25 (f := .glo "put") rfl), FunD.bindsN F fun _ _ _ _ _ _ us hl => match us, hl with | [_, _, _, _], _ => rfl⟩
  d_with_part := by
    obtain ⟨fd, F⟩ := c.t.d.def_ 26 (d := h_with_part) rfl
    exact ⟨_, fd, F, He.glo_ok X Gn (c.t.d.fact 26 (f := .glo "with_part") rfl), FunD.bindsN F fun _ _ _ _ _ _ us hl => match us, hl with | [_, _, _], _ => rfl⟩
  d_fields := by
    obtain ⟨fd, F⟩ := c.t.d.def_ 27 (d := h_fields) rfl
    exact ⟨_, fd, F, He.glo_ok X Gn (c.t.d.fact 27 (f := .glo "fields") rfl), FunD.bindsN F fun _ _ _ _ _ _ us hl => match us, hl with | [_], _ => rfl⟩
  d_law_cell := by
    obtain ⟨fd, F⟩ := c.t.d.def_ 28 (d := h_law_cell) rfl
    exact ⟨_, fd, F, He.glo_ok X Gn (c.t.d.fact 28 (f := .glo "_law_cell") rfl), FunD.bindsN F fun _ _ _ _ _ _ us hl => match us, hl with | [_, _], _ => rfl⟩
  d_law_mix := by
    obtain ⟨fd, F⟩ := c.t.d.def_ 29 (d := h_law_mix) rfl
    exact ⟨_, fd, F, He.glo_ok X Gn (c.t.d.fact 29 (f := .glo "_law_mix") rfl), FunD.bindsN F fun _ _ _ _ _ _ us hl => match us, hl with | [_, _], _ => rfl⟩
  d_law_draw := by
    obtain ⟨fd, F⟩ := c.t.d.def_ 30 (d := h_law_draw) rfl
    exact ⟨_, fd, F, He.glo_ok X Gn (c.t.d.fact 30 (f := .glo "_law_draw") rfl), FunD.bindsN F fun _ _ _ _ _ _ us hl => match us, hl with | [_, _, _], _ => rfl⟩
  d_law_pick := by
    obtain ⟨fd, F⟩ := c.t.d.def_ 31 (d := h_law_pick) rfl
    exact ⟨_, fd, F, He.glo_ok X Gn (c.t.d.fact 31 (f := .glo "_law_pick") rfl), FunD.bindsN F fun _ _ _ _ _ _ us hl => match us, hl with | [_, _, _], _ => rfl⟩
  d_law_refusal := by
    obtain ⟨fd, F⟩ := c.t.d.def_ 32 (d := h_law_refusal) rfl
    exact ⟨_, fd, F, He.glo_ok X Gn (c.t.d.fact 32 (f := .glo "_law_refusal") rfl), FunD.bindsN F fun _ _ _ _ _ _ us hl => match us, hl with | [_], _ => rfl⟩
  d_law_word := by
    obtain ⟨fd, F⟩ := c.t.d.def_ 33 (d := h_law_word) rfl
    exact ⟨_, fd, F, He.glo_ok X Gn (c.t.d.fact 33 (f := .glo "_law_word") rfl), FunD.bindsN F fun _ _ _ _ _ _ us hl => match us, hl with | [_, _], _ => rfl⟩
  d_law_words := by
    obtain ⟨fd, F⟩ := c.t.d.def_ 34 (d := h_law_words) rfl
    exact ⟨_, fd, F, He.glo_ok X Gn (c.t.d.fact 34 (f := .glo "_law_words") rfl), FunD.bindsN F fun _ _ _ _ _ _ us hl => match us, hl with | [_, _, _], _ => rfl⟩
  d_law_thing := by
    obtain ⟨fd, F⟩ := c.t.d.def_ 35 (d := h_law_thing) rfl
    exact ⟨_, fd, F, He.glo_ok X Gn (c.t.d.fact 35 (f := .glo "_law_thing") rfl), FunD.bindsN F fun _ _ _ _ _ _ us hl => match us, hl with | [_, _, _], _ => rfl⟩
  d_law_same := by
    obtain ⟨fd, F⟩ := c.t.d.def_ 36 (d := h_law_same) rfl
    exact ⟨_, fd, F, He.glo_ok X Gn (c.t.d.fact 36 (f := .glo "_law_same") rfl), FunD.bindsN F fun _ _ _ _ _ _ us hl => match us, hl with | [_, _], _ => rfl⟩
  d_law_rule := by
    obtain ⟨fd, F⟩ := c.t.d.def_ 37 (d := h_law_rule) rfl
    exact ⟨_, fd, F, He.glo_ok X Gn (c.t.d.fact 37 (f := .glo "_law_rule") rfl), FunD.bindsN F fun _ _ _ _ _ _ us hl => match us, hl with | [_, _, _, _], _ => rfl⟩
  d_law_then := by
    obtain ⟨fd, F⟩ := c.t.d.def_ 38 (d := h_law_then) rfl
    exact ⟨_, fd, F, He.glo_ok X Gn (c.t.d.fact 38 (f := .glo "_law_then") rfl), FunD.bindsN F fun _ _ _ _ _ _ us hl => match us, hl with | [_, _, _, _], _ => rfl⟩
  d_law_rule_of := by
    obtain ⟨fd, F⟩ := c.t.d.def_ 39 (d := h_law_rule_of) rfl
    exact ⟨_, fd, F, He.glo_ok X Gn (c.t.d.fact 39 (f := .glo "_law_rule_of") rfl), FunD.bindsN F fun _ _ _ _ _ _ us hl => match us, hl with | [_, _, _, _, _], _ => rfl⟩
  d_law_levels := by
    obtain ⟨fd, F⟩ := c.t.d.def_ 40 (d := h_law_levels) rfl
    exact ⟨_, fd, F, He.glo_ok X Gn (c.t.d.fact 40 (f := .glo "_law_levels") rfl), FunD.bindsN F fun _ _ _ _ _ _ us hl => match us, hl with | [_], _ => rfl⟩
  d_law_part_of := by
    obtain ⟨fd, F⟩ := c.t.d.def_ 41 (d := h_law_part_of) rfl
    exact ⟨_, fd, F, He.glo_ok X Gn (c.t.d.fact 41 (f := .glo "_law_part_of") rfl), FunD.bindsN F fun _ _ _ _ _ _ us hl => match us, hl with | [_, _], _ => rfl⟩
  d_law_inside := by
    obtain ⟨fd, F⟩ := c.t.d.def_ 42 (d := h_law_inside) rfl
    exact ⟨_, fd, F, He.glo_ok X Gn (c.t.d.fact 42 (f := .glo "_law_inside") rfl), FunD.bindsN F fun _ _ _ _ _ _ us hl => match us, hl with | [_, _], _ => rfl⟩
  d_law_goal := by
    obtain ⟨fd, F⟩ := c.t.d.def_ 43 (d := h_law_goal) rfl
    exact ⟨_, fd, F, He.glo_ok X Gn (c.t.d.fact 43 (f := .glo "_law_goal") rfl), FunD.bindsN F fun _ _ _ _ _ _ us hl => match us, hl with | [_, _], _ => rfl⟩
  d_law_goal_of := by
    obtain ⟨fd, F⟩ := c.t.d.def_ 44 (d := h_law_goal_of) rfl
    exact ⟨_, fd, F, He.glo_ok X Gn (c.t.d.fact 44 (f := .glo "_law_goal_of") rfl), FunD.bindsN F fun _ _ _ _ _ _ us hl => match us, hl with | [_, _], _ => rfl⟩
  d_law_goal_apart := by
    obtain ⟨fd, F⟩ := c.t.d.def_ 45 (d := h_law_goal_apart) rfl
    exact ⟨_, fd, F, He.glo_ok X Gn (c.t.d.fact 45 (f := .glo "_law_goal_apart") rfl), FunD.bindsN F fun _ _ _ _ _ _ us hl => match us, hl with | [_, _], _ => rfl⟩
  d_law_told := by
    obtain ⟨fd, F⟩ := c.t.d.def_ 46 (d := h_law_told) rfl
    exact ⟨_, fd, F, He.glo_ok X Gn (c.t.d.fact 46 (f := .glo "_law_told") rfl), FunD.bindsN F fun _ _ _ _ _ _ us hl => match us, hl with | [_, _, _, _], _ => rfl⟩
  d_law_paths := by
    obtain ⟨fd, F⟩ := c.t.d.def_ 47 (d := h_law_paths) rfl
    exact ⟨_, fd, F, He.glo_ok X Gn (c.t.d.fact 47 (f := .glo "_law_paths") rfl), FunD.bindsN F fun _ _ _ _ _ _ us hl => match us, hl with | [_], _ => rfl⟩
  d_law_with := by
    obtain ⟨fd, F⟩ := c.t.d.def_ 48 (d := h_law_with) rfl
    exact ⟨_, fd, F, He.glo_ok X Gn (c.t.d.fact 48 (f := .glo "_law_with") rfl), FunD.bindsN F fun _ _ _ _ _ _ us hl => match us, hl with | [_, _, _], _ => rfl⟩
  d_law_rec := by
    obtain ⟨fd, F⟩ := c.t.d.def_ 49 (d := h_law_rec) rfl
    exact ⟨_, fd, F, He.glo_ok X Gn (c.t.d.fact 49 (f := .glo "_law_rec") rfl), FunD.bindsN F fun _ _ _ _ _ _ us hl => match us, hl with | [_, _, _], _ => rfl⟩
  d_law_others := by
    obtain ⟨fd, F⟩ := c.t.d.def_ 50 (d := h_law_others) rfl
    exact ⟨_, fd, F, He.glo_ok X Gn (c.t.d.fact 50 (f := .glo "_law_others") rfl), FunD.bindsN F fun _ _ _ _ _ _ us hl => match us, hl with | [_, _, _], _ => rfl⟩
  c_MOST_WORD := He.int_ok X Gn (c.t.d.fact 66 (f := .int "MOST_WORD" 8) rfl)
  c_MOST_PARTS := He.int_ok X Gn (c.t.d.fact 67 (f := .int "MOST_PARTS" 4) rfl)
  c_MOST_DEEP := He.int_ok X Gn (c.t.d.fact 68 (f := .int "MOST_DEEP" 4) rfl)
  c_FAR := He.int_ok X Gn (c.t.d.fact 69 (f := .int "FAR" 1000000) rfl)
  c_MOST_NEST := He.int_ok X Gn (c.t.d.fact 70 (f := .int "MOST_NEST" 8) rfl)
  c_MOST_THEN := He.int_ok X Gn (c.t.d.fact 71 (f := .int "MOST_THEN" 8) rfl)
  c_MOST_BY := He.int_ok X Gn (c.t.d.fact 72 (f := .int "MOST_BY" 1000) rfl)
  c_SMALL := He.str_ok X Gn (c.t.d.fact 73 (f := .str "SMALL" "abcdefghijklmnopqrstuvwxyz") rfl)
  c_LETTERS := He.str_ok X Gn (c.t.d.fact 74 (f := .str "LETTERS" "abc") rfl)
  t_SIZES_shapes := ⟨tabl_of (c.t.tab 0 (t := (fun K => He.ga K "SIZES_shapes", ["number", "truth", "word", "text", "list", "rec", "kind", "maybe"])) rfl) (exq_at c.more 0 (f := exq0) rfl), He.glo_ok X Gn (c.t.d.fact 52 (f := .glo "SIZES_shapes") rfl)⟩
  t_SIZES_rules := ⟨tabl_of (c.t.tab 1 (t := (fun K => He.ga K "SIZES_rules", ["keep", "give", "field", "make", "each", "then", "cases", "tag", "add", "times", "rename", "some", "else", "first", "size", "wide"])) rfl) (exq_at c.more 1 (f := exq1) rfl), He.glo_ok X Gn (c.t.d.fact 53 (f := .glo "SIZES_rules") rfl)⟩
  x_BadRule := exc_of X Gn (c.t.d.fact 62 (f := .exc "BadRule") rfl) (c.t.d.fact 56 (f := .glo "BadRule") rfl)
  x_BadShape := exc_of X Gn (c.t.d.fact 63 (f := .exc "BadShape") rfl) (c.t.d.fact 57 (f := .glo "BadShape") rfl)
  x_BadThing := exc_of X Gn (c.t.d.fact 64 (f := .exc "BadThing") rfl) (c.t.d.fact 58 (f := .glo "BadThing") rfl)
  x_NoBack := exc_of X Gn (c.t.d.fact 65 (f := .exc "NoBack") rfl) (c.t.d.fact 60 (f := .glo "NoBack") rfl)
  g_BadChange := He.glo_ok X Gn (c.t.d.fact 54 (f := .glo "BadChange") rfl)
  g_BadNumber := He.glo_ok X Gn (c.t.d.fact 55 (f := .glo "BadNumber") rfl)
  g_BadRule := He.glo_ok X Gn (c.t.d.fact 56 (f := .glo "BadRule") rfl)
  g_BadShape := He.glo_ok X Gn (c.t.d.fact 57 (f := .glo "BadShape") rfl)
  g_BadThing := He.glo_ok X Gn (c.t.d.fact 58 (f := .glo "BadThing") rfl)
  g_LeadError := He.glo_ok X Gn (c.t.d.fact 59 (f := .glo "LeadError") rfl)
  g_NoBack := He.glo_ok X Gn (c.t.d.fact 60 (f := .glo "NoBack") rfl)
  g_TooMany := He.glo_ok X Gn (c.t.d.fact 61 (f := .glo "TooMany") rfl)
  h_LeadError := fun y hy => by have := List.all_eq_true.mp (exq_at c.more 2 (f := exq2) rfl) y hy; simpa using this
  i_BadChange := ⟨isx_of (exq_at c.more 3 (f := exq3) rfl), isx_of (exq_at c.more 4 (f := exq4) rfl)⟩
  i_BadNumber := ⟨isx_of (exq_at c.more 5 (f := exq5) rfl), isx_of (exq_at c.more 6 (f := exq6) rfl)⟩
  i_BadRule := ⟨isx_of (exq_at c.more 7 (f := exq7) rfl), isx_of (exq_at c.more 8 (f := exq8) rfl)⟩
  i_BadShape := ⟨isx_of (exq_at c.more 9 (f := exq9) rfl), isx_of (exq_at c.more 10 (f := exq10) rfl)⟩
  i_BadThing := ⟨isx_of (exq_at c.more 11 (f := exq11) rfl), isx_of (exq_at c.more 12 (f := exq12) rfl)⟩
  i_NoBack := ⟨isx_of (exq_at c.more 13 (f := exq13) rfl), isx_of (exq_at c.more 14 (f := exq14) rfl)⟩
  i_TooMany := ⟨isx_of (exq_at c.more 15 (f := exq15) rfl), isx_of (exq_at c.more 16 (f := exq16) rfl)⟩
  i_ValueError := ⟨isx_of (exq_at c.more 17 (f := exq17) rfl), isx_of (exq_at c.more 18 (f := exq18) rfl)⟩
  n_ValueError := He.free_ok X Gn (c.t.d.fact 75 (f := .free "ValueError") rfl)
  n_abs := He.free_ok X Gn (c.t.d.fact 76 (f := .free "abs") rfl)
  n_all := He.free_ok X Gn (c.t.d.fact 77 (f := .free "all") rfl)
  n_any := He.free_ok X Gn (c.t.d.fact 78 (f := .free "any") rfl)
  n_bool := He.free_ok X Gn (c.t.d.fact 79 (f := .free "bool") rfl)
  n_dict := He.free_ok X Gn (c.t.d.fact 80 (f := .free "dict") rfl)
  n_int := He.free_ok X Gn (c.t.d.fact 81 (f := .free "int") rfl)
  n_isinstance := He.free_ok X Gn (c.t.d.fact 82 (f := .free "isinstance") rfl)
  n_len := He.free_ok X Gn (c.t.d.fact 83 (f := .free "len") rfl)
  n_list := He.free_ok X Gn (c.t.d.fact 84 (f := .free "list") rfl)
  n_max := He.free_ok X Gn (c.t.d.fact 85 (f := .free "max") rfl)
  n_min := He.free_ok X Gn (c.t.d.fact 86 (f := .free "min") rfl)
  n_range := He.free_ok X Gn (c.t.d.fact 87 (f := .free "range") rfl)
  n_set := He.free_ok X Gn (c.t.d.fact 88 (f := .free "set") rfl)
  n_sorted := He.free_ok X Gn (c.t.d.fact 89 (f := .free "sorted") rfl)
  n_str := He.free_ok X Gn (c.t.d.fact 90 (f := .free "str") rfl)
  n_tuple := He.free_ok X Gn (c.t.d.fact 91 (f := .free "tuple") rfl)
theorem law_ok {w : World} {K : Frag} {h : Heap} {mg : Str → Option Value} {f : Addr} (X : K.In h) (Gn : h.Ns mainGlobals mg) (c : He.SaysX fa fn tbs [] exq w h K) (hf : mg ("law" : Str) = some (.ref f)) :
    ∃ fd : FuncData, (∀ (s : Shared) (v : Value), BindsTo s fd ⟨[v], []⟩ [("script", v)]) ∧ ∀ base : Heap, FnOk Pg w K mg base CX1 101 f fd ["script"] (spLaw K) := by
  obtain ⟨fd, F⟩ := c.t.d.def_ 51 (d := h_law) rfl
  have e := hf.symm.trans (He.glo_ok X Gn (c.t.d.fact 51 (f := .glo "law") rfl))
  cases e
  have b := FunD.bindsA (ps := ["script"]) F fun _ _ _ _ _ _ us hl => match us, hl with | [_], _ => rfl
  exact ⟨fd, fun s v => b s [v] rfl, fun base => fn_cx1 (law_G (st := top 76) (m := 11) F sc_law rfl rfl (by first | exact .inl rfl | exact .inr rfl) rfl (fun _ _ _ _ _ _ _ => rfl) (w_law (facts_of X Gn c) (all_ok (facts_of X Gn c) 100)) math)⟩
end Law
open PySem PySem.W PySem.Calls PyProof.Rows
theorem PySem.Challenge.cw_shapeleads_k42_whole_views_holds : PySem.Challenge.rw_shapeleads_k42_whole_views.Holds := by
  refine Law.z_h fun said => ?_
  refine HandSHeadRun.head_any (r := OpenLaw.row PySem.Challenge.rw_shapeleads_k42_whole_views) (q := view (OpenLaw.row PySem.Challenge.rw_shapeleads_k42_whole_views).prog [76]) (H := Law.hk) (ob := Law.ob) (M := 4000) (loose := Law.loose) (d := HandSHeadRun.topDef (OpenLaw.row PySem.Challenge.rw_shapeleads_k42_whole_views).prog 76) (kwd := []) Law.ob_eq
    (by kernel_rfl) (fun s => by kernel_rfl) Law.run (by kernel_rfl) (by kernel_rfl) (by kernel_rfl) (by rfl) (by first | assumption | decide +kernel) (by decide +kernel) ⟨rfl, rfl, rfl, rfl, rfl, Law.z_t⟩ ?hw ?hc
  case hw => w_witness2
  case hc =>
    refine L2.walk_ofE (l := PySem.Challenge.rw_shapeleads_k42_whole_views) (n := 63) (k := 101) (x := "script") (CX := _root_.G.CX1) rfl (by decide) (by kernel_rfl) ⟨rfl, by decide, by decide⟩ ?F (fun _ _ _ _ z => _root_.G.cx1_no z)
    intro w mg fa h Y G hmg0
    obtain ⟨K, KX, c⟩ := Y
    have hmg : mg ("law" : PySem.Str) = some (.ref fa) := by
      have e : (HandSHeadRun.topDef (OpenLaw.row PySem.Challenge.rw_shapeleads_k42_whole_views).prog 76).name = ("law" : PySem.Str) := by kernel_rfl
      rw [← e]
      exact hmg0
    obtain ⟨fd, hb, hF⟩ := Law.law_ok (w := w) KX G c hmg
    exact ⟨K, fd, _, KX, hb, fun H a ns hl _ hS => ⟨a, ns, rfl, hS, hl, fun _ => rfl⟩, fun base _ _ => hF base⟩
