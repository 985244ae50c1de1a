import PyProof.Rows.All
import Wide.All
import OpenK.AllK
import Wide.FinOn
import PySem.Challenge.RW_bentrows_k86_whole_desk_and_sheet
import HandS.Base
import HandS.Call
import HandS.Ends
import HandS.More
import HandS.Words
import HandS.WordsExc
import HandS.Defaults
import HandS.Head0
import HandS.Head1
import HandS.Head2
import HandS.HeadEnd
import HandS.HeadHook1
import HandS.HeadHook2
import HandS.List
import HandS.Comp
import HandS.Dict
import HandS.Iter
import HandS.Text
import HandS.Evl
import HandS.Walk
import HandS.TupAny
import HandS.IsInst
import HandS.Conv
import HandS.Zip
import KE.GoesMore
import KE.GoesEnum
import HandS.SortRule
import HandS.SetFor
import HandS.Strs
import HandS.Set
import HandS.TupSets
import HandS.Style
import HandS.Sort
import KE.KDictWalk
import HandS.Codes
section BtHead_part
set_option Elab.async false
set_option linter.all false
set_option maxRecDepth 100000
set_option maxHeartbeats 0
namespace Bt
open PySem PySem.Spec PyProof.Rows L2
/-! ### the text by places -/
def top (i : Nat) : Stmt := PySem.Challenge.pw_bentrows_k86_whole_desk_and_sheet.main.body.getD i (.Pass ⟨0, 0, 0, 0⟩)
abbrev s_is_whole : Stmt := top 16
abbrev s_is_point : Stmt := top 17
abbrev s_bend : Stmt := top 18
abbrev s_are_points : Stmt := top 19
abbrev s_first_three : Stmt := top 20
abbrev s_is_sheet : Stmt := top 21
abbrev s_need_sheet : Stmt := top 22
abbrev s_is_up : Stmt := top 23
abbrev s_are_rising : Stmt := top 24
abbrev s_pairs_of : Stmt := top 26
abbrev s_bends : Stmt := top 27
abbrev s_is_cup : Stmt := top 28
abbrev s_is_cap : Stmt := top 29
abbrev s_table_of : Stmt := top 30
abbrev s_left_table : Stmt := top 31
abbrev s_first_row : Stmt := top 32
abbrev s_longest : Stmt := top 33
abbrev s_longest_cup : Stmt := top 34
abbrev s_longest_cap : Stmt := top 35
abbrev s_need_numbers : Stmt := top 37
abbrev s_lacks : Stmt := top 39
abbrev s_side_row : Stmt := top 41
abbrev s_is_ring_of : Stmt := top 42
abbrev s_is_ring : Stmt := top 43
abbrev s_outer_row : Stmt := top 44
abbrev s_outer_ring : Stmt := top 45
abbrev s_longest_from : Stmt := top 46
abbrev s_greatest_ring : Stmt := top 47
abbrev s_threes_of : Stmt := top 49
abbrev s_fours_of : Stmt := top 50
abbrev s_outermost : Stmt := top 52
abbrev s_peels : Stmt := top 53
abbrev s_show_sheet : Stmt := top 57
abbrev s_number_in : Stmt := top 58
abbrev s_point_in : Stmt := top 59
abbrev s_read_sheet : Stmt := top 60
abbrev s_crossing_of : Stmt := top 62
abbrev s_crossings : Stmt := top 63
abbrev s_sides_of : Stmt := top 64
abbrev s_halves : Stmt := top 65
abbrev s_halving : Stmt := top 66
abbrev s_whole_in : Stmt := top 70
abbrev s_figure_in : Stmt := top 71
abbrev s_places_text : Stmt := top 72
abbrev s_Desk_init : Stmt := inClass (top 73) 0
abbrev s_Desk_deed : Stmt := inClass (top 73) 1
abbrev s_Desk_place_of : Stmt := inClass (top 73) 2
abbrev s_Desk_sound : Stmt := inClass (top 73) 3
abbrev s_Desk_put : Stmt := inClass (top 73) 4
abbrev s_Desk_needed : Stmt := inClass (top 73) 5
abbrev s_Desk_take : Stmt := inClass (top 73) 6
abbrev s_Desk_undone : Stmt := inClass (top 73) 8
abbrev s_Desk_need_points : Stmt := inClass (top 73) 9
abbrev s_Desk_asked : Stmt := inClass (top 73) 10
abbrev s_Desk_say : Stmt := inClass (top 73) 11
abbrev s_law_box : Stmt := top 75
abbrev s_law_take : Stmt := top 76
abbrev s_law_bend : Stmt := top 77
abbrev s_law_free : Stmt := top 78
abbrev s_law_sheet : Stmt := top 79
abbrev s_law_said : Stmt := top 82
abbrev s_law_put_all : Stmt := top 83
abbrev s_law_answers : Stmt := top 84
abbrev s_law_row : Stmt := top 85
abbrev s_law : Stmt := top 86
abbrev FnP (K : PySem.W.Frag) (x q : Str) (st : Stmt) (f : Addr) (fd : FuncData) : Prop := FunD K x q (defArgs st) (defBody st) (defScope st) [] [] f fd
/-! ### the head: facts by names, the run -/
def d_is_whole : He.DefD := ⟨("is_whole", none), "is_whole", "is_whole", defArgs s_is_whole, defBody s_is_whole, defScope s_is_whole, [], []⟩
def d_is_point : He.DefD := ⟨("is_point", none), "is_point", "is_point", defArgs s_is_point, defBody s_is_point, defScope s_is_point, [], []⟩
def d_bend : He.DefD := ⟨("bend", none), "bend", "bend", defArgs s_bend, defBody s_bend, defScope s_bend, [], []⟩
def d_are_points : He.DefD := ⟨("are_points", none), "are_points", "are_points", defArgs s_are_points, defBody s_are_points, defScope s_are_points, [], []⟩
def d_first_three : He.DefD := ⟨("first_three", none), "first_three", "first_three", defArgs s_first_three, defBody s_first_three, defScope s_first_three, [], []⟩
def d_is_sheet : He.DefD := ⟨("is_sheet", none), "is_sheet", "is_sheet", defArgs s_is_sheet, defBody s_is_sheet, defScope s_is_sheet, [], []⟩
def d_need_sheet : He.DefD := ⟨("need_sheet", none), "need_sheet", "need_sheet", defArgs s_need_sheet, defBody s_need_sheet, defScope s_need_sheet, [], []⟩
def d_is_up : He.DefD := ⟨("is_up", none), "is_up", "is_up", defArgs s_is_up, defBody s_is_up, defScope s_is_up, [], []⟩
def d_are_rising : He.DefD := ⟨("are_rising", none), "are_rising", "are_rising", defArgs s_are_rising, defBody s_are_rising, defScope s_are_rising, [], []⟩
def d_pairs_of : He.DefD := ⟨("pairs_of", none), "pairs_of", "pairs_of", defArgs s_pairs_of, defBody s_pairs_of, defScope s_pairs_of, [], []⟩
def d_bends : He.DefD := ⟨("bends", none), "bends", "bends", defArgs s_bends, defBody s_bends, defScope s_bends, [], []⟩
def d_is_cup : He.DefD := ⟨("is_cup", none), "is_cup", "is_cup", defArgs s_is_cup, defBody s_is_cup, defScope s_is_cup, [], []⟩
def d_is_cap : He.DefD := ⟨("is_cap", none), "is_cap", "is_cap", defArgs s_is_cap, defBody s_is_cap, defScope s_is_cap, [], []⟩
def d_table_of : He.DefD := ⟨("table_of", none), "table_of", "table_of", defArgs s_table_of, defBody s_table_of, defScope s_table_of, [], []⟩
def d_left_table : He.DefD := ⟨("left_table", none), "left_table", "left_table", defArgs s_left_table, defBody s_left_table, defScope s_left_table, [], []⟩
def d_first_row : He.DefD := ⟨("first_row", none), "first_row", "first_row", defArgs s_first_row, defBody s_first_row, defScope s_first_row, [], []⟩
def d_longest : He.DefD := ⟨("longest", none), "longest", "longest", defArgs s_longest, defBody s_longest, defScope s_longest, [], []⟩
def d_longest_cup : He.DefD := ⟨("longest_cup", none), "longest_cup", "longest_cup", defArgs s_longest_cup, defBody s_longest_cup, defScope s_longest_cup, [], []⟩
def d_longest_cap : He.DefD := ⟨("longest_cap", none), "longest_cap", "longest_cap", defArgs s_longest_cap, defBody s_longest_cap, defScope s_longest_cap, [], []⟩
def d_need_numbers : He.DefD := ⟨("need_numbers", none), "need_numbers", "need_numbers", defArgs s_need_numbers, defBody s_need_numbers, defScope s_need_numbers, [], []⟩
def d_lacks : He.DefD := ⟨("lacks", none), "lacks", "lacks", defArgs s_lacks, defBody s_lacks, defScope s_lacks, [], []⟩
def d_side_row : He.DefD := ⟨("side_row", none), "side_row", "side_row", defArgs s_side_row, defBody s_side_row, defScope s_side_row, [], []⟩
def d_is_ring_of : He.DefD := ⟨("is_ring_of", none), "is_ring_of", "is_ring_of", defArgs s_is_ring_of, defBody s_is_ring_of, defScope s_is_ring_of, [], []⟩
def d_is_ring : He.DefD := ⟨("is_ring", none), "is_ring", "is_ring", defArgs s_is_ring, defBody s_is_ring, defScope s_is_ring, [], []⟩
def d_outer_row : He.DefD := ⟨("outer_row", none), "outer_row", "outer_row", defArgs s_outer_row, defBody s_outer_row, defScope s_outer_row, [], []⟩
def d_outer_ring : He.DefD := ⟨("outer_ring", none), "outer_ring", "outer_ring", defArgs s_outer_ring, defBody s_outer_ring, defScope s_outer_ring, [], []⟩
def d_longest_from : He.DefD := ⟨("longest_from", none), "longest_from", "longest_from", defArgs s_longest_from, defBody s_longest_from, defScope s_longest_from, [], []⟩
def d_greatest_ring : He.DefD := ⟨("greatest_ring", none), "greatest_ring", "greatest_ring", defArgs s_greatest_ring, defBody s_greatest_ring, defScope s_greatest_ring, [], []⟩
def d_threes_of : He.DefD := ⟨("threes_of", none), "threes_of", "threes_of", defArgs s_threes_of, defBody s_threes_of, defScope s_threes_of, [], []⟩
def d_fours_of : He.DefD := ⟨("fours_of", none), "fours_of", "fours_of", defArgs s_fours_of, defBody s_fours_of, defScope s_fours_of, [], []⟩
def d_outermost : He.DefD := ⟨("outermost", none), "outermost", "outermost", defArgs s_outermost, defBody s_outermost, defScope s_outermost, [], []⟩
def d_peels : He.DefD := ⟨("peels", none), "peels", "peels", defArgs s_peels, defBody s_peels, defScope s_peels, [], []⟩
def d_show_sheet : He.DefD := ⟨("show_sheet", none), "show_sheet", "show_sheet", defArgs s_show_sheet, defBody s_show_sheet, defScope s_show_sheet, [], []⟩
def d_number_in : He.DefD := ⟨("number_in", none), "number_in", "number_in", defArgs s_number_in, defBody s_number_in, defScope s_number_in, [], []⟩
def d_point_in : He.DefD := ⟨("point_in", none), "point_in", "point_in", defArgs s_point_in, defBody s_point_in, defScope s_point_in, [], []⟩
def d_read_sheet : He.DefD := ⟨("read_sheet", none), "read_sheet", "read_sheet", defArgs s_read_sheet, defBody s_read_sheet, defScope s_read_sheet, [], []⟩
def d_crossing_of : He.DefD := ⟨("crossing_of", none), "crossing_of", "crossing_of", defArgs s_crossing_of, defBody s_crossing_of, defScope s_crossing_of, [], []⟩
def d_crossings : He.DefD := ⟨("crossings", none), "crossings", "crossings", defArgs s_crossings, defBody s_crossings, defScope s_crossings, [], []⟩
def d_sides_of : He.DefD := ⟨("sides_of", none), "sides_of", "sides_of", defArgs s_sides_of, defBody s_sides_of, defScope s_sides_of, [], []⟩
def d_halves : He.DefD := ⟨("halves", none), "halves", "halves", defArgs s_halves, defBody s_halves, defScope s_halves, [], []⟩
def d_halving : He.DefD := ⟨("halving", none), "halving", "halving", defArgs s_halving, defBody s_halving, defScope s_halving, [], []⟩
def d_whole_in : He.DefD := ⟨("whole_in", none), "whole_in", "whole_in", defArgs s_whole_in, defBody s_whole_in, defScope s_whole_in, [], []⟩
def d_figure_in : He.DefD := ⟨("figure_in", none), "figure_in", "figure_in", defArgs s_figure_in, defBody s_figure_in, defScope s_figure_in, [], []⟩
def d_places_text : He.DefD := ⟨("places_text", none), "places_text", "places_text", defArgs s_places_text, defBody s_places_text, defScope s_places_text, [], []⟩
def d_Desk_init : He.DefD := ⟨("Desk", some "__init__"), "__init__", "Desk.__init__", defArgs s_Desk_init, defBody s_Desk_init, defScope s_Desk_init, [], []⟩
def d_Desk_deed : He.DefD := ⟨("Desk", some "deed"), "deed", "Desk.deed", defArgs s_Desk_deed, defBody s_Desk_deed, defScope s_Desk_deed, [], []⟩
def d_Desk_place_of : He.DefD := ⟨("Desk", some "place_of"), "place_of", "Desk.place_of", defArgs s_Desk_place_of, defBody s_Desk_place_of, defScope s_Desk_place_of, [], []⟩
def d_Desk_sound : He.DefD := ⟨("Desk", some "sound"), "sound", "Desk.sound", defArgs s_Desk_sound, defBody s_Desk_sound, defScope s_Desk_sound, [], []⟩
def d_Desk_put : He.DefD := ⟨("Desk", some "put"), "put", "Desk.put", defArgs s_Desk_put, defBody s_Desk_put, defScope s_Desk_put, [], []⟩
def d_Desk_needed : He.DefD := ⟨("Desk", some "needed"), "needed", "Desk.needed", defArgs s_Desk_needed, defBody s_Desk_needed, defScope s_Desk_needed, [], []⟩
def d_Desk_take : He.DefD := ⟨("Desk", some "take"), "take", "Desk.take", defArgs s_Desk_take, defBody s_Desk_take, defScope s_Desk_take, [], []⟩
def d_Desk_undone : He.DefD := ⟨("Desk", some "undone"), "undone", "Desk.undone", defArgs s_Desk_undone, defBody s_Desk_undone, defScope s_Desk_undone, [], []⟩
def d_Desk_need_points : He.DefD := ⟨("Desk", some "need_points"), "need_points", "Desk.need_points", defArgs s_Desk_need_points, defBody s_Desk_need_points, defScope s_Desk_need_points, [], []⟩
def d_Desk_asked : He.DefD := ⟨("Desk", some "asked"), "asked", "Desk.asked", defArgs s_Desk_asked, defBody s_Desk_asked, defScope s_Desk_asked, [], []⟩
def d_Desk_say : He.DefD := ⟨("Desk", some "say"), "say", "Desk.say", defArgs s_Desk_say, defBody s_Desk_say, defScope s_Desk_say, [], []⟩
def d_law_box : He.DefD := ⟨("_law_box", none), "_law_box", "_law_box", defArgs s_law_box, defBody s_law_box, defScope s_law_box, [], []⟩
def d_law_take : He.DefD := ⟨("_law_take", none), "_law_take", "_law_take", defArgs s_law_take, defBody s_law_take, defScope s_law_take, [], []⟩
def d_law_bend : He.DefD := ⟨("_law_bend", none), "_law_bend", "_law_bend", defArgs s_law_bend, defBody s_law_bend, defScope s_law_bend, [], []⟩
def d_law_free : He.DefD := ⟨("_law_free", none), "_law_free", "_law_free", defArgs s_law_free, defBody s_law_free, defScope s_law_free, [], []⟩
def d_law_sheet : He.DefD := ⟨("_law_sheet", none), "_law_sheet", "_law_sheet", defArgs s_law_sheet, defBody s_law_sheet, defScope s_law_sheet, [], []⟩
def d_law_said : He.DefD := ⟨("_law_said", none), "_law_said", "_law_said", defArgs s_law_said, defBody s_law_said, defScope s_law_said, [], []⟩
def d_law_put_all : He.DefD := ⟨("_law_put_all", none), "_law_put_all", "_law_put_all", defArgs s_law_put_all, defBody s_law_put_all, defScope s_law_put_all, [], []⟩
def d_law_answers : He.DefD := ⟨("_law_answers", none), "_law_answers", "_law_answers", defArgs s_law_answers, defBody s_law_answers, defScope s_law_answers, [], []⟩
def d_law_row : He.DefD := ⟨("_law_row", none), "_law_row", "_law_row", defArgs s_law_row, defBody s_law_row, defScope s_law_row, [], []⟩
def d_law : He.DefD := ⟨("law", none), "law", "law", defArgs s_law, defBody s_law, defScope s_law, [], []⟩
def fn : List He.DefD := [d_is_whole, d_is_point, d_bend, d_are_points, d_first_three, d_is_sheet, d_need_sheet, d_is_up, d_are_rising, d_pairs_of, d_bends, d_is_cup, d_is_cap, d_table_of, d_left_table, d_first_row, d_longest, d_longest_cup, d_longest_cap, d_need_numbers, d_lacks, d_side_row, d_is_ring_of, d_is_ring, d_outer_row, d_outer_ring, d_longest_from, d_greatest_ring, d_threes_of, d_fours_of, d_outermost, d_peels, d_show_sheet, d_number_in, d_point_in, d_read_sheet, d_crossing_of, d_crossings, d_sides_of, d_halves, d_halving, d_whole_in, d_figure_in, d_places_text, d_Desk_init, d_Desk_deed, d_Desk_place_of, d_Desk_sound, d_Desk_put, d_Desk_needed, d_Desk_take, d_Desk_undone, d_Desk_need_points, d_Desk_asked, d_Desk_say, d_law_box, d_law_take, d_law_bend, d_law_free, d_law_sheet, d_law_said, d_law_put_all, d_law_answers, d_law_row, d_law]
def fa0 : List He.Fa := [.glo "is_whole", .glo "is_point", .glo "bend", .glo "are_points", .glo "first_three", .glo "is_sheet", .glo "need_sheet", .glo "is_up", .glo "are_rising", .glo "pairs_of", .glo "bends", .glo "is_cup", .glo "is_cap", .glo "table_of", .glo "left_table", .glo "first_row", .glo "longest", .glo "longest_cup", .glo "longest_cap", .glo "need_numbers", .glo "lacks", .glo "side_row", .glo "is_ring_of", .glo "is_ring", .glo "outer_row", .glo "outer_ring", .glo "longest_from", .glo "greatest_ring", .glo "threes_of", .glo "fours_of"]
def fa1 : List He.Fa := [.glo "outermost", .glo "peels", .glo "show_sheet", .glo "number_in", .glo "point_in", .glo "read_sheet", .glo "crossing_of", .glo "crossings", .glo "sides_of", .glo "halves", .glo "halving", .glo "whole_in", .glo "figure_in", .glo "places_text", .glo "_law_box", .glo "_law_take", .glo "_law_bend", .glo "_law_free", .glo "_law_sheet", .glo "_law_said", .glo "_law_put_all", .glo "_law_answers", .glo "_law_row", .glo "law", .free "isinstance", .free "len", .free "all", .free "set", .free "list", .free "sorted"]
def fa2 : List He.Fa := [.free "range", .free "max", .free "min", .free "tuple", .free "str", .free "int", .free "enumerate", .free "abs", .free "divmod", .free "bool", .int "MOST_POINTS" 24, .int "MOST_FIGURES" 30, .str "FIGURES" "0123456789", .glo "ASKS", .glo "Desk", .glo "BentError", .cls "Desk", .noat "Desk" "points", .noat "Desk" "past", .mkr "Desk", .keep "Desk", .meth "Desk" "deed", .meth "Desk" "place_of", .meth "Desk" "sound", .meth "Desk" "put", .meth "Desk" "needed", .meth "Desk" "take", .meth "Desk" "undone", .meth "Desk" "need_points", .meth "Desk" "asked"]
def fa3 : List He.Fa := [.meth "Desk" "say"]
def fa : List He.Fa := fa0 ++ fa1 ++ fa2 ++ fa3
def asks : List He.Dv := [.str "sheet", .str "cup", .str "cap", .str "ring", .str "outer", .str "peels", .str "cross", .str "halving"]
def nA : Nat := 6
abbrev R : PySem.W.OpenRow := PySem.W.OpenLaw.row PySem.Challenge.rw_bentrows_k86_whole_desk_and_sheet
def obA (K : PySem.W.Frag) : Bool × He.AlD := (He.tupB K "ASKS" asks, He.obsD fa fn K)
def SaysA (K : PySem.W.Frag) : Prop := obA K = (true, He.valD fn)
def obG (g : Addr → Option Obj) : Bool × He.AlD := obA (He.frG g (He.asD g nA))
def hk : PySem.W.Hook where
  α := Bool × He.AlD
  obs := fun s => obG s.heap.get?
  val := fun _ => (true, He.valD fn)
  says := fun _ h => ∃ K : PySem.W.Frag, K.In h ∧ SaysA K
  of := fun _ _ e => ⟨_, He.frG_in, e⟩
  keeps := fun _ _ _ ⟨K, hK, c⟩ k => ⟨K, PySem.W.Frag.In.keeps hK k, c⟩
def ob (s : PySem.W.SharedT) : Bool × He.AlD := obG (HandSHeadRun.getT s)
theorem ob_eq (s : PySem.W.SharedT) : ob s = hk.obs s.abs := by
  have e : HandSHeadRun.getT s = s.abs.heap.get? := funext fun a => HandSHeadRun.getT_eq s a
  show obG (HandSHeadRun.getT s) = obG s.abs.heap.get?
  rw [e]
def nm0 : List Str := ["BentError", "NoSheet", "NoPlace", "NoNumber", "NoRow", "Apart", "NoRing", "TooMany", "Bare", "NoSigns", "NoLine", "OnLine"]
def nm1 : List Str := ["NoText", "MOST_POINTS", "is_whole", "is_point", "bend", "are_points", "first_three", "is_sheet", "need_sheet", "is_up", "are_rising", "pairs_of"]
def nm2 : List Str := ["bends", "is_cup", "is_cap", "table_of", "left_table", "first_row", "longest", "longest_cup", "longest_cap", "need_numbers", "lacks", "side_row"]
def nm3 : List Str := ["is_ring_of", "is_ring", "outer_row", "outer_ring", "longest_from", "greatest_ring", "threes_of", "fours_of", "outermost", "peels", "raised", "FIGURES"]
def nm4 : List Str := ["show_sheet", "number_in", "point_in", "read_sheet", "crossing_of", "crossings", "sides_of", "halves", "halving", "MOST_FIGURES", "ASKS", "whole_in"]
def nm5 : List Str := ["figure_in", "places_text", "Desk", "_law_box", "_law_take", "_law_bend", "_law_free", "_law_sheet", "_law_classes", "_law_only", "_law_said", "_law_put_all"]
def nm6 : List Str := ["_law_answers", "_law_row"]
def nms : List Str := nm0 ++ nm1 ++ nm2 ++ nm3 ++ nm4 ++ nm5 ++ nm6
theorem run (w : World) : HandSHeadRun.RunEq R (PySem.W.view R.prog [86]) hk ob 6000 nms w := by
  intro os
  kernel_rfl
end Bt

end BtHead_part
section BtLogic_part
set_option Elab.async false
set_option linter.all false
set_option maxRecDepth 100000
set_option maxHeartbeats 4000000
namespace Bt
open PySem PySem.Spec PyProof.Rows L2
/-! ## A logic of data over the layer -/
/-- data: what a value reads as -/
inductive D where
  | non | bl (b : Bool) | int (i : Int) | str (s : Str) | tup (ds : List D) | lst (ds : List D)
  | dT (kvs : List (List Int × D)) | dK (kvs : List (Int × D)) | desk (ds : List D)
abbrev Ex := Evl.Ex
theorem Ex.rfl {H : Hp} : Ex H H := Evl.Ex.refl H
theorem Ex.trans {H H1 H2 : Hp} (a : Ex H H1) (b : Ex H1 H2) : Ex H H2 := Evl.Ex.trans a b
theorem Ex.new {H : Hp} {p : Addr} {o : HO} (h : H p = none) : Ex H (upd H p o) := Evl.Ex.new h
theorem Ex.back {H H' : Hp} {p : Addr} (e : Ex H H') (h : H' p = none) : H p = none := Evl.fresh_back e h
mutual
inductive Is (K : PySem.W.Frag) (C : Addr) (F : Hp) : V → D → Prop
  | non : Is K C F .non .non
  | bl (b : Bool) : Is K C F (.bl b) (.bl b)
  | int (i : Int) : Is K C F (.int i) (.int i)
  | str (x : Str) : Is K C F (.str x) (.str x)
  | tup {a : Addr} {xs : List V} {ds : List D} : F a = some (.tup xs) → IsAll K C F xs ds → Is K C F (.ref a) (.tup ds)
  | lst {a : Addr} {xs : List V} {ds : List D} : F a = some (.lst xs) → IsAll K C F xs ds → Is K C F (.ref a) (.lst ds)
  | dT {a : Addr} {ks : List (List Key × V)} {kvs : List (List Int × D)} : F a = some (.dT ks) → IsT K C F ks kvs → Is K C F (.ref a) (.dT kvs)
  | dK {a : Addr} {ks : List (Key × V)} {kvs : List (Int × D)} : F a = some (.dK ks) → IsK K C F ks kvs → Is K C F (.ref a) (.dK kvs)
  | desk {a dx : Addr} {v w : V} {ds : List D} : F a = some (.ins C dx [(("points" : Str), v), (("past" : Str), w)]) → Is K C F v (.tup ds) → Is K C F (.ref a) (.desk ds)
inductive IsAll (K : PySem.W.Frag) (C : Addr) (F : Hp) : List V → List D → Prop
  | nil : IsAll K C F [] []
  | cons {v : V} {vs : List V} {d : D} {ds : List D} : Is K C F v d → IsAll K C F vs ds → IsAll K C F (v :: vs) (d :: ds)
inductive IsT (K : PySem.W.Frag) (C : Addr) (F : Hp) : List (List Key × V) → List (List Int × D) → Prop
  | nil : IsT K C F [] []
  | cons {k : List Int} {v : V} {vs : List (List Key × V)} {d : D} {ds : List (List Int × D)} : Is K C F v d → IsT K C F vs ds → IsT K C F ((k.map Sum.inl, v) :: vs) ((k, d) :: ds)
inductive IsK (K : PySem.W.Frag) (C : Addr) (F : Hp) : List (Key × V) → List (Int × D) → Prop
  | nil : IsK K C F [] []
  | cons {k : Int} {v : V} {vs : List (Key × V)} {d : D} {ds : List (Int × D)} : Is K C F v d → IsK K C F vs ds → IsK K C F ((Sum.inl k, v) :: vs) ((k, d) :: ds)
end
section
variable {K : PySem.W.Frag} {C : Addr} {F F' H H' : Hp}
mutual
theorem Is.mono (e : Ex F F') : ∀ {v : V} {d : D}, Is K C F v d → Is K C F' v d
  | _, _, .non => .non
  | _, _, .bl b => .bl b
  | _, _, .int i => .int i
  | _, _, .str x => .str x
  | _, _, .tup h a => .tup (e _ _ h) (IsAll.mono e a)
  | _, _, .lst h a => .lst (e _ _ h) (IsAll.mono e a)
  | _, _, .dT h a => .dT (e _ _ h) (IsT.mono e a)
  | _, _, .dK h a => .dK (e _ _ h) (IsK.mono e a)
  | _, _, .desk h a => .desk (e _ _ h) (Is.mono e a)
theorem IsAll.mono (e : Ex F F') : ∀ {v : List V} {d : List D}, IsAll K C F v d → IsAll K C F' v d
  | _, _, .nil => .nil
  | _, _, .cons a b => .cons (Is.mono e a) (IsAll.mono e b)
theorem IsT.mono (e : Ex F F') : ∀ {v : List (List Key × V)} {d : List (List Int × D)}, IsT K C F v d → IsT K C F' v d
  | _, _, .nil => .nil
  | _, _, .cons a b => .cons (Is.mono e a) (IsT.mono e b)
theorem IsK.mono (e : Ex F F') : ∀ {v : List (Key × V)} {d : List (Int × D)}, IsK K C F v d → IsK K C F' v d
  | _, _, .nil => .nil
  | _, _, .cons a b => .cons (Is.mono e a) (IsK.mono e b)
end
theorem IsAll.length : ∀ {v : List V} {d : List D}, IsAll K C F v d → v.length = d.length
  | _, _, .nil => rfl
  | _, _, .cons _ b => congrArg (· + 1) (IsAll.length b)
theorem IsAll.get : ∀ {vs : List V} {ds : List D} {i : Nat} {v : V}, IsAll K C F vs ds → vs[i]? = some v → ∃ d, ds[i]? = some d ∧ Is K C F v d
  | _, _, _, _, .nil, h => by simp at h
  | _, _, 0, _, .cons a _, h => by
    have e := Option.some.inj h
    subst e
    exact ⟨_, rfl, a⟩
  | _, _, i + 1, v, .cons _ b, h => IsAll.get (i := i) (v := v) b h
theorem IsAll.getD : ∀ {vs : List V} {ds : List D} {i : Nat} {d : D}, IsAll K C F vs ds → ds[i]? = some d → ∃ v, vs[i]? = some v ∧ Is K C F v d
  | _, _, _, _, .nil, h => by simp at h
  | _, _, 0, _, .cons a _, h => by
    have e := Option.some.inj h
    subst e
    exact ⟨_, rfl, a⟩
  | _, _, i + 1, v, .cons _ b, h => IsAll.getD (i := i) (d := v) b h
theorem IsAll.snoc : ∀ {vs : List V} {ds : List D} {v : V} {d : D}, IsAll K C F vs ds → Is K C F v d → IsAll K C F (vs ++ [v]) (ds ++ [d])
  | _, _, _, _, .nil, h => .cons h .nil
  | _, _, _, _, .cons a b, h => .cons a (IsAll.snoc b h)
theorem IsAll.app : ∀ {vs ws : List V} {ds es : List D}, IsAll K C F vs ds → IsAll K C F ws es → IsAll K C F (vs ++ ws) (ds ++ es)
  | _, _, _, _, .nil, h => h
  | _, _, _, _, .cons a b, h => .cons a (IsAll.app b h)
theorem IsAll.take : ∀ {vs : List V} {ds : List D} (n : Nat), IsAll K C F vs ds → IsAll K C F (vs.take n) (ds.take n)
  | _, _, 0, _ => by simpa using IsAll.nil
  | _, _, _ + 1, .nil => .nil
  | _, _, n + 1, .cons a b => .cons a (IsAll.take n b)
theorem IsAll.drop : ∀ {vs : List V} {ds : List D} (n : Nat), IsAll K C F vs ds → IsAll K C F (vs.drop n) (ds.drop n)
  | _, _, 0, h => h
  | _, _, _ + 1, .nil => .nil
  | _, _, n + 1, .cons _ b => IsAll.drop n b
theorem IsAll.dropLast : ∀ {vs : List V} {ds : List D}, IsAll K C F vs ds → IsAll K C F vs.dropLast ds.dropLast
  | _, _, .nil => .nil
  | _, _, .cons _ .nil => .nil
  | _, _, .cons a (.cons b c) => .cons a (IsAll.dropLast (.cons b c))
theorem IsAll.rev : ∀ {vs : List V} {ds : List D}, IsAll K C F vs ds → IsAll K C F vs.reverse ds.reverse
  | _, _, .nil => .nil
  | _, _, .cons a b => by
    rw [List.reverse_cons, List.reverse_cons]
    exact (IsAll.rev b).snoc a
theorem IsAll.ints : ∀ {vs : List V} {ns : List Int}, IsAll K C F vs (ns.map D.int) → vs = ns.map V.int
  | _, [], .nil => rfl
  | _, n :: ns, .cons a b => by
    cases a
    rw [IsAll.ints b]
    rfl
theorem IsAll.ofInts : ∀ (ns : List Int), IsAll K C F (ns.map V.int) (ns.map D.int)
  | [] => .nil
  | n :: ns => .cons (.int n) (IsAll.ofInts ns)
theorem IsAll.strs : ∀ {vs : List V} {ns : List Str}, IsAll K C F vs (ns.map D.str) → vs = ns.map V.str
  | _, [], .nil => rfl
  | _, n :: ns, .cons a b => by
    cases a
    rw [IsAll.strs b]
    rfl
theorem IsAll.ofStrs : ∀ (ns : List Str), IsAll K C F (ns.map V.str) (ns.map D.str)
  | [] => .nil
  | n :: ns => .cons (.str n) (IsAll.ofStrs ns)
theorem IsAll.bls : ∀ {vs : List V} {ns : List Bool}, IsAll K C F vs (ns.map D.bl) → vs = ns.map V.bl
  | _, [], .nil => rfl
  | _, n :: ns, .cons a b => by
    cases a
    rw [IsAll.bls b]
    rfl
/-! ### heaps: F, the part that stands for good, within H -/
structure Fut (F H F' H' : Hp) : Prop where
  f : Ex F F'
  h : Ex H H'
  s : Ex F' H'
  o : ∀ p o, H p = some o → F p = none → F' p = none
theorem Fut.rfl (e : Ex F H) : Fut F H F H := ⟨Ex.rfl, Ex.rfl, e, fun _ _ _ h => h⟩
theorem Fut.trans {F2 H2 : Hp} (a : Fut F H F' H') (b : Fut F' H' F2 H2) : Fut F H F2 H2 := ⟨a.f.trans b.f, a.h.trans b.h, b.s, fun p o h1 h2 => b.o p o (a.h p o h1) (a.o p o h1 h2)⟩
/-- a new object that stands for good -/
theorem Fut.new {p : Addr} {o : HO} (e : Ex F H) (h : H p = none) : Fut F H (upd F p o) (upd H p o) :=
  ⟨Ex.new (e.back h), Ex.new h, fun a u q => by
    by_cases z : a = p
    · subst z; rw [upd_same] at q ⊢; exact q
    · rw [upd_ne z] at q ⊢; exact e a u q, fun q u h1 h2 => by rw [upd_ne (ne_of_none h1 h)]; exact h2⟩
/-- a new object that doesn't matter -/
theorem Fut.lost {p : Addr} {o : HO} (e : Ex F H) (h : H p = none) : Fut F H F (upd H p o) := ⟨Ex.rfl, Ex.new h, e.trans (Ex.new h), fun _ _ _ h2 => h2⟩
/-! ### frames -/
inductive Fr where
  | un | dat (d : D) | ol (ds : List D) | oT (kvs : List (List Int × D)) | oK (kvs : List (Int × D))
def En (K : PySem.W.Frag) (C : Addr) (H0 F H : Hp) : Option V → Fr → Prop
  | _, .un => True
  | o, .dat d => ∃ v, o = some v ∧ Is K C F v d
  | o, .ol ds => ∃ p vs, o = some (.ref p) ∧ H0 p = none ∧ F p = none ∧ H p = some (.lst vs) ∧ IsAll K C F vs ds
  | o, .oT ds => ∃ p vs, o = some (.ref p) ∧ H0 p = none ∧ F p = none ∧ H p = some (.dT vs) ∧ IsT K C F vs ds
  | o, .oK ds => ∃ p vs, o = some (.ref p) ∧ H0 p = none ∧ F p = none ∧ H p = some (.dK vs) ∧ IsK K C F vs ds
theorem En.fut {H0 : Hp} (e : Fut F H F' H') : ∀ {o : Option V} {f : Fr}, En K C H0 F H o f → En K C H0 F' H' o f
  | _, .un, _ => True.intro
  | _, .dat _, ⟨v, a, b⟩ => ⟨v, a, b.mono e.f⟩
  | _, .ol _, ⟨p, vs, a, b, c, d, i⟩ => ⟨p, vs, a, b, e.o p _ d c, e.h _ _ d, i.mono e.f⟩
  | _, .oT _, ⟨p, vs, a, b, c, d, i⟩ => ⟨p, vs, a, b, e.o p _ d c, e.h _ _ d, i.mono e.f⟩
  | _, .oK _, ⟨p, vs, a, b, c, d, i⟩ => ⟨p, vs, a, b, e.o p _ d c, e.h _ _ d, i.mono e.f⟩
abbrev Sd (K : PySem.W.Frag) (C : Addr) (H0 F H : Hp) : L2.St → List Fr → Prop := Paired (En K C H0 F H)
theorem Sd.fut {H0 : Hp} {σ : L2.St} {δ : List Fr} (e : Fut F H F' H') (s : Sd K C H0 F H σ δ) : Sd K C H0 F' H' σ δ := Paired.mapP s fun _ _ h => En.fut e h
theorem Sd.get {H0 : Hp} : ∀ {σ : L2.St} {δ : List Fr} {i : Nat} {f : Fr}, Sd K C H0 F H σ δ → δ[i]? = some f → ∃ o, σ[i]? = some o ∧ En K C H0 F H o f
  | _, _, _, _, .nil, h => by simp at h
  | _, _, 0, _, .cons a _, h => by
    have e := Option.some.inj h
    subst e
    exact ⟨_, rfl, a⟩
  | _, _, i + 1, f, .cons _ b, h => Sd.get (i := i) (f := f) b h
theorem Sd.set {H0 : Hp} {o : Option V} {f : Fr} (h : En K C H0 F H o f) : ∀ {σ : L2.St} {δ : List Fr} (i : Nat), Sd K C H0 F H σ δ → Sd K C H0 F H (σ.set i o) (δ.set i f)
  | _, _, _, .nil => .nil
  | _, _, 0, .cons _ b => .cons h b
  | _, _, i + 1, .cons a b => .cons a (Sd.set h i b)
theorem Sd.dat {H0 : Hp} {σ : L2.St} {δ : List Fr} {i : Nat} {d : D} (s : Sd K C H0 F H σ δ) (h : δ[i]? = some (.dat d)) : ∃ v, σ[i]? = some (some v) ∧ Is K C F v d := by
  obtain ⟨o, h1, v, rfl, h2⟩ := s.get h
  exact ⟨v, h1, h2⟩
/-- forgetting -/
inductive Le : List Fr → List Fr → Prop
  | nil : Le [] []
  | eq {f : Fr} {a b : List Fr} : Le a b → Le (f :: a) (f :: b)
  | un {f : Fr} {a b : List Fr} : Le a b → Le (.un :: a) (f :: b)
theorem Le.rfl : ∀ {a : List Fr}, Le a a
  | [] => .nil
  | _ :: _ => .eq Le.rfl
theorem Sd.le {H0 : Hp} : ∀ {σ : L2.St} {δ δ' : List Fr}, Le δ' δ → Sd K C H0 F H σ δ → Sd K C H0 F H σ δ'
  | _, _, _, .nil, s => s
  | _, _, _, .eq l, .cons a b => .cons a (Sd.le l b)
  | _, _, _, .un l, .cons _ b => .cons True.intro (Sd.le l b)
end
/-! ### what evaluates to what -/
section
variable {K : PySem.W.Frag} {C : Addr}
def EV (K : PySem.W.Frag) (C : Addr) (te : TE) (δ : List Fr) (P : V → Hp → Hp → Prop) : Prop :=
  ∀ (H0 F H : Hp) (σ : L2.St), Ex F H → Sd K C H0 F H σ δ → ∀ Q : VK, (∀ v F' H', Fut F H F' H' → P v F' H' → Q v H') → te σ H Q
/-- data -/
abbrev ED (K : PySem.W.Frag) (C : Addr) (te : TE) (δ : List Fr) (d : D) : Prop := EV K C te δ fun v F _ => Is K C F v d
/-- a list, new or a slot's own: the object in H, the items for good -/
abbrev EL (K : PySem.W.Frag) (C : Addr) (te : TE) (δ : List Fr) (ds : List D) : Prop := EV K C te δ fun v F H => ∃ p vs, v = .ref p ∧ H p = some (.lst vs) ∧ IsAll K C F vs ds
/-- a list that stands for good and is tracked -/
abbrev EX (K : PySem.W.Frag) (C : Addr) (te : TE) (δ : List Fr) (ds : List D) : Prop := EV K C te δ fun v F _ => ∃ p vs, v = .ref p ∧ F p = some (.lst vs) ∧ IsAll K C F vs ds
/-- data in H -/
abbrev EH (K : PySem.W.Frag) (C : Addr) (te : TE) (δ : List Fr) (d : D) : Prop := EV K C te δ fun v _ H => Is K C H v d
abbrev ETb (K : PySem.W.Frag) (C : Addr) (te : TE) (δ : List Fr) (kvs : List (List Int × D)) : Prop := EV K C te δ fun v F H => ∃ p ks, v = .ref p ∧ H p = some (.dT ks) ∧ IsT K C F ks kvs
abbrev EKb (K : PySem.W.Frag) (C : Addr) (te : TE) (δ : List Fr) (kvs : List (Int × D)) : Prop := EV K C te δ fun v F H => ∃ p ks, v = .ref p ∧ H p = some (.dK ks) ∧ IsK K C F ks kvs
def TD (K : PySem.W.Frag) (C : Addr) (t : TT) (δ : List Fr) (b : Bool) : Prop :=
  ∀ (H0 F H : Hp) (σ : L2.St), Ex F H → Sd K C H0 F H σ δ → ∀ Q : Bool → Hp → Prop, (∀ F' H', Fut F H F' H' → Q b H') → t σ H Q
def EA (K : PySem.W.Frag) (C : Addr) (ta : TA) (δ : List Fr) (ds : List D) : Prop :=
  ∀ (H0 F H : Hp) (σ : L2.St), Ex F H → Sd K C H0 F H σ δ → ∀ Q : List V → Hp → Prop, (∀ vs F' H', Fut F H F' H' → IsAll K C F' vs ds → Q vs H') → ta σ H Q
/-- arguments in H -/
def EAH (K : PySem.W.Frag) (C : Addr) (ta : TA) (δ : List Fr) (ds : List D) : Prop :=
  ∀ (H0 F H : Hp) (σ : L2.St), Ex F H → Sd K C H0 F H σ δ → ∀ Q : List V → Hp → Prop, (∀ vs F' H', Fut F H F' H' → IsAll K C H' vs ds → Q vs H') → ta σ H Q
def Stab (P : V → Hp → Hp → Prop) : Prop := ∀ v F H F' H', Fut F H F' H' → P v F H → P v F' H'
variable {te ta tb tc : TE} {tr : TA} {t u : TT} {δ : List Fr} {d e : D} {ds es : List D}
theorem st_D : Stab (fun v F _ => Is K C F v d) := fun _ _ _ _ _ f h => h.mono f.f
theorem st_H : Stab (fun v _ H => Is K C H v d) := fun _ _ _ _ _ f h => h.mono f.h
theorem st_L : Stab (fun v F H => ∃ p vs, v = .ref p ∧ H p = some (.lst vs) ∧ IsAll K C F vs ds) := fun _ _ _ _ _ f ⟨p, vs, a, b, c⟩ => ⟨p, vs, a, f.h _ _ b, c.mono f.f⟩
theorem st_X : Stab (fun v F _ => ∃ p vs, v = .ref p ∧ F p = some (.lst vs) ∧ IsAll K C F vs ds) := fun _ _ _ _ _ f ⟨p, vs, a, b, c⟩ => ⟨p, vs, a, f.f _ _ b, c.mono f.f⟩
theorem st_T {kvs : List (List Int × D)} : Stab (fun v F H => ∃ p ks, v = .ref p ∧ H p = some (.dT ks) ∧ IsT K C F ks kvs) := fun _ _ _ _ _ f ⟨p, vs, a, b, c⟩ => ⟨p, vs, a, f.h _ _ b, c.mono f.f⟩
theorem st_K {kvs : List (Int × D)} : Stab (fun v F H => ∃ p ks, v = .ref p ∧ H p = some (.dK ks) ∧ IsK K C F ks kvs) := fun _ _ _ _ _ f ⟨p, vs, a, b, c⟩ => ⟨p, vs, a, f.h _ _ b, c.mono f.f⟩
theorem EV.imp {P R : V → Hp → Hp → Prop} (h : EV K C te δ P) (i : ∀ v F H, Ex F H → P v F H → R v F H) : EV K C te δ R := fun H0 F H σ x s Q q => h H0 F H σ x s Q fun v F' H' f p => q v F' H' f (i v F' H' f.s p)
theorem ex_d (h : EX K C te δ ds) : ED K C te δ (.lst ds) := h.imp fun v F H x ⟨p, vs, a, b, c⟩ => a ▸ .lst b c
theorem ed_x (h : ED K C te δ (.lst ds)) : EX K C te δ ds := h.imp fun v F H x p => by
  cases p with
  | lst a b => exact ⟨_, _, rfl, a, b⟩
theorem ed_h (h : ED K C te δ d) : EH K C te δ d := h.imp fun v F H x p => p.mono x
theorem ed_l (h : ED K C te δ (.lst ds)) : EL K C te δ ds := h.imp fun v F H x p => by
  cases p with
  | lst a b => exact ⟨_, _, rfl, x _ _ a, b⟩
theorem el_h (h : EL K C te δ ds) : EH K C te δ (.lst ds) := h.imp fun v F H x ⟨p, vs, a, b, c⟩ => a ▸ .lst b (c.mono x)
theorem ed_T {kvs : List (List Int × D)} (h : ED K C te δ (.dT kvs)) : ETb K C te δ kvs := h.imp fun v F H x p => by
  cases p with
  | dT a b => exact ⟨_, _, rfl, x _ _ a, b⟩
theorem ed_K {kvs : List (Int × D)} (h : ED K C te δ (.dK kvs)) : EKb K C te δ kvs := h.imp fun v F H x p => by
  cases p with
  | dK a b => exact ⟨_, _, rfl, x _ _ a, b⟩
theorem ed_is (h : ED K C te δ d) (q : d = e) : ED K C te δ e := q ▸ h
theorem td_is {a b : Bool} (h : TD K C t δ a) (q : a = b) : TD K C t δ b := q ▸ h
/-! #### leaves -/
theorem ed_var {i : Nat} (h : δ[i]? = some (.dat d)) : ED K C (tVar i) δ d := fun H0 F H σ x s Q q => by
  obtain ⟨v, h1, h2⟩ := s.dat h
  exact ⟨v, h1, q v F H (Fut.rfl x) h2⟩
theorem el_own {i : Nat} (h : δ[i]? = some (.ol ds)) : EL K C (tVar i) δ ds := fun H0 F H σ x s Q q => by
  obtain ⟨o, h1, p, vs, rfl, _, _, h2, h3⟩ := s.get h
  exact ⟨_, h1, q _ F H (Fut.rfl x) ⟨p, vs, rfl, h2, h3⟩⟩
theorem et_own {i : Nat} {kvs : List (List Int × D)} (h : δ[i]? = some (.oT kvs)) : ETb K C (tVar i) δ kvs := fun H0 F H σ x s Q q => by
  obtain ⟨o, h1, p, vs, rfl, _, _, h2, h3⟩ := s.get h
  exact ⟨_, h1, q _ F H (Fut.rfl x) ⟨p, vs, rfl, h2, h3⟩⟩
theorem ek_own {i : Nat} {kvs : List (Int × D)} (h : δ[i]? = some (.oK kvs)) : EKb K C (tVar i) δ kvs := fun H0 F H σ x s Q q => by
  obtain ⟨o, h1, p, vs, rfl, _, _, h2, h3⟩ := s.get h
  exact ⟨_, h1, q _ F H (Fut.rfl x) ⟨p, vs, rfl, h2, h3⟩⟩
theorem ed_int {i : Int} : ED K C (tC (.int i)) δ (.int i) := fun H0 F H σ x s Q q => q _ F H (Fut.rfl x) (.int i)
theorem ed_str {i : Str} : ED K C (tC (.str i)) δ (.str i) := fun H0 F H σ x s Q q => q _ F H (Fut.rfl x) (.str i)
theorem ed_bl {i : Bool} : ED K C (tC (.bl i)) δ (.bl i) := fun H0 F H σ x s Q q => q _ F H (Fut.rfl x) (.bl i)
theorem ed_non : ED K C (tC .non) δ .non := fun H0 F H σ x s Q q => q _ F H (Fut.rfl x) .non
/-! #### arguments -/
theorem ea_nil : EA K C tNil δ [] := fun H0 F H σ x s Q q => q _ F H (Fut.rfl x) .nil
theorem ea_cons (h : ED K C te δ d) (hr : EA K C tr δ ds) : EA K C (tCons te tr) δ (d :: ds) := fun H0 F H σ x s Q q =>
  h H0 F H σ x s _ fun v F1 H1 f1 p1 => hr H0 F1 H1 σ f1.s (s.fut f1) _ fun vs F2 H2 f2 p2 => q _ F2 H2 (f1.trans f2) (.cons (p1.mono f2.f) p2)
theorem eah_nil : EAH K C tNil δ [] := fun H0 F H σ x s Q q => q _ F H (Fut.rfl x) .nil
theorem eah_cons (h : EH K C te δ d) (hr : EAH K C tr δ ds) : EAH K C (tCons te tr) δ (d :: ds) := fun H0 F H σ x s Q q =>
  h H0 F H σ x s _ fun v F1 H1 f1 p1 => hr H0 F1 H1 σ f1.s (s.fut f1) _ fun vs F2 H2 f2 p2 => q _ F2 H2 (f1.trans f2) (.cons (p1.mono f2.h) p2)
/-! #### operators -/
theorem ev_op {P R S : V → Hp → Hp → Prop} {r : R2} (ha : EV K C ta δ P) (hb : EV K C tb δ R) (st : Stab P)
    (hr : ∀ x y F H, Ex F H → P x F H → R y F H → ∀ Q : VK, (∀ v F' H', Fut F H F' H' → S v F' H' → Q v H') → r x y H Q) : EV K C (tOp r ta tb) δ S := fun H0 F H σ x s Q q =>
  ha H0 F H σ x s _ fun v F1 H1 f1 p1 => hb H0 F1 H1 σ f1.s (s.fut f1) _ fun w F2 H2 f2 p2 => hr v w F2 H2 f2.s (st _ _ _ _ _ f2 p1) p2 Q fun z F3 H3 f3 p3 => q z F3 H3 (f1.trans (f2.trans f3)) p3
theorem ed_opI0 {g : Int → Int → V} {z : Int → Int → D} {i j : Int} (hz : ∀ F, Is K C F (g i j) (z i j)) (ha : ED K C ta δ (.int i)) (hb : ED K C tb δ (.int j)) : ED K C (tOp (rI0 g) ta tb) δ (z i j) :=
  ev_op ha hb st_D fun x y F H e p q Q k => by
    cases p
    cases q
    exact ⟨i, j, rfl, rfl, k _ F H (Fut.rfl e) (hz F)⟩
theorem ed_opI {c : Int → Int → Prop} {g : Int → Int → V} {z : Int → Int → D} {i j : Int} (hz : ∀ F, Is K C F (g i j) (z i j)) (ha : ED K C ta δ (.int i)) (hb : ED K C tb δ (.int j)) (hc : c i j) : ED K C (tOp (rI c g) ta tb) δ (z i j) :=
  ev_op ha hb st_D fun x y F H e p q Q k => by
    cases p
    cases q
    exact ⟨i, j, rfl, rfl, hc, k _ F H (Fut.rfl e) (hz F)⟩
theorem ed_add {i j : Int} (ha : ED K C ta δ (.int i)) (hb : ED K C tb δ (.int j)) : ED K C (tOp (rI0 fun i j => .int (i + j)) ta tb) δ (.int (i + j)) := ed_opI0 (z := fun i j => .int (i + j)) (fun _ => .int _) ha hb
theorem ed_sub {i j : Int} (ha : ED K C ta δ (.int i)) (hb : ED K C tb δ (.int j)) : ED K C (tOp (rI0 fun i j => .int (i - j)) ta tb) δ (.int (i - j)) := ed_opI0 (z := fun i j => .int (i - j)) (fun _ => .int _) ha hb
theorem ed_mul {i j : Int} (ha : ED K C ta δ (.int i)) (hb : ED K C tb δ (.int j)) (hc : CMul i j) : ED K C (tOp (rI CMul fun i j => .int (i * j)) ta tb) δ (.int (i * j)) := ed_opI (z := fun i j => .int (i * j)) (fun _ => .int _) ha hb hc
theorem ed_mod {i j : Int} (ha : ED K C ta δ (.int i)) (hb : ED K C tb δ (.int j)) (hc : 0 < j) : ED K C (tOp (rI (fun _ j => 0 < j) fun i j => .int (i % j)) ta tb) δ (.int (i % j)) := ed_opI (z := fun i j => .int (i % j)) (fun _ => .int _) ha hb hc
theorem ed_fdiv {i j : Int} (ha : ED K C ta δ (.int i)) (hb : ED K C tb δ (.int j)) (hc : CDiv i j) : ED K C (tOp (rI CDiv fun i j => .int (i / j)) ta tb) δ (.int (i / j)) := ed_opI (z := fun i j => .int (i / j)) (fun _ => .int _) ha hb hc
theorem ed_pow {i j : Int} (ha : ED K C ta δ (.int i)) (hb : ED K C tb δ (.int j)) (hc : CPow i j) : ED K C (tOp (rI CPow fun i j => .int (i ^ j.toNat)) ta tb) δ (.int (i ^ j.toNat)) := ed_opI (z := fun i j => .int (i ^ j.toNat)) (fun _ => .int _) ha hb hc
theorem ed_lt {i j : Int} (ha : ED K C ta δ (.int i)) (hb : ED K C tb δ (.int j)) : ED K C (tOp (rI0 fun i j => .bl (decide (i < j))) ta tb) δ (.bl (decide (i < j))) := ed_opI0 (z := fun i j => .bl (decide (i < j))) (fun _ => .bl _) ha hb
theorem ed_le {i j : Int} (ha : ED K C ta δ (.int i)) (hb : ED K C tb δ (.int j)) : ED K C (tOp (rI0 fun i j => .bl (decide (i ≤ j))) ta tb) δ (.bl (decide (i ≤ j))) := ed_opI0 (z := fun i j => .bl (decide (i ≤ j))) (fun _ => .bl _) ha hb
theorem ed_gt {i j : Int} (ha : ED K C ta δ (.int i)) (hb : ED K C tb δ (.int j)) : ED K C (tOp (rI0 fun i j => .bl (decide (j < i))) ta tb) δ (.bl (decide (j < i))) := ed_opI0 (z := fun i j => .bl (decide (j < i))) (fun _ => .bl _) ha hb
theorem ed_ge {i j : Int} (ha : ED K C ta δ (.int i)) (hb : ED K C tb δ (.int j)) : ED K C (tOp (rI0 fun i j => .bl (decide (j ≤ i))) ta tb) δ (.bl (decide (j ≤ i))) := ed_opI0 (z := fun i j => .bl (decide (j ≤ i))) (fun _ => .bl _) ha hb
theorem ed_eqI {i j : Int} (ha : ED K C ta δ (.int i)) (hb : ED K C tb δ (.int j)) : ED K C (tOp rEq ta tb) δ (.bl (decide (i = j))) := ev_op ha hb st_D fun x y F H e p q Q k => by
  cases p
  cases q
  refine ⟨rfl, ?_⟩
  have h : decide (V.int i = V.int j) = decide (i = j) := by simp
  rw [h]
  exact k _ F H (Fut.rfl e) (.bl _)
theorem ed_neI {i j : Int} (ha : ED K C ta δ (.int i)) (hb : ED K C tb δ (.int j)) : ED K C (tOp rNe ta tb) δ (.bl (!decide (i = j))) := ev_op ha hb st_D fun x y F H e p q Q k => by
  cases p
  cases q
  refine ⟨rfl, ?_⟩
  have h : decide (V.int i = V.int j) = decide (i = j) := by simp
  rw [h]
  exact k _ F H (Fut.rfl e) (.bl _)
theorem ed_eqB {i j : Bool} (ha : ED K C ta δ (.bl i)) (hb : ED K C tb δ (.bl j)) : ED K C (tOp rEq ta tb) δ (.bl (decide (i = j))) := ev_op ha hb st_D fun x y F H e p q Q k => by
  cases p
  cases q
  refine ⟨rfl, ?_⟩
  have h : decide (V.bl i = V.bl j) = decide (i = j) := by simp
  rw [h]
  exact k _ F H (Fut.rfl e) (.bl _)
theorem ed_neB {i j : Bool} (ha : ED K C ta δ (.bl i)) (hb : ED K C tb δ (.bl j)) : ED K C (tOp rNe ta tb) δ (.bl (!decide (i = j))) := ev_op ha hb st_D fun x y F H e p q Q k => by
  cases p
  cases q
  refine ⟨rfl, ?_⟩
  have h : decide (V.bl i = V.bl j) = decide (i = j) := by simp
  rw [h]
  exact k _ F H (Fut.rfl e) (.bl _)
theorem ed_eqS {i j : Str} (ha : ED K C ta δ (.str i)) (hb : ED K C tb δ (.str j)) : ED K C (tOp rEq ta tb) δ (.bl (decide (i = j))) := ev_op ha hb st_D fun x y F H e p q Q k => by
  cases p
  cases q
  refine ⟨rfl, ?_⟩
  have h : decide (V.str i = V.str j) = decide (i = j) := by simp
  rw [h]
  exact k _ F H (Fut.rfl e) (.bl _)
theorem ed_neS {i j : Str} (ha : ED K C ta δ (.str i)) (hb : ED K C tb δ (.str j)) : ED K C (tOp rNe ta tb) δ (.bl (!decide (i = j))) := ev_op ha hb st_D fun x y F H e p q Q k => by
  cases p
  cases q
  refine ⟨rfl, ?_⟩
  have h : decide (V.str i = V.str j) = decide (i = j) := by simp
  rw [h]
  exact k _ F H (Fut.rfl e) (.bl _)
/-- x is None, x is not None -/
def isNon : D → Bool
  | .non => true
  | _ => false
theorem is_non {F : Hp} {v : V} (h : Is K C F v d) : decide (v = .non) = isNon d := by
  cases h <;> simp [isNon]
theorem ed_isN (ha : ED K C ta δ d) : ED K C (tOp (fun x y H Q => y = .non ∧ Q (.bl (decide (x = .non))) H) ta (tC .non)) δ (.bl (isNon d)) := ev_op ha ed_non st_D fun x y F H e p q Q k => by
  cases q
  refine ⟨rfl, ?_⟩
  rw [is_non p]
  exact k _ F H (Fut.rfl e) (.bl _)
theorem ed_notN (ha : ED K C ta δ d) : ED K C (tOp (fun x y H Q => y = .non ∧ Q (.bl (!decide (x = .non))) H) ta (tC .non)) δ (.bl (!isNon d)) := ev_op ha ed_non st_D fun x y F H e p q Q k => by
  cases q
  refine ⟨rfl, ?_⟩
  rw [is_non p]
  exact k _ F H (Fut.rfl e) (.bl _)
theorem ed_addS {i j : Str} (ha : ED K C ta δ (.str i)) (hb : ED K C tb δ (.str j)) (hl : i.length + j.length ≤ sizeLine) : ED K C (tOp (fun x y H Q => ∃ i j, x = .str i ∧ y = .str j ∧ i.length + j.length ≤ sizeLine ∧ Q (.str (i ++ j)) H) ta tb) δ (.str (i ++ j)) :=
  ev_op ha hb st_D fun x y F H e p q Q k => by
    cases p
    cases q
    exact ⟨i, j, rfl, rfl, hl, k _ F H (Fut.rfl e) (.str _)⟩
theorem ev_un {P S : V → Hp → Hp → Prop} {r : V → Hp → VK → Prop} (ha : EV K C ta δ P)
    (hr : ∀ x F H, Ex F H → P x F H → ∀ Q : VK, (∀ v F' H', Fut F H F' H' → S v F' H' → Q v H') → r x H Q) : EV K C (tUn r ta) δ S := fun H0 F H σ x s Q q =>
  ha H0 F H σ x s _ fun v F1 H1 f1 p1 => hr v F1 H1 f1.s p1 Q fun z F3 H3 f3 p3 => q z F3 H3 (f1.trans f3) p3
theorem ed_neg {i : Int} (ha : ED K C ta δ (.int i)) : ED K C (tUn (rU fun i => .int (-i)) ta) δ (.int (-i)) := ev_un ha fun x F H e p Q k => by
  cases p
  exact ⟨i, rfl, k _ F H (Fut.rfl e) (.int _)⟩
/-! #### displays, subscripts, slices -/
theorem ed_tup (h : EA K C tr δ ds) (hl : ds.length ≤ 100000) : ED K C (tTup tr) δ (.tup ds) := fun H0 F H σ x s Q q => h H0 F H σ x s _ fun vs F1 H1 f1 p1 =>
  ⟨Evl.sz_of (by rw [p1.length]; exact hl), fun p hp => q _ (upd F1 p (.tup vs)) _ (f1.trans (Fut.new f1.s hp)) (.tup upd_same (p1.mono (Ex.new (f1.s.back hp))))⟩
theorem ex_lst (h : EA K C tr δ ds) (hl : ds.length ≤ 100000) : EX K C (tLst tr) δ ds := fun H0 F H σ x s Q q => h H0 F H σ x s _ fun vs F1 H1 f1 p1 =>
  ⟨Evl.sz_of (by rw [p1.length]; exact hl), fun p hp => q _ (upd F1 p (.lst vs)) _ (f1.trans (Fut.new f1.s hp)) ⟨p, vs, rfl, upd_same, p1.mono (Ex.new (f1.s.back hp))⟩⟩
theorem ixN_len {n m : Nat} (h : n = m) (i : Int) : ixN n i = ixN m i := by rw [h]
theorem atI_all {F : Hp} {vs : List V} {i : Int} (h : IsAll K C F vs ds) (ha : atI ds i = some d) : ∃ v, atI vs i = some v ∧ Is K C F v d := by
  unfold atI at ha ⊢
  rw [h.length]
  cases hx : ixN ds.length i with
  | none => rw [hx] at ha; cases ha
  | some j =>
    rw [hx] at ha
    obtain ⟨v, h1, h2⟩ := h.getD (show ds[j]? = some d from ha)
    exact ⟨v, h1, h2⟩
theorem ed_ixT {i : Int} (ha : ED K C ta δ (.tup ds)) (hb : ED K C tb δ (.int i)) (hi : atI ds i = some d) : ED K C (tOp (rIxT K) ta tb) δ d := ev_op ha hb st_D fun x y F H e p q Q k => by
  cases q
  cases p with
  | tup a b =>
    obtain ⟨v, h1, h2⟩ := atI_all b hi
    exact ⟨_, _, i, v, rfl, rfl, .inl (.inl (e _ _ a)), h1, k v F H (Fut.rfl e) h2⟩
theorem ed_ixL {i : Int} (ha : EL K C ta δ ds) (hb : ED K C tb δ (.int i)) (hi : atI ds i = some d) : ED K C (tOp (rIxL K) ta tb) δ d := ev_op ha hb st_L fun x y F H e ⟨p, vs, r, a, b⟩ q Q k => by
  cases q
  obtain ⟨v, h1, h2⟩ := atI_all b hi
  exact ⟨_, _, i, v, r, rfl, .inl (.inl a), h1, k v F H (Fut.rfl e) h2⟩
theorem ed_ixS {z : Str} {c : Nat} {i : Int} (ha : ED K C ta δ (.str z)) (hb : ED K C tb δ (.int i)) (hl : z.length ≤ 100000) (hi : atI z.cps.toList i = some c) : ED K C (tOp rIxS ta tb) δ (.str ⟨#[c]⟩) := ev_op ha hb st_D fun x y F H e p q Q k => by
  cases p
  cases q
  exact ⟨z, i, c, rfl, rfl, Evl.sz_of hl, hi, k _ F H (Fut.rfl e) (.str _)⟩
def EO (K : PySem.W.Frag) (C : Addr) (to : TO) (δ : List Fr) (o : Option Int) : Prop :=
  ∀ (H0 F H : Hp) (σ : L2.St), Ex F H → Sd K C H0 F H σ δ → ∀ Q : Option Int → Hp → Prop, (∀ F' H', Fut F H F' H' → Q o H') → to σ H Q
theorem eo_none : EO K C tNoPart δ none := fun H0 F H σ x s Q q => q F H (Fut.rfl x)
theorem eo_some {i : Int} (h : ED K C te δ (.int i)) : EO K C (tPart te) δ (some i) := fun H0 F H σ x s Q q => h H0 F H σ x s _ fun v F1 H1 f1 p1 => by
  cases p1
  exact ⟨i, rfl, q F1 H1 f1⟩
theorem ev_sl {P S : V → Hp → Hp → Prop} {r : V → Option Int → Option Int → Hp → VK → Prop} {tl th : TO} {lo hi : Option Int} (ha : EV K C ta δ P) (st : Stab P) (hl : EO K C tl δ lo) (hh : EO K C th δ hi)
    (hr : ∀ x F H, Ex F H → P x F H → ∀ Q : VK, (∀ v F' H', Fut F H F' H' → S v F' H' → Q v H') → r x lo hi H Q) : EV K C (tSl r ta tl th) δ S := fun H0 F H σ x s Q q =>
  ha H0 F H σ x s _ fun v F1 H1 f1 p1 => hl H0 F1 H1 σ f1.s (s.fut f1) _ fun F2 H2 f2 => hh H0 F2 H2 σ f2.s ((s.fut f1).fut f2) _ fun F3 H3 f3 =>
    hr v F3 H3 f3.s (st _ _ _ _ _ f3 (st _ _ _ _ _ f2 p1)) Q fun z F4 H4 f4 p4 => q z F4 H4 (f1.trans (f2.trans (f3.trans f4))) p4
def cutD (ds : List D) (lo hi : Option Int) : List D := (ds.drop (HT.sIx ds.length 0 lo)).take (HT.sIx ds.length ds.length hi - HT.sIx ds.length 0 lo)
theorem cut_all {F : Hp} {vs : List V} (h : IsAll K C F vs ds) (lo hi : Option Int) : IsAll K C F (cutV vs lo hi) (cutD ds lo hi) := by
  unfold cutV cutD
  rw [h.length]
  exact (h.drop _).take _
theorem ex_slL {tl th : TO} {lo hi : Option Int} (ha : EL K C ta δ ds) (hl : EO K C tl δ lo) (hh : EO K C th δ hi) : EX K C (tSl (rSlL K) ta tl th) δ (cutD ds lo hi) := ev_sl ha st_L hl hh fun x F H e ⟨p, vs, r, a, b⟩ Q k =>
  ⟨p, vs, r, .inl (.inl a), fun p' hp => k _ (upd F p' _) _ (Fut.new e hp) ⟨p', _, rfl, upd_same, (cut_all b lo hi).mono (Ex.new (e.back hp))⟩⟩
theorem ed_slS {tl th : TO} {lo hi : Option Int} {z : Str} (ha : ED K C ta δ (.str z)) (hl : EO K C tl δ lo) (hh : EO K C th δ hi) (hz : z.length ≤ 100000) : ED K C (tSl rSlS ta tl th) δ (.str (cutS z lo hi)) := ev_sl ha st_D hl hh fun x F H e p Q k => by
  cases p
  exact ⟨z, rfl, Evl.sz_of hz, k _ F H (Fut.rfl e) (.str _)⟩
/-! #### tests -/
theorem td_test {b : Bool} (h : ED K C te δ (.bl b)) : TD K C (tTest te) δ b := fun H0 F H σ x s Q q => h H0 F H σ x s _ fun v F1 H1 f1 p1 => by
  cases p1
  exact ⟨b, rfl, q F1 H1 f1⟩
theorem td_B {b : Bool} (h : ED K C te δ (.bl b)) : TD K C (tB te) δ b := fun H0 F H σ x s Q q => h H0 F H σ x s _ fun v F1 H1 f1 p1 => by
  cases p1
  exact ⟨b, rfl, q F1 H1 f1⟩
theorem td_not {b : Bool} (h : TD K C t δ b) : TD K C (tNot t) δ (!b) := fun H0 F H σ x s Q q => h H0 F H σ x s _ fun F1 H1 f1 => q F1 H1 f1
theorem td_yes : TD K C tYes δ true := fun H0 F H σ x s Q q => q F H (Fut.rfl x)
theorem td_and {a b : Bool} (h : TD K C t δ a) (h2 : a = true → TD K C u δ b) : TD K C (tAnd t u) δ (a && b) := fun H0 F H σ x s Q q => h H0 F H σ x s _ fun F1 H1 f1 => by
  cases a with
  | true => exact iteT (h2 rfl H0 F1 H1 σ f1.s (s.fut f1) _ fun F2 H2 f2 => q F2 H2 (f1.trans f2))
  | false => exact iteF (q F1 H1 f1)
theorem td_or {a b : Bool} (h : TD K C t δ a) (h2 : a = false → TD K C u δ b) : TD K C (tOr t u) δ (a || b) := fun H0 F H σ x s Q q => h H0 F H σ x s _ fun F1 H1 f1 => by
  cases a with
  | true => exact iteT (q F1 H1 f1)
  | false => exact iteF (h2 rfl H0 F1 H1 σ f1.s (s.fut f1) _ fun F2 H2 f2 => q F2 H2 (f1.trans f2))
theorem ed_andV {a b : Bool} (h : ED K C ta δ (.bl a)) (h2 : a = true → ED K C tb δ (.bl b)) : ED K C (tAndV ta tb) δ (.bl (a && b)) := fun H0 F H σ x s Q q => h H0 F H σ x s _ fun v F1 H1 f1 p1 => by
  cases p1
  refine ⟨a, rfl, ?_⟩
  cases a with
  | true => exact iteT (h2 rfl H0 F1 H1 σ f1.s (s.fut f1) _ fun v F2 H2 f2 p2 => q v F2 H2 (f1.trans f2) p2)
  | false => exact iteF (q _ F1 H1 f1 (.bl _))
theorem ed_orV {a b : Bool} (h : ED K C ta δ (.bl a)) (h2 : a = false → ED K C tb δ (.bl b)) : ED K C (tOrV ta tb) δ (.bl (a || b)) := fun H0 F H σ x s Q q => h H0 F H σ x s _ fun v F1 H1 f1 p1 => by
  cases p1
  refine ⟨a, rfl, ?_⟩
  cases a with
  | true => exact iteT (q _ F1 H1 f1 (.bl _))
  | false => exact iteF (h2 rfl H0 F1 H1 σ f1.s (s.fut f1) _ fun v F2 H2 f2 p2 => q v F2 H2 (f1.trans f2) p2)
theorem ed_notV {a : Bool} (h : ED K C ta δ (.bl a)) : ED K C (tNotV ta) δ (.bl (!a)) := fun H0 F H σ x s Q q => h H0 F H σ x s _ fun v F1 H1 f1 p1 => by
  cases p1
  exact ⟨a, rfl, q _ F1 H1 f1 (.bl _)⟩
theorem ed_ifE {b : Bool} (h : TD K C t δ b) (h1 : b = true → ED K C ta δ d) (h2 : b = false → ED K C tb δ d) : ED K C (tIf t ta tb) δ d := fun H0 F H σ x s Q q => h H0 F H σ x s _ fun F1 H1 f1 => by
  cases b with
  | true => exact iteT (h1 rfl H0 F1 H1 σ f1.s (s.fut f1) _ fun v F2 H2 f2 p2 => q v F2 H2 (f1.trans f2) p2)
  | false => exact iteF (h2 rfl H0 F1 H1 σ f1.s (s.fut f1) _ fun v F2 H2 f2 p2 => q v F2 H2 (f1.trans f2) p2)
theorem ed_chainI {g g' : Int → Int → Bool} {i j k : Int} (ha : ED K C ta δ (.int i)) (hb : ED K C tb δ (.int j)) (hc : ED K C tc δ (.int k)) : ED K C (tChain (rI0 fun i j => .bl (g i j)) (rI0 fun i j => .bl (g' i j)) ta tb tc) δ (.bl (g i j && g' j k)) := fun H0 F H σ x s Q q =>
  ha H0 F H σ x s _ fun v F1 H1 f1 p1 => hb H0 F1 H1 σ f1.s (s.fut f1) _ fun w F2 H2 f2 p2 => by
    cases p1
    cases p2
    refine ⟨i, j, rfl, rfl, g i j, rfl, ?_⟩
    cases hg : g i j with
    | true => exact iteT (hc H0 F2 H2 σ f2.s ((s.fut f1).fut f2) _ fun v F3 H3 f3 p3 => by
        cases p3
        exact ⟨j, k, rfl, rfl, q _ F3 H3 (f1.trans (f2.trans f3)) (by rw [hg, Bool.true_and]; exact .bl _)⟩)
    | false => exact iteF (q _ F2 H2 (f1.trans f2) (by rw [hg, Bool.false_and]; exact .bl _))
end
end Bt

end BtLogic_part
section BtLogic2_part
set_option Elab.async false
set_option linter.all false
set_option maxRecDepth 100000
set_option maxHeartbeats 4000000
namespace Bt
open PySem PySem.Spec PyProof.Rows L2
/-! ### calls -/
/-- the promise of a def that reads and hands back data: f tells which arguments give which answer -/
def spP (K : PySem.W.Frag) (C : Addr) (f : List D → D → Prop) : Sp := fun vs H Q _ => ∃ F ds d, Ex F H ∧ IsAll K C F vs ds ∧ f ds d ∧ ∀ v F' H', Fut F H F' H' → Is K C F' v d → Q v H'
def Scal : D → Prop
  | .non => True
  | .bl _ => True
  | .int _ => True
  | .str _ => True
  | _ => False
section
variable {K : PySem.W.Frag} {C : Addr} {te ta tb tc : TE} {tr : TA} {t u : TT} {δ : List Fr} {d e : D} {ds es : List D} {f : List D → D → Prop} {E : XK}
theorem Scal.is {F H : Hp} {v : V} (h : Scal d) (p : Is K C F v d) : Is K C H v d := by
  cases p with
  | non => exact .non
  | bl b => exact .bl b
  | int b => exact .int b
  | str b => exact .str b
  | _ => exact h.elim
theorem ed_call (h : EA K C tr δ ds) (hf : f ds d) : ED K C (tCall (spP K C f) [] E tr) δ d := fun H0 F H σ x s Q q => h H0 F H σ x s _ fun vs F1 H1 f1 p1 => by
  show spP K C f (vs ++ []) H1 Q E
  rw [List.append_nil]
  exact ⟨F1, ds, d, f1.s, p1, hf, fun v F2 H2 f2 p2 => q v F2 H2 (f1.trans f2) p2⟩
theorem ed_callH (h : EAH K C tr δ ds) (hf : f ds d) (hs : Scal d) : ED K C (tCall (spP K C f) [] E tr) δ d := fun H0 F H σ x s Q q => h H0 F H σ x s _ fun vs F1 H1 f1 p1 => by
  show spP K C f (vs ++ []) H1 Q E
  rw [List.append_nil]
  exact ⟨H1, ds, d, Ex.rfl, p1, hf, fun v F2 H2 f2 p2 => q v F1 H2 (f1.trans ⟨Ex.rfl, f2.h, f1.s.trans f2.h, fun _ _ _ z => z⟩) (hs.is p2)⟩
theorem ed_meth {m : Str} {ps : List D} (ha : ED K C ta δ (.desk ps)) (hm : ([(("points" : Str), V.non), (("past" : Str), V.non)].lookup m).isNone = true) (h : EA K C tr δ ds) (hf : f (.desk ps :: ds) d) : ED K C (tMeth C m (spP K C f) [] E ta tr) δ d := fun H0 F H σ x s Q q =>
  ha H0 F H σ x s _ fun v F1 H1 f1 p1 => by
    have p1' := p1
    cases p1' with
    | @desk a dx vp wp ps hd hp =>
      have hl : ∀ (v w : V), [(("points" : Str), v), (("past" : Str), w)].lookup m = none := by
        intro v w
        simp only [List.lookup] at hm ⊢
        cases h1 : (m == ("points" : Str)) <;> simp only [h1] at hm ⊢
        · cases h2 : (m == ("past" : Str)) <;> simp only [h2] at hm ⊢
          exact absurd hm (by decide)
        · exact absurd hm (by decide)
      refine ⟨a, dx, _, rfl, f1.s _ _ hd, hl _ _, h H0 F1 H1 σ f1.s (s.fut f1) _ fun vs F2 H2 f2 p2 => ?_⟩
      show spP K C f (V.ref a :: (vs ++ [])) H2 Q E
      rw [List.append_nil]
      exact ⟨F2, .desk ps :: ds, d, f2.s, .cons (p1.mono f2.f) p2, hf, fun v F3 H3 f3 p3 => q v F3 H3 (f1.trans (f2.trans f3)) p3⟩
theorem ed_points {ps : List D} (hc : Cls K C) (hn : NoAttr K C "points") (ha : ED K C ta δ (.desk ps)) : ED K C (tFld K ta "points") δ (.tup ps) := fun H0 F H σ x s Q q =>
  ha H0 F H σ x s _ fun v F1 H1 f1 p1 => by
    cases p1 with
    | @desk a dx vp wp ps hd hp => exact ⟨a, C, dx, _, vp, rfl, f1.s _ _ hd, hc, hn, rfl, q _ F1 H1 f1 hp⟩
/-! ### built-ins -/
theorem ev_cb {S : V → Hp → Hp → Prop} {r : List V → Hp → VK → Prop} (h : EA K C tr δ ds)
    (hr : ∀ vs F H, Ex F H → IsAll K C F vs ds → ∀ Q : VK, (∀ v F' H', Fut F H F' H' → S v F' H' → Q v H') → r vs H Q) : EV K C (tCB r tr) δ S := fun H0 F H σ x s Q q =>
  h H0 F H σ x s _ fun vs F1 H1 f1 p1 => hr vs F1 H1 f1.s p1 Q fun z F3 H3 f3 p3 => q z F3 H3 (f1.trans f3) p3
/-- one argument, of any make -/
theorem ev_cb1 {P S : V → Hp → Hp → Prop} {r : List V → Hp → VK → Prop} (h : EV K C te δ P)
    (hr : ∀ v F H, Ex F H → P v F H → ∀ Q : VK, (∀ v F' H', Fut F H F' H' → S v F' H' → Q v H') → r [v] H Q) : EV K C (tCB r (tCons te tNil)) δ S := fun H0 F H σ x s Q q =>
  h H0 F H σ x s _ fun v F1 H1 f1 p1 => hr v F1 H1 f1.s p1 Q fun z F3 H3 f3 p3 => q z F3 H3 (f1.trans f3) p3
abbrev rLenQ (K : PySem.W.Frag) : List V → Hp → VK → Prop := fun xs H Q => ∃ p ys, xs = [.ref p] ∧ (SqL K H p ys ∨ SqT K H p ys) ∧ Q (.int ys.length) H
theorem ed_lenL (h : EL K C te δ ds) : ED K C (tCB (rLenQ K) (tCons te tNil)) δ (.int (ds.length : Nat)) := ev_cb1 h fun v F H x ⟨p, vs, a, b, c⟩ Q k =>
  ⟨p, vs, by rw [a], .inl (.inl (.inl b)), k _ F H (Fut.rfl x) (by rw [c.length]; exact .int _)⟩
theorem ed_lenT (h : ED K C te δ (.tup ds)) : ED K C (tCB (rLenQ K) (tCons te tNil)) δ (.int (ds.length : Nat)) := ev_cb1 h fun v F H x p Q k => by
  cases p with
  | tup a b => exact ⟨_, _, rfl, .inr (.inl (.inl (x _ _ a))), k _ F H (Fut.rfl x) (by rw [b.length]; exact .int _)⟩
theorem ed_lenS {z : Str} (h : ED K C te δ (.str z)) (hz : z.length ≤ 100000) : ED K C (tCB (fun xs H Q => ∃ z : Str, xs = [.str z] ∧ z.length ≤ sizeLine ∧ Q (.int z.length) H) (tCons te tNil)) δ (.int (z.length : Nat)) := ev_cb1 h fun v F H x p Q k => by
  cases p
  exact ⟨z, rfl, Evl.sz_of hz, k _ F H (Fut.rfl x) (.int _)⟩
theorem ed_all {bs : List Bool} (h : EL K C te δ (bs.map D.bl)) : ED K C (tCB (rAll K) (tCons te tNil)) δ (.bl (bs.all id)) := ev_cb1 h fun v F H x ⟨p, vs, a, b, c⟩ Q k =>
  ⟨p, bs, by rw [a], by rw [← c.bls]; exact .inl (.inl b), k _ F H (Fut.rfl x) (.bl _)⟩
theorem ed_max2 {i j : Int} (ha : ED K C ta δ (.int i)) (hb : ED K C tb δ (.int j)) : ED K C (tCB (fun xs H Q => ∃ i j, xs = [.int i, .int j] ∧ Q (.int (if j > i then j else i)) H) (tCons ta (tCons tb tNil))) δ (.int (if j > i then j else i)) :=
  ev_cb (ea_cons ha (ea_cons hb ea_nil)) fun vs F H x p Q k => by
    cases p with
    | cons a b => cases a; cases b with
      | cons a b => cases a; cases b; exact ⟨i, j, rfl, k _ F H (Fut.rfl x) (.int _)⟩
theorem ed_min2 {i j : Int} (ha : ED K C ta δ (.int i)) (hb : ED K C tb δ (.int j)) : ED K C (tCB (fun xs H Q => ∃ i j, xs = [.int i, .int j] ∧ Q (.int (if j < i then j else i)) H) (tCons ta (tCons tb tNil))) δ (.int (if j < i then j else i)) :=
  ev_cb (ea_cons ha (ea_cons hb ea_nil)) fun vs F H x p Q k => by
    cases p with
    | cons a b => cases a; cases b with
      | cons a b => cases a; cases b; exact ⟨i, j, rfl, k _ F H (Fut.rfl x) (.int _)⟩
theorem ed_abs {i : Int} (ha : ED K C ta δ (.int i)) : ED K C (tCB (fun xs H Q => ∃ i, xs = [.int i] ∧ Q (.int (if i < 0 then -i else i)) H) (tCons ta tNil)) δ (.int (if i < 0 then -i else i)) := ev_cb1 ha fun v F H x p Q k => by
  cases p
  exact ⟨i, rfl, k _ F H (Fut.rfl x) (.int _)⟩
theorem ed_intB {b : Bool} (ha : ED K C ta δ (.bl b)) : ED K C (tCB (fun xs H Q => (∃ i, xs = [.int i] ∧ Q (.int i) H) ∨ ∃ k, xs = [.bl k] ∧ Q (.int (if k then 1 else 0)) H) (tCons ta tNil)) δ (.int (if b then 1 else 0)) := ev_cb1 ha fun v F H x p Q k => by
  cases p
  exact .inr ⟨b, rfl, k _ F H (Fut.rfl x) (.int _)⟩
theorem ed_strI {i : Int} (ha : ED K C ta δ (.int i)) (hl : i.natAbs.log2 < 1920) : ED K C (tCB (fun xs H Q => ∃ i, xs = [.int i] ∧ i.natAbs.log2 < 1920 ∧ Q (.str (toString i)) H) (tCons ta tNil)) δ (.str (toString i)) := ev_cb1 ha fun v F H x p Q k => by
  cases p
  exact ⟨i, rfl, hl, k _ F H (Fut.rfl x) (.str _)⟩
theorem ed_intS {z : Str} {n : Int} (ha : ED K C ta δ (.str z)) (hn : PySem.intText? z = some n) (hl : z.length ≤ 640) : ED K C (tCB (fun xs H Q => ∃ a n, xs = [.str a] ∧ PySem.intText? a = some n ∧ a.length ≤ 640 ∧ Q (.int n) H) (tCons ta tNil)) δ (.int n) := ev_cb1 ha fun v F H x p Q k => by
  cases p
  exact ⟨z, n, rfl, hn, hl, k _ F H (Fut.rfl x) (.int _)⟩
abbrev rListQ (K : PySem.W.Frag) : List V → Hp → VK → Prop := fun xs H Q => ∃ p ys, xs = [.ref p] ∧ (SqL K H p ys ∨ SqT K H p ys) ∧ ∀ l, H l = none → Q (.ref l) (upd H l (.lst ys))
theorem ex_listT (h : ED K C te δ (.tup ds)) : EX K C (tCB (rListQ K) (tCons te tNil)) δ ds := ev_cb1 h fun v F H x p Q k => by
  cases p with
  | tup a b => exact ⟨_, _, rfl, .inr (.inl (.inl (x _ _ a))), fun l hl => k _ (upd F l _) _ (Fut.new x hl) ⟨l, _, rfl, upd_same, b.mono (Ex.new (x.back hl))⟩⟩
abbrev rTupQ (K : PySem.W.Frag) : List V → Hp → VK → Prop := fun xs H Q => ∃ p ys, xs = [.ref p] ∧ ((SqL K H p ys ∧ ∀ l, H l = none → Q (.ref l) (upd H l (.tup ys))) ∨ (SqT K H p ys ∧ Q (.ref p) H))
theorem ed_tupL (h : EL K C te δ ds) : ED K C (tCB (rTupQ K) (tCons te tNil)) δ (.tup ds) := ev_cb1 h fun v F H x ⟨p, vs, a, b, c⟩ Q k =>
  ⟨p, vs, by rw [a], .inl ⟨.inl (.inl b), fun l hl => k _ (upd F l _) _ (Fut.new x hl) (.tup upd_same (c.mono (Ex.new (x.back hl))))⟩⟩
/-! isinstance -/
theorem ed_isi {T : String} {b : Bool} {tn : String} (hk : PySem.W.kitOne K (.type tn) (.type T) = some b) (ht : ∀ F H v, Ex F H → Is K C F v d → TyX K H v (.type tn)) (h : ED K C te δ d) : ED K C (tCB (rIsi K) (tCons te (tCons (tC (.ty T)) tNil))) δ (.bl b) := fun H0 F H σ x s Q q =>
  h H0 F H σ x s _ fun v F1 H1 f1 p1 => ⟨v, .ty T, _, _, b, rfl, .ty T, ht F1 H1 v f1.s p1, hk, q _ F1 H1 f1 (.bl _)⟩
theorem ty_int {i : Int} (F H : Hp) (v : V) (x : Ex F H) (p : Is K C F v (.int i)) : TyX K H v (.type "int") := by
  cases p
  exact .base (.int _)
theorem ty_str {i : Str} (F H : Hp) (v : V) (x : Ex F H) (p : Is K C F v (.str i)) : TyX K H v (.type "str") := by
  cases p
  exact .base (.str _)
theorem ty_tup (F H : Hp) (v : V) (x : Ex F H) (p : Is K C F v (.tup ds)) : TyX K H v (.type "tuple") := by
  cases p with
  | tup a b => exact .base (.tup (x _ _ a))
/-! in -/
def inD (d : D) (ds : List D) : Bool := match d with
  | .int i => ds.any fun e => match e with
    | .int j => j == i
    | _ => false
  | .str i => ds.any fun e => match e with
    | .str j => j == i
    | _ => false
  | .non => ds.any isNon
  | _ => false
def flatD : D → Bool
  | .non => true
  | .int _ => true
  | .str _ => true
  | _ => false
theorem flat_is {F : Hp} {v : V} (p : Is K C F v d) (h : flatD d = true) : flatV v = true := by
  cases p <;> first | rfl | cases h
theorem flat_all {F : Hp} : ∀ {vs : List V} {ds : List D}, IsAll K C F vs ds → ds.all flatD = true → vs.all flatV = true
  | _, _, .nil, _ => rfl
  | _, _, .cons a b, h => by
    rw [List.all_cons, Bool.and_eq_true] at h ⊢
    exact ⟨flat_is a h.1, flat_all b h.2⟩
theorem in_is {F : Hp} {v : V} (p : Is K C F v d) (hd : flatD d = true) : ∀ {vs : List V} {ds : List D}, IsAll K C F vs ds → ds.all flatD = true → inV v vs = inD d ds
  | _, _, .nil, _ => by cases p <;> first | rfl | cases hd
  | _, _, .cons (v := w) (vs := ws) (d := g) (ds := gs) a b, h => by
    rw [List.all_cons, Bool.and_eq_true] at h
    have ih := in_is p hd b h.2
    have h1 : inV v (w :: ws) = (eqV w v || inV v ws) := by unfold inV; rw [List.any_cons]
    rw [h1, ih]
    cases p <;> first | cases hd | skip
    all_goals (cases a <;> first | exact Bool.noConfusion h.1 | simp [inD, eqV, List.any_cons, isNon] | rfl)
theorem ed_inL (ha : ED K C ta δ d) (hb : EL K C tb δ ds) (h1 : flatD d = true) (h2 : ds.all flatD = true) : ED K C (tOp (rIn K false) ta tb) δ (.bl (inD d ds)) := ev_op ha hb st_D fun x y F H e p ⟨q, vs, r, a, b⟩ Q k => by
  refine ⟨q, vs, r, .inl (.inl (.inl a)), flat_is p h1, flat_all b h2, ?_⟩
  rw [in_is p h1 b h2]
  exact k _ F H (Fut.rfl e) (.bl _)
theorem ed_inT (ha : ED K C ta δ d) (hb : ED K C tb δ (.tup ds)) (h1 : flatD d = true) (h2 : ds.all flatD = true) : ED K C (tOp (rIn K false) ta tb) δ (.bl (inD d ds)) := ev_op ha hb st_D fun x y F H e p q Q k => by
  cases q with
  | tup a b =>
    refine ⟨_, _, rfl, .inr (.inl (.inl (e _ _ a))), flat_is p h1, flat_all b h2, ?_⟩
    rw [in_is p h1 b h2]
    exact k _ F H (Fut.rfl e) (.bl _)
theorem ed_ninL (ha : ED K C ta δ d) (hb : EL K C tb δ ds) (h1 : flatD d = true) (h2 : ds.all flatD = true) : ED K C (tOp (rIn K true) ta tb) δ (.bl (!inD d ds)) := ev_op ha hb st_D fun x y F H e p ⟨q, vs, r, a, b⟩ Q k => by
  refine ⟨q, vs, r, .inl (.inl (.inl a)), flat_is p h1, flat_all b h2, ?_⟩
  rw [in_is p h1 b h2]
  exact k _ F H (Fut.rfl e) (.bl _)
theorem ed_ninT (ha : ED K C ta δ d) (hb : ED K C tb δ (.tup ds)) (h1 : flatD d = true) (h2 : ds.all flatD = true) : ED K C (tOp (rIn K true) ta tb) δ (.bl (!inD d ds)) := ev_op ha hb st_D fun x y F H e p q Q k => by
  cases q with
  | tup a b =>
    refine ⟨_, _, rfl, .inr (.inl (.inl (e _ _ a))), flat_is p h1, flat_all b h2, ?_⟩
    rw [in_is p h1 b h2]
    exact k _ F H (Fut.rfl e) (.bl _)
/-! tuples, lists: +, slices -/
theorem ed_catT (ha : ED K C ta δ (.tup ds)) (hb : ED K C tb δ (.tup es)) (hl : ds.length + es.length ≤ 100000) : ED K C (tOp (rCatA K) ta tb) δ (.tup (ds ++ es)) := ev_op ha hb st_D fun x y F H e p q Q k => by
  have p' := p
  have q' := q
  cases p' with
  | @tup a xs ds a1 b1 =>
    cases q' with
    | @tup b ys es a2 b2 =>
      refine ⟨a, b, xs, ys, rfl, rfl, .inl (.inl (e _ _ a1)), .inl (.inl (e _ _ a2)), Evl.sz_of (by rw [b1.length, b2.length]; exact hl), fun z => ?_, fun _ z => ?_, fun _ _ p hp => ?_⟩
      · subst z
        cases b1
        exact k _ F H (Fut.rfl e) q
      · subst z
        cases b2
        rw [List.append_nil] at k
        exact k _ F H (Fut.rfl e) p
      · exact k _ (upd F p _) _ (Fut.new e hp) (.tup upd_same ((b1.app b2).mono (Ex.new (e.back hp))))
theorem ex_catL (ha : EX K C ta δ ds) (hb : EX K C tb δ es) (hl : ds.length + es.length ≤ 100000) : EX K C (tOp rCat ta tb) δ (ds ++ es) := ev_op ha hb st_X fun x y F H e ⟨a, xs, r1, a1, b1⟩ ⟨b, ys, r2, a2, b2⟩ Q k =>
  ⟨a, b, xs, ys, r1, r2, e _ _ a1, e _ _ a2, Evl.sz_of (by rw [b1.length, b2.length]; exact hl), fun p hp => k _ (upd F p _) _ (Fut.new e hp) ⟨p, _, rfl, upd_same, (b1.app b2).mono (Ex.new (e.back hp))⟩⟩
theorem ed_slT {tl th : TO} {lo hi : Option Int} (ha : ED K C ta δ (.tup ds)) (hl : EO K C tl δ lo) (hh : EO K C th δ hi) : ED K C (tSl (rSlA K) ta tl th) δ (.tup (cutD ds lo hi)) := ev_sl ha st_D hl hh fun x F H e p Q k => by
  have p' := p
  cases p' with
  | @tup a xs ds a1 b1 =>
    refine ⟨a, xs, rfl, .inl (.inl (e _ _ a1)), fun z => ?_, fun _ p hp => k _ (upd F p _) _ (Fut.new e hp) (.tup upd_same ((cut_all b1 lo hi).mono (Ex.new (e.back hp))))⟩
    have c : cutD ds lo hi = ds := by
      unfold cutD
      rw [← b1.length, z.1, z.2, List.drop_zero, Nat.sub_zero, b1.length, List.take_length]
    rw [c] at k
    exact k _ F H (Fut.rfl e) p
/-! texts -/
theorem ex_split {z w : Str} (h : ED K C ta δ (.str z)) (hb : ED K C tb δ (.str w)) (h1 : (w.length == 0) = false) (h2 : z.length ≤ 100000) :
    EX K C (tM1 (fun x xs H Q => ∃ a b, x = .str a ∧ xs = [.str b] ∧ (b.length == 0) = false ∧ a.length + 2 ≤ sizeLine ∧ rNewStrs (Txt.split a b) H Q) ta tb) δ ((Txt.split z w).map D.str) := fun H0 F H σ x s Q q =>
  h H0 F H σ x s _ fun v F1 H1 f1 p1 => by
    cases p1
    exact ⟨⟨z, rfl⟩, hb H0 F1 H1 σ f1.s (s.fut f1) _ fun v F2 H2 f2 p2 => by
      cases p2
      exact ⟨z, w, rfl, rfl, h1, Nat.le_trans (Nat.add_le_add_right h2 2) (by decide), fun p hp => q _ (upd F2 p _) _ (f1.trans (f2.trans (Fut.new f2.s hp))) ⟨p, _, rfl, upd_same, IsAll.ofStrs _⟩⟩⟩
theorem ed_join {z : Str} {ys : List Str} (h : ED K C ta δ (.str z)) (hb : EL K C tb δ (ys.map D.str)) (hl : (ys.map (·.length)).sum + ys.length * z.length ≤ 16777216) :
    ED K C (tM1 (fun x xs H Q => ∃ a p, ∃ ys : List Str, x = .str a ∧ xs = [.ref p] ∧ (SqL K H p (ys.map V.str) ∨ SqT K H p (ys.map V.str)) ∧ (ys.map (·.length)).sum + ys.length * a.length ≤ 16777216 ∧ Q (.str (Txt.join a ys)) H) ta tb) δ (.str (Txt.join z ys)) := fun H0 F H σ x s Q q =>
  h H0 F H σ x s _ fun v F1 H1 f1 p1 => by
    cases p1
    exact ⟨⟨z, rfl⟩, hb H0 F1 H1 σ f1.s (s.fut f1) _ fun v F2 H2 f2 ⟨p, vs, a, b, c⟩ =>
      ⟨z, p, ys, rfl, by rw [a], .inl (by rw [← c.strs]; exact .inl (.inl b)), hl, q _ F2 H2 (f1.trans f2) (.str _)⟩⟩
theorem ed_inS {c : Nat} {z : Str} (ha : ED K C ta δ (.str ⟨#[c]⟩)) (hb : ED K C tb δ (.str z)) : ED K C (tOp (fun x y H Q => ∃ (c : Nat) (z : Str), x = .str ⟨#[c]⟩ ∧ y = .str z ∧ Q (.bl (decide (c ∈ z.cps.toList))) H) ta tb) δ (.bl (decide (c ∈ z.cps.toList))) := ev_op ha hb st_D fun x y F H e p q Q k => by
  cases p
  cases q
  exact ⟨c, z, rfl, rfl, k _ F H (Fut.rfl e) (.bl _)⟩
theorem ed_ninS {c : Nat} {z : Str} (ha : ED K C ta δ (.str ⟨#[c]⟩)) (hb : ED K C tb δ (.str z)) : ED K C (tOp (fun x y H Q => ∃ (c : Nat) (z : Str), x = .str ⟨#[c]⟩ ∧ y = .str z ∧ Q (.bl (!decide (c ∈ z.cps.toList))) H) ta tb) δ (.bl (!decide (c ∈ z.cps.toList))) := ev_op ha hb st_D fun x y F H e p q Q k => by
  cases p
  cases q
  exact ⟨c, z, rfl, rfl, k _ F H (Fut.rfl e) (.bl _)⟩
/-! dicts -/
def getT {α : Type} [DecidableEq α] (kvs : List (α × D)) (k : α) : Option D := (kvs.find? fun kv => decide (kv.1 = k)).map (·.2)
def putT {α : Type} [DecidableEq α] (kvs : List (α × D)) (k : α) (d : D) : List (α × D) :=
  if (kvs.any fun kv => decide (kv.1 = k)) = true then kvs.map (fun kv => if kv.1 = k then (kv.1, d) else kv) else kvs ++ [(k, d)]
theorem inl_inj : ∀ {k l : List Int}, k.map (Sum.inl : Int → Key) = l.map Sum.inl → k = l
  | [], [], _ => rfl
  | [], _ :: _, h => by simp at h
  | _ :: _, [], h => by simp at h
  | a :: k, b :: l, h => by
    simp only [List.map_cons, List.cons.injEq] at h
    rw [Sum.inl.inj h.1, inl_inj h.2]
theorem isT_get {F : Hp} {k : List Int} : ∀ {ks : List (List Key × V)} {kvs : List (List Int × D)}, IsT K C F ks kvs → (∀ d, getT kvs k = some d → ∃ v, valV ks (k.map Sum.inl) = some v ∧ Is K C F v d) ∧ (getT kvs k = none → valV ks (k.map Sum.inl) = none)
  | _, _, .nil => ⟨fun d h => (by cases h), fun _ => rfl⟩
  | _, _, .cons (k := l) (v := v) (vs := vs) (d := g) (ds := gs) a b => by
    have ih := isT_get (k := k) b
    by_cases e : l = k
    · subst e
      refine ⟨fun d h => ⟨v, valV_pos rfl, ?_⟩, fun h => ?_⟩
      · have h2 : some g = some d := by
          rw [← h]
          unfold getT
          rw [List.find?_cons]
          simp
        rw [← Option.some.inj h2]
        exact a
      · unfold getT at h
        rw [List.find?_cons] at h
        simp at h
    · have e1 : getT ((l, g) :: gs) k = getT gs k := by
        unfold getT
        rw [List.find?_cons]
        simp [e]
      have e2 : valV ((l.map Sum.inl, v) :: vs) (k.map Sum.inl) = valV vs (k.map Sum.inl) := by
        unfold valV
        rw [List.find?_cons]
        have : ¬ l.map (Sum.inl : Int → Key) = k.map Sum.inl := fun z => e (inl_inj z)
        simp only [this, decide_false]
      rw [e1, e2]
      exact ih
theorem isT_any {F : Hp} {k : List Int} : ∀ {ks : List (List Key × V)} {kvs : List (List Int × D)}, IsT K C F ks kvs → (ks.any fun kv => decide (kv.1 = k.map Sum.inl)) = (kvs.any fun kv => decide (kv.1 = k))
  | _, _, .nil => rfl
  | _, _, .cons (k := l) a b => by
    rw [List.any_cons, List.any_cons, isT_any b]
    congr 1
    by_cases e : l = k
    · subst e; simp
    · have : ¬ l.map (Sum.inl : Int → Key) = k.map Sum.inl := fun z => e (inl_inj z)
      simp only [this, e, decide_false]
theorem isT_map {F : Hp} {k : List Int} {v : V} (h : Is K C F v d) : ∀ {ks : List (List Key × V)} {kvs : List (List Int × D)}, IsT K C F ks kvs →
    IsT K C F (ks.map fun kv => if kv.1 = k.map Sum.inl then (kv.1, v) else kv) (kvs.map fun kv => if kv.1 = k then (kv.1, d) else kv)
  | _, _, .nil => .nil
  | _, _, .cons (k := l) a b => by
    rw [List.map_cons, List.map_cons]
    by_cases e : l = k
    · subst e
      simp only [if_true]
      exact .cons h (isT_map h b)
    · have : ¬ l.map (Sum.inl : Int → Key) = k.map Sum.inl := fun z => e (inl_inj z)
      simp only [this, e, if_false]
      exact .cons a (isT_map h b)
theorem isT_snoc {F : Hp} {k : List Int} {v : V} (h : Is K C F v d) : ∀ {ks : List (List Key × V)} {kvs : List (List Int × D)}, IsT K C F ks kvs → IsT K C F (ks ++ [(k.map Sum.inl, v)]) (kvs ++ [(k, d)])
  | _, _, .nil => .cons h .nil
  | _, _, .cons a b => .cons a (isT_snoc h b)
theorem isT_put {F : Hp} {k : List Int} {v : V} {ks : List (List Key × V)} {kvs : List (List Int × D)} (h : Is K C F v d) (t : IsT K C F ks kvs) : IsT K C F (putK ks (k.map Sum.inl) v) (putT kvs k d) := by
  unfold putK putT
  rw [isT_any t]
  split
  · exact isT_map h t
  · exact isT_snoc h t
theorem isT_len {F : Hp} : ∀ {ks : List (List Key × V)} {kvs : List (List Int × D)}, IsT K C F ks kvs → ks.length = kvs.length
  | _, _, .nil => rfl
  | _, _, .cons a b => congrArg (· + 1) (isT_len b)
theorem isK_get {F : Hp} {k : Int} : ∀ {ks : List (Key × V)} {kvs : List (Int × D)}, IsK K C F ks kvs → (∀ d, getT kvs k = some d → ∃ v, valV ks (Sum.inl k) = some v ∧ Is K C F v d) ∧ (getT kvs k = none → valV ks (Sum.inl k) = none)
  | _, _, .nil => ⟨fun d h => (by cases h), fun _ => rfl⟩
  | _, _, .cons (k := l) (v := v) (vs := vs) (d := g) (ds := gs) a b => by
    have ih := isK_get (k := k) b
    by_cases e : l = k
    · subst e
      refine ⟨fun d h => ⟨v, valV_pos rfl, ?_⟩, fun h => ?_⟩
      · have h2 : some g = some d := by
          rw [← h]
          unfold getT
          rw [List.find?_cons]
          simp
        rw [← Option.some.inj h2]
        exact a
      · unfold getT at h
        rw [List.find?_cons] at h
        simp at h
    · have e1 : getT ((l, g) :: gs) k = getT gs k := by
        unfold getT
        rw [List.find?_cons]
        simp [e]
      have e2 : valV (((Sum.inl l : Key), v) :: vs) (Sum.inl k) = valV vs (Sum.inl k) := by
        unfold valV
        rw [List.find?_cons]
        have : ¬ (Sum.inl l : Key) = Sum.inl k := fun z => e (Sum.inl.inj z)
        simp only [this, decide_false]
      rw [e1, e2]
      exact ih
theorem isK_any {F : Hp} {k : Int} : ∀ {ks : List (Key × V)} {kvs : List (Int × D)}, IsK K C F ks kvs → (ks.any fun kv => decide (kv.1 = Sum.inl k)) = (kvs.any fun kv => decide (kv.1 = k))
  | _, _, .nil => rfl
  | _, _, .cons (k := l) a b => by
    rw [List.any_cons, List.any_cons, isK_any b]
    congr 1
    by_cases e : l = k
    · subst e; simp
    · have : ¬ (Sum.inl l : Key) = Sum.inl k := fun z => e (Sum.inl.inj z)
      simp only [this, e, decide_false]
theorem isK_map {F : Hp} {k : Int} {v : V} (h : Is K C F v d) : ∀ {ks : List (Key × V)} {kvs : List (Int × D)}, IsK K C F ks kvs →
    IsK K C F (ks.map fun kv => if kv.1 = Sum.inl k then (kv.1, v) else kv) (kvs.map fun kv => if kv.1 = k then (kv.1, d) else kv)
  | _, _, .nil => .nil
  | _, _, .cons (k := l) a b => by
    rw [List.map_cons, List.map_cons]
    by_cases e : l = k
    · subst e
      simp only [if_true]
      exact .cons h (isK_map h b)
    · have : ¬ (Sum.inl l : Key) = Sum.inl k := fun z => e (Sum.inl.inj z)
      simp only [this, e, if_false]
      exact .cons a (isK_map h b)
theorem isK_snoc {F : Hp} {k : Int} {v : V} (h : Is K C F v d) : ∀ {ks : List (Key × V)} {kvs : List (Int × D)}, IsK K C F ks kvs → IsK K C F (ks ++ [(Sum.inl k, v)]) (kvs ++ [(k, d)])
  | _, _, .nil => .cons h .nil
  | _, _, .cons a b => .cons a (isK_snoc h b)
theorem isK_put {F : Hp} {k : Int} {v : V} {ks : List (Key × V)} {kvs : List (Int × D)} (h : Is K C F v d) (t : IsK K C F ks kvs) : IsK K C F (putK ks (Sum.inl k) v) (putT kvs k d) := by
  unfold putK putT
  rw [isK_any t]
  split
  · exact isK_map h t
  · exact isK_snoc h t
theorem isK_len {F : Hp} : ∀ {ks : List (Key × V)} {kvs : List (Int × D)}, IsK K C F ks kvs → ks.length = kvs.length
  | _, _, .nil => rfl
  | _, _, .cons a b => congrArg (· + 1) (isK_len b)
theorem ints_map {F : Hp} {vs : List V} {ns : List Int} (p : IsAll K C F vs (ns.map D.int)) : vs = (ns.map (Sum.inl : Int → Key)).map kV := by
  rw [p.ints, List.map_map]
  rfl
theorem ed_getT {kvs : List (List Int × D)} {ns : List Int} (ha : ETb K C ta δ kvs) (hb : EA K C tr δ (ns.map D.int)) (hl : ns.length ≤ 100000) (hg : getT kvs ns = some d) : ED K C (tDGet ta (tTup tr)) δ d := fun H0 F H σ x s Q q =>
  ha H0 F H σ x s _ fun v F1 H1 f1 p1 => hb H0 F1 H1 σ f1.s (s.fut f1) _ fun vs F2 H2 f2 p2 => by
    obtain ⟨p, ks, rfl, h1, h2⟩ := st_T _ _ _ _ _ f2 p1
    have hv := ints_map p2
    refine ⟨Evl.sz_of (by rw [hv, List.length_map, List.length_map]; exact hl), fun b hb => ?_⟩
    obtain ⟨w, h3, h4⟩ := (isT_get (k := ns) h2).1 _ hg
    refine ⟨p, w, rfl, .inr ⟨ks, ns.map Sum.inl, b, .inl ?_, rfl, ?_, h3.symm⟩, q w F2 _ (f1.trans (f2.trans (Fut.lost f2.s hb))) h4⟩
    · rw [upd_ne (ne_of_none h1 hb)]
      exact h1
    · rw [upd_same, hv]
theorem ed_getK {kvs : List (Int × D)} {n : Int} (ha : EKb K C ta δ kvs) (hb : ED K C tb δ (.int n)) (hg : getT kvs n = some d) : ED K C (tDGet ta tb) δ d := fun H0 F H σ x s Q q =>
  ha H0 F H σ x s _ fun v F1 H1 f1 p1 => hb H0 F1 H1 σ f1.s (s.fut f1) _ fun vs F2 H2 f2 p2 => by
    obtain ⟨p, ks, rfl, h1, h2⟩ := st_K _ _ _ _ _ f2 p1
    cases p2
    obtain ⟨w, h3, h4⟩ := (isK_get (k := n) h2).1 _ hg
    exact ⟨p, w, rfl, .inl ⟨ks, .inl n, .inl h1, rfl, h3.symm⟩, q w F2 _ (f1.trans f2) h4⟩
theorem ed_inTb {kvs : List (List Int × D)} {ns : List Int} (ha : ETb K C ta δ kvs) (hb : EA K C tr δ (ns.map D.int)) (hl : ns.length ≤ 100000) : ED K C (tDIn (tTup tr) ta) δ (.bl (getT kvs ns).isSome) := fun H0 F H σ x s Q q =>
  hb H0 F H σ x s _ fun vs F1 H1 f1 p1 => by
    have hv := ints_map p1
    refine ⟨Evl.sz_of (by rw [hv, List.length_map, List.length_map]; exact hl), fun b hb => ?_⟩
    have fb : Fut F1 H1 (upd F1 b (.tup vs)) (upd H1 b (.tup vs)) := Fut.new f1.s hb
    refine ha H0 _ _ σ fb.s ((s.fut f1).fut fb) _ fun v F2 H2 f2 p2 => ?_
    obtain ⟨p, ks, rfl, h1, h2⟩ := p2
    have hk : H2 b = some (.tup ((ns.map (Sum.inl : Int → Key)).map kV)) := by
      rw [← hv]
      exact f2.h _ _ upd_same
    refine ⟨p, valV ks (ns.map Sum.inl), rfl, .inr ⟨ks, ns.map Sum.inl, b, .inl h1, rfl, hk, rfl⟩, ?_⟩
    have e : (valV ks (ns.map Sum.inl)).isSome = (getT kvs ns).isSome := by
      cases hg : getT kvs ns with
      | none => rw [(isT_get (k := ns) h2).2 hg]; rfl
      | some d =>
        obtain ⟨w, h3, _⟩ := (isT_get (k := ns) h2).1 _ hg
        rw [h3]; rfl
    rw [e]
    exact q _ F2 H2 (f1.trans (fb.trans f2)) (.bl _)
theorem ed_ninTb {kvs : List (List Int × D)} {ns : List Int} (ha : ETb K C ta δ kvs) (hb : EA K C tr δ (ns.map D.int)) (hl : ns.length ≤ 100000) : ED K C (tDNotIn (tTup tr) ta) δ (.bl (!(getT kvs ns).isSome)) := fun H0 F H σ x s Q q =>
  hb H0 F H σ x s _ fun vs F1 H1 f1 p1 => by
    have hv := ints_map p1
    refine ⟨Evl.sz_of (by rw [hv, List.length_map, List.length_map]; exact hl), fun b hb => ?_⟩
    have fb : Fut F1 H1 (upd F1 b (.tup vs)) (upd H1 b (.tup vs)) := Fut.new f1.s hb
    refine ha H0 _ _ σ fb.s ((s.fut f1).fut fb) _ fun v F2 H2 f2 p2 => ?_
    obtain ⟨p, ks, rfl, h1, h2⟩ := p2
    have hk : H2 b = some (.tup ((ns.map (Sum.inl : Int → Key)).map kV)) := by
      rw [← hv]
      exact f2.h _ _ upd_same
    refine ⟨p, valV ks (ns.map Sum.inl), rfl, .inr ⟨ks, ns.map Sum.inl, b, .inl h1, rfl, hk, rfl⟩, ?_⟩
    have e : (valV ks (ns.map Sum.inl)).isSome = (getT kvs ns).isSome := by
      cases hg : getT kvs ns with
      | none => rw [(isT_get (k := ns) h2).2 hg]; rfl
      | some d =>
        obtain ⟨w, h3, _⟩ := (isT_get (k := ns) h2).1 _ hg
        rw [h3]; rfl
    rw [e]
    exact q _ F2 H2 (f1.trans (fb.trans f2)) (.bl _)
/-! == of data -/
mutual
def toP : D → PyData
  | .non => .none
  | .bl b => .bool b
  | .int i => .int i
  | .str s => .str s
  | .tup ds => .tuple (toPs ds)
  | .lst ds => .list (toPs ds)
  | .dT _ => .none
  | .dK _ => .none
  | .desk _ => .none
def toPs : List D → List PyData
  | [] => []
  | d :: ds => toP d :: toPs ds
end
mutual
def isP : D → Bool
  | .non => true
  | .bl _ => true
  | .int _ => true
  | .str _ => true
  | .tup ds => isPs ds
  | .lst ds => isPs ds
  | .dT _ => false
  | .dK _ => false
  | .desk _ => false
def isPs : List D → Bool
  | [] => true
  | d :: ds => isP d && isPs ds
end
mutual
theorem dp_is {F : Hp} : ∀ {v : V} {d : D}, Is K C F v d → isP d = true → Dp K F v (toP d)
  | _, _, .non, _ => .non
  | _, _, .bl b, _ => .bl b
  | _, _, .int b, _ => .int b
  | _, _, .str b, _ => .str b
  | _, _, .tup a b, h => .tup (.inl (.inl a)) (dp_all b h)
  | _, _, .lst a b, h => .lst (.inl (.inl a)) (dp_all b h)
  | _, _, .dT _ _, h => by cases h
  | _, _, .dK _ _, h => by cases h
  | _, _, .desk _ _, h => by cases h
theorem dp_all {F : Hp} : ∀ {v : List V} {d : List D}, IsAll K C F v d → isPs d = true → DpAll K F v (toPs d)
  | _, _, .nil, _ => .nil
  | _, _, .cons a b, h => by
    have h2 : (isP _ && isPs _) = true := h
    rw [Bool.and_eq_true] at h2
    exact .cons (dp_is a h2.1) (dp_all b h2.2)
end
theorem ed_eqD {b : Bool} (ha : EH K C ta δ d) (hb : EH K C tb δ e) (h1 : isP d = true) (h2 : isP e = true) (h3 : SeqAt.shaped (toP d) = true) (h4 : SeqAt.shaped (toP e) = true) (h5 : PyData.eqv (toP d) (toP e) = b) : ED K C (tOp (rEqD K) ta tb) δ (.bl b) := ev_op ha hb st_H fun x y F H w p q Q k =>
  ⟨_, _, dp_is p h1, dp_is q h2, h3, h4, by rw [h5]; exact k _ F H (Fut.rfl w) (.bl _)⟩
theorem ed_neD {b : Bool} (ha : EH K C ta δ d) (hb : EH K C tb δ e) (h1 : isP d = true) (h2 : isP e = true) (h3 : SeqAt.shaped (toP d) = true) (h4 : SeqAt.shaped (toP e) = true) (h5 : PyData.eqv (toP d) (toP e) = b) : ED K C (tOp (rNeD K) ta tb) δ (.bl (!b)) := ev_op ha hb st_H fun x y F H w p q Q k =>
  ⟨_, _, dp_is p h1, dp_is q h2, h3, h4, by rw [h5]; exact k _ F H (Fut.rfl w) (.bl _)⟩
end
end Bt

end BtLogic2_part
section BtLogic3_part
set_option Elab.async false
set_option linter.all false
set_option maxRecDepth 100000
set_option maxHeartbeats 4000000
namespace Bt
open PySem PySem.Spec PyProof.Rows L2
/-! ### statements -/
structure Post where
  N : List Fr → Prop
  B : List Fr → Prop
  Ct : List Fr → Prop
  R : D → Prop
structure Kp (K : PySem.W.Frag) (C : Addr) (F0 H0 F : Hp) (E : Ends) (M : Post) : Prop where
  nx : ∀ δ' σ' F' H', M.N δ' → Ex F F' → Fut F0 H0 F' H' → Sd K C H0 F' H' σ' δ' → E.nx σ' H'
  bk : ∀ δ' σ' F' H', M.B δ' → Ex F F' → Fut F0 H0 F' H' → Sd K C H0 F' H' σ' δ' → E.bk σ' H'
  ct : ∀ δ' σ' F' H', M.Ct δ' → Ex F F' → Fut F0 H0 F' H' → Sd K C H0 F' H' σ' δ' → E.ct σ' H'
  rt : ∀ d v F' H', M.R d → Fut F0 H0 F' H' → Is K C F' v d → E.rt v H'
def SD (K : PySem.W.Frag) (C : Addr) (ts : TS) (δ : List Fr) (M : Post) : Prop :=
  ∀ (F0 H0 F H : Hp) (σ : L2.St), Fut F0 H0 F H → Sd K C H0 F H σ δ → ∀ E : Ends, Kp K C F0 H0 F E M → ts E σ H
section
variable {K : PySem.W.Frag} {C : Addr} {te ta tb tc tv : TE} {tr : TA} {t : TT} {δ : List Fr} {d e : D} {ds es : List D} {u s1 s2 : TS} {M : Post}
theorem Kp.mono {F0 H0 F F' : Hp} {E : Ends} (k : Kp K C F0 H0 F E M) (e : Ex F F') : Kp K C F0 H0 F' E M :=
  ⟨fun a b c d h x => k.nx a b c d h (e.trans x), fun a b c d h x => k.bk a b c d h (e.trans x), fun a b c d h x => k.ct a b c d h (e.trans x), k.rt⟩
theorem Kp.to {F0 H0 F : Hp} {E : Ends} {M' : Post} (k : Kp K C F0 H0 F E M) (hn : ∀ δ, M'.N δ → M.N δ) (hb : ∀ δ, M'.B δ → M.B δ) (hc : ∀ δ, M'.Ct δ → M.Ct δ) (hr : ∀ d, M'.R d → M.R d) : Kp K C F0 H0 F E M' :=
  ⟨fun a b c d h => k.nx a b c d (hn _ h), fun a b c d h => k.bk a b c d (hb _ h), fun a b c d h => k.ct a b c d (hc _ h), fun d v F H h => k.rt d v F H (hr _ h)⟩
theorem SD.imp {M' : Post} (h : SD K C u δ M') (hn : ∀ δ, M'.N δ → M.N δ) (hb : ∀ δ, M'.B δ → M.B δ) (hc : ∀ δ, M'.Ct δ → M.Ct δ) (hr : ∀ d, M'.R d → M.R d) : SD K C u δ M := fun F0 H0 F H σ f s E k => h F0 H0 F H σ f s E (k.to hn hb hc hr)
theorem SD.le {δ' : List Fr} (l : Le δ' δ) (h : SD K C u δ' M) : SD K C u δ M := fun F0 H0 F H σ f s E k => h F0 H0 F H σ f (s.le l) E k
/-- any expression evaluated, then what follows -/
theorem q_ev {P : V → Hp → Hp → Prop} {g : V → TS} (h : EV K C te δ P) (k : ∀ F0 H0 F H σ v, Fut F0 H0 F H → Sd K C H0 F H σ δ → P v F H → ∀ E : Ends, Kp K C F0 H0 F E M → g v E σ H) : SD K C (fun E σ H => te σ H fun v H1 => g v E σ H1) δ M := fun F0 H0 F H σ f s E q =>
  h H0 F H σ f.s s _ fun v F1 H1 f1 p1 => k F0 H0 F1 H1 σ v (f.trans f1) (s.fut f1) p1 E (q.mono f1.f)
theorem en_dat {H0 F H : Hp} {v : V} (h : Is K C F v d) : En K C H0 F H (some v) (.dat d) := ⟨v, rfl, h⟩
theorem en_un {H0 F H : Hp} {o : Option V} : En K C H0 F H o .un := True.intro
theorem en_ol {H0 F H : Hp} {p : Addr} {vs : List V} (h1 : H0 p = none) (h2 : F p = none) (h3 : H p = some (.lst vs)) (h4 : IsAll K C F vs ds) : En K C H0 F H (some (.ref p)) (.ol ds) := ⟨p, vs, rfl, h1, h2, h3, h4⟩
theorem en_oT {H0 F H : Hp} {p : Addr} {vs : List (List Key × V)} {kvs : List (List Int × D)} (h1 : H0 p = none) (h2 : F p = none) (h3 : H p = some (.dT vs)) (h4 : IsT K C F vs kvs) : En K C H0 F H (some (.ref p)) (.oT kvs) := ⟨p, vs, rfl, h1, h2, h3, h4⟩
theorem en_oK {H0 F H : Hp} {p : Addr} {vs : List (Key × V)} {kvs : List (Int × D)} (h1 : H0 p = none) (h2 : F p = none) (h3 : H p = some (.dK vs)) (h4 : IsK K C F vs kvs) : En K C H0 F H (some (.ref p)) (.oK kvs) := ⟨p, vs, rfl, h1, h2, h3, h4⟩
theorem sd_nx {δ' : List Fr} (h : M.N δ') (l : Le δ' δ) : SD K C tNext δ M := fun F0 H0 F H σ f s E q => q.nx δ' σ F H h Ex.rfl f (s.le l)
theorem sd_bk {δ' : List Fr} (h : M.B δ') (l : Le δ' δ) : SD K C tBreak δ M := fun F0 H0 F H σ f s E q => q.bk δ' σ F H h Ex.rfl f (s.le l)
theorem sd_skip (h : SD K C u δ M) : SD K C (tSeq tNext u) δ M := fun F0 H0 F H σ f s E q => h F0 H0 F H σ f s E q
theorem sd_bkq {δ' : List Fr} (h : M.B δ') (l : Le δ' δ) : SD K C (tSeq tBreak u) δ M := fun F0 H0 F H σ f s E q => q.bk δ' σ F H h Ex.rfl f (s.le l)
theorem q_asg {i : Nat} (h : ED K C te δ d) (k : SD K C u (δ.set i (.dat d)) M) : SD K C (tSeq (tAsg te (gName i)) u) δ M := fun F0 H0 F H σ f s E q =>
  h H0 F H σ f.s s _ fun v F1 H1 f1 p1 => k F0 H0 F1 H1 (σ.set i (some v)) (f.trans f1) ((s.fut f1).set (en_dat p1) i) E (q.mono f1.f)
theorem q_par {i j : Nat} (h : EA K C tr δ [d, e]) (k : SD K C u ((δ.set i (.dat d)).set j (.dat e)) M) : SD K C (tSeq (tPar i j tr) u) δ M := fun F0 H0 F H σ f s E q =>
  h H0 F H σ f.s s _ fun v F1 H1 f1 p1 => by
    cases p1 with
    | cons a b => cases b with
      | cons b c =>
        cases c
        exact ⟨_, _, rfl, k F0 H0 F1 H1 _ (f.trans f1) (((s.fut f1).set (en_dat a) i).set (en_dat b) j) E (q.mono f1.f)⟩
theorem q_drop {P : V → Hp → Hp → Prop} (h : EV K C te δ P) (k : SD K C u δ M) : SD K C (tSeq (tDrop te) u) δ M := fun F0 H0 F H σ f s E q =>
  h H0 F H σ f.s s _ fun v F1 H1 f1 p1 => k F0 H0 F1 H1 σ (f.trans f1) (s.fut f1) E (q.mono f1.f)
theorem q_ret (h : ED K C te δ d) (k : M.R d) : SD K C (tSeq (tRet te) u) δ M := fun F0 H0 F H σ f s E q =>
  h H0 F H σ f.s s _ fun v F1 H1 f1 p1 => q.rt d v F1 H1 k (f.trans f1) p1
theorem sd_ret (h : ED K C te δ d) (k : M.R d) : SD K C (tRet te) δ M := fun F0 H0 F H σ f s E q =>
  h H0 F H σ f.s s _ fun v F1 H1 f1 p1 => q.rt d v F1 H1 k (f.trans f1) p1
theorem q_if {b : Bool} (h : TD K C t δ b) (h1 : b = true → SD K C (tSeq s1 u) δ M) (h2 : b = false → SD K C (tSeq s2 u) δ M) : SD K C (tSeq (tIfS t s1 s2) u) δ M := fun F0 H0 F H σ f s E q =>
  h H0 F H σ f.s s _ fun F1 H1 f1 => by
    cases b with
    | true => exact iteT (h1 rfl F0 H0 F1 H1 σ (f.trans f1) (s.fut f1) E (q.mono f1.f))
    | false => exact iteF (h2 rfl F0 H0 F1 H1 σ (f.trans f1) (s.fut f1) E (q.mono f1.f))
/-- an if without else -/
theorem q_when {b : Bool} (h : TD K C t δ b) (h1 : b = true → SD K C (tSeq s1 u) δ M) (h2 : b = false → SD K C u δ M) : SD K C (tSeq (tIfS t s1 tNext) u) δ M := q_if h h1 fun e => sd_skip (h2 e)
/-- a test known to fail -/
theorem q_no (h : TD K C t δ false) (k : SD K C u δ M) : SD K C (tSeq (tIfS t s1 tNext) u) δ M := q_when h (fun e => Bool.noConfusion e) fun _ => k
theorem q_yes (h : TD K C t δ true) (k : SD K C (tSeq s1 u) δ M) : SD K C (tSeq (tIfS t s1 s2) u) δ M := q_if h (fun _ => k) fun e => Bool.noConfusion e
theorem q_assoc {s3 : TS} (h : SD K C (tSeq s1 (tSeq s2 s3)) δ M) : SD K C (tSeq (tSeq s1 s2) s3) δ M := fun F0 H0 F H σ f s E q => h F0 H0 F H σ f s E q
/-- what a statement leaves is named, then what follows -/
theorem q_mid (Mid : List Fr → Prop) (h : SD K C s1 δ ⟨Mid, M.B, M.Ct, M.R⟩) (k : ∀ δ', Mid δ' → SD K C u δ' M) : SD K C (tSeq s1 u) δ M := fun F0 H0 F H σ f s E q =>
  h F0 H0 F H σ f s { E with nx := u E } ⟨fun δ' σ' F' H' m x f' s' => k δ' m F0 H0 F' H' σ' f' s' E (q.mono x), q.bk, q.ct, q.rt⟩
/-! #### owned lists, dicts -/
theorem q_newL {i : Nat} (k : SD K C u (δ.set i (.ol [])) M) : SD K C (tSeq (tAsg (tLst tNil) (gName i)) u) δ M := fun F0 H0 F H σ f s E q =>
  ⟨Nat.zero_le _, fun p hp => k F0 H0 F (upd H p (.lst [])) _ (f.trans (Fut.lost f.s hp)) ((s.fut (Fut.lost f.s hp)).set (en_ol (f.h.back hp) (f.s.back hp) upd_same .nil) i) E q⟩
theorem q_newT {i : Nat} (k : SD K C u (δ.set i (.oT [])) M) : SD K C (tSeq (tAsg tDNewT (gName i)) u) δ M := fun F0 H0 F H σ f s E q p hp =>
  k F0 H0 F (upd H p (.dT [])) _ (f.trans (Fut.lost f.s hp)) ((s.fut (Fut.lost f.s hp)).set (en_oT (f.h.back hp) (f.s.back hp) upd_same .nil) i) E q
theorem q_newK {i : Nat} (k : SD K C u (δ.set i (.oK [])) M) : SD K C (tSeq (tAsg tDNewK (gName i)) u) δ M := fun F0 H0 F H σ f s E q p hp =>
  k F0 H0 F (upd H p (.dK [])) _ (f.trans (Fut.lost f.s hp)) ((s.fut (Fut.lost f.s hp)).set (en_oK (f.h.back hp) (f.s.back hp) upd_same .nil) i) E q
def notL : Fr → Bool
  | .ol _ => false
  | _ => true
def notT : Fr → Bool
  | .oT _ => false
  | _ => true
def notK : Fr → Bool
  | .oK _ => false
  | _ => true
/-- an owned object changes: all entries but those of its kind stay -/
theorem En.chg {H0 F H : Hp} {p : Addr} {o o' : HO} (hp : H p = some o) (hF : F p = none) : ∀ {x : Option V} {f : Fr}, En K C H0 F H x f →
    (∀ q vs, x = some (.ref q) → H q = some (.lst vs) → F q = none → q ≠ p) → (∀ q vs, x = some (.ref q) → H q = some (.dT vs) → F q = none → q ≠ p) → (∀ q vs, x = some (.ref q) → H q = some (.dK vs) → F q = none → q ≠ p) → En K C H0 F (upd H p o') x f
  | _, .un, _, _, _, _ => True.intro
  | _, .dat _, h, _, _, _ => h
  | _, .ol _, ⟨q, vs, a, b, c, d, e⟩, h1, _, _ => ⟨q, vs, a, b, c, by rw [upd_ne (h1 q vs a d c)]; exact d, e⟩
  | _, .oT _, ⟨q, vs, a, b, c, d, e⟩, _, h1, _ => ⟨q, vs, a, b, c, by rw [upd_ne (h1 q vs a d c)]; exact d, e⟩
  | _, .oK _, ⟨q, vs, a, b, c, d, e⟩, _, _, h1 => ⟨q, vs, a, b, c, by rw [upd_ne (h1 q vs a d c)]; exact d, e⟩
theorem En.chgL {H0 F H : Hp} {p : Addr} {ws : List V} {o' : HO} (hp : H p = some (.lst ws)) : ∀ {x : Option V} {f : Fr}, notL f = true → En K C H0 F H x f → En K C H0 F (upd H p o') x f
  | _, .un, _, _ => True.intro
  | _, .dat _, _, h => h
  | _, .ol _, n, _ => by cases n
  | _, .oT _, _, ⟨q, vs, a, b, c, d, e⟩ => ⟨q, vs, a, b, c, by rw [upd_ne (ne_of d hp (by intro z; cases z))]; exact d, e⟩
  | _, .oK _, _, ⟨q, vs, a, b, c, d, e⟩ => ⟨q, vs, a, b, c, by rw [upd_ne (ne_of d hp (by intro z; cases z))]; exact d, e⟩
theorem En.chgT {H0 F H : Hp} {p : Addr} {ws : List (List Key × V)} {o' : HO} (hp : H p = some (.dT ws)) : ∀ {x : Option V} {f : Fr}, notT f = true → En K C H0 F H x f → En K C H0 F (upd H p o') x f
  | _, .un, _, _ => True.intro
  | _, .dat _, _, h => h
  | _, .oT _, n, _ => by cases n
  | _, .ol _, _, ⟨q, vs, a, b, c, d, e⟩ => ⟨q, vs, a, b, c, by rw [upd_ne (ne_of d hp (by intro z; cases z))]; exact d, e⟩
  | _, .oK _, _, ⟨q, vs, a, b, c, d, e⟩ => ⟨q, vs, a, b, c, by rw [upd_ne (ne_of d hp (by intro z; cases z))]; exact d, e⟩
theorem En.chgK {H0 F H : Hp} {p : Addr} {ws : List (Key × V)} {o' : HO} (hp : H p = some (.dK ws)) : ∀ {x : Option V} {f : Fr}, notK f = true → En K C H0 F H x f → En K C H0 F (upd H p o') x f
  | _, .un, _, _ => True.intro
  | _, .dat _, _, h => h
  | _, .oK _, n, _ => by cases n
  | _, .ol _, _, ⟨q, vs, a, b, c, d, e⟩ => ⟨q, vs, a, b, c, by rw [upd_ne (ne_of d hp (by intro z; cases z))]; exact d, e⟩
  | _, .oT _, _, ⟨q, vs, a, b, c, d, e⟩ => ⟨q, vs, a, b, c, by rw [upd_ne (ne_of d hp (by intro z; cases z))]; exact d, e⟩
/-- the entry i becomes g, the others are kept by h -/
theorem Sd.chg {H0 F H H' : Hp} {g : Fr} {n : Fr → Bool} (h : ∀ {x : Option V} {f : Fr}, n f = true → En K C H0 F H x f → En K C H0 F H' x f) :
    ∀ {σ : L2.St} {δ : List Fr} (i : Nat), Sd K C H0 F H σ δ → (∀ o, σ[i]? = some o → En K C H0 F H' o g) → (δ.set i .un).all n = true → Sd K C H0 F H' σ (δ.set i g)
  | _, _, _, .nil, _, _ => .nil
  | _, _, 0, .cons a b, hg, hn => by
    rw [List.set_cons_zero, List.all_cons, Bool.and_eq_true] at hn
    refine .cons (hg _ rfl) ?_
    exact allOf hn.2 b
  | _, _, i + 1, .cons a b, hg, hn => by
    rw [List.set_cons_succ, List.all_cons, Bool.and_eq_true] at hn
    exact .cons (h hn.1 a) (Sd.chg h i b hg hn.2)
where
  allOf : ∀ {σ : L2.St} {δ : List Fr}, δ.all n = true → Sd K C H0 F H σ δ → Sd K C H0 F H' σ δ
    | _, _, _, .nil => .nil
    | _, _, hn, .cons a b => by
      rw [List.all_cons, Bool.and_eq_true] at hn
      exact .cons (h hn.1 a) (allOf hn.2 b)
theorem fut_own {F0 H0 F H : Hp} {p : Addr} {o : HO} (f : Fut F0 H0 F H) (h0 : H0 p = none) (hF : F p = none) : Fut F0 H0 F (upd H p o) :=
  ⟨f.f, fun a u e => by rw [upd_ne (ne_of_none e h0)]; exact f.h a u e, fun a u e => by rw [upd_ne (ne_of_none e hF)]; exact f.s a u e, f.o⟩
/-- xs.append(e), xs a slot's own -/
theorem q_app {i : Nat} (h : ED K C te δ d) (hi : δ[i]? = some (.ol ds)) (ho : (δ.set i .un).all notL = true) (hz : ds.length < 100000) (k : SD K C u (δ.set i (.ol (ds ++ [d]))) M) :
    SD K C (tSeq (tDrop (tBM K "list" rAppend (tVar i) (tCons te tNil))) u) δ M := fun F0 H0 F H σ f s E q => by
  obtain ⟨o, g1, p, vs, rfl, g2, g3, g4, g5⟩ := s.get hi
  refine ⟨.ref p, g1, .inl ⟨rfl, vs, .inl (.inl g4)⟩, h H0 F H σ f.s s _ fun v F1 H1 f1 p1 => ?_⟩
  have g6 : H1 p = some (.lst vs) := f1.h _ _ g4
  have g7 : F1 p = none := f1.o _ _ g4 g3
  refine ⟨p, vs, v, rfl, rfl, g6, Evl.sz_lt (by rw [g5.length]; exact hz), ?_⟩
  refine k F0 H0 F1 _ σ (fut_own (f.trans f1) g2 g7) (Sd.chg (n := notL) (fun a b => En.chgL g6 a b) i (s.fut f1) (fun o ho => ?_) ho) E (q.mono f1.f)
  have e : o = some (.ref p) := Option.some.inj (ho.symm.trans g1)
  exact ⟨p, _, e, g2, g7, upd_same, (g5.mono f1.f).snoc p1⟩
/-- xs.extend(ys), ys new -/
theorem q_ext {i : Nat} (h : EX K C te δ es) (hi : δ[i]? = some (.ol ds)) (ho : (δ.set i .un).all notL = true) (hz : ds.length + es.length ≤ 100000) (k : SD K C u (δ.set i (.ol (ds ++ es))) M) :
    SD K C (tSeq (tDrop (tBM K "list" rExtend (tVar i) (tCons te tNil))) u) δ M := fun F0 H0 F H σ f s E q => by
  obtain ⟨o, g1, p, vs, rfl, g2, g3, g4, g5⟩ := s.get hi
  refine ⟨.ref p, g1, .inl ⟨rfl, vs, .inl (.inl g4)⟩, h H0 F H σ f.s s _ fun v F1 H1 f1 p1 => ?_⟩
  obtain ⟨b, zs, rfl, h1, h2⟩ := p1
  have g6 : H1 p = some (.lst vs) := f1.h _ _ g4
  have g7 : F1 p = none := f1.o _ _ g4 g3
  refine ⟨p, b, vs, zs, rfl, rfl, g6, f1.s _ _ h1, Evl.sz_of (by rw [g5.length, h2.length]; exact hz), ?_⟩
  refine k F0 H0 F1 _ σ (fut_own (f.trans f1) g2 g7) (Sd.chg (n := notL) (fun a b => En.chgL g6 a b) i (s.fut f1) (fun o ho => ?_) ho) E (q.mono f1.f)
  have e : o = some (.ref p) := Option.some.inj (ho.symm.trans g1)
  exact ⟨p, _, e, g2, g7, upd_same, (g5.mono f1.f).app h2⟩
/-- xs.pop() -/
theorem q_pop {i : Nat} (hi : δ[i]? = some (.ol ds)) (ho : (δ.set i .un).all notL = true) (hz : 0 < ds.length) (k : SD K C u (δ.set i (.ol ds.dropLast)) M) :
    SD K C (tSeq (tDrop (tBM0 K "list" rPop (tVar i))) u) δ M := fun F0 H0 F H σ f s E q => by
  obtain ⟨o, g1, p, vs, rfl, g2, g3, g4, g5⟩ := s.get hi
  have hl : vs.length - 1 < vs.length := by rw [g5.length]; omega
  refine ⟨.ref p, g1, .inl ⟨rfl, vs, .inl (.inl g4)⟩, p, vs, vs[vs.length - 1], rfl, rfl, g4, List.getElem?_eq_getElem hl, ?_⟩
  refine k F0 H0 F _ σ (fut_own f g2 g3) (Sd.chg (n := notL) (fun a b => En.chgL g4 a b) i s (fun o ho => ?_) ho) E q
  have e : o = some (.ref p) := Option.some.inj (ho.symm.trans g1)
  exact ⟨p, _, e, g2, g3, upd_same, g5.dropLast⟩
/-- d[i, j] = e -/
theorem q_putT {i : Nat} {kvs : List (List Int × D)} {ns : List Int} (h : ED K C tv δ d) (hi : δ[i]? = some (.oT kvs)) (hb : EA K C tr δ (ns.map D.int)) (ho : (δ.set i .un).all notT = true) (hl : ns.length ≤ 100000) (hz : kvs.length < 100000)
    (k : SD K C u (δ.set i (.oT (putT kvs ns d))) M) : SD K C (tSeq (sDPut (tVar i) (tTup tr) tv) u) δ M := fun F0 H0 F H σ f s E q => by
  refine h H0 F H σ f.s s _ fun v F1 H1 f1 p1 => ?_
  have s1 := s.fut f1
  obtain ⟨o, g1, p, ks, rfl, g2, g3, g4, g5⟩ := s1.get hi
  refine ⟨.ref p, g1, hb H0 F1 H1 σ f1.s s1 _ fun vs F2 H2 f2 p2 => ?_⟩
  have hv := ints_map p2
  refine ⟨Evl.sz_of (by rw [hv, List.length_map, List.length_map]; exact hl), fun b hb => ?_⟩
  have f3 : Fut F2 H2 F2 (upd H2 b (.tup vs)) := Fut.lost f2.s hb
  have f4 := f2.trans f3
  have g6 : upd H2 b (.tup vs) p = some (.dT ks) := f4.h _ _ g4
  have g7 : F2 p = none := f4.o _ _ g4 g3
  refine ⟨p, _, rfl, .inr ⟨ks, ns.map Sum.inl, b, g6, rfl, by rw [upd_same, hv], Evl.sz_lt (by rw [isT_len g5]; exact hz), rfl⟩, ?_⟩
  refine k F0 H0 F2 _ σ (fut_own (f.trans (f1.trans f4)) g2 g7) (Sd.chg (n := notT) (fun a b => En.chgT g6 a b) i (s1.fut f4) (fun o ho => ?_) ho) E (q.mono (f1.f.trans f2.f))
  have e : o = some (.ref p) := Option.some.inj (ho.symm.trans g1)
  exact ⟨p, _, e, g2, g7, upd_same, isT_put (p1.mono f2.f) (g5.mono f2.f)⟩
/-- d[i] = e -/
theorem q_putK {i : Nat} {kvs : List (Int × D)} {n : Int} (h : ED K C tv δ d) (hi : δ[i]? = some (.oK kvs)) (hb : ED K C tb δ (.int n)) (ho : (δ.set i .un).all notK = true) (hz : kvs.length < 100000)
    (k : SD K C u (δ.set i (.oK (putT kvs n d))) M) : SD K C (tSeq (sDPut (tVar i) tb tv) u) δ M := fun F0 H0 F H σ f s E q => by
  refine h H0 F H σ f.s s _ fun v F1 H1 f1 p1 => ?_
  have s1 := s.fut f1
  obtain ⟨o, g1, p, ks, rfl, g2, g3, g4, g5⟩ := s1.get hi
  refine ⟨.ref p, g1, hb H0 F1 H1 σ f1.s s1 _ fun w F2 H2 f2 p2 => ?_⟩
  cases p2
  have g6 : H2 p = some (.dK ks) := f2.h _ _ g4
  have g7 : F2 p = none := f2.o _ _ g4 g3
  refine ⟨p, _, rfl, .inl ⟨ks, .inl n, g6, rfl, Evl.sz_lt (by rw [isK_len g5]; exact hz), rfl⟩, ?_⟩
  refine k F0 H0 F2 _ σ (fut_own (f.trans (f1.trans f2)) g2 g7) (Sd.chg (n := notK) (fun a b => En.chgK g6 a b) i (s1.fut f2) (fun o ho => ?_) ho) E (q.mono (f1.f.trans f2.f))
  have e : o = some (.ref p) := Option.some.inj (ho.symm.trans g1)
  exact ⟨p, _, e, g2, g7, upd_same, isK_put (p1.mono f2.f) (g5.mono f2.f)⟩
/-- an owned object stands for good from here on -/
theorem fut_keep {F0 H0 F H : Hp} {p : Addr} {o : HO} (f : Fut F0 H0 F H) (h0 : H0 p = none) (hp : H p = some o) (hF : F p = none) : Fut F0 H0 (upd F p o) H :=
  ⟨f.f.trans (Ex.new hF), f.h, fun a u e => by
    by_cases z : a = p
    · subst z; rw [upd_same] at e; rw [hp, e]
    · rw [upd_ne z] at e; exact f.s a u e, fun q u a b => by rw [upd_ne (ne_of_none a h0)]; exact f.o q u a b⟩
theorem En.keepL {H0 F H : Hp} {p : Addr} {ws : List V} (hp : H p = some (.lst ws)) (hF : F p = none) : ∀ {x : Option V} {f : Fr}, notL f = true → En K C H0 F H x f → En K C H0 (upd F p (.lst ws)) H x f
  | _, .un, _, _ => True.intro
  | _, .dat _, _, ⟨v, a, b⟩ => ⟨v, a, b.mono (Ex.new hF)⟩
  | _, .ol _, n, _ => by cases n
  | _, .oT _, _, ⟨q, vs, a, b, c, d, e⟩ => ⟨q, vs, a, b, by rw [upd_ne (ne_of d hp (by intro z; cases z))]; exact c, d, e.mono (Ex.new hF)⟩
  | _, .oK _, _, ⟨q, vs, a, b, c, d, e⟩ => ⟨q, vs, a, b, by rw [upd_ne (ne_of d hp (by intro z; cases z))]; exact c, d, e.mono (Ex.new hF)⟩
theorem En.keepT {H0 F H : Hp} {p : Addr} {ws : List (List Key × V)} (hp : H p = some (.dT ws)) (hF : F p = none) : ∀ {x : Option V} {f : Fr}, notT f = true → En K C H0 F H x f → En K C H0 (upd F p (.dT ws)) H x f
  | _, .un, _, _ => True.intro
  | _, .dat _, _, ⟨v, a, b⟩ => ⟨v, a, b.mono (Ex.new hF)⟩
  | _, .oT _, n, _ => by cases n
  | _, .ol _, _, ⟨q, vs, a, b, c, d, e⟩ => ⟨q, vs, a, b, by rw [upd_ne (ne_of d hp (by intro z; cases z))]; exact c, d, e.mono (Ex.new hF)⟩
  | _, .oK _, _, ⟨q, vs, a, b, c, d, e⟩ => ⟨q, vs, a, b, by rw [upd_ne (ne_of d hp (by intro z; cases z))]; exact c, d, e.mono (Ex.new hF)⟩
theorem En.keepK {H0 F H : Hp} {p : Addr} {ws : List (Key × V)} (hp : H p = some (.dK ws)) (hF : F p = none) : ∀ {x : Option V} {f : Fr}, notK f = true → En K C H0 F H x f → En K C H0 (upd F p (.dK ws)) H x f
  | _, .un, _, _ => True.intro
  | _, .dat _, _, ⟨v, a, b⟩ => ⟨v, a, b.mono (Ex.new hF)⟩
  | _, .oK _, n, _ => by cases n
  | _, .ol _, _, ⟨q, vs, a, b, c, d, e⟩ => ⟨q, vs, a, b, by rw [upd_ne (ne_of d hp (by intro z; cases z))]; exact c, d, e.mono (Ex.new hF)⟩
  | _, .oT _, _, ⟨q, vs, a, b, c, d, e⟩ => ⟨q, vs, a, b, by rw [upd_ne (ne_of d hp (by intro z; cases z))]; exact c, d, e.mono (Ex.new hF)⟩
theorem Sd.chgF {H0 F F' H : Hp} {g : Fr} {n : Fr → Bool} (h : ∀ {x : Option V} {f : Fr}, n f = true → En K C H0 F H x f → En K C H0 F' H x f) :
    ∀ {σ : L2.St} {δ : List Fr} (i : Nat), Sd K C H0 F H σ δ → (∀ o, σ[i]? = some o → En K C H0 F' H o g) → (δ.set i .un).all n = true → Sd K C H0 F' H σ (δ.set i g)
  | _, _, _, .nil, _, _ => .nil
  | _, _, 0, .cons a b, hg, hn => by
    rw [List.set_cons_zero, List.all_cons, Bool.and_eq_true] at hn
    exact .cons (hg _ rfl) (allOf hn.2 b)
  | _, _, i + 1, .cons a b, hg, hn => by
    rw [List.set_cons_succ, List.all_cons, Bool.and_eq_true] at hn
    exact .cons (h hn.1 a) (Sd.chgF h i b hg hn.2)
where
  allOf : ∀ {σ : L2.St} {δ : List Fr}, δ.all n = true → Sd K C H0 F H σ δ → Sd K C H0 F' H σ δ
    | _, _, _, .nil => .nil
    | _, _, hn, .cons a b => by
      rw [List.all_cons, Bool.and_eq_true] at hn
      exact .cons (h hn.1 a) (allOf hn.2 b)
theorem q_keepL {i : Nat} (hi : δ[i]? = some (.ol ds)) (ho : (δ.set i .un).all notL = true) (k : SD K C u (δ.set i (.dat (.lst ds))) M) : SD K C u δ M := fun F0 H0 F H σ f s E q => by
  obtain ⟨o, g1, p, vs, rfl, g2, g3, g4, g5⟩ := s.get hi
  refine k F0 H0 (upd F p (.lst vs)) H σ (fut_keep f g2 g4 g3) (Sd.chgF (n := notL) (fun a b => En.keepL g4 g3 a b) i s (fun o ho => ?_) ho) E (q.mono (Ex.new g3))
  have e : o = some (.ref p) := Option.some.inj (ho.symm.trans g1)
  exact ⟨_, e, .lst upd_same (g5.mono (Ex.new g3))⟩
theorem q_keepT {i : Nat} {kvs : List (List Int × D)} (hi : δ[i]? = some (.oT kvs)) (ho : (δ.set i .un).all notT = true) (k : SD K C u (δ.set i (.dat (.dT kvs))) M) : SD K C u δ M := fun F0 H0 F H σ f s E q => by
  obtain ⟨o, g1, p, vs, rfl, g2, g3, g4, g5⟩ := s.get hi
  refine k F0 H0 (upd F p (.dT vs)) H σ (fut_keep f g2 g4 g3) (Sd.chgF (n := notT) (fun a b => En.keepT g4 g3 a b) i s (fun o ho => ?_) ho) E (q.mono (Ex.new g3))
  have e : o = some (.ref p) := Option.some.inj (ho.symm.trans g1)
  exact ⟨_, e, .dT upd_same (g5.mono (Ex.new g3))⟩
theorem q_keepK {i : Nat} {kvs : List (Int × D)} (hi : δ[i]? = some (.oK kvs)) (ho : (δ.set i .un).all notK = true) (k : SD K C u (δ.set i (.dat (.dK kvs))) M) : SD K C u δ M := fun F0 H0 F H σ f s E q => by
  obtain ⟨o, g1, p, vs, rfl, g2, g3, g4, g5⟩ := s.get hi
  refine k F0 H0 (upd F p (.dK vs)) H σ (fut_keep f g2 g4 g3) (Sd.chgF (n := notK) (fun a b => En.keepK g4 g3 a b) i s (fun o ho => ?_) ho) E (q.mono (Ex.new g3))
  have e : o = some (.ref p) := Option.some.inj (ho.symm.trans g1)
  exact ⟨_, e, .dK upd_same (g5.mono (Ex.new g3))⟩
/-! #### targets -/
def TGD (K : PySem.W.Frag) (C : Addr) (g : TG) (js : List Nat) (δ : List Fr) (d : D) (δ' : List Fr) : Prop :=
  ∀ (H0 F H : Hp) (σ : L2.St) (v : V), Ex F H → Is K C F v d → Sd K C H0 F H σ δ → ∀ Q : L2.St → Hp → Prop, (∀ σ', σ'.length = σ.length → (∀ i, i ∉ js → σ'[i]? = σ[i]?) → Sd K C H0 F H σ' δ' → Q σ' H) → g v σ H Q
theorem tg_name {j : Nat} : TGD K C (gName j) [j] δ d (δ.set j (.dat d)) := fun H0 F H σ v x p s Q q =>
  q _ (by rw [List.length_set]) (fun i hi => by
    rw [List.getElem?_set_ne]
    intro z
    exact hi (by rw [z]; exact List.mem_singleton.mpr rfl)) (s.set (en_dat p) j)
/-- several names -/
def setAll (δ : List Fr) : List Nat → List D → List Fr
  | j :: js, d :: ds => setAll (δ.set j (.dat d)) js ds
  | _, _ => δ
def gAll : List Nat → TGs
  | [] => gNil
  | j :: js => gCons (gName j) (gAll js)
theorem tg_all : ∀ (js : List Nat) (ds : List D) (δ : List Fr), js.length = ds.length → ∀ (H0 F H : Hp) (σ : L2.St) (vs : List V), IsAll K C F vs ds → Sd K C H0 F H σ δ → ∀ Q : L2.St → Hp → Prop,
    (∀ σ', σ'.length = σ.length → (∀ i, i ∉ js → σ'[i]? = σ[i]?) → Sd K C H0 F H σ' (setAll δ js ds) → Q σ' H) → gAll js vs σ H Q
  | [], [], δ, _, H0, F, H, σ, vs, p, s, Q, q => by
    cases p
    exact ⟨rfl, q σ rfl (fun _ _ => rfl) s⟩
  | j :: js, d :: ds, δ, hl, H0, F, H, σ, vs, p, s, Q, q => by
    cases p with
    | @cons v vs _ _ a b =>
      refine ⟨v, vs, rfl, tg_all js ds (δ.set j (.dat d)) (by simpa using hl) H0 F H (σ.set j (some v)) vs b (s.set (en_dat a) j) Q fun σ' h1 h2 h3 => q σ' (by rw [h1, List.length_set]) (fun i hi => ?_) h3⟩
      rw [h2 i (fun z => hi (List.mem_cons_of_mem _ z)), List.getElem?_set_ne]
      intro z
      exact hi (by rw [z]; exact List.mem_cons_self)
  | [], _ :: _, _, hl, _, _, _, _, _, _, _, _, _ => by simp at hl
  | _ :: _, [], _, hl, _, _, _, _, _, _, _, _, _ => by simp at hl
theorem tg_tup (js : List Nat) {n : Nat} (hn : js.length = n) (hd : ds.length = n) : TGD K C (gTup K n (gAll js)) js δ (.tup ds) (setAll δ js ds) := fun H0 F H σ v x p s Q q => by
  cases p with
  | @tup a xs _ h1 h2 => exact ⟨a, xs, rfl, .inl (.inl (x _ _ h1)), by rw [h2.length, hd], tg_all js ds δ (by rw [hn, hd]) H0 F H σ xs h2 s Q q⟩
/-- a, b = e -/
theorem q_tgt {g : TG} {js : List Nat} {δ' : List Fr} (h : ED K C te δ d) (hg : TGD K C g js δ d δ') (k : SD K C u δ' M) : SD K C (tSeq (tAsg te g) u) δ M := fun F0 H0 F H σ f s E q =>
  h H0 F H σ f.s s _ fun v F1 H1 f1 p1 => hg H0 F1 H1 σ v f1.s p1 (s.fut f1) _ fun σ' _ _ s' => k F0 H0 F1 H1 σ' (f.trans f1) s' E (q.mono f1.f)
/-! #### what is walked -/
structure JW (K : PySem.W.Frag) (C : Addr) (J : It) (n : Nat) (Y : Nat → D → Prop) (F1 : Hp) : Prop where
  goes : ∀ i F H, Ex F1 F → Ex F H → i < n → J.go i H
  stops : ∀ F H, Ex F1 F → Ex F H → J.stop n H
  yields : ∀ i F H x H', Ex F1 F → Ex F H → i < n → J.yld i H x H' → ∃ F' d, Fut F H F' H' ∧ Y i d ∧ Is K C F' x d
def DW (K : PySem.W.Frag) (C : Addr) (wi : TI) (δ : List Fr) (n : Nat) (Y : Nat → D → Prop) : Prop :=
  ∀ (H0 F H : Hp) (σ : L2.St), Ex F H → Sd K C H0 F H σ δ → ∀ R : It → Hp → Prop, (∀ J F' H', Fut F H F' H' → JW K C J n Y F' → R J H') → wi σ H R
theorem dw_list (h : ED K C te δ (.lst ds)) : DW K C (iList K te) δ ds.length fun i d => ds[i]? = some d := fun H0 F H σ x s R q => h H0 F H σ x s _ fun v F1 H1 f1 p1 => by
  cases p1 with
  | @lst a xs _ h1 h2 =>
    refine ⟨a, rfl, ⟨xs, (.inl (.inl (f1.s _ _ h1)))⟩, q _ F1 H1 f1 ⟨fun i F H e1 e2 hi => ?_, fun F H e1 e2 => ⟨xs, (.inl (.inl ((e1.trans e2) _ _ h1))), by rw [h2.length]; exact Nat.le_refl _⟩, fun i F H x H' e1 e2 hi y => ?_⟩⟩
    · have hi' : i < xs.length := by rw [h2.length]; exact hi
      exact ⟨xs, xs[i], (.inl (.inl ((e1.trans e2) _ _ h1))), List.getElem?_eq_getElem hi'⟩
    · obtain ⟨e, y⟩ := y
      subst e
      have g := y xs ((.inl (.inl ((e1.trans e2) _ _ h1))))
      obtain ⟨d, g1, g2⟩ := h2.get g
      exact ⟨F, d, Fut.rfl e2, g1, g2.mono e1⟩
theorem dw_tup (h : ED K C te δ (.tup ds)) : DW K C (iTup K te) δ ds.length fun i d => ds[i]? = some d := fun H0 F H σ x s R q => h H0 F H σ x s _ fun v F1 H1 f1 p1 => by
  cases p1 with
  | @tup a xs _ h1 h2 =>
    refine ⟨a, rfl, ⟨xs, (.inl (.inl (f1.s _ _ h1)))⟩, q _ F1 H1 f1 ⟨fun i F H e1 e2 hi => ?_, fun F H e1 e2 => ⟨xs, (.inl (.inl ((e1.trans e2) _ _ h1))), by rw [h2.length]; exact Nat.le_refl _⟩, fun i F H x H' e1 e2 hi y => ?_⟩⟩
    · have hi' : i < xs.length := by rw [h2.length]; exact hi
      exact ⟨xs, xs[i], (.inl (.inl ((e1.trans e2) _ _ h1))), List.getElem?_eq_getElem hi'⟩
    · obtain ⟨e, y⟩ := y
      subst e
      have g := y xs ((.inl (.inl ((e1.trans e2) _ _ h1))))
      obtain ⟨d, g1, g2⟩ := h2.get g
      exact ⟨F, d, Fut.rfl e2, g1, g2.mono e1⟩
theorem dw_r1 {n : Nat} (h : ED K C te δ (.int (n : Int))) (hn : n ≤ 100000) : DW K C (iRng1 (tCons te tNil)) δ n fun i d => d = .int (i : Nat) := fun H0 F H σ x s R q => h H0 F H σ x s _ fun v F1 H1 f1 p1 => by
  cases p1
  refine ⟨n, rfl, by omega, by omega, q _ F1 H1 f1 ⟨fun i F H e1 e2 hi => (by show i < (n : Int).toNat; omega), fun F H e1 e2 => (by show (n : Int).toNat ≤ n; omega), fun i F H x H' e1 e2 hi y => ?_⟩⟩
  obtain ⟨e, y⟩ := y
  subst e y
  exact ⟨F, _, Fut.rfl e2, rfl, by
    have : (0 : Int) + (i : Int) = (i : Int) := by omega
    rw [this]
    exact .int _⟩
theorem dw_r2 {a b : Nat} (ha : ED K C ta δ (.int (a : Int))) (hb : ED K C tb δ (.int (b : Int))) (hn : a ≤ 100000 ∧ b ≤ 100000) : DW K C (iRng2 (tCons ta (tCons tb tNil))) δ (b - a) fun i d => d = .int ((a + i : Nat) : Int) := fun H0 F H σ x s R q =>
  ha H0 F H σ x s _ fun v F1 H1 f1 p1 => hb H0 F1 H1 σ f1.s (s.fut f1) _ fun w F2 H2 f2 p2 => by
    cases p1
    cases p2
    have e0 : ((b : Int) - (a : Int)).toNat = b - a := by omega
    refine ⟨a, b, rfl, ⟨by omega, by omega, by omega, by omega⟩, q _ F2 H2 (f1.trans f2) ⟨fun i F H e1 e2 hi => ?_, fun F H e1 e2 => ?_, fun i F H x H' e1 e2 hi y => ?_⟩⟩
    · show i < ((b : Int) - (a : Int)).toNat
      omega
    · show ((b : Int) - (a : Int)).toNat ≤ b - a
      omega
    · obtain ⟨e, y⟩ := y
      subst e y
      exact ⟨F, _, Fut.rfl e2, rfl, by
        have : (a : Int) + (i : Int) = ((a + i : Nat) : Int) := by omega
        rw [this]
        exact .int _⟩
/-- down by ones to 0 .. -/
theorem dw_r3 {ta tb tc : TE} {a b : Int} (ha : ED K C ta δ (.int a)) (hb : ED K C tb δ (.int b)) (hc : ED K C tc δ (.int (-1))) (h1 : -1 ≤ a ∧ a ≤ 100000) (h2 : -1 ≤ b ∧ b ≤ 100000) :
    DW K C (iRng3 (tCons ta (tCons tb (tCons tc tNil)))) δ (a - b).toNat fun i d => d = .int (a - (i : Nat)) := fun H0 F H σ x s R q =>
  ha H0 F H σ x s _ fun v F1 H1 f1 p1 => hb H0 F1 H1 σ f1.s (s.fut f1) _ fun w F2 H2 f2 p2 => hc H0 F2 H2 σ f2.s ((s.fut f1).fut f2) _ fun w F3 H3 f3 p3 => by
    cases p1
    cases p2
    cases p3
    refine ⟨a, b, -1, (a - b).toNat, rfl, RgC.neg ?_ ?_ ?_ ?_, q _ F3 H3 (f1.trans (f2.trans f3)) ⟨fun i F H e1 e2 hi => hi, fun F H e1 e2 => Nat.le_refl _, fun i F H x H' e1 e2 hi y => ?_⟩⟩
    all_goals first | omega | skip
    obtain ⟨e, y⟩ := y
    subst e y
    exact ⟨F, _, Fut.rfl e2, rfl, by
      have : a + (i : Nat) * (-1 : Int) = a - (i : Nat) := by omega
      rw [this]
      exact .int _⟩
theorem dw_enumL {ds : List D} (h : ED K C te δ (.lst ds)) : DW K C (iEnum K (tCons te tNil)) δ ds.length fun i d => ∃ e, ds[i]? = some e ∧ d = .tup [.int (i : Nat), e] := fun H0 F H σ x s R q => h H0 F H σ x s _ fun v F1 H1 f1 p1 => by
  cases p1 with
  | @lst a xs _ h1 h2 =>
    refine ⟨a, xs, rfl, (.inl (.inl (f1.s _ _ h1))), q _ F1 H1 f1 ⟨fun i F H e1 e2 hi => ?_, fun F H e1 e2 => ⟨xs, (.inl (.inl ((e1.trans e2) _ _ h1))), by rw [h2.length]; exact Nat.le_refl _⟩, fun i F H x H' e1 e2 hi y => ?_⟩⟩
    · have hi' : i < xs.length := by rw [h2.length]; exact hi
      exact ⟨xs, xs[i], (.inl (.inl ((e1.trans e2) _ _ h1))), List.getElem?_eq_getElem hi'⟩
    · obtain ⟨T, z, y1, y2, y3, y4⟩ := y
      have g := y4 xs ((.inl (.inl ((e1.trans e2) _ _ h1))))
      obtain ⟨d, g1, g2⟩ := h2.get g
      subst y3
      exact ⟨upd F T _, _, Fut.new e2 y2, ⟨d, g1, rfl⟩, by rw [y1]; exact .tup upd_same (.cons (.int _) (.cons ((g2.mono e1).mono (Ex.new (e2.back y2))) .nil))⟩
theorem dw_str {z : Str} (h : ED K C te δ (.str z)) : DW K C (iStr te) δ z.cps.size fun i d => ∃ c, z.cps[i]? = some c ∧ d = .str ⟨#[c]⟩ := fun H0 F H σ x s R q => h H0 F H σ x s _ fun v F1 H1 f1 p1 => by
  cases p1
  refine ⟨z, rfl, q _ F1 H1 f1 ⟨fun i F H e1 e2 hi => hi, fun F H e1 e2 => Nat.le_refl _, fun i F H x H' e1 e2 hi y => ?_⟩⟩
  obtain ⟨e, c, y1, y2⟩ := y
  subst e
  exact ⟨F, _, Fut.rfl e2, ⟨c, y1, rfl⟩, by rw [y2]; exact .str _⟩
/-! #### loops -/
theorem q_for {wi : TI} {g : TG} {tb : TS} {n : Nat} {Y : Nat → D → Prop} (hw : DW K C wi δ n Y) (I : Nat → List Fr → Prop) (B : List Fr → Prop) {δ0 : List Fr} (h0 : I 0 δ0) (hl : Le δ0 δ)
    (hs : ∀ i d δ1, i < n → Y i d → I i δ1 → ∃ js δ2, TGD K C g js δ1 d δ2 ∧ SD K C tb δ2 ⟨I (i + 1), B, I (i + 1), M.R⟩)
    (hd : ∀ δ1, I n δ1 → SD K C u δ1 M) (hb : ∀ δ1, B δ1 → SD K C u δ1 M) : SD K C (tSeq (tFor wi g tb) u) δ M := fun F0 H0 F H σ f s E q =>
  hw H0 F H σ f.s s _ fun J F1 H1 f1 W => by
    refine ⟨fun i m σ H => m = n - i ∧ i ≤ n ∧ ∃ F2 δ2, I i δ2 ∧ Ex F1 F2 ∧ Fut F0 H0 F2 H ∧ Sd K C H0 F2 H σ δ2, ⟨n, by simp, Nat.zero_le _, F1, δ0, h0, Ex.rfl, f.trans f1, (s.fut f1).le hl⟩, ?_⟩
    rintro i m σ2 H2 ⟨rfl, hi, F2, δ2, hI, x2, f2, s2⟩
    by_cases hlt : i < n
    · refine .inr ⟨W.goes i F2 H2 x2 f2.s hlt, fun σ' H' => ∃ F3 δ3, I (i + 1) δ3 ∧ Ex F1 F3 ∧ Fut F0 H0 F3 H' ∧ Sd K C H0 F3 H' σ' δ3, fun σ' H' p' => ⟨n - (i + 1), by omega, rfl, hlt, p'⟩, fun x H' y => ?_⟩
      obtain ⟨F3, d, f3, hY, hx⟩ := W.yields i F2 H2 x H' x2 f2.s hlt y
      obtain ⟨js, δ3, hg, hS⟩ := hs i d δ2 hlt hY hI
      refine hg H0 F3 H' σ2 x f3.s hx (s2.fut f3) _ fun σ3 _ _ s3 => ?_
      refine hS F0 H0 F3 H' σ3 (f2.trans f3) s3 _ ⟨fun δ' σ' F' H'' a b c e => ⟨F', δ', a, (x2.trans f3.f).trans b, c, e⟩, fun δ' σ' F' H'' a b c e => ?_, fun δ' σ' F' H'' a b c e => ⟨F', δ', a, (x2.trans f3.f).trans b, c, e⟩, q.rt⟩
      exact hb δ' a F0 H0 F' H'' σ' c e E (q.mono (f1.f.trans ((x2.trans f3.f).trans b)))
    · have e : i = n := by omega
      subst e
      exact .inl ⟨W.stops F2 H2 x2 f2.s, hd δ2 hI F0 H0 F2 H2 σ2 f2 s2 E (q.mono (f1.f.trans x2))⟩
theorem q_while {tb : TS} (W : Nat → List Fr → Prop) {m0 : Nat} {δ0 : List Fr} (h0 : W m0 δ0) (hl : Le δ0 δ) (B : List Fr → Prop)
    (hs : ∀ m δ1, W m δ1 → ∃ b, TD K C t δ1 b ∧ (b = true → SD K C tb δ1 ⟨fun δ' => ∃ m', m' < m ∧ W m' δ', B, fun δ' => ∃ m', m' < m ∧ W m' δ', M.R⟩) ∧ (b = false → SD K C u δ1 M))
    (hb : ∀ δ1, B δ1 → SD K C u δ1 M) : SD K C (tSeq (tWhile t tb) u) δ M := fun F0 H0 F H σ f s E q => by
  refine ⟨fun m σ H => ∃ F2 δ2, W m δ2 ∧ Ex F F2 ∧ Fut F0 H0 F2 H ∧ Sd K C H0 F2 H σ δ2, ⟨m0, F, δ0, h0, Ex.rfl, f, s.le hl⟩, ?_⟩
  rintro m σ2 H2 ⟨F2, δ2, hW, x2, f2, s2⟩
  obtain ⟨b, ht, hy, hn⟩ := hs m δ2 hW
  refine ht H0 F2 H2 σ2 f2.s s2 _ fun F3 H3 f3 => ?_
  cases b with
  | true =>
    refine iteT ⟨fun σ' H' => ∃ m', m' < m ∧ ∃ F2 δ2, W m' δ2 ∧ Ex F F2 ∧ Fut F0 H0 F2 H' ∧ Sd K C H0 F2 H' σ' δ2, fun σ' H' h => h, ?_⟩
    refine hy rfl F0 H0 F3 H3 σ2 (f2.trans f3) (s2.fut f3) _ ⟨?_, ?_, ?_, q.rt⟩
    · rintro δ' σ' F' H' ⟨m', a1, a2⟩ b c e
      exact ⟨m', a1, F', δ', a2, (x2.trans f3.f).trans b, c, e⟩
    · intro δ' σ' F' H' a b c e
      exact hb δ' a F0 H0 F' H' σ' c e E (q.mono ((x2.trans f3.f).trans b))
    · rintro δ' σ' F' H' ⟨m', a1, a2⟩ b c e
      exact ⟨m', a1, F', δ', a2, (x2.trans f3.f).trans b, c, e⟩
  | false => exact iteF (hn rfl F0 H0 F3 H3 σ2 (f2.trans f3) (s2.fut f3) E (q.mono (x2.trans f3.f)))
/-! #### comprehensions -/
def wipeF (δ : List Fr) : List Nat → List Fr
  | [] => δ
  | v :: vs => (wipeF δ vs).set v .un
theorem sd_wipe {H0 F H : Hp} {σ : L2.St} (s : Sd K C H0 F H σ δ) : ∀ vs : List Nat, Sd K C H0 F H (wipe σ vs) (wipeF δ vs)
  | [] => s
  | v :: vs => (sd_wipe s vs).set en_un v
theorem wipe_get (σ : L2.St) : ∀ (vs : List Nat) (i : Nat), (wipe σ vs)[i]? = if i ∈ vs ∧ i < σ.length then some none else σ[i]?
  | [], i => by simp [wipe]
  | v :: vs, i => by
    unfold wipe
    have ih := wipe_get σ vs i
    by_cases e : v = i
    · subst e
      by_cases h : v < σ.length
      · rw [List.getElem?_set_self (by rw [wipe_length]; exact h), if_pos ⟨List.mem_cons_self, h⟩]
      · rw [List.getElem?_eq_none (by rw [List.length_set, wipe_length]; omega), if_neg (fun z => h z.2), List.getElem?_eq_none (by omega)]
    · rw [List.getElem?_set_ne e, ih]
      have : i ∈ v :: vs ↔ i ∈ vs := by
        rw [List.mem_cons]
        exact ⟨fun h => h.resolve_left fun z => e z.symm, Or.inr⟩
      simp only [this]
theorem wipe_len (σ : L2.St) (vs : List Nat) : (wipe σ vs).length = σ.length := wipe_length σ vs
theorem wipe_same {σ σ' : L2.St} {js vs : List Nat} (hl : σ'.length = (wipe σ vs).length) (h : ∀ i, i ∉ js → σ'[i]? = (wipe σ vs)[i]?) (hj : ∀ j ∈ js, j ∈ vs) : wipe σ' vs = wipe σ vs := by
  apply List.ext_getElem?
  intro i
  rw [wipe_len] at hl
  rw [wipe_get, wipe_get, hl]
  by_cases hi : i ∈ vs ∧ i < σ.length
  · rw [if_pos hi, if_pos hi]
  · rw [if_neg hi, if_neg hi]
    by_cases hv : i ∈ vs
    · have h1 : ¬ i < σ.length := fun z => hi ⟨hv, z⟩
      rw [List.getElem?_eq_none (by omega), List.getElem?_eq_none (by omega)]
    · rw [h i (fun z => hv (hj i z)), wipe_get, if_neg hi]
/-- the comprehension: acc tells what is made behind so many turns -/
theorem ex_lc {wi : TI} {g : TG} {tt : TT} {vs : List Nat} {n : Nat} {Y : Nat → D → Prop} (hw : DW K C wi δ n Y) (hn : n ≤ 40000) (acc : Nat → List D) (h0 : acc 0 = [])
    (hs : ∀ i d, i < n → Y i d → ∃ js δ2 b, TGD K C g js (wipeF δ vs) d δ2 ∧ (∀ j ∈ js, j ∈ vs) ∧ TD K C tt δ2 b ∧ (b = true → ∃ z, ED K C te δ2 z ∧ acc (i + 1) = acc i ++ [z]) ∧ (b = false → acc (i + 1) = acc i)) :
    EX K C (tLc wi g tt te vs) δ (acc n) := fun H0 F H σ x s Q q =>
  hw H0 F H σ x s _ fun J F1 H1 f1 W Dl hD => by
    refine ⟨fun i m H => m = n - i ∧ i ≤ n ∧ ∃ F2, Fut F1 H1 F2 H ∧ F2 Dl = none ∧ ∃ ws, H Dl = some (.lst ws) ∧ ws.length ≤ i ∧ IsAll K C F2 ws (acc i),
      ⟨n, by simp, Nat.zero_le _, F1, Fut.lost f1.s hD, f1.s.back hD, [], upd_same, Nat.le_refl _, by rw [h0]; exact .nil⟩, ?_⟩
    rintro i m H2 ⟨rfl, hi, F2, f2, k1, ws, k2, k3, k4⟩
    by_cases hlt : i < n
    · refine .inr ⟨W.goes i F2 H2 f2.f f2.s hlt, fun H' => ∃ F2, Fut F1 H1 F2 H' ∧ F2 Dl = none ∧ ∃ ws, H' Dl = some (.lst ws) ∧ ws.length ≤ i + 1 ∧ IsAll K C F2 ws (acc (i + 1)), fun H' p' => ⟨n - (i + 1), by omega, rfl, hlt, p'⟩, fun v H' y => ?_⟩
      obtain ⟨F3, d, f3, hY, hx⟩ := W.yields i F2 H2 v H' f2.f f2.s hlt y
      obtain ⟨js, δ2, b, hg, hj, ht, hy, hno⟩ := hs i d hlt hY
      have f23 := f2.trans f3
      have s3 : Sd K C H0 F3 H' (wipe σ vs) (wipeF δ vs) := sd_wipe ((s.fut f1).fut (⟨f23.f, f23.h, f23.s, f23.o⟩ : Fut F1 H1 F3 H')) vs
      refine hg H0 F3 H' (wipe σ vs) v f3.s hx s3 _ fun σ3 l1 l2 s4 => ⟨wipe_same l1 l2 hj, ?_⟩
      refine ht H0 F3 H' σ3 f3.s s4 _ fun F4 H4 f4 => ?_
      have j1 : F4 Dl = none := (f3.trans f4).o _ _ k2 k1
      have j2 : H4 Dl = some (.lst ws) := (f3.trans f4).h _ _ k2
      cases b with
      | true =>
        obtain ⟨z, hz, ha⟩ := hy rfl
        refine iteT (hz H0 F4 H4 σ3 f4.s (s4.fut f4) _ fun w F5 H5 f5 p5 => ?_)
        have j3 : F5 Dl = none := f5.o _ _ j2 j1
        have j4 : H5 Dl = some (.lst ws) := f5.h _ _ j2
        have f15 : Fut F1 H1 F5 H5 := f2.trans (f3.trans (f4.trans f5))
        refine ⟨ws, j4, Evl.sz_lt (by omega), F5, ⟨f15.f, fun a u e => ?_, fun a u e => ?_, f15.o⟩, j3, ws ++ [w], upd_same, by rw [List.length_append]; simp; omega, ?_⟩
        · rw [upd_ne (ne_of_none e hD)]
          exact f15.h a u e
        · rw [upd_ne (ne_of_none e j3)]
          exact f15.s a u e
        · rw [ha]
          exact (k4.mono (f3.f.trans (f4.f.trans f5.f))).snoc p5
      | false =>
        refine iteF ⟨F4, f2.trans (f3.trans f4), j1, ws, j2, Nat.le_succ_of_le k3, ?_⟩
        rw [hno rfl]
        exact k4.mono (f3.f.trans f4.f)
    · have e : i = n := by omega
      subst e
      refine .inl ⟨W.stops F2 H2 f2.f f2.s, ?_⟩
      have f12 := f1.trans f2
      refine q _ (upd F2 Dl (.lst ws)) H2 ⟨f12.f.trans (Ex.new k1), f12.h, fun a u e => ?_, fun p o a b => ?_⟩ ⟨Dl, ws, rfl, upd_same, k4.mono (Ex.new k1)⟩
      · by_cases z : a = Dl
        · subst z; rw [upd_same] at e; rw [k2, e]
        · rw [upd_ne z] at e; exact f2.s a u e
      · have hp : p ≠ Dl := ne_of_none (f1.h _ _ a) hD
        rw [upd_ne hp]
        exact f12.o p o a b
end
end Bt

end BtLogic3_part
section BtCal_part
set_option Elab.async false
set_option linter.all false
set_option maxRecDepth 100000
set_option maxHeartbeats 4000000
namespace Bt
open PySem PySem.Spec PyProof.Rows L2
/-! ### what the top has written -/
abbrev deskC (K : PySem.W.Frag) : Addr := He.ga K "Desk"
structure Tx (K : PySem.W.Frag) (mg : Str → Option Value) : Prop where
  ex : ∃ h : Heap, K.In h ∧ h.Ns mainGlobals mg
  c : SaysA K
section
variable {K : PySem.W.Frag} {mg : Str → Option Value}
theorem Tx.sd (T : Tx K mg) : He.SaysD fa fn K := congrArg Prod.snd T.c
theorem Tx.fact (T : Tx K mg) (i : Nat) {f : He.Fa} (h : fa[i]? = some f := by rfl) : f.ok K = true := T.sd.fact i h
theorem Tx.glo (T : Tx K mg) (i : Nat) {x : Str} (h : fa[i]? = some (.glo x) := by rfl) : mg x = some (.ref (He.ga K x)) := by
  obtain ⟨hp, X, G⟩ := T.ex
  exact He.glo_ok X G (T.fact i h)
theorem Tx.free (T : Tx K mg) (i : Nat) {x : Str} (h : fa[i]? = some (.free x) := by rfl) : mg x = none := by
  obtain ⟨hp, X, G⟩ := T.ex
  exact He.free_ok X G (T.fact i h)
theorem Tx.free_isinstance (T : Tx K mg) : mg "isinstance" = none := T.free 54
theorem bb_isinstance : bootBuiltins "isinstance" = some (.builtin "isinstance") := by decide +kernel
theorem Tx.free_len (T : Tx K mg) : mg "len" = none := T.free 55
theorem bb_len : bootBuiltins "len" = some (.builtin "len") := by decide +kernel
theorem Tx.free_all (T : Tx K mg) : mg "all" = none := T.free 56
theorem bb_all : bootBuiltins "all" = some (.builtin "all") := by decide +kernel
theorem Tx.free_set (T : Tx K mg) : mg "set" = none := T.free 57
theorem bb_set : bootBuiltins "set" = some (.type "set") := by decide +kernel
theorem Tx.free_list (T : Tx K mg) : mg "list" = none := T.free 58
theorem bb_list : bootBuiltins "list" = some (.type "list") := by decide +kernel
theorem Tx.free_sorted (T : Tx K mg) : mg "sorted" = none := T.free 59
theorem bb_sorted : bootBuiltins "sorted" = some (.builtin "sorted") := by decide +kernel
theorem Tx.free_range (T : Tx K mg) : mg "range" = none := T.free 60
theorem bb_range : bootBuiltins "range" = some (.type "range") := by decide +kernel
theorem Tx.free_max (T : Tx K mg) : mg "max" = none := T.free 61
theorem bb_max : bootBuiltins "max" = some (.builtin "max") := by decide +kernel
theorem Tx.free_min (T : Tx K mg) : mg "min" = none := T.free 62
theorem bb_min : bootBuiltins "min" = some (.builtin "min") := by decide +kernel
theorem Tx.free_tuple (T : Tx K mg) : mg "tuple" = none := T.free 63
theorem bb_tuple : bootBuiltins "tuple" = some (.type "tuple") := by decide +kernel
theorem Tx.free_str (T : Tx K mg) : mg "str" = none := T.free 64
theorem bb_str : bootBuiltins "str" = some (.type "str") := by decide +kernel
theorem Tx.free_int (T : Tx K mg) : mg "int" = none := T.free 65
theorem bb_int : bootBuiltins "int" = some (.type "int") := by decide +kernel
theorem Tx.free_enumerate (T : Tx K mg) : mg "enumerate" = none := T.free 66
theorem bb_enumerate : bootBuiltins "enumerate" = some (.type "enumerate") := by decide +kernel
theorem Tx.free_abs (T : Tx K mg) : mg "abs" = none := T.free 67
theorem bb_abs : bootBuiltins "abs" = some (.builtin "abs") := by decide +kernel
theorem Tx.free_divmod (T : Tx K mg) : mg "divmod" = none := T.free 68
theorem bb_divmod : bootBuiltins "divmod" = some (.builtin "divmod") := by decide +kernel
theorem Tx.free_bool (T : Tx K mg) : mg "bool" = none := T.free 69
theorem bb_bool : bootBuiltins "bool" = some (.type "bool") := by decide +kernel
theorem Tx.glo_MOST_POINTS (T : Tx K mg) : ∃ t, mg "MOST_POINTS" = some (.int 24 t) := by
  obtain ⟨hp, X, G⟩ := T.ex
  exact He.int_ok X G (T.fact 70)
theorem Tx.glo_MOST_FIGURES (T : Tx K mg) : ∃ t, mg "MOST_FIGURES" = some (.int 30 t) := by
  obtain ⟨hp, X, G⟩ := T.ex
  exact He.int_ok X G (T.fact 71)
theorem Tx.glo_FIGURES (T : Tx K mg) : ∃ t, mg "FIGURES" = some (.str "0123456789" t) := by
  obtain ⟨hp, X, G⟩ := T.ex
  exact He.str_ok X G (T.fact 72)
theorem Tx.glo_ASKS (T : Tx K mg) : mg "ASKS" = some (.ref (He.ga K "ASKS")) := T.glo 73
theorem Tx.asks (T : Tx K mg) (H : Hp) : SqT K H (He.ga K "ASKS") (asks.map (He.Dv.v K)) := He.tupB_ok (congrArg Prod.fst T.c) H
theorem Tx.mgC (T : Tx K mg) : mg "Desk" = some (.ref (deskC K)) := T.glo 74
theorem Tx.cls (T : Tx K mg) : Cls K (deskC K) := He.cls_ok (T.fact 76)
theorem Tx.nPo (T : Tx K mg) : NoAttr K (deskC K) "points" := He.noat_ok (T.fact 77)
theorem Tx.nPa (T : Tx K mg) : NoAttr K (deskC K) "past" := He.noat_ok (T.fact 78)
theorem Tx.mkr (T : Tx K mg) : Mk K (deskC K) (He.ma K (deskC K) "__init__") := He.mkr_ok (T.fact 79)
theorem Tx.fd_is_whole (T : Tx K mg) : ∃ fd, FnP K "is_whole" "is_whole" s_is_whole (He.ga K "is_whole") fd := T.sd.def_ 0 (d := d_is_whole) rfl
theorem Tx.gl_is_whole (T : Tx K mg) : mg "is_whole" = some (.ref (He.ga K "is_whole")) := T.glo 0
theorem Tx.fd_is_point (T : Tx K mg) : ∃ fd, FnP K "is_point" "is_point" s_is_point (He.ga K "is_point") fd := T.sd.def_ 1 (d := d_is_point) rfl
theorem Tx.gl_is_point (T : Tx K mg) : mg "is_point" = some (.ref (He.ga K "is_point")) := T.glo 1
theorem Tx.fd_bend (T : Tx K mg) : ∃ fd, FnP K "bend" "bend" s_bend (He.ga K "bend") fd := T.sd.def_ 2 (d := d_bend) rfl
theorem Tx.gl_bend (T : Tx K mg) : mg "bend" = some (.ref (He.ga K "bend")) := T.glo 2
theorem Tx.fd_are_points (T : Tx K mg) : ∃ fd, FnP K "are_points" "are_points" s_are_points (He.ga K "are_points") fd := T.sd.def_ 3 (d := d_are_points) rfl
theorem Tx.gl_are_points (T : Tx K mg) : mg "are_points" = some (.ref (He.ga K "are_points")) := T.glo 3
theorem Tx.fd_first_three (T : Tx K mg) : ∃ fd, FnP K "first_three" "first_three" s_first_three (He.ga K "first_three") fd := T.sd.def_ 4 (d := d_first_three) rfl
theorem Tx.gl_first_three (T : Tx K mg) : mg "first_three" = some (.ref (He.ga K "first_three")) := T.glo 4
theorem Tx.fd_is_sheet (T : Tx K mg) : ∃ fd, FnP K "is_sheet" "is_sheet" s_is_sheet (He.ga K "is_sheet") fd := T.sd.def_ 5 (d := d_is_sheet) rfl
theorem Tx.gl_is_sheet (T : Tx K mg) : mg "is_sheet" = some (.ref (He.ga K "is_sheet")) := T.glo 5
theorem Tx.fd_need_sheet (T : Tx K mg) : ∃ fd, FnP K "need_sheet" "need_sheet" s_need_sheet (He.ga K "need_sheet") fd := T.sd.def_ 6 (d := d_need_sheet) rfl
theorem Tx.gl_need_sheet (T : Tx K mg) : mg "need_sheet" = some (.ref (He.ga K "need_sheet")) := T.glo 6
theorem Tx.fd_is_up (T : Tx K mg) : ∃ fd, FnP K "is_up" "is_up" s_is_up (He.ga K "is_up") fd := T.sd.def_ 7 (d := d_is_up) rfl
theorem Tx.gl_is_up (T : Tx K mg) : mg "is_up" = some (.ref (He.ga K "is_up")) := T.glo 7
theorem Tx.fd_are_rising (T : Tx K mg) : ∃ fd, FnP K "are_rising" "are_rising" s_are_rising (He.ga K "are_rising") fd := T.sd.def_ 8 (d := d_are_rising) rfl
theorem Tx.gl_are_rising (T : Tx K mg) : mg "are_rising" = some (.ref (He.ga K "are_rising")) := T.glo 8
theorem Tx.fd_pairs_of (T : Tx K mg) : ∃ fd, FnP K "pairs_of" "pairs_of" s_pairs_of (He.ga K "pairs_of") fd := T.sd.def_ 9 (d := d_pairs_of) rfl
theorem Tx.gl_pairs_of (T : Tx K mg) : mg "pairs_of" = some (.ref (He.ga K "pairs_of")) := T.glo 9
theorem Tx.fd_bends (T : Tx K mg) : ∃ fd, FnP K "bends" "bends" s_bends (He.ga K "bends") fd := T.sd.def_ 10 (d := d_bends) rfl
theorem Tx.gl_bends (T : Tx K mg) : mg "bends" = some (.ref (He.ga K "bends")) := T.glo 10
theorem Tx.fd_is_cup (T : Tx K mg) : ∃ fd, FnP K "is_cup" "is_cup" s_is_cup (He.ga K "is_cup") fd := T.sd.def_ 11 (d := d_is_cup) rfl
theorem Tx.gl_is_cup (T : Tx K mg) : mg "is_cup" = some (.ref (He.ga K "is_cup")) := T.glo 11
theorem Tx.fd_is_cap (T : Tx K mg) : ∃ fd, FnP K "is_cap" "is_cap" s_is_cap (He.ga K "is_cap") fd := T.sd.def_ 12 (d := d_is_cap) rfl
theorem Tx.gl_is_cap (T : Tx K mg) : mg "is_cap" = some (.ref (He.ga K "is_cap")) := T.glo 12
theorem Tx.fd_table_of (T : Tx K mg) : ∃ fd, FnP K "table_of" "table_of" s_table_of (He.ga K "table_of") fd := T.sd.def_ 13 (d := d_table_of) rfl
theorem Tx.gl_table_of (T : Tx K mg) : mg "table_of" = some (.ref (He.ga K "table_of")) := T.glo 13
theorem Tx.fd_left_table (T : Tx K mg) : ∃ fd, FnP K "left_table" "left_table" s_left_table (He.ga K "left_table") fd := T.sd.def_ 14 (d := d_left_table) rfl
theorem Tx.gl_left_table (T : Tx K mg) : mg "left_table" = some (.ref (He.ga K "left_table")) := T.glo 14
theorem Tx.fd_first_row (T : Tx K mg) : ∃ fd, FnP K "first_row" "first_row" s_first_row (He.ga K "first_row") fd := T.sd.def_ 15 (d := d_first_row) rfl
theorem Tx.gl_first_row (T : Tx K mg) : mg "first_row" = some (.ref (He.ga K "first_row")) := T.glo 15
theorem Tx.fd_longest (T : Tx K mg) : ∃ fd, FnP K "longest" "longest" s_longest (He.ga K "longest") fd := T.sd.def_ 16 (d := d_longest) rfl
theorem Tx.gl_longest (T : Tx K mg) : mg "longest" = some (.ref (He.ga K "longest")) := T.glo 16
theorem Tx.fd_longest_cup (T : Tx K mg) : ∃ fd, FnP K "longest_cup" "longest_cup" s_longest_cup (He.ga K "longest_cup") fd := T.sd.def_ 17 (d := d_longest_cup) rfl
theorem Tx.gl_longest_cup (T : Tx K mg) : mg "longest_cup" = some (.ref (He.ga K "longest_cup")) := T.glo 17
theorem Tx.fd_longest_cap (T : Tx K mg) : ∃ fd, FnP K "longest_cap" "longest_cap" s_longest_cap (He.ga K "longest_cap") fd := T.sd.def_ 18 (d := d_longest_cap) rfl
theorem Tx.gl_longest_cap (T : Tx K mg) : mg "longest_cap" = some (.ref (He.ga K "longest_cap")) := T.glo 18
theorem Tx.fd_need_numbers (T : Tx K mg) : ∃ fd, FnP K "need_numbers" "need_numbers" s_need_numbers (He.ga K "need_numbers") fd := T.sd.def_ 19 (d := d_need_numbers) rfl
theorem Tx.gl_need_numbers (T : Tx K mg) : mg "need_numbers" = some (.ref (He.ga K "need_numbers")) := T.glo 19
theorem Tx.fd_lacks (T : Tx K mg) : ∃ fd, FnP K "lacks" "lacks" s_lacks (He.ga K "lacks") fd := T.sd.def_ 20 (d := d_lacks) rfl
theorem Tx.gl_lacks (T : Tx K mg) : mg "lacks" = some (.ref (He.ga K "lacks")) := T.glo 20
theorem Tx.fd_side_row (T : Tx K mg) : ∃ fd, FnP K "side_row" "side_row" s_side_row (He.ga K "side_row") fd := T.sd.def_ 21 (d := d_side_row) rfl
theorem Tx.gl_side_row (T : Tx K mg) : mg "side_row" = some (.ref (He.ga K "side_row")) := T.glo 21
theorem Tx.fd_is_ring_of (T : Tx K mg) : ∃ fd, FnP K "is_ring_of" "is_ring_of" s_is_ring_of (He.ga K "is_ring_of") fd := T.sd.def_ 22 (d := d_is_ring_of) rfl
theorem Tx.gl_is_ring_of (T : Tx K mg) : mg "is_ring_of" = some (.ref (He.ga K "is_ring_of")) := T.glo 22
theorem Tx.fd_is_ring (T : Tx K mg) : ∃ fd, FnP K "is_ring" "is_ring" s_is_ring (He.ga K "is_ring") fd := T.sd.def_ 23 (d := d_is_ring) rfl
theorem Tx.gl_is_ring (T : Tx K mg) : mg "is_ring" = some (.ref (He.ga K "is_ring")) := T.glo 23
theorem Tx.fd_outer_row (T : Tx K mg) : ∃ fd, FnP K "outer_row" "outer_row" s_outer_row (He.ga K "outer_row") fd := T.sd.def_ 24 (d := d_outer_row) rfl
theorem Tx.gl_outer_row (T : Tx K mg) : mg "outer_row" = some (.ref (He.ga K "outer_row")) := T.glo 24
theorem Tx.fd_outer_ring (T : Tx K mg) : ∃ fd, FnP K "outer_ring" "outer_ring" s_outer_ring (He.ga K "outer_ring") fd := T.sd.def_ 25 (d := d_outer_ring) rfl
theorem Tx.gl_outer_ring (T : Tx K mg) : mg "outer_ring" = some (.ref (He.ga K "outer_ring")) := T.glo 25
theorem Tx.fd_longest_from (T : Tx K mg) : ∃ fd, FnP K "longest_from" "longest_from" s_longest_from (He.ga K "longest_from") fd := T.sd.def_ 26 (d := d_longest_from) rfl
theorem Tx.gl_longest_from (T : Tx K mg) : mg "longest_from" = some (.ref (He.ga K "longest_from")) := T.glo 26
theorem Tx.fd_greatest_ring (T : Tx K mg) : ∃ fd, FnP K "greatest_ring" "greatest_ring" s_greatest_ring (He.ga K "greatest_ring") fd := T.sd.def_ 27 (d := d_greatest_ring) rfl
theorem Tx.gl_greatest_ring (T : Tx K mg) : mg "greatest_ring" = some (.ref (He.ga K "greatest_ring")) := T.glo 27
theorem Tx.fd_threes_of (T : Tx K mg) : ∃ fd, FnP K "threes_of" "threes_of" s_threes_of (He.ga K "threes_of") fd := T.sd.def_ 28 (d := d_threes_of) rfl
theorem Tx.gl_threes_of (T : Tx K mg) : mg "threes_of" = some (.ref (He.ga K "threes_of")) := T.glo 28
theorem Tx.fd_fours_of (T : Tx K mg) : ∃ fd, FnP K "fours_of" "fours_of" s_fours_of (He.ga K "fours_of") fd := T.sd.def_ 29 (d := d_fours_of) rfl
theorem Tx.gl_fours_of (T : Tx K mg) : mg "fours_of" = some (.ref (He.ga K "fours_of")) := T.glo 29
theorem Tx.fd_outermost (T : Tx K mg) : ∃ fd, FnP K "outermost" "outermost" s_outermost (He.ga K "outermost") fd := T.sd.def_ 30 (d := d_outermost) rfl
theorem Tx.gl_outermost (T : Tx K mg) : mg "outermost" = some (.ref (He.ga K "outermost")) := T.glo 30
theorem Tx.fd_peels (T : Tx K mg) : ∃ fd, FnP K "peels" "peels" s_peels (He.ga K "peels") fd := T.sd.def_ 31 (d := d_peels) rfl
theorem Tx.gl_peels (T : Tx K mg) : mg "peels" = some (.ref (He.ga K "peels")) := T.glo 31
theorem Tx.fd_show_sheet (T : Tx K mg) : ∃ fd, FnP K "show_sheet" "show_sheet" s_show_sheet (He.ga K "show_sheet") fd := T.sd.def_ 32 (d := d_show_sheet) rfl
theorem Tx.gl_show_sheet (T : Tx K mg) : mg "show_sheet" = some (.ref (He.ga K "show_sheet")) := T.glo 32
theorem Tx.fd_number_in (T : Tx K mg) : ∃ fd, FnP K "number_in" "number_in" s_number_in (He.ga K "number_in") fd := T.sd.def_ 33 (d := d_number_in) rfl
theorem Tx.gl_number_in (T : Tx K mg) : mg "number_in" = some (.ref (He.ga K "number_in")) := T.glo 33
theorem Tx.fd_point_in (T : Tx K mg) : ∃ fd, FnP K "point_in" "point_in" s_point_in (He.ga K "point_in") fd := T.sd.def_ 34 (d := d_point_in) rfl
theorem Tx.gl_point_in (T : Tx K mg) : mg "point_in" = some (.ref (He.ga K "point_in")) := T.glo 34
theorem Tx.fd_read_sheet (T : Tx K mg) : ∃ fd, FnP K "read_sheet" "read_sheet" s_read_sheet (He.ga K "read_sheet") fd := T.sd.def_ 35 (d := d_read_sheet) rfl
theorem Tx.gl_read_sheet (T : Tx K mg) : mg "read_sheet" = some (.ref (He.ga K "read_sheet")) := T.glo 35
theorem Tx.fd_crossing_of (T : Tx K mg) : ∃ fd, FnP K "crossing_of" "crossing_of" s_crossing_of (He.ga K "crossing_of") fd := T.sd.def_ 36 (d := d_crossing_of) rfl
theorem Tx.gl_crossing_of (T : Tx K mg) : mg "crossing_of" = some (.ref (He.ga K "crossing_of")) := T.glo 36
theorem Tx.fd_crossings (T : Tx K mg) : ∃ fd, FnP K "crossings" "crossings" s_crossings (He.ga K "crossings") fd := T.sd.def_ 37 (d := d_crossings) rfl
theorem Tx.gl_crossings (T : Tx K mg) : mg "crossings" = some (.ref (He.ga K "crossings")) := T.glo 37
theorem Tx.fd_sides_of (T : Tx K mg) : ∃ fd, FnP K "sides_of" "sides_of" s_sides_of (He.ga K "sides_of") fd := T.sd.def_ 38 (d := d_sides_of) rfl
theorem Tx.gl_sides_of (T : Tx K mg) : mg "sides_of" = some (.ref (He.ga K "sides_of")) := T.glo 38
theorem Tx.fd_halves (T : Tx K mg) : ∃ fd, FnP K "halves" "halves" s_halves (He.ga K "halves") fd := T.sd.def_ 39 (d := d_halves) rfl
theorem Tx.gl_halves (T : Tx K mg) : mg "halves" = some (.ref (He.ga K "halves")) := T.glo 39
theorem Tx.fd_halving (T : Tx K mg) : ∃ fd, FnP K "halving" "halving" s_halving (He.ga K "halving") fd := T.sd.def_ 40 (d := d_halving) rfl
theorem Tx.gl_halving (T : Tx K mg) : mg "halving" = some (.ref (He.ga K "halving")) := T.glo 40
theorem Tx.fd_whole_in (T : Tx K mg) : ∃ fd, FnP K "whole_in" "whole_in" s_whole_in (He.ga K "whole_in") fd := T.sd.def_ 41 (d := d_whole_in) rfl
theorem Tx.gl_whole_in (T : Tx K mg) : mg "whole_in" = some (.ref (He.ga K "whole_in")) := T.glo 41
theorem Tx.fd_figure_in (T : Tx K mg) : ∃ fd, FnP K "figure_in" "figure_in" s_figure_in (He.ga K "figure_in") fd := T.sd.def_ 42 (d := d_figure_in) rfl
theorem Tx.gl_figure_in (T : Tx K mg) : mg "figure_in" = some (.ref (He.ga K "figure_in")) := T.glo 42
theorem Tx.fd_places_text (T : Tx K mg) : ∃ fd, FnP K "places_text" "places_text" s_places_text (He.ga K "places_text") fd := T.sd.def_ 43 (d := d_places_text) rfl
theorem Tx.gl_places_text (T : Tx K mg) : mg "places_text" = some (.ref (He.ga K "places_text")) := T.glo 43
theorem Tx.fd_Desk_init (T : Tx K mg) : ∃ fd, FnP K "__init__" "Desk.__init__" s_Desk_init (He.ma K (deskC K) "__init__") fd := T.sd.def_ 44 (d := d_Desk_init) rfl
theorem Tx.fd_Desk_deed (T : Tx K mg) : ∃ fd, FnP K "deed" "Desk.deed" s_Desk_deed (He.ma K (deskC K) "deed") fd := T.sd.def_ 45 (d := d_Desk_deed) rfl
theorem Tx.me_Desk_deed (T : Tx K mg) : Meth K (deskC K) "deed" (He.ma K (deskC K) "deed") := He.meth_ok (T.fact 81)
theorem Tx.fd_Desk_place_of (T : Tx K mg) : ∃ fd, FnP K "place_of" "Desk.place_of" s_Desk_place_of (He.ma K (deskC K) "place_of") fd := T.sd.def_ 46 (d := d_Desk_place_of) rfl
theorem Tx.me_Desk_place_of (T : Tx K mg) : Meth K (deskC K) "place_of" (He.ma K (deskC K) "place_of") := He.meth_ok (T.fact 82)
theorem Tx.fd_Desk_sound (T : Tx K mg) : ∃ fd, FnP K "sound" "Desk.sound" s_Desk_sound (He.ma K (deskC K) "sound") fd := T.sd.def_ 47 (d := d_Desk_sound) rfl
theorem Tx.me_Desk_sound (T : Tx K mg) : Meth K (deskC K) "sound" (He.ma K (deskC K) "sound") := He.meth_ok (T.fact 83)
theorem Tx.fd_Desk_put (T : Tx K mg) : ∃ fd, FnP K "put" "Desk.put" s_Desk_put (He.ma K (deskC K) "put") fd := T.sd.def_ 48 (d := d_Desk_put) rfl
theorem Tx.me_Desk_put (T : Tx K mg) : Meth K (deskC K) "put" (He.ma K (deskC K) "put") := He.meth_ok (T.fact 84)
theorem Tx.fd_Desk_needed (T : Tx K mg) : ∃ fd, FnP K "needed" "Desk.needed" s_Desk_needed (He.ma K (deskC K) "needed") fd := T.sd.def_ 49 (d := d_Desk_needed) rfl
theorem Tx.me_Desk_needed (T : Tx K mg) : Meth K (deskC K) "needed" (He.ma K (deskC K) "needed") := He.meth_ok (T.fact 85)
theorem Tx.fd_Desk_take (T : Tx K mg) : ∃ fd, FnP K "take" "Desk.take" s_Desk_take (He.ma K (deskC K) "take") fd := T.sd.def_ 50 (d := d_Desk_take) rfl
theorem Tx.me_Desk_take (T : Tx K mg) : Meth K (deskC K) "take" (He.ma K (deskC K) "take") := He.meth_ok (T.fact 86)
theorem Tx.fd_Desk_undone (T : Tx K mg) : ∃ fd, FnP K "undone" "Desk.undone" s_Desk_undone (He.ma K (deskC K) "undone") fd := T.sd.def_ 51 (d := d_Desk_undone) rfl
theorem Tx.me_Desk_undone (T : Tx K mg) : Meth K (deskC K) "undone" (He.ma K (deskC K) "undone") := He.meth_ok (T.fact 87)
theorem Tx.fd_Desk_need_points (T : Tx K mg) : ∃ fd, FnP K "need_points" "Desk.need_points" s_Desk_need_points (He.ma K (deskC K) "need_points") fd := T.sd.def_ 52 (d := d_Desk_need_points) rfl
theorem Tx.me_Desk_need_points (T : Tx K mg) : Meth K (deskC K) "need_points" (He.ma K (deskC K) "need_points") := He.meth_ok (T.fact 88)
theorem Tx.fd_Desk_asked (T : Tx K mg) : ∃ fd, FnP K "asked" "Desk.asked" s_Desk_asked (He.ma K (deskC K) "asked") fd := T.sd.def_ 53 (d := d_Desk_asked) rfl
theorem Tx.me_Desk_asked (T : Tx K mg) : Meth K (deskC K) "asked" (He.ma K (deskC K) "asked") := He.meth_ok (T.fact 89)
theorem Tx.fd_Desk_say (T : Tx K mg) : ∃ fd, FnP K "say" "Desk.say" s_Desk_say (He.ma K (deskC K) "say") fd := T.sd.def_ 54 (d := d_Desk_say) rfl
theorem Tx.me_Desk_say (T : Tx K mg) : Meth K (deskC K) "say" (He.ma K (deskC K) "say") := He.meth_ok (T.fact 90)
theorem Tx.fd_law_box (T : Tx K mg) : ∃ fd, FnP K "_law_box" "_law_box" s_law_box (He.ga K "_law_box") fd := T.sd.def_ 55 (d := d_law_box) rfl
theorem Tx.gl_law_box (T : Tx K mg) : mg "_law_box" = some (.ref (He.ga K "_law_box")) := T.glo 44
theorem Tx.fd_law_take (T : Tx K mg) : ∃ fd, FnP K "_law_take" "_law_take" s_law_take (He.ga K "_law_take") fd := T.sd.def_ 56 (d := d_law_take) rfl
theorem Tx.gl_law_take (T : Tx K mg) : mg "_law_take" = some (.ref (He.ga K "_law_take")) := T.glo 45
theorem Tx.fd_law_bend (T : Tx K mg) : ∃ fd, FnP K "_law_bend" "_law_bend" s_law_bend (He.ga K "_law_bend") fd := T.sd.def_ 57 (d := d_law_bend) rfl
theorem Tx.gl_law_bend (T : Tx K mg) : mg "_law_bend" = some (.ref (He.ga K "_law_bend")) := T.glo 46
theorem Tx.fd_law_free (T : Tx K mg) : ∃ fd, FnP K "_law_free" "_law_free" s_law_free (He.ga K "_law_free") fd := T.sd.def_ 58 (d := d_law_free) rfl
theorem Tx.gl_law_free (T : Tx K mg) : mg "_law_free" = some (.ref (He.ga K "_law_free")) := T.glo 47
theorem Tx.fd_law_sheet (T : Tx K mg) : ∃ fd, FnP K "_law_sheet" "_law_sheet" s_law_sheet (He.ga K "_law_sheet") fd := T.sd.def_ 59 (d := d_law_sheet) rfl
theorem Tx.gl_law_sheet (T : Tx K mg) : mg "_law_sheet" = some (.ref (He.ga K "_law_sheet")) := T.glo 48
theorem Tx.fd_law_said (T : Tx K mg) : ∃ fd, FnP K "_law_said" "_law_said" s_law_said (He.ga K "_law_said") fd := T.sd.def_ 60 (d := d_law_said) rfl
theorem Tx.gl_law_said (T : Tx K mg) : mg "_law_said" = some (.ref (He.ga K "_law_said")) := T.glo 49
theorem Tx.fd_law_put_all (T : Tx K mg) : ∃ fd, FnP K "_law_put_all" "_law_put_all" s_law_put_all (He.ga K "_law_put_all") fd := T.sd.def_ 61 (d := d_law_put_all) rfl
theorem Tx.gl_law_put_all (T : Tx K mg) : mg "_law_put_all" = some (.ref (He.ga K "_law_put_all")) := T.glo 50
theorem Tx.fd_law_answers (T : Tx K mg) : ∃ fd, FnP K "_law_answers" "_law_answers" s_law_answers (He.ga K "_law_answers") fd := T.sd.def_ 62 (d := d_law_answers) rfl
theorem Tx.gl_law_answers (T : Tx K mg) : mg "_law_answers" = some (.ref (He.ga K "_law_answers")) := T.glo 51
theorem Tx.fd_law_row (T : Tx K mg) : ∃ fd, FnP K "_law_row" "_law_row" s_law_row (He.ga K "_law_row") fd := T.sd.def_ 63 (d := d_law_row) rfl
theorem Tx.gl_law_row (T : Tx K mg) : mg "_law_row" = some (.ref (He.ga K "_law_row")) := T.glo 52
theorem Tx.fd_law (T : Tx K mg) : ∃ fd, FnP K "law" "law" s_law (He.ga K "law") fd := T.sd.def_ 64 (d := d_law) rfl
theorem Tx.gl_law (T : Tx K mg) : mg "law" = some (.ref (He.ga K "law")) := T.glo 53
end
/-! ### a def that keeps a promise, called -/
def Cal (P : Program) (w : World) (K : PySem.W.Frag) (mg : Str → Option Value) (base : Heap) (k : Nat) (x : Str) (ps : List Str) (f0 : List D → D → Prop) : Prop :=
  ∃ f fd, FnOk P w K mg base CX0 k f fd ps (spP K (deskC K) f0) ∧ mg x = some (.ref f) ∧ PySem.W.keepIn K (.ref f) = true ∧ Binds K fd ps []
def CalM (P : Program) (w : World) (K : PySem.W.Frag) (mg : Str → Option Value) (base : Heap) (k : Nat) (m : Str) (ps : List Str) (f0 : List D → D → Prop) : Prop :=
  ∃ f fd, FnOk P w K mg base CX0 k f fd ps (spP K (deskC K) f0) ∧ Meth K (deskC K) m f ∧ Binds K fd ps []
section
variable {X : Cx} {k : Nat} {x m : Str} {ps : List Str} {f0 : List D → D → Prop} {e o : Expr} {es : List Expr} {p pos apos : Pos} {ta : TE} {t : TA}
theorem pe_callP {K : PySem.W.Frag} (c : Cal X.prog X.w K X.mg X.base k x ps f0) (hr : Room k X.A) (hg : Gl X x) (ha : PA X (e :: es) t) (hK : X.K = K := by rfl) (hdb : (x == ("__debug__" : Str)) = false := by decide) (he : starEach (e :: es) X.env = (false, eval e X.env) :: starEach es X.env := by rfl)
    (hpl : (backTo pos (starEach es X.env)).any (·.1) = false := by rfl) : PE X (.Call (.Name x p) (e :: es) [] pos) (tCall (spP K (deskC K) f0) [] E0 t) := by
  subst hK
  obtain ⟨f, fd, F, hm, hk, hb⟩ := c
  exact pe_call F hr hg hm hk hb .nil pass0 ha hdb he hpl
theorem pe_methP {pl : Sem Bool} (c : CalM X.prog X.w X.K X.mg X.base k m ps f0) (hr : Room k X.A) (he : PE X o ta) (cl : Cls X.K (deskC X.K)) (ha : PA X (e :: es) t)
    (hst : starEach (e :: es) X.env = (false, eval e X.env) :: starEach es X.env := by rfl) (hpl : (backTo pos (starEach es X.env)).any (·.1) = false := by rfl)
    (ht : eval (.Call (.Attribute o m apos) (e :: es) [] pos) X.env = (do
      let ov ← eval o X.env
      standAt apos.atName
      let (f, first) ← holding [ov] (getMethod ov m pl)
      callWith pos f first (backTo pos (starEach (e :: es) X.env)) (backToKw pos (keywordEach [] X.env))) := by rfl) : PE X (.Call (.Attribute o m apos) (e :: es) [] pos) (tMeth (deskC X.K) m (spP X.K (deskC X.K) f0) [] E0 ta t) := by
  obtain ⟨f, fd, F, hm, hb⟩ := c
  exact pe_meth he cl hm F hr hb .nil pass0 ha hst hpl ht
theorem pe_methP0 {pl : Sem Bool} (c : CalM X.prog X.w X.K X.mg X.base k m ps f0) (hr : Room k X.A) (he : PE X o ta) (cl : Cls X.K (deskC X.K))
    (ht : eval (.Call (.Attribute o m apos) [] [] pos) X.env = (do
      let ov ← eval o X.env
      standAt apos.atName
      let (f, first) ← holding [ov] (getMethod ov m pl)
      callWith pos f first (backTo pos (starEach [] X.env)) (backToKw pos (keywordEach [] X.env))) := by rfl) : PE X (.Call (.Attribute o m apos) [] [] pos) (tMeth (deskC X.K) m (spP X.K (deskC X.K) f0) [] E0 ta tNil) := by
  obtain ⟨f, fd, F, hm, hb⟩ := c
  exact pe_meth0 he cl hm F hr hb .nil pass0 ht
theorem ix_tupK {K : PySem.W.Frag} (h : X.K = K) : IxR X (rIxT K) := h ▸ ix_tup
theorem ix_listK {K : PySem.W.Frag} (h : X.K = K) : IxR X (rIxL K) := h ▸ ix_list
theorem op_in_seqK {K : PySem.W.Frag} (h : X.K = K) : OpR X (compareOp .In) (rIn K false) := h ▸ op_in_seq
theorem op_notIn_seqK {K : PySem.W.Frag} (h : X.K = K) : OpR X (compareOp .NotIn) (rIn K true) := h ▸ op_notIn_seq
theorem pg_tupK {K : PySem.W.Frag} (h : X.K = K) {ls : List Expr} {k : Nat} {t : TGs} {n : Nat} (hc : X.calm = true) (ht : PGs X ls t) (hn : (assignEach ls X.env).length = n := by rfl) (hst : (assignEach ls X.env).findIdx? (·.1) = none := by rfl) : PG X (.Tuple ls k pos) (gTup K n t) := h ▸ pg_tup hc ht hn hst
theorem pe_globI {i : Int} (hg : Gl X x) (hm : ∃ t, X.mg x = some (.int i t)) (hdb : (x == ("__debug__" : Str)) = false := by decide) : PE X (.Name x pos) (tC (.int i)) := by
  obtain ⟨t, hm⟩ := hm
  exact pe_glob hg hm ⟨_, rfl⟩ hdb
theorem pe_globS {i : Str} (hg : Gl X x) (hm : ∃ t, X.mg x = some (.str i t)) (hdb : (x == ("__debug__" : Str)) = false := by decide) : PE X (.Name x pos) (tC (.str i)) := by
  obtain ⟨t, hm⟩ := hm
  exact pe_glob hg hm ⟨_, rfl⟩ hdb
end
/-! ### a def's body -/
def retP (d : D) : Post := ⟨fun _ => d = .non, fun _ => False, fun _ => False, fun e => e = d⟩
def fr0 (N : List Str) (ds : List D) : List Fr := ds.map Fr.dat ++ List.replicate (N.length - ds.length) Fr.un
theorem fr0_sd {K : PySem.W.Frag} {C : Addr} {H0 F H : Hp} {N : List Str} {vs : List V} {ds : List D} (h : IsAll K C F vs ds) : Sd K C H0 F H (L2.start N vs) (fr0 N ds) := by
  unfold L2.start fr0
  rw [h.length]
  have h1 : ∀ n, Paired (En K C H0 F H) (List.replicate n none) (List.replicate n Fr.un) := by
    intro n
    induction n with
    | zero => exact .nil
    | succ n ih => exact .cons True.intro ih
  generalize N.length - ds.length = n
  induction ds generalizing vs with
  | nil => cases h; exact h1 n
  | cons d ds ih => cases h with
    | cons a b => exact .cons (en_dat a) (ih b)
theorem okP {P : Program} {w : World} {K : PySem.W.Frag} {mg : Str → Option Value} {base : Heap} {x q : Str} {st : Stmt} {f : Addr} {fd : FuncData} {N ps : List Str} {k : Nat} {f0 : List D → D → Prop}
    (F : FnP K x q st f fd) (S : FnScope N ps (defScope st)) (len : ∀ ds d, f0 ds d → ds.length = ps.length)
    (hbody : ∀ (cdv : Value) (A : Around) (outer : List Env) (s : Shared) (H : Hp) (E : XK), Room k (A.deeper (envOfC q (defScope st) s.heap.objs.size f cdv)) → ∀ ds d, f0 ds d →
      ∃ t, PSs (cxOf CX0 P w K mg base N q (defScope st) f cdv A outer s H E).nox (defBody st) t ∧ SD K (deskC K) t (fr0 N ds) (retP d)) : FnOk P w K mg base CX0 (k + 1) f fd ps (spP K (deskC K) f0) := by
  refine F.ok S (fun vs H Q E h => ?_) fun cdv A outer s H vs Q E hr h => ?_
  · obtain ⟨F, ds, d, _, h1, h2, _⟩ := h
    rw [h1.length, len ds d h2]
  · obtain ⟨F0, ds, d, hF, hall, hf, qq⟩ := h
    obtain ⟨t, ht, hS⟩ := hbody cdv A outer s H E hr ds d hf
    refine ⟨t, PSs.nox ht, hS F0 H F0 H _ (Fut.rfl hF) (fr0_sd hall) _ ⟨fun δ' σ' F' H' hn _ ff _ => ?_, fun _ _ _ _ z => z.elim, fun _ _ _ _ z => z.elim, fun e v F' H' he ff hv => ?_⟩⟩
    · have hn' : d = .non := hn
      subst hn'
      exact qq .non F' H' ff .non
    · have he' : e = d := he
      subst he'
      exact qq v F' H' ff hv
theorem calOf {P : Program} {w : World} {K : PySem.W.Frag} {mg : Str → Option Value} {base : Heap} {x q : Str} {st : Stmt} {f : Addr} {fd : FuncData} {N ps : List Str} {k : Nat} {f0 : List D → D → Prop} (g : mg x = some (.ref f))
    (F : FnP K x q st f fd) (hb : ∀ (kV doc pm : Value) (an : Option Addr) (cdv ct : Value) (us : List Value), us.length = ps.length → bindArgs (PySem.W.fnOf x q (defArgs st) (defBody st) (defScope st) .none kV doc pm an cdv ct) ⟨us, []⟩ = pure (ps.zip us))
    (ok : FnOk P w K mg base CX0 k f fd ps (spP K (deskC K) f0)) : Cal P w K mg base k x ps f0 := ⟨f, fd, ok, g, F.kp, FunD.bindsN F hb⟩
theorem calMOf {P : Program} {w : World} {K : PySem.W.Frag} {mg : Str → Option Value} {base : Heap} {x q : Str} {st : Stmt} {f : Addr} {fd : FuncData} {N ps : List Str} {k : Nat} {f0 : List D → D → Prop} (g : Meth K (deskC K) x f)
    (F : FnP K x q st f fd) (hb : ∀ (kV doc pm : Value) (an : Option Addr) (cdv ct : Value) (us : List Value), us.length = ps.length → bindArgs (PySem.W.fnOf x q (defArgs st) (defBody st) (defScope st) .none kV doc pm an cdv ct) ⟨us, []⟩ = pure (ps.zip us))
    (ok : FnOk P w K mg base CX0 k f fd ps (spP K (deskC K) f0)) : CalM P w K mg base k x ps f0 := ⟨f, fd, ok, g, FunD.bindsN F hb⟩
end Bt

end BtCal_part
section BtRules_part
set_option Elab.async false
set_option linter.all false
set_option maxRecDepth 100000
set_option maxHeartbeats 4000000
/-! Rules that the layer lacks: sorted of a tuple of pairs, enumerate of a tuple, set of a list and of a tuple of ints. Adapted from the layer's own proofs for lists. -/
namespace BtR
open PySem PySem.Spec PyProof.Rows L2
section
variable {prog : Program} {w : World} {A : Around} {E : Value → Shared → Prop} {s : Shared}
theorem collect_tup {l : Addr} {vs : List Value} {Q : List Value → Shared → Prop} (hl : IsTup s.heap l vs.toArray)
    (h : Q vs { s with heap := (s.heap.push (seqObj "list" #[] 0)).update s.heap.objs.size (Obj.mapSeq (· ++ vs.toArray)) }) (hsz : vs.length ≤ sizeLine) :
    wpAny (model prog w) A (collect (.ref l)) Q E s := by
  obtain ⟨o, ho, hc, n, hd⟩ := id hl
  unfold collect
  refine wpAny_bind (wpAny_runValue (codeAny_builtin entry_proto_collect' ?_))
  show wpAny _ _ (do again (.builtin "list.__iadd__" ⟨[← newList [], .ref l], []⟩)) _ _ s
  refine wpAny_bind (wpAny_newList (wpAny_pure ⟨Code.quiet_builtin _ (by decide +kernel), codeAny_builtin entry_list_iadd' ?_⟩))
  show wpAny _ _ (Builtin.List.listExtendWith (.ref s.heap.objs.size) (.ref l) (.ref s.heap.objs.size)) _ _ { s with heap := s.heap.push (seqObj "list" #[] 0) }
  unfold Builtin.List.listExtendWith
  have ho' : (s.heap.push (seqObj "list" #[] 0)).get? l = some o := Heap.get?_push_of_some _ ho
  refine wpAny_bind (wpAny_typeOf (T := "tuple") ⟨o, ho', hc⟩ ?_)
  have ht : (Value.type "tuple" == Value.type "tuple") = true := by rfl
  rw [if_pos (by rw [ht]; simp)]
  refine wpAny_bind (listItems_at ho' hd ?_)
  refine wpAny_bind (listItems_at (xs := #[]) (n := 0) (Heap.get?_push_size _ rfl) rfl ?_)
  rw [if_neg (by simp)]
  refine wpAny_bind (listUpdate_at (xs := #[]) (n := 0) (Heap.get?_push_size _ rfl) rfl ?_ (Nat.zero_le _) (by show (#[] ++ vs.toArray).size ≤ sizeLine + 1; simp only [Array.size_append, List.size_toArray, List.length_nil]; omega))
  refine wpAny_pure ?_
  show wpAny (model prog w) A (do
      let o ← load s.heap.objs.size
      match o.data with
      | .seq xs _ => pure xs.toList
      | _ => unsupported "internal:collect") Q E { s with heap := (s.heap.push (seqObj "list" #[] 0)).update s.heap.objs.size (Obj.mapSeq (· ++ vs.toArray)) }
  refine wpAny_bind (wpAny_load (get?_update_seq (Heap.get?_push_size _ rfl) _) ?_)
  show wpAny _ _ (pure ((#[] : Array Value) ++ vs.toArray).toList) Q E _
  rw [show ((#[] : Array Value) ++ vs.toArray).toList = vs by simp]
  exact wpAny_pure h
open SrtO in
theorem sorted_ordT {l : Addr} {vs : List Value} {ltv : Value → Value → Bool} {Q : Value → Shared → Prop} (O : Swo ltv) (hl : IsTup s.heap l vs.toArray) (hz : vs.length ≤ sizeLine)
    (hS : 2 ≤ vs.length → ∀ (h₁ : Heap) (a : Addr), h₁.get? a = some (seqObj "list" vs.toArray 0) → (∀ b o, s.heap.get? b = some o → b ≠ a ∧ h₁.get? b = some o) → SortableO prog w A.in1.in1 { s with heap := h₁ } a vs ltv)
    (h : ∀ out : List Value, Srtd ltv out → Stb ltv out vs → Q (.ref (s.heap.objs.size + 1)) { s with heap := sortedAll s.heap vs out.toArray }) :
    wpAny (model prog w) A (call (.builtin "sorted") [.ref l]) Q E s := by
  refine Calls.call_function_entry kind_sorted plain_sorted entry_sorted (args_sorted1 _) ?_
  unfold Builtin.«sorted»
  refine wpAny_bind (m := checkCount "sorted" 1 1 _) (wpAny_pure ?_)
  refine wpAny_bind (collect_tup hl ?_ hz)
  refine wpAny_bind (wpAny_newList ?_ hz)
  have hsz : ((s.heap.push (seqObj "list" #[] 0)).update s.heap.objs.size (Obj.mapSeq (· ++ vs.toArray))).objs.size = s.heap.objs.size + 1 := by
    rw [Heap.size_update, size_push']
  have hoL : (((s.heap.push (seqObj "list" #[] 0)).update s.heap.objs.size (Obj.mapSeq (· ++ vs.toArray))).push (seqObj "list" vs.toArray 0)).get? (s.heap.objs.size + 1) = some (seqObj "list" vs.toArray 0) := by
    rw [← hsz]; exact Heap.get?_push_size _ rfl
  have keep : ∀ b o, s.heap.get? b = some o → b ≠ s.heap.objs.size + 1 ∧ (((s.heap.push (seqObj "list" #[] 0)).update s.heap.objs.size (Obj.mapSeq (· ++ vs.toArray))).push (seqObj "list" vs.toArray 0)).get? b = some o := fun b o q => by
    have hlt : b < s.heap.objs.size := Heap.lt_size q
    refine ⟨Nat.ne_of_lt (Nat.lt_succ_of_lt hlt), Heap.get?_push_of_some _ ?_⟩
    rw [Heap.get?_update_ne _ _ _ _ (Nat.ne_of_lt hlt)]
    exact Heap.get?_push_of_some _ q
  show wpAny _ _ _ _ _ { s with heap := ((s.heap.push (seqObj "list" #[] 0)).update s.heap.objs.size (Obj.mapSeq (· ++ vs.toArray))).push (seqObj "list" vs.toArray 0) }
  rw [hsz]
  refine wpAny_bind (wpAny_holding (wpAny_call_entry slot_list_sort ⟨_, hoL, rfl⟩ entry_list_sort (list_sort_ord O hoL hz (fun h2 => hS h2 _ _ hoL keep) fun out hs hb => ⟨_, rfl, ?_⟩) (args_list_sort _)))
  exact wpAny_pure ⟨_, rfl, h out hs hb⟩
open SrtO in
theorem sorted_pairsT {l : Addr} {vs : List Value} {k : Value → Int × Int} {Q : Value → Shared → Prop} (hl : IsTup s.heap l vs.toArray) (hz : vs.length ≤ sizeLine) (hp : ∀ v ∈ vs, Srt.IsPair s.heap v (k v).1 (k v).2)
    (h : ∀ (h' : Heap) (d : Addr) (out : List Value), Srtd (fun v u => lexB (k v) (k u)) out → Stb (fun v u => lexB (k v) (k u)) out vs → (∀ b o, s.heap.get? b = some o → h'.get? b = some o) → s.heap.objs.size ≤ d → (∃ n, h'.get? d = some (seqObj "list" out.toArray n)) → Q (.ref d) { s with heap := h' }) :
    wpAny (model prog w) A (call (.builtin "sorted") [.ref l]) Q E s := by
  refine sorted_ordT (swo_lex k) hl hz (fun h2 h₁ a ha kk => ?_) fun out hs hb => ?_
  · refine pairs_sortableO (s := { s with heap := h₁ }) (by omega) (fun v hm => (hp v hm).keeps fun b o e _ => (kk b o e).2) fun o e => ?_
    have e' : some o = some (seqObj "list" vs.toArray 0) := e.symm.trans ha
    cases e'
    intro c
    exact absurd (Value.type.inj c) (by decide)
  · exact h _ _ out hs hb (fun b o e => sortedAll_old e) (Nat.le_succ _) (sortedAll_at s.heap vs out.toArray)
end
/-- sorted(t), t a tuple of pairs of ints -/
def rSortedTP (K : PySem.W.Frag) : List V → Hp → VK → Prop := fun vs H Q => ∃ (a : Addr) (xs : List V) (k : V → Int × Int), vs = [V.ref a] ∧ SqT K H a xs ∧ (∀ x ∈ xs, ∃ t, x = V.ref t ∧ H t = some (.tup [.int (k x).1, .int (k x).2])) ∧
  ∀ ys p, SrtO.Srtd (ltP k) ys → SrtO.Stb (ltP k) ys xs → H p = none → Q (.ref p) (upd H p (.lst ys))
section
variable {X : Cx}
theorem cr_sortedTP : CallR X (.builtin "sorted") (rSortedTP X.K) := by
  intro pins s σ H vs us Q I r h
  obtain ⟨a, xs, k, rfl, hs, hx, q⟩ := h
  obtain ⟨its, rv, hl, hz⟩ := I.tuple hs
  obtain ⟨u, rfl, ru⟩ := vals1 r
  obtain rfl : u = Value.ref a := ru
  obtain ⟨e1, e2⟩ := refs_back rv fun x m => by
    obtain ⟨t, e, _⟩ := hx x m
    exact ⟨t, e⟩
  refine sorted_pairsT (k := fun u => k (backV u)) hl (by rw [← rv.length]; exact hz) (fun v hv => ?_) fun h' d out h1 h2 kp hd hn => ?_
  · obtain ⟨t, rfl⟩ := e2 v hv
    have hm : V.ref t ∈ xs := by rw [e1]; exact List.mem_map.mpr ⟨_, hv, rfl⟩
    obtain ⟨t', e, ht⟩ := hx _ hm
    cases e
    obtain ⟨_, its2, r2, o, ho, hc, n, hd⟩ := I.hok _ _ ht
    obtain ⟨u1, u2, rfl, ri, rj⟩ := vals2 r2
    obtain ⟨t1, rfl⟩ := ri
    obtain ⟨t2, rfl⟩ := rj
    exact ⟨t, o, t1, t2, n, rfl, ho, hc, hd⟩
  · have h3 : ∀ u ∈ out, ∃ a, u = Value.ref a := fun u hu => e2 u (h2.perm.mem_iff.mp hu)
    obtain ⟨n, hn⟩ := hn
    have hb : SrtO.Stb (ltP k) (out.map backV) xs := by
      rw [e1]
      exact SrtO.Stb.map (ltP_swo k) backV h2
    refine ⟨.ref d, upd H d (.lst (out.map backV)), I.laid (t' := s.toks) kp hd ⟨?_, out, n, vals_back h3, hn⟩, rfl, q _ d (SrtO.srtd_map h1) hb (I.hok.fresh hd)⟩
    rw [hb.len]
    exact hz
end
/-! ### enumerate(t), t a tuple -/
section
variable {prog : Program} {w : World} {A : Around} {E : Value → Shared → Prop} {s : Shared}
theorem meets_enumerate_newT (l : Addr) (items : Array Value) (n : Nat) (dct : Option Addr) (sl : Array (Option Value)) :
    Meets (Builtin.«enumerate.__new__» ⟨[.type "enumerate", .ref l], []⟩) (fun _ R s => s.heap.get? l = some { cls := .type "tuple", dict := dct, data := .seq items n, slots := sl } ∧
      R (.ok (.ret (.ref (s.heap.push { cls := .type "tuple_iterator", data := .fields #[.ref l, .int 0 0] }).objs.size)))
        { s with heap := (s.heap.push { cls := .type "tuple_iterator", data := .fields #[.ref l, .int 0 0] }).push { cls := .type "enumerate", data := .fields #[.none, .bool false, .ref s.heap.objs.size, rawInt 0, .none, .none] } }) :=
  .of_wp fun prog w A R s h => by
    obtain ⟨hp, g, d, tk, os⟩ := s; obtain ⟨hl, h⟩ := h
    have hsub := sub_enumerate
    have hL : Heap.IsTuple (Shared.heap ⟨hp, g, d, tk, os⟩) l items := ⟨_, hl, rfl, n, rfl⟩
    wp_walk using AutoSeq1.wpAny_loadPart' hl
    refine wpAny_stack_any fun st => wpAny_pure ?_
    split
    · rename_i c _ _ _ _ _
      cases (c == Value.type "enumerate")
      · wp_walk using AutoSeq1.wpAny_loadPart' hl, wpAny_pyIter_tuple hL
        exact ⟨_, rfl, h⟩
      · wp_walk using AutoSeq1.wpAny_loadPart' hl, wpAny_pyIter_tuple hL
        exact ⟨_, rfl, h⟩
    · wp_walk using AutoSeq1.wpAny_loadPart' hl, wpAny_pyIter_tuple hL
      exact ⟨_, rfl, h⟩
theorem call_enumerate_tup {l : Addr} {items : Array Value} {Q : Value → Shared → Prop} (hL : s.heap.IsTuple l items)
    (h : ∀ h', IsEnum h' (s.heap.objs.size + 1) s.heap.objs.size 0 .none → h'.IsTupleIter s.heap.objs.size l 0 → h'.objs.size = s.heap.objs.size + 2 →
      (∀ b o, s.heap.get? b = some o → h'.get? b = some o) → Q (.ref (s.heap.objs.size + 1)) { s with heap := h' }) :
    wpAny (model prog w) A (call (.type "enumerate") [.ref l]) Q E s := by
  obtain ⟨⟨c, dct, dt, sl⟩, hl, hc, n, hd⟩ := hL
  replace hc : c = .type "tuple" := hc
  replace hd : dt = .seq items n := hd
  subst hc hd
  refine callType_new F.called_enumerate (by decide) (F.typeCall_enumerate_1 _) (F.newCall_enumerate_1 _) (fun obj => F.args_object_init_2 obj _) F.entry_enumerate_new
    (meets_enumerate_newT l items n dct sl) ⟨hl, ?_⟩
  have hz : (s.heap.push { cls := .type "tuple_iterator", data := .fields #[.ref l, .int 0 0] }).objs.size = s.heap.objs.size + 1 := Heap.size_push ..
  show _ ∧ _
  rw [hz]
  have he : IsEnum ((s.heap.push { cls := .type "tuple_iterator", data := .fields #[.ref l, .int 0 0] }).push
      { cls := .type "enumerate", data := .fields #[.none, .bool false, .ref s.heap.objs.size, rawInt 0, .none, .none] }) (s.heap.objs.size + 1) s.heap.objs.size 0 .none := by
    have := Heap.get?_push_size (s.heap.push { cls := .type "tuple_iterator", data := .fields #[.ref l, .int 0 0] })
      (o := { cls := .type "enumerate", data := .fields #[.none, .bool false, .ref s.heap.objs.size, rawInt 0, .none, .none] }) rfl
    rw [hz] at this; exact this
  refine ⟨⟨_, he, rfl⟩, h _ he ⟨_, Heap.get?_push_of_some _ (Heap.get?_push_size _ rfl), rfl, rfl⟩ (by rw [Heap.size_push, hz]) fun b o x => Heap.get?_push_of_some _ (Heap.get?_push_of_some _ x)⟩
end
/-- the tuple at a, each item in a new pair -/
def IteT (K : PySem.W.Frag) (a : Addr) : It :=
  ⟨fun i H => ∃ (xs : List V) (x : V), SqT K H a xs ∧ xs[i]? = some x, fun i H v H' => ∃ T x, v = .ref T ∧ H T = none ∧ H' = upd H T (.tup [.int (i : Nat), x]) ∧ ∀ xs, SqT K H a xs → xs[i]? = some x, fun i H => ∃ xs : List V, SqT K H a xs ∧ xs.length ≤ i⟩
theorem turn_enumT {P : Program} {w : World} {K : PySem.W.Frag} {elts : List Expr} {kk : Nat} {tpos : Pos} (a e it : Addr) :
    Turn P w K (.Tuple elts kk tpos) (IteT K a) [e, it] e (fun i h => (∃ old, IsEnum h e it ((i : Nat) : Int) old) ∧ h.IsTupleIter it a i ∧ e ≠ it) where
  mem := by simp
  obj := fun i h st b hb => by
    obtain ⟨⟨old, he⟩, ⟨o, ho, hc, hd⟩, _⟩ := st
    have e' : b = e ∨ b = it := by simpa using hb
    rcases e' with z | z
    · rw [z]; exact ⟨_, he, fun v q => nomatch q⟩
    · rw [z]; exact ⟨o, ho, fun v q => by rw [hd] at q; cases q⟩
  keep := fun i h h' st k => let ⟨⟨old, he⟩, hi, hne⟩ := st; ⟨⟨old, k e (by simp) _ he⟩, hi.at fun o q => k it (by simp) o q, hne⟩
  item := by
    intro X hP hw hK hc i pins s σ H E I hf st hg
    subst hP hw hK
    obtain ⟨⟨old, he⟩, hit, hne⟩ := st
    obtain ⟨xs, x, hq, hx⟩ := hg
    obtain ⟨its, rv, p, hz⟩ := I.tuple hq
    obtain ⟨u, hu, ru⟩ := rv.get hx
    have hel : e < s.heap.objs.size := Heap.lt_size he
    have hil : it < s.heap.objs.size := by obtain ⟨_, q, _⟩ := hit; exact Heap.lt_size q
    have hai : a ≠ it := by
      obtain ⟨o1, q1, c1, _⟩ := hit
      obtain ⟨o2, q2, c2, _⟩ := p
      intro z
      subst z
      rw [q1] at q2
      cases q2
      rw [c1] at c2
      exact absurd (Value.type.inj c2) (by decide)
    have hea : e ≠ a := by
      obtain ⟨o2, q2, c2, _⟩ := p
      intro z
      subst z
      have q1 : s.heap.get? e = some _ := he
      rw [q1] at q2
      cases q2
      exact absurd (Value.type.inj c2) (by decide)
    have il : i < its.toArray.size := by
      have := (List.getElem?_eq_some_iff.mp hu).1
      simpa using this
    refine wpAny_pyNext_enum_itemD (Draws.tuple (prog := X.prog) (w := X.w) (A := X.A.in1) (show X.A.in1.handled = none from I.ok.hd hc) it a hai its.toArray) he ⟨hit, p⟩ il hne (by simp [hne, hea]) fun x' h' tk hx' ho hst hT hsz hk => ?_
    obtain ⟨hit', _⟩ := hst
    have ex : x' = u := by
      have h1 : its[i]? = some x' := by simpa using hx'
      rw [hu] at h1
      exact (Option.some.inj h1).symm
    subst ex
    refine ⟨_, rfl, wpAny_letOwnedTupleGo_enum (s := { s with heap := h', toks := tk + 1 }) ho fun h'' he' sb => ?_⟩
    have hT2 : h''.get? s.heap.objs.size = some { cls := .type "tuple", data := .seq #[.int i tk, x'] } := (sb.2 _ (Nat.ne_of_gt hel)).trans hT
    have new : ObjOk X.prog X.w (upd H s.heap.objs.size (.tup [.int (i : Nat), x])) h'' s.heap.objs.size (.tup [.int (i : Nat), x]) :=
      ⟨by show 2 ≤ sizeLine; decide, [.int i tk, x'], .cons ⟨_, rfl⟩ (.cons ru .nil), ⟨_, hT2, rfl, _, rfl⟩⟩
    have I1 : Inv X pins σ (upd H s.heap.objs.size (.tup [.int (i : Nat), x])) { s with heap := h'', toks := tk + 1 } :=
      I.turnedNew (ch := [e, it]) (fun b ob hb q => (sb.2 b (fun z => hb (by simp [z]))).trans (hk b ob (fun z => hb (by simp [z])) (fun z => hb (by simp [z])) q)) hf (Nat.le_refl _) new
    refine ⟨.ref s.heap.objs.size, _, I1, rfl, ⟨_, x, rfl, I.hok.fresh (Nat.le_refl _), rfl, fun ys hy => by rw [I.tuple_inj hy hq]; exact hx⟩, ⟨⟨x', ?_⟩, hit'.at fun o q => (sb.2 it (Ne.symm hne)).trans q, hne⟩, fun b hb => ?_⟩
    · have e1 : ((i + 1 : Nat) : Int) = (i : Int) + 1 := by omega
      rw [e1]; exact he'
    · have hb' : b < s.heap.objs.size := by
        have e' : b = e ∨ b = it := by simpa using hb
        rcases e' with z | z
        · rw [z]; exact hel
        · rw [z]; exact hil
      rw [upd_ne (Nat.ne_of_lt hb')]
      exact (hf b hb).1
  done := by
    intro X hP hw hK hc i pins s σ H E I hf st hg
    subst hP hw hK
    obtain ⟨⟨old, he⟩, hit, hne⟩ := st
    obtain ⟨xs, hq, hx⟩ := hg
    obtain ⟨its, rv, p, hz⟩ := I.tuple hq
    obtain ⟨f0, f1, f2, f3, f4, f5⟩ := hf it (by simp)
    have hl := rv.length
    have hT : s.TypeIs (.ref e) "enumerate" := ⟨_, he, rfl⟩
    unfold pyNext
    refine wpAny_bind (wpAny_attempt (wpAny_callSpecial?_slot (name := Str.ofString "__next__") hT F.slot_enumerate_next
      (wpAny_call_entry F.slot_enumerate_next hT F.entry_enumerate_next ?_ (F.args_enumerate_next_1 _))))
    show wpAny _ _ (field (.ref e) 2 >>= _) _ _ _
    refine wpAny_bind (wpAny_field he rfl (x := .ref it) rfl ?_)
    refine wpAny_bind (wpAny_nextOf_tuple_end (I.ok.hd hc) hit p (by simp; omega) fun h' x he' hx' => ?_)
    obtain ⟨o, ho, hc'⟩ := hx'
    refine wpAny_bind (wpAny_isInstance (T := "StopIteration") (b := true) ⟨o, ho, hc'⟩ isSubtype_stop ?_)
    exact wpAny_pure ⟨rfl, I.turned (t' := s.toks) (fun b o hb q => he' b o hb q) f0 f1 f3 f4 f5⟩
  self := fun A i s Q E st h => let ⟨⟨_, he⟩, _⟩ := st; wpAny_pyIter_enum he h
def iEnumT (K : PySem.W.Frag) (ta : TA) : TI := fun σ H R => ta σ H fun vs H1 => ∃ a xs, vs = [.ref a] ∧ SqT K H1 a xs ∧ R (IteT K a) H1
theorem pi_enumT {X : Cx} {e : Expr} {ta : TA} {p pos tpos : Pos} {elts : List Expr} {kk : Nat} (hg : Gl X "enumerate") (hm : X.mg "enumerate" = none) (ha : PA X [e] ta) (hs : starEach [e] X.env = [(false, eval e X.env)] := by rfl) :
    PI X (.Tuple elts kk tpos) (.Call (.Name "enumerate" p) [e] [] pos) (iEnumT X.K ta) := by
  refine ⟨fun pins s σ H R I h => ?_⟩
  refine Call_ (ld_blt I hg hm boot_enumerate (PyProof.Rows.callWith_type1 (thn (ha.run pos pins s σ H _ I h) fun us s1 ⟨vs, H1, I1, r1, q1⟩ => ?_) hs rfl))
  obtain ⟨a, xs, ex, hq, q⟩ := q1
  subst ex
  cases r1 with
  | cons r rr =>
    cases rr
    cases r
    obtain ⟨its, rv, p', hz⟩ := I1.tuple hq
    refine call_enumerate_tup p' fun h' he hit hsz hk => wpAny_pyIter_enum he ?_
    have I2 : Inv X pins σ H1 { s1 with heap := h' } := I1.kept (t' := s1.toks) hk
    refine ⟨s1.heap.objs.size + 1, [s1.heap.objs.size + 1, s1.heap.objs.size], _, _, H1, rfl, I2, turn_enumT a (s1.heap.objs.size + 1) s1.heap.objs.size, ⟨⟨.none, he⟩, hit, Nat.succ_ne_self _⟩, fun b hb => ?_, q⟩
    have e' : b = s1.heap.objs.size + 1 ∨ b = s1.heap.objs.size := by simpa using hb
    have hle : s1.heap.objs.size ≤ b := by
      rcases e' with z | z
      · rw [z]; exact Nat.le_add_right _ _
      · rw [z]; exact Nat.le_refl _
    exact I1.fpOk hle (I1.hok.fresh hle)
end BtR

end BtRules_part
section BtRules2_part
set_option Elab.async false
set_option linter.all false
set_option maxRecDepth 100000
set_option maxHeartbeats 4000000
/-! Rules that the layer lacks: set of a list and of a tuple of ints; a tuple backwards; max of a dict's values. -/
namespace BtR
open PySem PySem.Spec PyProof.Rows L2
/-- the empty set that set(..) begins with -/
abbrev set0 (w : World) : Obj := { cls := .type "set", dict := none, data := .set #[] 0 (.fresh 0 0 (!w.params.followText "set-order")) }
section
variable {P : Program} {w : World} {A : Around} {E : Value → Shared → Prop} {s : Shared}
set_option maxHeartbeats 6400000 in
theorem call_set_listI {l : Addr} {items : Array Value} (ns : List Int) {Q : Value → Shared → Prop} (hh : A.handled = none) (hl : s.heap.IsList l items) (hit : IntsAre items.toList ns) (hb : ns.length + 1 < scanBound)
    (h : ∀ (h' : Heap) (tk c : Nat), SetR w h' s.heap.objs.size (fun j => decide (j ∈ ns)) c → c ≤ ns.length → (∀ b o, s.heap.get? b = some o → h'.get? b = some o) → Q (.ref s.heap.objs.size) { s with heap := h', toks := tk }) :
    wpAny (model P w) A (call (.type "set") [.ref l]) Q E s := by
  have hisz : items.size = ns.length := by
    have q := IntsAre.length hit
    rw [Array.length_toList] at q
    exact q
  obtain ⟨c, tl, hmro⟩ := F.called_set.mro
  have hmade := F.called_set.made
  have hsub := F.called_set.sub
  refine wpAny_call (codeAny_of_tree ?_)
  show wpAny _ _ (callAny (.type "set") _) _ _ _
  refine wpAny_pure ⟨Code.quiet_builtin _ (by decide +kernel), codeAny_builtin F.entry_type_call ?_⟩
  rw [Around.under_plain (weight_type_call_type "set" [.ref l] []) rfl]
  have h1 := F.called_set.notType
  have h2 := F.called_set.canCreate
  have hct := F.typeCall_set_1 (.ref l)
  repeat (any_goals (first | assumption | wp_step))

  refine codeAny_mono (code_set_led1 (.ref l) (E := E) (Q₁ := fun obj s₁ => obj = .ref s.heap.objs.size ∧ s₁ = { s with heap := s.heap.push (set0 w) }) ⟨rfl, rfl⟩) fun r s₁ hr => ?_
  cases r with
  | error e => exact hr
  | ok fl =>
    cases fl with
    | ret obj =>
      obtain ⟨rfl, rfl⟩ := hr
      have hS : (s.heap.push (set0 w)).get? s.heap.objs.size = some (set0 w) := Heap.get?_push_size _ rfl
      have hT : Shared.TypeIs { s with heap := s.heap.push (set0 w) } (.ref s.heap.objs.size) "set" := ⟨_, hS, rfl⟩
      have hli := F.called_set.init.lookup
      have hbi := F.called_set.init.bind (.ref s.heap.objs.size)
      repeat (any_goals (first | assumption | wp_step))

      refine codeAny_mono (codeAny_call_builtin (R := wants (fun r s₂ => r = .none ∧ ∃ h' tk c, s₂ = { s with heap := h', toks := tk } ∧ SetR w h' s.heap.objs.size (fun j => decide (j ∈ ns)) c ∧ c ≤ ns.length ∧
          (∀ b o, s.heap.get? b = some o → h'.get? b = some o)) E) F.called_set.init.plain F.entry_set_init (check_set_init_1 hT ?_)) fun r₂ s₂ hr₂ => ?_
      · obtain ⟨ol, hol, hcl, nl, hdl⟩ := hl
        obtain ⟨ocls, odict, odata, oslots⟩ := ol
        simp only at hcl hdl
        subst hcl; subst hdl
        have hol' : (s.heap.push (set0 w)).get? l = some { cls := .type "list", dict := odict, data := .seq items nl, slots := oslots } := Heap.get?_push_of_some _ hol
        have hsls := F.sub_list_set
        have hslf := F.sub_list_frozenset
        have hne : (Value.type "list" == Value.type "dict") = false := by decide
        have hl1 : (s.heap.push (set0 w)).IsList l items := ⟨_, hol', rfl, nl, rfl⟩
        unfold Builtin.«set.__init__» noKeywords Builtin.Frozenset.updateFrom
        generalize hPI : pyIter = PI
        wp_walk
        subst hPI

        refine wpAny_pyIter_list hl1 ?_
        refine wpAny_bind (wpAny_runValue ?_)
        have hlS : l < s.heap.objs.size := Heap.lt_size hol
        have hh3 : A.in1.in1.in1.handled = none := by simp [hh]
        have hz1 : (s.heap.push (set0 w)).objs.size = s.heap.objs.size + 1 := Heap.size_push ..
        have hneI : l ≠ (s.heap.push (set0 w)).objs.size := by
          rw [Heap.size_push]; exact Nat.ne_of_lt (Nat.lt_succ_of_lt hlS)
        have hSf : s.heap.objs.size ∉ [(s.heap.push (set0 w)).objs.size, l] := by
          rw [Heap.size_push]; simp only [List.mem_cons, List.mem_singleton, List.not_mem_nil, or_false, not_or]
          exact ⟨Nat.ne_of_lt (Nat.lt_succ_self _), Nat.ne_of_gt hlS⟩
        have hval : ∀ (i : Nat) (v : Value), items[i]? = some v → ∃ k t, ns[i]? = some k ∧ v = .int k t := fun i v hv => by
          have hi : i < ns.length := by rw [← hisz]; exact (Array.getElem?_eq_some_iff.mp hv).1
          obtain ⟨t, e⟩ := PyProof.Rows.IntsAre.int_at hit i v (by rw [Array.getElem?_toList]; exact hv)
          refine ⟨ns[i], t, List.getElem?_eq_getElem hi, ?_⟩
          rw [e, List.getD_eq_getElem?_getD, List.getElem?_eq_getElem hi] <;> rfl
        refine set_update_ints ((Walks.list hh3 _ l hneI items).toS) s.heap.objs.size
          hSf ns hisz hb hval (items.size - 0) 0 _ (by omega) (Nat.zero_le _)
          ⟨⟨_, Heap.get?_push_size _ rfl, rfl, rfl⟩, (hl1.push _)⟩ ?hS0 ?hR
        case hS0 =>
          have hget : ((s.heap.push (set0 w)).push { cls := .type "list_iterator", data := .fields #[.ref l, .int 0 0] }).get? s.heap.objs.size
              = some (set0 w) := Heap.get?_push_of_some _ hS
          exact ⟨0, Nat.le_refl 0, setR_new_at hget⟩
        case hR =>
          intro s' c' hm hc' hS'
          obtain ⟨h', g2, d', tk', os'⟩ := s'
          have eg : g2 = s.gens := hm.gens
          have ed : d' = s.drawn := hm.drawn
          have eo : os' = s.os := hm.os
          subst eg; subst ed; subst eo
          show wpAny _ _ _ _ _ _
          refine wpAny_pure ?_
          show wpAny _ _ (ret Value.none) _ _ _
          rw [hisz] at hc'
          refine wpAny_pure ⟨rfl, h', tk', c', rfl, hS', hc', fun b o e => ?_⟩
          have hb0 : b < s.heap.objs.size := Heap.lt_size e
          have hb1 : b ≠ s.heap.objs.size := Nat.ne_of_lt hb0
          have hb2 : b ≠ (s.heap.push (set0 w)).objs.size := by
            rw [Heap.size_push]; exact Nat.ne_of_lt (Nat.lt_succ_of_lt hb0)
          exact hm.heap b o (by simp only [List.mem_cons, List.mem_singleton, List.not_mem_nil, or_false, not_or]; exact ⟨hb1, hb2⟩) (Heap.get?_push_of_some _ (Heap.get?_push_of_some _ e))

      · cases r₂ with
        | error e => exact hr₂
        | ok fl₂ =>
          cases fl₂ with
          | ret r =>
            obtain ⟨rfl, h', tk, c', rfl, hS', hc', hk'⟩ := hr₂
            repeat (any_goals (first | assumption | wp_step))
            exact h _ _ _ hS' hc' hk'
          | _ => exact hr₂.elim
    | _ => exact hr.elim
end
/-- set(xs) of ints -/
def rSetI (K : PySem.W.Frag) (w : World) : List V → Hp → VK → Prop := fun xs H Q => ∃ (p : Addr) (ns : List Int), xs = [.ref p] ∧ (SqL K H p (ns.map V.int) ∨ SqT K H p (ns.map V.int)) ∧ ns.length ≤ 1000 ∧
  ∀ q n, n ≤ ns.length → H q = none → Q (.ref q) (upd H q (SetO w q (fun j => decide (j ∈ ns)) n))
section
variable {X : Cx}
theorem cr_setI (hc : X.calm = true) : CallR X (.type "set") (rSetI X.K X.w) := by
  intro pins s σ H vs us Q I r h
  obtain ⟨p, ns, rfl, hs, hl, q⟩ := h
  obtain ⟨u, rfl, ru⟩ := vals1 r
  obtain rfl : u = Value.ref p := ru
  have hb : ns.length + 1 < scanBound := Nat.lt_of_le_of_lt (Nat.add_le_add_right hl 1) (by decide)
  rcases hs with hs | hs
  · obtain ⟨its, rv, pl, hz⟩ := I.list hs
    refine call_set_listI ns (I.ok.hd hc) pl.isList (by simpa using ints_of_vals rv) hb fun h' tk c hR hc' kp => ?_
    exact ⟨.ref _, upd H s.heap.objs.size (SetO X.w s.heap.objs.size (fun j => decide (j ∈ ns)) c), I.laid (t' := tk) kp (Nat.le_refl _) (setO_new hR), rfl, q _ c hc' (I.hok.fresh (Nat.le_refl _))⟩
  · obtain ⟨its, rv, pl, hz⟩ := I.tuple hs
    refine call_set_tupI ns (I.ok.hd hc) pl (by simpa using ints_of_vals rv) hb fun h' tk c hR hc' kp => ?_
    exact ⟨.ref _, upd H s.heap.objs.size (SetO X.w s.heap.objs.size (fun j => decide (j ∈ ns)) c), I.laid (t' := tk) kp (Nat.le_refl _) (setO_new hR), rfl, q _ c hc' (I.hok.fresh (Nat.le_refl _))⟩
end
end BtR

end BtRules2_part
section BtRules3_part
set_option Elab.async false
set_option linter.all false
set_option maxRecDepth 100000
set_option maxHeartbeats 4000000
/-! Rules that the layer lacks: a tuple backwards; max of the values of a dict with tuple keys. -/
namespace BtR
open PySem PySem.Spec PyProof.Rows L2
theorem rev_pick {α : Type} (xs : Array α) : ((List.range xs.size).filterMap fun (m : Nat) => xs[(((xs.size : Int) - 1) + (m : Int) * (-1)).toNat]?) = xs.toList.reverse := by
  apply List.ext_getElem?
  have key : ∀ k, k ≤ xs.size → ((List.range k).filterMap fun (m : Nat) => xs[(((xs.size : Int) - 1) + (m : Int) * (-1)).toNat]?) = (xs.toList.reverse).take k := by
    intro k
    induction k with
    | zero => intro _; simp
    | succ k ih =>
      intro hk
      rw [List.range_succ, List.filterMap_append, ih (by omega), List.take_add_one]
      congr 1
      have e : (((xs.size : Int) - 1) + (k : Int) * (-1)).toNat = xs.size - 1 - k := by omega
      simp only [List.filterMap_cons, List.filterMap_nil, e]
      rw [List.getElem?_reverse (by simp; omega)]
      have hlt : xs.size - 1 - k < xs.size := by omega
      simp [hlt]
  intro i
  rw [key xs.size (Nat.le_refl _), List.take_of_length_le (by simp)]
section
variable {prog : Program} {w : World} {A : Around} {E : Value → Shared → Prop} {s : Shared}
theorem sliceApplied_rev {sl : Addr} {u : Tok} {n : Nat} {Q : Int × Int × Nat → Shared → Prop} (hs : s.heap.IsSliceOf sl .none .none (.int (-1) u)) (hn : 0 < n)
    (h : Q ((n : Int) - 1, -1, n) s) : wpAny (model prog w) A (Builtin.Slice.sliceApplied (.ref sl) (pure (n : Int))) Q E s := by
  obtain ⟨os, hos, hcs, hds⟩ := id hs
  unfold Builtin.Slice.sliceApplied Builtin.Slice.sliceFields
  refine wpAny_bind (wpAny_bind (wpAny_field hos hds (x := .none) rfl (wpAny_bind (wpAny_field hos hds (x := .none) rfl (wpAny_bind (wpAny_field hos hds (x := .int (-1) u) rfl (wpAny_pure ?_)))))))
  refine wpAny_bind (slicePart_int ?_)
  show wpAny _ _ (if ((-1 : Int) == 0) = true then _ else _) _ _ s
  rw [if_neg (by decide)]
  refine wpAny_bind (slicePart_none (wpAny_bind (slicePart_none (wpAny_bind (wpAny_pure ?_)))))
  show wpAny _ _ (pure ((n : Int) - 1, (-1 : Int), Builtin.Slice.slicePlaces ((n : Int) - 1) (-1) (-1))) _ _ s
  have e : Builtin.Slice.slicePlaces ((n : Int) - 1) (-1) (-1) = n := by
    unfold Builtin.Slice.slicePlaces
    rw [if_neg (by omega), if_pos (by omega)]
    have : ((n : Int) - 1 - -1 - 1) / (- -1) + 1 = n := by
      rw [show (- -1 : Int) = 1 by omega, Int.ediv_one]
      omega
    rw [this]
    omega
  rw [e]
  exact wpAny_pure h
theorem getItem_tuple_rev {t sl : Addr} {items : Array Value} {u : Tok} {Q : Value → Shared → Prop} (ht : IsTup s.heap t items) (hs : s.heap.IsSliceOf sl .none .none (.int (-1) u)) (hn : 0 < items.size)
    (h : Q (.ref s.heap.objs.size) { s with heap := s.heap.push { cls := .type "tuple", data := .seq items.toList.reverse.toArray } })
    (hsz : items.size ≤ sizeLine) : wpAny (model prog w) A (getItem (.ref t) (.ref sl)) Q E s := by
  have htake : sizeOk (.seq items.toList.reverse.toArray) := by
    show items.toList.reverse.toArray.size ≤ sizeLine
    rw [List.size_toArray, List.length_reverse, Array.length_toList]
    exact hsz
  obtain ⟨os, hos, hcs, hds⟩ := id hs
  have hTs : s.TypeIs (.ref sl) "slice" := ⟨os, hos, hcs⟩
  unfold getItem
  try with_reducible refine wpAny_holding ?_
  first | refine wpAny_bind (wpAny_pure ?_) | skip
  refine wpAny_bind (wpAny_sequenceKey ht.typeIs (by decide) ?_)
  refine wpAny_bind (wpAny_callSpecial?_slot (name := Str.ofString "__getitem__") ht.typeIs PyProof.Rows.slot_tuple_getitem
    (wpAny_call_entry PyProof.Rows.slot_tuple_getitem ht.typeIs entry_tuple_getitem ?_ (args_tuple_getitem _ _)))
  show wpAny _ _ (Builtin.Tuple.tupleItemsOf (.ref t) >>= _) _ _ s
  refine wpAny_bind (tupleItemsOf_ ht ?_)
  refine wpAny_bind (wpAny_typeOf hTs ?_)
  rw [if_pos (by decide)]
  refine wpAny_bind (sliceApplied_rev hs hn ?_)
  show wpAny _ _ (if (((items.size : Int) - 1) == 0 && (-1 : Int) == 1 && items.size == items.size) = true then _ else _) _ _ s
  rw [if_neg (by rw [show ((-1 : Int) == 1) = false by decide, Bool.and_false, Bool.false_and]; exact Bool.false_ne_true), rev_pick]
  first
    | exact wpAny_bind (m := Builtin.Tuple.tupleExact _) (wpAny_newObj_type (wpAny_pure ⟨_, rfl, wpAny_pure h⟩) htake)
    | exact wpAny_bind (m := Builtin.Tuple.tupleExact _) (wpAny_newObj_type (wpAny_bind (wpAny_pure (wpAny_pure ⟨_, rfl, wpAny_pure h⟩))) htake)
    | exact wpAny_bind (wpAny_bind (m := Builtin.Tuple.tupleExact _) (wpAny_newObj_type (wpAny_pure (wpAny_pure ⟨_, rfl, wpAny_pure h⟩)) htake))
    | exact wpAny_bind (wpAny_bind (m := Builtin.Tuple.tupleExact _) (wpAny_newObj_type (wpAny_pure ⟨_, rfl, wpAny_pure h⟩) htake))
end
def tRevT (K : PySem.W.Frag) (te : TE) : TE := fun σ H Q => te σ H fun x H1 => ∃ a xs, x = .ref a ∧ SqT K H1 a xs ∧ xs ≠ [] ∧ ∀ p, H1 p = none → Q (.ref p) (upd H1 p (.tup xs.reverse))
section
variable {X : Cx}
theorem pe_revT {e : Expr} {te : TE} {k : Nat} {p1 p2 p3 pos : Pos} (he : PE X e te) : PE X (.Subscript e (.Slice none none (some (.UnaryOp .USub (.Constant (.int 1) k p1) p2)) p3) pos) (tRevT X.K te) := by
  refine ⟨fun pins s σ H Q I h => ?_⟩
  refine Subscript_ (thn (he.run pins s σ H _ I h) fun v s1 ⟨x, H1, I1, r1, q1⟩ => ?_)
  obtain ⟨a, xs, ex, hx, hne, q⟩ := q1
  subst ex
  cases r1
  have hst : PO X (some (.UnaryOp .USub (.Constant (.int 1) k p1) p2)) (tPart (tUn (rU fun i => .int (-i)) (tC (.int 1)))) := po_some (pe_un un_neg pe_int)
  refine wpAny_Slice (thn (po_none.run pins s1 σ H1 (fun o H2 => o = none ∧ H2 = H1) I1 ⟨rfl, rfl⟩) fun vl s2 ⟨l, H2, I2, pl, el, e2⟩ => ?_)
  subst el e2
  refine thn (po_none.run pins s2 σ H2 (fun o H3 => o = none ∧ H3 = H2) I2 ⟨rfl, rfl⟩) fun vu s3 ⟨u, H3, I3, pu, eu, e3⟩ => ?_
  subst eu e3
  refine thn (hst.run pins s3 σ H3 (fun o H4 => o = some (-1) ∧ H4 = H3) I3 ⟨1, rfl, -1, rfl, rfl, rfl⟩) fun vs s4 ⟨o, H4, I4, ps, eo, e4⟩ => ?_
  subst eo e4
  have I5 : Inv X pins σ H4 { s4 with heap := s4.heap.push { cls := .type "slice", data := .fields #[vl, vu, vs] } } := I4.kept (t' := s4.toks) fun b ob q => Heap.get?_push_of_some _ q
  obtain ⟨its, r, ht, hz⟩ := I5.tuple hx
  have hlen := r.length
  cases pl
  cases pu
  cases ps with
  | int i u =>
    show wpAny (model X.prog X.w) X.A (subscriptTail e (.Slice none none (some (.UnaryOp .USub (.Constant (.int 1) k p1) p2)) p3) (.ref a) (.ref s4.heap.objs.size)) (EP X pins σ Q) X.xe { s4 with heap := s4.heap.push { cls := .type "slice", data := .fields #[.none, .none, .int (-1) u] } }
    refine tail_any (ops := [.ref a, .ref s4.heap.objs.size]) ht.typeIs (PyProof.Rows.slot_tuple_getitem.lookup) ?_ (by with_unfolding_all rfl)
    refine getItem_tuple_rev ht (Heap.IsSliceOf.new _ .none .none (.int (-1) u)) (by
      rw [List.size_toArray, ← hlen]
      exact List.length_pos_iff.mpr hne) ?_ (by rw [List.size_toArray]; omega)
    refine ⟨.ref _, _, I5.laid (t' := s4.toks) (o := .tup xs.reverse) (fun b ob q => Heap.get?_push_of_some _ q) (Nat.le_refl _) ?_, rfl, q _ (I5.hok.fresh (Nat.le_refl _))⟩
    exact ⟨by rw [List.length_reverse]; exact hz, _, r.reverse, _, Heap.get?_push_size _ rfl, rfl, 0, rfl⟩
end
/-! ### max(d.values()), d with tuple keys, its values ints -/
def tMaxVals (td : TE) : TE := fun σ H Q => td σ H fun x H1 => ∃ a kvs is, x = V.ref a ∧ H1 a = some (.dT kvs) ∧ kvs.map (·.2) = is.map V.int ∧ is ≠ [] ∧ ∀ m, m ∈ is → (∀ j ∈ is, j ≤ m) → Q (.int m) H1
section
variable {X : Cx} {o : Expr} {p pos apos mpos : Pos} {td : TE}
theorem paired_at {α β : Type} {R : α → β → Prop} : ∀ {l : List α} {m : List β} {i : Nat} {b : β}, Paired R l m → m[i]? = some b → ∃ a, l[i]? = some a ∧ R a b
  | _, _, _, _, .nil, h => by simp at h
  | _, _, 0, _, .cons r _, h => by
    have e := Option.some.inj h
    subst e
    exact ⟨_, rfl, r⟩
  | _, _, i + 1, b, .cons _ t, h => paired_at (i := i) (b := b) t h
theorem pe_maxVals (hc : X.calm = true) (hg : Gl X "max") (hm : X.mg "max" = none) (hd : PE X o td) (hbase : attributeBase o "values" X.env (eval o X.env) = eval o X.env := by rfl) (hline : (apos.endLine == mpos.line) = true := by rfl)
    (hse : starEach [Expr.Call (.Attribute o "values" apos) [] [] mpos] X.env = [(false, eval (Expr.Call (.Attribute o "values" apos) [] [] mpos) X.env)] := by rfl) :
    PE X (.Call (.Name "max" p) [.Call (.Attribute o "values" apos) [] [] mpos] [] pos) (tMaxVals td) := by
  refine ⟨fun pins s σ H Q I h => ?_⟩
  refine wpAny_Call_Name_kw (ld_blt I hg hm (u := .builtin "max") (by first | rfl | decide +kernel) ?_ (by first | decide +kernel | decide) (by first | decide +kernel | decide))
  rw [hse]
  refine PySem.callWith_builtin1 (wpAny_Call_method0_late hbase hline (thn (hd.run pins s σ H _ I h) fun v s1 ⟨x, H1, I1, r1, a, kvs, is, ex, ha, hv, hne, q⟩ => ?_))
  subst ex
  obtain rfl : v = Value.ref a := r1
  obtain ⟨_, hsys, xs, rel, ob, es, ep, ho, ex, hdat, hes, _⟩ := I1.hok a _ ha
  have raw : s1.heap.DictRaw a es ep := ⟨ob, ho, ex, hdat⟩
  have hsz0 : es.size = xs.length := by
    rw [← Array.length_toList, hes, List.length_map]
  refine ⟨"dict", "dict.values", F.plainAttrs_dict, F.slot_dict_values, F.type_dict_values, ⟨ob, ho, ex.1⟩, fun b e => ?_, Calls.callWith_builtin rfl (PySem.evalArgs_none ?_)⟩
  · cases e
    exact ⟨ob, ho, ex.2.1⟩
  refine call_meetsIn F.slot_dict_values ⟨ob, ho, ex.1⟩ F.entry_dict_values (F.args_dict_values_1 _) (meets_dict_values_raw a hsys) ⟨⟨es, ep, raw⟩, ?_⟩
  have k1 : ∀ b u, s1.heap.get? b = some u → (s1.heap.push { cls := .type "dict_values", data := .fields #[.ref a] }).get? b = some u := fun b u e => Heap.get?_push_of_some _ e
  have raw1 : (s1.heap.push { cls := .type "dict_values", data := .fields #[.ref a] }).DictRaw a es ep := raw.at fun o e => k1 a o e
  have hlv : es.size = is.length := by
    have e1 := congrArg List.length hv
    rw [List.length_map, List.length_map] at e1
    rw [← e1, hsz0]
    exact (Paired.length rel).symm
  have hlen : 0 < es.size := by
    rw [hlv]
    exact List.length_pos_iff.mpr hne
  have hval : ∀ (i : Nat) (v : Value), (∃ hi : i < es.size, v = es[i].val) → ∃ t, v = Value.int (is.getD i 0) t := fun i v ⟨hi, e⟩ => by
    have hx : i < xs.length := by omega
    obtain ⟨y, hy1, hy2⟩ := paired_at rel (List.getElem?_eq_getElem hx)
    have e0 : es[i] = entryOfKey (tupleKind (mixKind X.prog X.w)) xs[i] := by
      have h1 : es.toList[i]? = some es[i] := by simp [hi]
      rw [hes, List.getElem?_map, List.getElem?_eq_getElem hx] at h1
      exact (Option.some.inj h1).symm
    have e1 : (kvs.map (·.2))[i]? = some y.2 := by rw [List.getElem?_map, hy1] <;> rfl
    rw [hv, List.getElem?_map] at e1
    obtain ⟨j, hj, e2⟩ := Option.map_eq_some_iff.mp e1
    obtain ⟨_, _, hr⟩ := hy2
    rw [← e2] at hr
    obtain ⟨t, e3⟩ := hr
    refine ⟨t, ?_⟩
    rw [e, e0, List.getD_eq_getElem?_getD, hj]
    exact e3
  refine call_max_walk (wpAny_pyIter_values_raw (v := s1.heap.objs.size) (d := a) ⟨_, Heap.get?_push_size _ rfl, rfl, rfl⟩ raw1 ?_)
  have hlt : a < s1.heap.objs.size := Heap.lt_size ho
  have hsz : (s1.heap.push { cls := .type "dict_values", data := .fields #[.ref a] }).objs.size = s1.heap.objs.size + 1 := Heap.size_push _ _
  refine ⟨_, _, _, _, _, _, _, rfl, Walks.rawValues (A := X.A.in1) (I.ok.hd hc) (s1.heap.push { cls := .type "dict_values", data := .fields #[.ref a] }).objs.size a (by rw [hsz]; exact Nat.ne_of_lt (Nat.lt_succ_of_lt hlt)) es ep,
    ⟨⟨_, Heap.get?_push_size _ rfl, rfl, rfl⟩, raw1.at fun u e => Heap.get?_push_of_some _ e⟩, fun b hb => ?_, hlen, CmpOf.ints_gt (fun i => is.getD i 0) hval, fun v h' tk hP hk => ?_⟩
  · show b < ((s1.heap.push _).push _).objs.size
    rw [Heap.size_push, Heap.size_push]
    rw [hsz] at hb
    rcases List.mem_cons.mp hb with e | hb
    · rw [e]
      exact Nat.lt_succ_self _
    · have e : b = a := List.mem_singleton.mp hb
      rw [e]
      exact Nat.lt_succ_of_lt (Nat.lt_succ_of_lt hlt)
  · obtain ⟨t, rfl⟩ := hval _ v hP
    obtain ⟨b1, b2⟩ := argBest_gt (fun i => is.getD i 0) (es.size - 1)
    refine ⟨.int _, H1, I1.kept (t' := tk) fun b u e => hk b u (fun hmem => ?_) (Heap.get?_push_of_some _ (k1 b u e)), ⟨t, rfl⟩, q _ ?_ fun j hj => ?_⟩
    · have e1 : b = (s1.heap.push { cls := .type "dict_values", data := .fields #[.ref a] }).objs.size := List.mem_singleton.mp hmem
      have e2 := Heap.lt_size e
      rw [hsz] at e1
      rw [e1] at e2
      exact absurd e2 (Nat.not_lt.mpr (Nat.le_succ _))
    · have hb : argBest (fun i j => decide (is.getD i 0 > is.getD j 0)) (es.size - 1) < is.length := by omega
      rw [List.getD_eq_getElem?_getD, List.getElem?_eq_getElem hb]
      exact List.getElem_mem hb
    · obtain ⟨i, hi, e⟩ := List.mem_iff_getElem.mp hj
      have e2 : is.getD i 0 = j := by rw [List.getD_eq_getElem?_getD, List.getElem?_eq_getElem hi, ← e] <;> rfl
      rw [← e2]
      exact b2 i (by omega)
end
end BtR

end BtRules3_part
section BtLogic4_part
set_option Elab.async false
set_option linter.all false
set_option maxRecDepth 100000
set_option maxHeartbeats 4000000
namespace Bt
open PySem PySem.Spec PyProof.Rows L2 BtR
/-! ### the further rules, of data -/
section
variable {K : PySem.W.Frag} {C : Addr} {te ta tb tc : TE} {tr : TA} {t u : TT} {δ : List Fr} {d e : D} {ds es : List D} {w : World}
/-! sets -/
theorem sorted_uniq : ∀ {a b : List Int}, a.Pairwise (· < ·) → b.Pairwise (· < ·) → (∀ k, k ∈ a ↔ k ∈ b) → a = b
  | [], [], _, _, _ => rfl
  | [], y :: b, _, _, h => absurd ((h y).mpr List.mem_cons_self) (by simp)
  | x :: a, [], _, _, h => absurd ((h x).mp List.mem_cons_self) (by simp)
  | x :: a, y :: b, ha, hb, h => by
    have ha' := List.pairwise_cons.mp ha
    have hb' := List.pairwise_cons.mp hb
    have e : x = y := by
      rcases List.mem_cons.mp ((h x).mp List.mem_cons_self) with e | m
      · exact e
      · rcases List.mem_cons.mp ((h y).mpr List.mem_cons_self) with e | m2
        · exact e.symm
        · have h1 := hb'.1 x m
          have h2 := ha'.1 y m2
          omega
    subst e
    rw [sorted_uniq ha'.2 hb'.2 fun k => ?_]
    constructor
    · intro hk
      rcases List.mem_cons.mp ((h k).mp (List.mem_cons_of_mem _ hk)) with e | m
      · subst e
        exact absurd (ha'.1 k hk) (by omega)
      · exact m
    · intro hk
      rcases List.mem_cons.mp ((h k).mpr (List.mem_cons_of_mem _ hk)) with e | m
      · subst e
        exact absurd (hb'.1 k hk) (by omega)
      · exact m
/-- sorted(set(xs)) of ints -/
theorem ex_sset {P : V → Hp → Hp → Prop} {is out : List Int} (h : EV K C te δ P) (hP : ∀ v F H, Ex F H → P v F H → ∃ p, v = .ref p ∧ (SqL K H p (is.map V.int) ∨ SqT K H p (is.map V.int))) (hl : is.length < 64)
    (ho : out.Pairwise (· < ·)) (hm : ∀ k, k ∈ out ↔ k ∈ is) : EX K C (tCB (rSortedSet w) (tCons (tCB (rSetI K w) (tCons te tNil)) tNil)) δ (out.map D.int) := fun H0 F H σ x s Q q =>
  h H0 F H σ x s _ fun v F1 H1 f1 p1 => by
    obtain ⟨p, rfl, hp⟩ := hP v F1 H1 f1.s p1
    refine ⟨p, is, rfl, hp, by omega, fun a n hn ha => ?_⟩
    have f2 : Fut F1 H1 F1 (upd H1 a (SetO w a (fun j => decide (j ∈ is)) n)) := Fut.lost f1.s ha
    refine ⟨a, _, n, rfl, upd_same, by omega, fun ns b h1 h2 _ hb => ?_⟩
    have e : ns = out := sorted_uniq h1 ho fun k => by
      rw [h2 k, hm k]
      simp
    subst e
    exact q _ (upd F1 b _) _ (f1.trans (f2.trans (Fut.new f2.s hb))) ⟨b, _, rfl, upd_same, IsAll.ofInts _⟩
theorem ex_ssetL {is out : List Int} (h : EX K C te δ (is.map D.int)) (hl : is.length < 64) (ho : out.Pairwise (· < ·)) (hm : ∀ k, k ∈ out ↔ k ∈ is) : EX K C (tCB (rSortedSet w) (tCons (tCB (rSetI K w) (tCons te tNil)) tNil)) δ (out.map D.int) :=
  ex_sset h (fun v F H x ⟨p, vs, a, b, c⟩ => ⟨p, a, .inl (.inl (.inl (by rw [← c.ints]; exact x _ _ b)))⟩) hl ho hm
theorem ex_ssetT {is out : List Int} (h : ED K C te δ (.tup (is.map D.int))) (hl : is.length < 64) (ho : out.Pairwise (· < ·)) (hm : ∀ k, k ∈ out ↔ k ∈ is) : EX K C (tCB (rSortedSet w) (tCons (tCB (rSetI K w) (tCons te tNil)) tNil)) δ (out.map D.int) :=
  ex_sset h (fun v F H x p => by
    cases p with
    | tup a b => exact ⟨_, rfl, .inr (.inl (.inl (by rw [← b.ints]; exact x _ _ a)))⟩) hl ho hm
theorem ed_lenSet {ns : List Int} (h : EX K C te δ (ns.map D.int)) (hn : ns.Nodup) (hl : ns.length ≤ 4000) : ED K C (RZ.tLenSetI K te) δ (.int (ns.length : Nat)) := fun H0 F H σ x s Q q =>
  h H0 F H σ x s _ fun v F1 H1 f1 ⟨p, vs, a, b, c⟩ => ⟨p, ns, a, .inl (.inl (by rw [← c.ints]; exact f1.s _ _ b)), hn, hl, q _ F1 H1 f1 (.int _)⟩
/-! list(range(n)) -/
theorem ex_listRg {n : Nat} (h : ED K C te δ (.int (n : Nat))) (hn : n ≤ 100000) : EX K C (tLstRg (tRg1 te)) δ ((List.range n).map fun i => D.int (i : Nat)) := fun H0 F H σ x s Q q =>
  h H0 F H σ x s _ fun v F1 H1 f1 p1 => by
    cases p1
    refine ⟨_, rfl, ⟨by omega, by omega, by omega, by omega, by omega⟩, fun p hp => q _ (upd F1 p _) _ (f1.trans (Fut.new f1.s hp)) ⟨p, _, rfl, upd_same, ?_⟩⟩
    have e : rgV 0 (n : Int) = ((List.range n).map fun i => ((i : Nat) : Int)).map V.int := by
      unfold rgV
      rw [List.map_map]
      have : ((n : Int) - 0).toNat = n := by omega
      rw [this]
      apply List.map_congr_left
      intro i _
      show V.int (0 + (i : Int)) = V.int (i : Int)
      rw [Int.zero_add]
    rw [e]
    have e2 : ((List.range n).map fun i => D.int ((i : Nat) : Int)) = ((List.range n).map fun i => ((i : Nat) : Int)).map D.int := by
      rw [List.map_map]
      rfl
    rw [e2]
    exact IsAll.ofInts _
/-! a tuple backwards -/
theorem ed_revT (h : ED K C te δ (.tup ds)) (hn : ds ≠ []) : ED K C (tRevT K te) δ (.tup ds.reverse) := fun H0 F H σ x s Q q =>
  h H0 F H σ x s _ fun v F1 H1 f1 p1 => by
    cases p1 with
    | @tup a xs _ h1 h2 =>
      refine ⟨a, xs, rfl, .inl (.inl (f1.s _ _ h1)), fun z => ?_, fun p hp => q _ (upd F1 p _) _ (f1.trans (Fut.new f1.s hp)) (.tup upd_same (h2.rev.mono (Ex.new (f1.s.back hp))))⟩
      subst z
      cases h2
      exact hn rfl
/-! enumerate of a tuple -/
theorem dw_enumT (h : ED K C te δ (.tup ds)) : DW K C (iEnumT K (tCons te tNil)) δ ds.length fun i d => ∃ e, ds[i]? = some e ∧ d = .tup [.int (i : Nat), e] := fun H0 F H σ x s R q => h H0 F H σ x s _ fun v F1 H1 f1 p1 => by
  cases p1 with
  | @tup a xs _ h1 h2 =>
    refine ⟨a, xs, rfl, .inl (.inl (f1.s _ _ h1)), q _ F1 H1 f1 ⟨fun i F H e1 e2 hi => ?_, fun F H e1 e2 => ⟨xs, .inl (.inl ((e1.trans e2) _ _ h1)), by rw [h2.length]; exact Nat.le_refl _⟩, fun i F H x H' e1 e2 hi y => ?_⟩⟩
    · have hi' : i < xs.length := by rw [h2.length]; exact hi
      exact ⟨xs, xs[i], .inl (.inl ((e1.trans e2) _ _ h1)), List.getElem?_eq_getElem hi'⟩
    · obtain ⟨T, z, y1, y2, y3, y4⟩ := y
      have g := y4 xs (.inl (.inl ((e1.trans e2) _ _ h1)))
      obtain ⟨d, g1, g2⟩ := h2.get g
      subst y3
      exact ⟨upd F T _, _, Fut.new e2 y2, ⟨d, g1, rfl⟩, by rw [y1]; exact .tup upd_same (.cons (.int _) (.cons ((g2.mono e1).mono (Ex.new (e2.back y2))) .nil))⟩
/-! max(d.values()) -/
theorem isT_vals {F : Hp} : ∀ {ks : List (List Key × V)} {kvs : List (List Int × D)} {is : List Int}, IsT K C F ks kvs → kvs.map (·.2) = is.map D.int → ks.map (·.2) = is.map V.int
  | _, _, [], .nil, _ => rfl
  | _, _, [], .cons _ _, h => by simp at h
  | _, _, _ :: _, .nil, h => by simp at h
  | _, _, i :: is, .cons a b, h => by
    simp only [List.map_cons, List.cons.injEq] at h
    rw [h.1] at a
    cases a
    rw [List.map_cons, isT_vals b h.2]
    rfl
theorem ed_maxV {kvs : List (List Int × D)} {is : List Int} {m : Int} (h : ETb K C te δ kvs) (hv : kvs.map (·.2) = is.map D.int) (hm : m ∈ is) (hle : ∀ j ∈ is, j ≤ m) : ED K C (tMaxVals te) δ (.int m) := fun H0 F H σ x s Q q =>
  h H0 F H σ x s _ fun v F1 H1 f1 ⟨p, ks, a, b, c⟩ => by
    refine ⟨p, ks, is, a, b, isT_vals c hv, fun z => ?_, fun n h1 h2 => ?_⟩
    · rw [z] at hm
      exact absurd hm (by simp)
    · have e : n = m := by
        have h3 := h2 m hm
        have h4 := hle n h1
        omega
      rw [e]
      exact q _ F1 H1 f1 (.int _)
/-! sorted of pairs (a tuple) -/
def prD (p : Int × Int) : D := .tup [.int p.1, .int p.2]
def unP : D → Int × Int
  | .tup [.int a, .int b] => (a, b)
  | _ => (0, 0)
theorem isPr {F : Hp} {v : V} {p : Int × Int} (h : Is K C F v (prD p)) : ∃ t, v = .ref t ∧ F t = some (.tup [.int p.1, .int p.2]) := by
  cases h with
  | tup a b =>
    cases b with
    | cons b1 b =>
      cases b1
      cases b with
      | cons b1 b =>
        cases b1
        cases b
        exact ⟨_, rfl, a⟩
theorem allPr {F : Hp} : ∀ {vs : List V} {ps : List (Int × Int)}, IsAll K C F vs (ps.map prD) → ∀ v ∈ vs, ∃ p ∈ ps, ∃ t, v = .ref t ∧ F t = some (.tup [.int p.1, .int p.2])
  | _, [], .nil, v, h => by simp at h
  | _, p :: ps, .cons a b, v, h => by
    rcases List.mem_cons.mp h with e | m
    · subst e
      exact ⟨p, List.mem_cons_self, isPr a⟩
    · obtain ⟨q, hq, z⟩ := allPr b v m
      exact ⟨q, List.mem_cons_of_mem _ hq, z⟩
theorem perm_is {F : Hp} : ∀ {vs ys : List V}, ys.Perm vs → ∀ {ds : List D}, IsAll K C F vs ds → ∃ out, IsAll K C F ys out ∧ out.Perm ds := by
  intro vs ys hp
  induction hp with
  | nil => intro ds h; cases h; exact ⟨[], .nil, .refl _⟩
  | cons x _ ih => intro ds h; cases h with
    | cons a b =>
      obtain ⟨out, h1, h2⟩ := ih b
      exact ⟨_, .cons a h1, .cons _ h2⟩
  | swap x y l => intro ds h; cases h with
    | cons a b => cases b with
      | cons b c => exact ⟨_, .cons b (.cons a c), .swap ..⟩
  | trans _ _ ih1 ih2 =>
    intro ds h
    obtain ⟨o1, h1, h2⟩ := ih2 h
    obtain ⟨o2, h3, h4⟩ := ih1 h1
    exact ⟨o2, h3, h4.trans h2⟩
theorem prD_inj {p q : Int × Int} (h : prD p = prD q) : p = q := by
  unfold prD at h
  have h1 := D.tup.inj h
  simp only [List.cons.injEq, D.int.injEq] at h1
  exact Prod.ext h1.1 h1.2.1
/-- strictly rising by the first number: one list alone -/
theorem rise_uniq : ∀ {a b : List (Int × Int)}, a.Perm b → a.Pairwise (fun p q => p.1 ≤ q.1) → b.Pairwise (fun p q => p.1 < q.1) → a = b
  | [], b, h, _, _ => (List.nil_perm.mp h).symm
  | x :: a, [], h, _, _ => absurd (List.perm_nil.mp h) (by simp)
  | x :: a, y :: b, h, ha, hb => by
    have ha' := List.pairwise_cons.mp ha
    have hb' := List.pairwise_cons.mp hb
    have e : x = y := by
      rcases List.mem_cons.mp (h.mem_iff.mp List.mem_cons_self) with e | m
      · exact e
      · rcases List.mem_cons.mp (h.mem_iff.mpr (List.mem_cons_self (a := y))) with e | m2
        · exact e.symm
        · have h1 := hb'.1 x m
          have h2 := ha'.1 y m2
          omega
    subst e
    rw [rise_uniq h.cons_inv ha'.2 hb'.2]
theorem ex_sortedTP {ps out : List (Int × Int)} (h : ED K C te δ (.tup (ps.map prD))) (hp : out.Perm ps) (hr : out.Pairwise (fun p q => p.1 < q.1)) : EX K C (tCB (rSortedTP K) (tCons te tNil)) δ (out.map prD) := fun H0 F H σ x s Q q =>
  h H0 F H σ x s _ fun v F1 H1 f1 p1 => by
    cases p1 with
    | @tup a xs _ h1 h2 =>
      have hk := allPr h2
      -- the pair that an address holds
      let k : V → Int × Int := fun v => match v with
        | .ref t => (match F1 t with
          | some (.tup [.int i, .int j]) => (i, j)
          | _ => (0, 0))
        | _ => (0, 0)
      have kt : ∀ (t : Addr) (p : Int × Int), F1 t = some (.tup [.int p.1, .int p.2]) → k (.ref t) = p := fun t p e => by
        show (match F1 t with
          | some (.tup [.int i, .int j]) => (i, j)
          | _ => (0, 0)) = p
        rw [e]
      refine ⟨a, xs, k, rfl, .inl (.inl (f1.s _ _ h1)), fun x hx => ?_, fun ys p hs hb hn => ?_⟩
      · obtain ⟨p, _, t, e, ht⟩ := hk x hx
        subst e
        refine ⟨t, rfl, ?_⟩
        rw [kt t p ht]
        exact f1.s _ _ ht
      · have hperm : ys.Perm xs := hb.perm
        obtain ⟨od, i1, i2⟩ := perm_is hperm h2
        -- od is a list of pairs
        have hod : ∃ qs : List (Int × Int), od = qs.map prD ∧ qs = ys.map k := by
          have : ∀ {vs : List V} {ds : List D}, IsAll K C F1 vs ds → (∀ v ∈ vs, ∃ p ∈ ps, ∃ t, v = .ref t ∧ F1 t = some (.tup [.int p.1, .int p.2])) → (∀ d ∈ ds, ∃ p, d = prD p) → ds = (vs.map k).map prD := by
            intro vs
            induction vs with
            | nil => intro ds h _ _; cases h; rfl
            | cons v vs ih =>
              intro ds h hv hd
              cases h with
              | @cons _ _ d ds' a1 b1 =>
                obtain ⟨p, _, t, e, ht⟩ := hv v List.mem_cons_self
                obtain ⟨p', e'⟩ := hd d List.mem_cons_self
                subst e e'
                obtain ⟨t', e2, ht'⟩ := isPr a1
                cases e2
                have : prD p' = prD (k (.ref t)) := by rw [kt t p' ht']
                rw [List.map_cons, List.map_cons, ← this, ← ih b1 (fun v m => hv v (List.mem_cons_of_mem _ m)) (fun d m => hd d (List.mem_cons_of_mem _ m))]
          refine ⟨ys.map k, this i1 (fun v m => hk v (hperm.mem_iff.mp m)) (fun d m => ?_), rfl⟩
          have := i2.mem_iff.mp m
          obtain ⟨p, _, e⟩ := List.mem_map.mp this
          exact ⟨p, e.symm⟩
        obtain ⟨qs, e1, e2⟩ := hod
        have eq : qs = out := by
          refine rise_uniq ?_ ?_ hr
          · have h3 : (qs.map prD).Perm (ps.map prD) := by rw [← e1]; exact i2
            have h4 : qs.Perm ps := by
              have := h3.map unP
              rw [List.map_map, List.map_map] at this
              have u : ∀ l : List (Int × Int), l.map (unP ∘ prD) = l := fun l => by
                have : (unP ∘ prD) = id := by funext p; obtain ⟨a, b⟩ := p; rfl
                rw [this, List.map_id]
              rw [u, u] at this
              exact this
            exact h4.trans hp.symm
          · rw [e2]
            have hs' : ys.Pairwise (fun x y => ltP k y x = false) := hs
            rw [List.pairwise_map]
            refine hs'.imp fun {x y} hxy => ?_
            have := SrtO.lexB_no.mp hxy
            omega
        refine q _ (upd F1 p _) _ (f1.trans (Fut.new f1.s hn)) ⟨p, ys, rfl, upd_same, ?_⟩
        rw [← eq, ← e1]
        exact i1.mono (Ex.new (f1.s.back hn))
/-! sorted of tuples of d ints -/
theorem ev_sortT {dd : Nat} {B : Int} (h : EX K C te δ ds) (hl : ds.length < 64) (hd : ∀ d ∈ ds, ∃ ns : List Int, d = .tup (ns.map D.int) ∧ ns.length = dd ∧ TS.Bd B ns) :
    EV K C (tCB (rSortU K dd B) (tCons te tNil)) δ fun v F _ => ∃ p vs out, v = .ref p ∧ F p = some (.lst vs) ∧ IsAll K C F vs out ∧ out.Perm ds := fun H0 F H σ x s Q q =>
  h H0 F H σ x s _ fun v F1 H1 f1 ⟨p, vs, a, b, c⟩ => by
    refine ⟨p, vs, by rw [a], .inl (.inl (f1.s _ _ b)), by rw [c.length]; exact hl, fun x hx => ?_, fun ys b' hp _ hn => ?_⟩
    · obtain ⟨i, hi, e⟩ := List.mem_iff_getElem.mp hx
      obtain ⟨d, h1, h2⟩ := c.get (show vs[i]? = some x by rw [List.getElem?_eq_getElem hi, e])
      obtain ⟨ns, e2, h3, h4⟩ := hd d (List.mem_of_getElem? h1)
      subst e2
      cases h2 with
      | tup h5 h6 => exact ⟨ns, ⟨_, rfl, .inl (.inl (by rw [← h6.ints]; exact f1.s _ _ h5))⟩, h3, h4⟩
    · obtain ⟨out, h1, h2⟩ := perm_is hp c
      exact q _ (upd F1 b' _) _ (f1.trans (Fut.new f1.s hn)) ⟨b', ys, out, rfl, upd_same, h1.mono (Ex.new (f1.s.back hn)), h2⟩
/-! in a tuple that the top has written -/
theorem ed_inK {a : Addr} {z : Str} {zs : List Str} (h : ED K C te δ (.str z)) (hq : ∀ H, SqT K H a (zs.map V.str)) : ED K C (tOp (rIn K false) te (tC (.ref a))) δ (.bl (decide (z ∈ zs))) := fun H0 F H σ x s Q q =>
  h H0 F H σ x s _ fun v F1 H1 f1 p1 => by
    cases p1
    refine ⟨a, _, rfl, .inr (hq H1), rfl, ?_, ?_⟩
    · rw [List.all_map]
      exact List.all_eq_true.mpr fun _ _ => rfl
    · have e : inV (V.str z) (zs.map V.str) = decide (z ∈ zs) := by
        unfold inV
        rw [List.any_map, Bool.eq_iff_iff, List.any_eq_true, decide_eq_true_eq]
        constructor
        · rintro ⟨y, hy, h⟩
          have h2 : (y == z) = true := h
          rw [← eq_of_beq h2]
          exact hy
        · intro hz
          exact ⟨z, hz, by show (z == z) = true; exact beq_self_eq_true z⟩
      show Q (.bl (if false = true then !inV (V.str z) (zs.map V.str) else inV (V.str z) (zs.map V.str))) H1
      rw [if_neg Bool.false_ne_true, e]
      exact q _ F1 H1 f1 (.bl _)
/-! items of a list or a tuple -/
def seqD (b : Bool) (ds : List D) : D := if b then .lst ds else .tup ds
theorem seq_is {F : Hp} {v : V} {b : Bool} (h : Is K C F v (seqD b ds)) : ∃ p vs, v = .ref p ∧ (F p = some (.lst vs) ∨ F p = some (.tup vs)) ∧ IsAll K C F vs ds := by
  cases b with
  | true =>
    have h' : Is K C F v (.lst ds) := h
    cases h' with
    | lst a b => exact ⟨_, _, rfl, .inl a, b⟩
  | false =>
    have h' : Is K C F v (.tup ds) := h
    cases h' with
    | tup a b => exact ⟨_, _, rfl, .inr a, b⟩
theorem ed_lenQ {b : Bool} (h : ED K C te δ (seqD b ds)) : ED K C (tCB (rLenQ K) (tCons te tNil)) δ (.int (ds.length : Nat)) := ev_cb1 h fun v F H x p Q k => by
  obtain ⟨a, vs, rfl, h1, h2⟩ := seq_is p
  rcases h1 with h1 | h1
  · exact ⟨a, vs, rfl, .inl (.inl (.inl (x _ _ h1))), k _ F H (Fut.rfl x) (by rw [h2.length]; exact .int _)⟩
  · exact ⟨a, vs, rfl, .inr (.inl (.inl (x _ _ h1))), k _ F H (Fut.rfl x) (by rw [h2.length]; exact .int _)⟩
theorem ed_ixQ {b : Bool} {i : Int} (ha : ED K C ta δ (seqD b ds)) (hb : ED K C tb δ (.int i)) (hi : atI ds i = some d) : ED K C (tOp (rIx K) ta tb) δ d := ev_op ha hb st_D fun x y F H e p q Q k => by
  cases q
  obtain ⟨a, vs, rfl, h1, h2⟩ := seq_is p
  obtain ⟨v, h3, h4⟩ := atI_all h2 hi
  rcases h1 with h1 | h1
  · exact .inl ⟨_, _, i, v, rfl, rfl, .inl (.inl (e _ _ h1)), h3, k v F H (Fut.rfl e) h4⟩
  · exact .inr (.inl ⟨_, _, i, v, rfl, rfl, .inl (.inl (e _ _ h1)), h3, k v F H (Fut.rfl e) h4⟩)
end
end Bt

end BtLogic4_part
section BtMir_part
set_option Elab.async false
set_option linter.all false
set_option maxRecDepth 100000
set_option maxHeartbeats 4000000
namespace Bt
open PySem PySem.Spec PyProof.Rows L2 BtR
/-! ## Comprehensions over lists -/
section
variable {K : PySem.W.Frag} {C : Addr} {te ta tb tc : TE} {tt : TT} {δ : List Fr} {wi : TI} {g : TG}
theorem ex_l {ds : List D} (h : EX K C te δ ds) : EL K C te δ ds := h.imp fun v F H x ⟨p, vs, a, b, c⟩ => ⟨p, vs, a, x _ _ b, c⟩
theorem ex_lcF {α : Type} (xs : List α) (enc f : α → D) (p : α → Bool) {n : Nat} {Y : Nat → D → Prop} {vs : List Nat} (js : List Nat) (hw : DW K C wi δ n Y) (hY : ∀ i d, i < n → Y i d → ∃ x, xs[i]? = some x ∧ d = enc x) (hn : n = xs.length) (hz : n ≤ 40000)
    (hj : ∀ j ∈ js, j ∈ vs) (hs : ∀ x ∈ xs, ∃ δ2, TGD K C g js (wipeF δ vs) (enc x) δ2 ∧ TD K C tt δ2 (p x) ∧ (p x = true → ED K C te δ2 (f x))) : EX K C (tLc wi g tt te vs) δ ((xs.filter p).map f) := by
  have h := ex_lc (K := K) (C := C) (te := te) (tt := tt) (g := g) (vs := vs) hw hz (fun i => ((xs.take i).filter p).map f) rfl fun i d hi hy => by
    obtain ⟨x, hx, rfl⟩ := hY i d hi hy
    obtain ⟨δ2, h1, h2, h3⟩ := hs x (List.mem_of_getElem? hx)
    refine ⟨js, δ2, p x, h1, hj, h2, fun hp => ⟨f x, h3 hp, ?_⟩, fun hp => ?_⟩
    · show ((xs.take (i + 1)).filter p).map f = _
      rw [List.take_add_one, hx, List.filter_append, List.map_append]
      simp [hp]
    · show ((xs.take (i + 1)).filter p).map f = _
      rw [List.take_add_one, hx, List.filter_append, List.map_append]
      simp [hp]
  have e : xs.take n = xs := List.take_of_length_le (by omega)
  have h2 : EX K C (tLc wi g tt te vs) δ (((xs.take n).filter p).map f) := h
  rw [e] at h2
  exact h2
theorem ex_lcM {α : Type} (xs : List α) (enc f : α → D) {n : Nat} {Y : Nat → D → Prop} {vs : List Nat} (js : List Nat) (hw : DW K C wi δ n Y) (hY : ∀ i d, i < n → Y i d → ∃ x, xs[i]? = some x ∧ d = enc x) (hn : n = xs.length) (hz : n ≤ 40000)
    (hj : ∀ j ∈ js, j ∈ vs) (hs : ∀ x ∈ xs, ∃ δ2, TGD K C g js (wipeF δ vs) (enc x) δ2 ∧ ED K C te δ2 (f x)) : EX K C (tLc wi g tYes te vs) δ (xs.map f) := by
  have h := ex_lcF (K := K) (C := C) (te := te) (tt := tYes) xs enc f (fun _ => true) js hw hY hn hz hj fun x hx => by
    obtain ⟨δ2, h1, h2⟩ := hs x hx
    exact ⟨δ2, h1, td_yes, fun _ => h2⟩
  rw [List.filter_eq_self.mpr (fun _ _ => rfl)] at h
  exact h
/-- what a list of encoded items yields -/
theorem y_map {α : Type} {xs : List α} {enc : α → D} {i : Nat} {d : D} (h : (xs.map enc)[i]? = some d) : ∃ x, xs[i]? = some x ∧ d = enc x := by
  rw [List.getElem?_map] at h
  obtain ⟨x, hx, e⟩ := Option.map_eq_some_iff.mp h
  exact ⟨x, hx, e.symm⟩
theorem y_range {n i : Nat} {d : D} (hi : i < n) (h : d = .int (i : Nat)) : ∃ x, (List.range n)[i]? = some x ∧ d = D.int ((x : Nat) : Int) := ⟨i, by simp [hi], h⟩
theorem y_range2 {a b i : Nat} {d : D} (hi : i < b - a) (h : d = .int ((a + i : Nat) : Int)) : ∃ x, (List.range' a (b - a))[i]? = some x ∧ d = D.int ((x : Nat) : Int) := ⟨a + i, by rw [List.getElem?_range' hi, Nat.one_mul], h⟩
end
/-! ## Points, sheets, what is told of them: the mirror -/
abbrev Pt := Int × Int
def shD (ps : List Pt) : D := .tup (ps.map prD)
def natD (i : Nat) : D := .int (i : Nat)
def rowD (r : List Nat) : D := .tup (r.map natD)
def ix (ps : List Pt) (i : Nat) : Pt := ps.getD i (0, 0)
def bndP (a b c : Pt) : Int := (b.1 - a.1) * (c.2 - a.2) - (b.2 - a.2) * (c.1 - a.1)
def up (ps : List Pt) (i j k : Nat) : Bool := decide (0 < bndP (ix ps i) (ix ps j) (ix ps k))
def Small (p : Pt) : Prop := (-(2 ^ 62) < p.1 ∧ p.1 < 2 ^ 62) ∧ -(2 ^ 62) < p.2 ∧ p.2 < 2 ^ 62
def Free (ps : List Pt) : Prop := ∀ i j k, i < j → j < k → k < ps.length → bndP (ix ps i) (ix ps j) (ix ps k) ≠ 0
/-- a sheet of one to seven points -/
structure Sh (ps : List Pt) : Prop where
  pos : 1 ≤ ps.length
  le : ps.length ≤ 7
  small : ∀ p ∈ ps, Small p
  inc : ps.Pairwise fun p q => p.1 < q.1
  free : Free ps
theorem ix_get {ps : List Pt} {i : Nat} (h : i < ps.length) : ps[i]? = some (ix ps i) := by
  unfold ix
  rw [List.getD_eq_getElem?_getD, List.getElem?_eq_getElem h]
  rfl
theorem ix_mem {ps : List Pt} {i : Nat} (h : i < ps.length) : ix ps i ∈ ps := List.mem_of_getElem? (ix_get h)
theorem atI_nat' {α : Type} {xs : List α} {i : Nat} {x : α} (h : xs[i]? = some x) : atI xs (i : Int) = some x := by
  have hi : i < xs.length := (List.getElem?_eq_some_iff.mp h).1
  unfold atI ixN
  rw [if_pos (by omega), if_pos (by omega)]
  simpa using h
theorem at_sh {ps : List Pt} {i : Nat} (h : i < ps.length) : atI (ps.map prD) (i : Int) = some (prD (ix ps i)) := atI_nat' (by rw [List.getElem?_map, ix_get h]; rfl)
theorem at_row {r : List Nat} {i : Nat} (h : i < r.length) : atI (r.map natD) (i : Int) = some (natD (r.getD i 0)) := atI_nat' (by
  rw [List.getElem?_map, List.getD_eq_getElem?_getD, List.getElem?_eq_getElem h]
  rfl)
theorem at_neg {α : Type} {xs : List α} {k : Nat} {x : α} (hk : 1 ≤ k) (hl : k ≤ xs.length) (h : xs[xs.length - k]? = some x) : atI xs (-(k : Int)) = some x := by
  unfold atI ixN
  rw [if_neg (by omega), if_pos (by omega)]
  have : (-(k : Int) + (xs.length : Int)).toNat = xs.length - k := by omega
  show xs[(-(k : Int) + (xs.length : Int)).toNat]? = some x
  rw [this]
  exact h
/-! == of data: the shapes that it asks for -/
theorem shaped_lst {ds : List D} (h : PyData.canLayAll0 (toPs ds) = true) (hd : PyData.depthAll (toPs ds) ≤ 63) : SeqAt.shaped (toP (.lst ds)) = true := by
  show (PyData.canLayAll0 (toPs ds) && decide (PyData.depthAll (toPs ds) + 1 ≤ 64)) = true
  rw [h, Bool.true_and]
  exact decide_eq_true (by omega)
theorem shaped_tup {ds : List D} (h : PyData.canLayAll0 (toPs ds) = true) (hd : PyData.depthAll (toPs ds) ≤ 63) : SeqAt.shaped (toP (.tup ds)) = true := by
  show (PyData.canLayAll0 (toPs ds) && decide (PyData.depthAll (toPs ds) + 1 ≤ 64)) = true
  rw [h, Bool.true_and]
  exact decide_eq_true (by omega)
theorem isPs_pts : ∀ ps : List Pt, isPs (ps.map prD) = true
  | [] => rfl
  | p :: ps => by
    show (isP (prD p) && isPs (ps.map prD)) = true
    rw [isPs_pts ps]
    rfl
theorem canl_pts : ∀ ps : List Pt, PyData.canLayAll0 (toPs (ps.map prD)) = true
  | [] => rfl
  | p :: ps => by
    show (PyData.canLay0 (toP (prD p)) && PyData.canLayAll0 (toPs (ps.map prD))) = true
    rw [canl_pts ps]
    rfl
theorem deep_pts : ∀ ps : List Pt, PyData.depthAll (toPs (ps.map prD)) ≤ 1
  | [] => Nat.zero_le _
  | p :: ps => by
    show max (PyData.depth (toP (prD p))) (PyData.depthAll (toPs (ps.map prD))) ≤ 1
    have h1 := deep_pts ps
    have h2 : PyData.depth (toP (prD p)) = 1 := rfl
    omega
theorem isPs_row : ∀ r : List Nat, isPs (r.map natD) = true
  | [] => rfl
  | p :: ps => by
    show (isP (natD p) && isPs (ps.map natD)) = true
    rw [isPs_row ps]
    rfl
theorem canl_row : ∀ r : List Nat, PyData.canLayAll0 (toPs (r.map natD)) = true
  | [] => rfl
  | p :: ps => by
    show (PyData.canLay0 (toP (natD p)) && PyData.canLayAll0 (toPs (ps.map natD))) = true
    rw [canl_row ps]
    rfl
theorem deep_row : ∀ r : List Nat, PyData.depthAll (toPs (r.map natD)) ≤ 1
  | [] => Nat.zero_le _
  | p :: ps => by
    show max (PyData.depth (toP (natD p))) (PyData.depthAll (toPs (ps.map natD))) ≤ 1
    have h1 := deep_row ps
    have h2 : PyData.depth (toP (natD p)) = 0 := rfl
    omega
theorem isPs_strs : ∀ r : List Str, isPs (r.map D.str) = true
  | [] => rfl
  | p :: ps => by
    show (isP (D.str p) && isPs (ps.map D.str)) = true
    rw [isPs_strs ps]
    rfl
theorem canl_strs : ∀ r : List Str, (∀ z ∈ r, PyData.strOk z = true) → PyData.canLayAll0 (toPs (r.map D.str)) = true
  | [], _ => rfl
  | p :: ps, h => by
    show (PyData.canLay0 (toP (D.str p)) && PyData.canLayAll0 (toPs (ps.map D.str))) = true
    rw [canl_strs ps fun z m => h z (List.mem_cons_of_mem _ m), Bool.and_true]
    exact h p List.mem_cons_self
theorem deep_strs : ∀ r : List Str, PyData.depthAll (toPs (r.map D.str)) ≤ 1
  | [] => Nat.zero_le _
  | p :: ps => by
    show max (PyData.depth (toP (D.str p))) (PyData.depthAll (toPs (ps.map D.str))) ≤ 1
    have h1 := deep_strs ps
    have h2 : PyData.depth (toP (D.str p)) = 0 := rfl
    omega
end Bt

end BtMir_part
section BtA_part
set_option Elab.async false
set_option linter.all false
set_option maxRecDepth 100000
set_option maxHeartbeats 4000000
namespace Bt
open PySem PySem.Spec PyProof.Rows L2 BtR
section
variable {P : Program} {w : World} {K : PySem.W.Frag} {mg : Str → Option Value} {base : Heap}
/-! ### is_whole -/
def f_is_whole (ds : List D) (d : D) : Prop := ∃ i : Int, ds = [.int i] ∧ d = .bl true
abbrev N_is_whole : List Str := ["thing"]
theorem sc_is_whole : FnScope N_is_whole ["thing"] (defScope s_is_whole) := ⟨rfl, rfl, rfl, by decide +kernel, rfl, by decide +kernel, by decide +kernel⟩
theorem cal_is_whole (T : Tx K mg) : Cal P w K mg base 1 "is_whole" ["thing"] f_is_whole := by
  obtain ⟨fd, F⟩ := T.fd_is_whole
  refine calOf (N := N_is_whole) T.gl_is_whole F (fun _ _ _ _ _ _ us hl => match us, hl with | [_], _ => rfl) (okP F sc_is_whole (fun ds d h => ?_) fun cdv A outer s H E hr ds d h => ⟨_, 
    (pss_cons (ps_ret (pe_and (pe_callB call_isi (by rfl) (T.free_isinstance) bb_isinstance (pa_cons (pv 0) (pa_cons (pe_bltn (v := .ty "int") (by rfl) T.free_int bb_int rfl) pa_nil))) (pe_one (pe_not (pe_callB call_isi (by rfl) (T.free_isinstance) bb_isinstance (pa_cons (pv 0) (pa_cons (pe_bltn (v := .ty "bool") (by rfl) T.free_bool bb_bool rfl) pa_nil))))))) pss_nil), ?_⟩)
  · unfold f_is_whole at h
    repeat (first | (obtain ⟨e, _⟩ := h; rw [e]; rfl) | (obtain ⟨_, h⟩ := h))
  · obtain ⟨i, rfl, rfl⟩ := h
    exact q_ret (d := .bl true) (ed_is (ed_andV (ed_isi (b := true) (kit_ty (by decide +kernel)) ty_int (ed_var rfl)) fun _ => ed_notV (ed_isi (b := false) (kit_ty (by decide +kernel)) ty_int (ed_var rfl))) rfl) rfl
/-! ### is_point -/
def f_is_point (ds : List D) (d : D) : Prop := ∃ p : Pt, ds = [prD p] ∧ d = .bl true
abbrev N_is_point : List Str := ["thing", "one"]
theorem sc_is_point : FnScope N_is_point ["thing"] (defScope s_is_point) := ⟨rfl, rfl, rfl, by decide +kernel, rfl, by decide +kernel, by decide +kernel⟩
theorem cal_is_point (T : Tx K mg) : Cal P w K mg base 2 "is_point" ["thing"] f_is_point := by
  obtain ⟨fd, F⟩ := T.fd_is_point
  refine calOf (N := N_is_point) T.gl_is_point F (fun _ _ _ _ _ _ us hl => match us, hl with | [_], _ => rfl) (okP F sc_is_point (fun ds d h => ?_) fun cdv A outer s H E hr ds d h => ⟨_, 
    (pss_cons (ps_ret (pe_and (pe_callB call_isi (by rfl) (T.free_isinstance) bb_isinstance (pa_cons (pv 0) (pa_cons (pe_bltn (v := .ty "tuple") (by rfl) T.free_tuple bb_tuple rfl) pa_nil))) (pe_and (pe_cmpR op_eq (pe_callB call_len_seq (by rfl) (T.free_len) bb_len (pa_cons (pv 0) pa_nil)) pe_int (nomark _)) (pe_one (pe_callB (cr_all rfl) (by rfl) (T.free_all) bb_all (pa_cons (pe_lc (own := [("one", 1)]) rfl sc_is_point.nd (pi_tup (pv 0)) (blkOk_by (own := [("one", 1)]) (N := N_is_point) (sc := defScope s_is_point) (by decide +kernel)) (fun _ _ _ _ _ => (pg_name (i := 1) sc_is_point.nd rfl (Or.inl rfl))) (fun _ _ _ _ _ => pts_nil) (fun _ _ _ _ _ => (pe_callP (cal_is_whole T) (hr.mono (by decide)) (by rfl) (pa_cons (pv 1) pa_nil)))) pa_nil)))))) pss_nil), ?_⟩)
  · unfold f_is_point at h
    repeat (first | (obtain ⟨e, _⟩ := h; rw [e]; rfl) | (obtain ⟨_, h⟩ := h))
  · obtain ⟨p, rfl, rfl⟩ := h
    refine q_ret (d := .bl true) (ed_is (ed_andV (ed_isi (b := true) (kit_ty (by decide +kernel)) ty_tup (ed_var rfl)) fun _ => ed_andV (ed_eqI (ed_lenT (ed_var rfl)) ed_int) fun _ => ed_all (bs := [true, true]) (ex_l ?_)) rfl) rfl
    refine ex_lcM [p.1, p.2] D.int (fun _ => .bl true) [1] (dw_tup (ed_var rfl)) (fun i d _ h => y_map (xs := [p.1, p.2]) h) rfl (show 2 ≤ 40000 by decide) (by simp) fun x _ => ⟨_, tg_name, ed_call (ea_cons (ed_var rfl) ea_nil) ⟨x, rfl, rfl⟩⟩
/-! ### bend -/
def f_bend (ds : List D) (d : D) : Prop := ∃ a b c : Pt, ds = [prD a, prD b, prD c] ∧ (Small a ∧ Small b ∧ Small c) ∧ d = .int (bndP a b c)
abbrev N_bend : List Str := ["one", "two", "three"]
theorem sc_bend : FnScope N_bend ["one", "two", "three"] (defScope s_bend) := ⟨rfl, rfl, rfl, by decide +kernel, rfl, by decide +kernel, by decide +kernel⟩
theorem cal_bend (T : Tx K mg) : Cal P w K mg base 1 "bend" ["one", "two", "three"] f_bend := by
  obtain ⟨fd, F⟩ := T.fd_bend
  refine calOf (N := N_bend) T.gl_bend F (fun _ _ _ _ _ _ us hl => match us, hl with | [_, _, _], _ => rfl) (okP F sc_bend (fun ds d h => ?_) fun cdv A outer s H E hr ds d h => ⟨_, 
    (pss_cons (ps_ret (pe_op op_sub (pe_op op_mul (pe_op op_sub (pe_ix (ix_tupK (K := K) rfl) (pv 1) pe_int (fun _ _ => rfl)) (pe_ix (ix_tupK (K := K) rfl) (pv 0) pe_int (fun _ _ => rfl))) (pe_op op_sub (pe_ix (ix_tupK (K := K) rfl) (pv 2) pe_int (fun _ _ => rfl)) (pe_ix (ix_tupK (K := K) rfl) (pv 0) pe_int (fun _ _ => rfl)))) (pe_op op_mul (pe_op op_sub (pe_ix (ix_tupK (K := K) rfl) (pv 1) pe_int (fun _ _ => rfl)) (pe_ix (ix_tupK (K := K) rfl) (pv 0) pe_int (fun _ _ => rfl))) (pe_op op_sub (pe_ix (ix_tupK (K := K) rfl) (pv 2) pe_int (fun _ _ => rfl)) (pe_ix (ix_tupK (K := K) rfl) (pv 0) pe_int (fun _ _ => rfl)))))) pss_nil), ?_⟩)
  · unfold f_bend at h
    repeat (first | (obtain ⟨e, _⟩ := h; rw [e]; rfl) | (obtain ⟨_, h⟩ := h))
  · obtain ⟨a, b, c, rfl, ⟨ha, hb, hc⟩, rfl⟩ := h
    refine q_ret (ed_sub (ed_mul (ed_sub (ed_ixT (ed_var rfl) ed_int rfl) (ed_ixT (ed_var rfl) ed_int rfl)) (ed_sub (ed_ixT (ed_var rfl) ed_int rfl) (ed_ixT (ed_var rfl) ed_int rfl)) ?_)
      (ed_mul (ed_sub (ed_ixT (ed_var rfl) ed_int rfl) (ed_ixT (ed_var rfl) ed_int rfl)) (ed_sub (ed_ixT (ed_var rfl) ed_int rfl) (ed_ixT (ed_var rfl) ed_int rfl)) ?_)) rfl
    · unfold Small at ha hb hc
      exact .inl ⟨by omega, by omega⟩
    · unfold Small at ha hb hc
      exact .inl ⟨by omega, by omega⟩
/-! ### are_points -/
def f_are_points (ds : List D) (d : D) : Prop := ∃ ps : List Pt, ds = [shD ps] ∧ (1 ≤ ps.length ∧ ps.length ≤ 24 ∧ (ps.map (·.1)).Nodup) ∧ d = .bl true
abbrev N_are_points : List Str := ["things", "one", "x", "y"]
theorem sc_are_points : FnScope N_are_points ["things"] (defScope s_are_points) := ⟨rfl, rfl, rfl, by decide +kernel, rfl, by decide +kernel, by decide +kernel⟩
theorem cal_are_points (T : Tx K mg) : Cal P w K mg base 3 "are_points" ["things"] f_are_points := by
  obtain ⟨fd, F⟩ := T.fd_are_points
  refine calOf (N := N_are_points) T.gl_are_points F (fun _ _ _ _ _ _ us hl => match us, hl with | [_], _ => rfl) (okP F sc_are_points (fun ds d h => ?_) fun cdv A outer s H E hr ds d h => ⟨_, 
    (pss_cons (ps_if (PW.pt (pw_or (pt_not (pt_chain op_le op_le pe_int (pe_callB call_len_seq (by rfl) (T.free_len) bb_len (pa_cons (pv 0) pa_nil)) (pe_globI rfl T.glo_MOST_POINTS))) (pw_or1 (pt_not (pt_val (pe_callB (cr_all rfl) (by rfl) (T.free_all) bb_all (pa_cons (pe_lc (own := [("one", 1)]) rfl sc_are_points.nd (pi_tup (pv 0)) (blkOk_by (own := [("one", 1)]) (N := N_are_points) (sc := defScope s_are_points) (by decide +kernel)) (fun _ _ _ _ _ => (pg_name (i := 1) sc_are_points.nd rfl (Or.inl rfl))) (fun _ _ _ _ _ => pts_nil) (fun _ _ _ _ _ => (pe_callP (cal_is_point T) (hr.mono (by decide)) (by rfl) (pa_cons (pv 1) pa_nil)))) pa_nil))))))) 
      (pss_cons (ps_ret pe_bl) pss_nil) pss_nil)
    (pss_cons (ps_ret (pe_cmpR op_eq (RZ.pe_lenSetI (by rfl) T.free_len (by rfl) T.free_set (pe_lc (own := [("x", 2), ("y", 3)]) rfl sc_are_points.nd (pi_tup (pv 0)) (blkOk_by (own := [("x", 2), ("y", 3)]) (N := N_are_points) (sc := defScope s_are_points) (by decide +kernel)) (fun _ _ _ _ _ => (pg_tupK (K := K) (n := 2) rfl rfl (pgs_cons (pg_name (i := 2) sc_are_points.nd rfl (Or.inl rfl)) (pgs_cons (pg_name (i := 3) sc_are_points.nd rfl (Or.inl rfl)) pgs_nil)))) (fun _ _ _ _ _ => pts_nil) (fun _ _ _ _ _ => (pv 2)))) (pe_callB call_len_seq (by rfl) (T.free_len) bb_len (pa_cons (pv 0) pa_nil)) (nomark _))) pss_nil)), ?_⟩)
  · unfold f_are_points at h
    repeat (first | (obtain ⟨e, _⟩ := h; rw [e]; rfl) | (obtain ⟨_, h⟩ := h))
  · obtain ⟨ps, rfl, ⟨h1, h2, h3⟩, rfl⟩ := h
    have hl : (ps.map prD).length = ps.length := List.length_map _
    refine q_no (td_is (td_or (a := false) (b := false) (td_is (td_not (td_test (ed_chainI ed_int (ed_lenT (ed_var rfl)) ed_int))) ?_) fun _ => td_is (td_not (td_B (ed_all (bs := ps.map fun _ => true) (ex_l ?_)))) ?_) rfl) ?_
    · rw [hl]
      simp
      omega
    · rw [List.map_map]
      exact ex_lcM ps prD (fun _ => .bl true) [1] (dw_tup (ed_var rfl)) (fun i d _ h => y_map h) (by rw [hl]) (by rw [hl]; omega) (by simp) fun x _ => ⟨_, tg_name, ed_call (ea_cons (ed_var rfl) ea_nil) ⟨x, rfl, rfl⟩⟩
    · simp
    · refine q_ret (d := .bl true) (ed_is (ed_eqI (ed_lenSet (ns := ps.map (·.1)) ?_ h3 (by rw [List.length_map]; omega)) (ed_lenT (ed_var rfl))) ?_) rfl
      · rw [List.map_map]
        exact ex_lcM ps prD (fun p => .int p.1) [2, 3] (dw_tup (ed_var rfl)) (fun i d _ h => y_map h) (by rw [hl]) (by rw [hl]; omega) (by simp) fun x _ => ⟨_, tg_tup [2, 3] rfl rfl, ed_var rfl⟩
      · simp
/-! ### first_three -/
def f_first_three (ds : List D) (d : D) : Prop := ∃ (ps : List Pt) (b : Bool), ds = [seqD b (ps.map prD)] ∧ (ps.length ≤ 24 ∧ (∀ p ∈ ps, Small p) ∧ Free ps) ∧ d = .non
abbrev N_first_three : List Str := ["points", "i", "j", "k"]
theorem sc_first_three : FnScope N_first_three ["points"] (defScope s_first_three) := ⟨rfl, rfl, rfl, by decide +kernel, rfl, by decide +kernel, by decide +kernel⟩
theorem cal_first_three (T : Tx K mg) : Cal P w K mg base 2 "first_three" ["points"] f_first_three := by
  obtain ⟨fd, F⟩ := T.fd_first_three
  refine calOf (N := N_first_three) T.gl_first_three F (fun _ _ _ _ _ _ us hl => match us, hl with | [_], _ => rfl) (okP F sc_first_three (fun ds d h => ?_) fun cdv A outer s H E hr ds d h => ⟨_, 
    (pss_cons (ps_for PassesOwn.never rfl (pi_range1 (by rfl) T.free_range (pa_cons (pe_callB call_len_seq (by rfl) (T.free_len) bb_len (pa_cons (pv 0) pa_nil)) pa_nil)) (pg_name (i := 1) sc_first_three.nd rfl (Or.inl rfl)) 
      (pss_cons (ps_for PassesOwn.never rfl (pi_range2 (by rfl) T.free_range (pa_cons (pe_op op_add (pv 1) pe_int) (pa_cons (pe_callB call_len_seq (by rfl) (T.free_len) bb_len (pa_cons (pv 0) pa_nil)) pa_nil))) (pg_name (i := 2) sc_first_three.nd rfl (Or.inl rfl)) 
        (pss_cons (ps_for PassesOwn.never rfl (pi_range2 (by rfl) T.free_range (pa_cons (pe_op op_add (pv 2) pe_int) (pa_cons (pe_callB call_len_seq (by rfl) (T.free_len) bb_len (pa_cons (pv 0) pa_nil)) pa_nil))) (pg_name (i := 3) sc_first_three.nd rfl (Or.inl rfl)) 
          (pss_cons (ps_if (pt_cmpR op_eq (pe_callP (cal_bend T) (hr.mono (by decide)) (by rfl) (pa_cons (pe_ix ix_seq (pv 0) (pv 1) (fun _ _ => rfl)) (pa_cons (pe_ix ix_seq (pv 0) (pv 2) (fun _ _ => rfl)) (pa_cons (pe_ix ix_seq (pv 0) (pv 3) (fun _ _ => rfl)) pa_nil)))) pe_int (nomark _)) 
            (pss_cons (ps_ret (pe_tup (pa_cons (pe_ix ix_seq (pv 0) (pv 1) (fun _ _ => rfl)) (pa_cons (pe_ix ix_seq (pv 0) (pv 2) (fun _ _ => rfl)) (pa_cons (pe_ix ix_seq (pv 0) (pv 3) (fun _ _ => rfl)) pa_nil))))) pss_nil) pss_nil) pss_nil)) pss_nil)) pss_nil))
    (pss_cons (ps_ret pe_non) pss_nil)), ?_⟩)
  · unfold f_first_three at h
    repeat (first | (obtain ⟨e, _⟩ := h; rw [e]; rfl) | (obtain ⟨_, h⟩ := h))
  · obtain ⟨ps, b, rfl, ⟨h1, h2, h3⟩, rfl⟩ := h
    have hl : (ps.map prD).length = ps.length := List.length_map _
    have hlen : ∀ {δ : List Fr} {te : TE}, ED K (deskC K) te δ (seqD b (ps.map prD)) → ED K (deskC K) (tCB (rLenQ K) (tCons te tNil)) δ (.int (ps.length : Nat)) := fun h => ed_is (ed_lenQ h) (by rw [hl])
    refine q_for (n := ps.length) (dw_r1 (hlen (ed_var rfl)) (by omega)) (fun _ δ => δ = [.dat (seqD b (ps.map prD)), .un, .un, .un]) (fun _ => False) rfl Le.rfl ?_ ?_ (fun _ z => z.elim)
    · rintro i d δ1 hi rfl rfl
      refine ⟨[1], _, tg_name, ?_⟩
      refine q_for (n := ps.length - (i + 1)) (dw_r2 (a := i + 1) (b := ps.length) (ed_is (ed_add (ed_var rfl) ed_int) rfl) (hlen (ed_var rfl)) ⟨by omega, by omega⟩) (fun _ δ => δ = [.dat (seqD b (ps.map prD)), .dat (natD i), .un, .un]) (fun _ => False) rfl Le.rfl ?_ ?_ (fun _ z => z.elim)
      · rintro j d δ1 hj rfl rfl
        refine ⟨[2], _, tg_name, ?_⟩
        refine q_for (n := ps.length - (i + 1 + j + 1)) (dw_r2 (a := i + 1 + j + 1) (b := ps.length) (ed_is (ed_add (ed_var rfl) ed_int) rfl) (hlen (ed_var rfl)) ⟨by omega, by omega⟩) (fun _ δ => δ = [.dat (seqD b (ps.map prD)), .dat (natD i), .dat (natD (i + 1 + j)), .un]) (fun _ => False) rfl Le.rfl ?_ ?_ (fun _ z => z.elim)
        · rintro k d δ1 hk rfl rfl
          refine ⟨[3], _, tg_name, ?_⟩
          have a1 : i < ps.length := hi
          have a2 : i + 1 + j < ps.length := by omega
          have a3 : i + 1 + j + 1 + k < ps.length := by omega
          refine q_no (td_is (td_test (ed_eqI (ed_call (ea_cons (ed_ixQ (ed_var rfl) (ed_var rfl) (at_sh a1)) (ea_cons (ed_ixQ (ed_var rfl) (ed_var rfl) (at_sh a2)) (ea_cons (ed_ixQ (ed_var rfl) (ed_var rfl) (at_sh a3)) ea_nil))) ⟨_, _, _, rfl, ⟨h2 _ (ix_mem a1), h2 _ (ix_mem a2), h2 _ (ix_mem a3)⟩, rfl⟩) ed_int)) (decide_eq_false (h3 _ _ _ (by omega) (by omega) a3))) ?_
          exact sd_nx rfl (.eq (.eq (.eq (.un .nil))))
        · rintro δ1 rfl
          exact sd_nx rfl (.eq (.eq (.un (.eq .nil))))
      · rintro δ1 rfl
        exact sd_nx rfl (.eq (.un (.eq (.eq .nil))))
    · rintro δ1 rfl
      exact q_ret ed_non rfl
/-! ### is_sheet, need_sheet -/
theorem Sh.nodup {ps : List Pt} (h : Sh ps) : (ps.map (·.1)).Nodup := by
  unfold List.Nodup
  rw [List.pairwise_map]
  exact h.inc.imp fun h e => by omega
def f_is_sheet (ds : List D) (d : D) : Prop := ∃ ps : List Pt, ds = [shD ps] ∧ Sh ps ∧ d = .bl true
abbrev N_is_sheet : List Str := ["thing"]
theorem sc_is_sheet : FnScope N_is_sheet ["thing"] (defScope s_is_sheet) := ⟨rfl, rfl, rfl, by decide +kernel, rfl, by decide +kernel, by decide +kernel⟩
theorem cal_is_sheet (T : Tx K mg) : Cal P w K mg base 4 "is_sheet" ["thing"] f_is_sheet := by
  obtain ⟨fd, F⟩ := T.fd_is_sheet
  refine calOf (N := N_is_sheet) T.gl_is_sheet F (fun _ _ _ _ _ _ us hl => match us, hl with | [_], _ => rfl) (okP F sc_is_sheet (fun ds d h => ?_) fun cdv A outer s H E hr ds d h => ⟨_, 
    (pss_cons (ps_if (PW.pt (pw_or (pt_not (pt_val (pe_callB call_isi (by rfl) (T.free_isinstance) bb_isinstance (pa_cons (pv 0) (pa_cons (pe_bltn (v := .ty "tuple") (by rfl) T.free_tuple bb_tuple rfl) pa_nil))))) (pw_or1 (pt_not (pt_val (pe_callP (cal_are_points T) (hr.mono (by decide)) (by rfl) (pa_cons (pv 0) pa_nil))))))) 
      (pss_cons (ps_ret pe_bl) pss_nil) pss_nil)
    (pss_cons (ps_ret (pe_and (pe_cmpR (op_eqD hr.units) (pe_callTy call_list_of (by rfl) (T.free_list) bb_list (pa_cons (pv 0) pa_nil)) (pe_callB cr_sortedTP (by rfl) (T.free_sorted) bb_sorted (pa_cons (pv 0) pa_nil)) (nomark _)) (pe_one (pe_cmpR op_isN (pe_callP (cal_first_three T) (hr.mono (by decide)) (by rfl) (pa_cons (pv 0) pa_nil)) pe_non (nomark _))))) pss_nil)), ?_⟩)
  · unfold f_is_sheet at h
    repeat (first | (obtain ⟨e, _⟩ := h; rw [e]; rfl) | (obtain ⟨_, h⟩ := h))
  · obtain ⟨ps, rfl, hS, rfl⟩ := h
    refine q_no (td_is (td_or (a := false) (b := false) (td_is (td_not (td_B (ed_isi (b := true) (kit_ty (by decide +kernel)) ty_tup (ed_var rfl)))) rfl) fun _ => td_is (td_not (b := true) (td_B (ed_call (ea_cons (ed_var rfl) ea_nil) ?_))) rfl) rfl) ?_
    · exact ⟨ps, rfl, ⟨hS.pos, Nat.le_trans hS.le (by decide), hS.nodup⟩, rfl⟩
    have hf : f_first_three [shD ps] .non := ⟨ps, false, rfl, ⟨Nat.le_trans hS.le (by decide), hS.small, hS.free⟩, rfl⟩
    refine q_ret (d := .bl true) (ed_is (ed_andV (a := true) (b := true) (ed_eqD (b := true) (ed_h (ex_d (ex_listT (ed_var rfl)))) (ed_h (ex_d (ex_sortedTP (out := ps) (ed_var rfl) (.refl _) hS.inc))) ?_ ?_ ?_ ?_ ?_) fun _ => ed_isN (ed_call (ea_cons (ed_var rfl) ea_nil) hf)) rfl) rfl
    · exact isPs_pts ps
    · exact isPs_pts ps
    · exact shaped_lst (canl_pts ps) (Nat.le_trans (deep_pts ps) (by decide))
    · exact shaped_lst (canl_pts ps) (Nat.le_trans (deep_pts ps) (by decide))
    · exact SeqAt.eqv_refl _ (canl_pts ps)
def f_need_sheet (ds : List D) (d : D) : Prop := ∃ ps : List Pt, ds = [shD ps] ∧ Sh ps ∧ d = .non
abbrev N_need_sheet : List Str := ["sheet"]
theorem sc_need_sheet : FnScope N_need_sheet ["sheet"] (defScope s_need_sheet) := ⟨rfl, rfl, rfl, by decide +kernel, rfl, by decide +kernel, by decide +kernel⟩
theorem cal_need_sheet (T : Tx K mg) : Cal P w K mg base 5 "need_sheet" ["sheet"] f_need_sheet := by
  obtain ⟨fd, F⟩ := T.fd_need_sheet
  refine calOf (N := N_need_sheet) T.gl_need_sheet F (fun _ _ _ _ _ _ us hl => match us, hl with | [_], _ => rfl) (okP F sc_need_sheet (fun ds d h => ?_) fun cdv A outer s H E hr ds d h => ⟨_, 
    (pss_cons (ps_if (pt_not (pt_val (pe_callP (cal_is_sheet T) (hr.mono (by decide)) (by rfl) (pa_cons (pv 0) pa_nil)))) 
      (pss_cons ps_never pss_nil) pss_nil) pss_nil), ?_⟩)
  · unfold f_need_sheet at h
    repeat (first | (obtain ⟨e, _⟩ := h; rw [e]; rfl) | (obtain ⟨_, h⟩ := h))
  · obtain ⟨ps, rfl, hS, rfl⟩ := h
    refine q_no (td_is (td_not (b := true) (td_B (ed_call (ea_cons (ed_var rfl) ea_nil) ⟨ps, rfl, hS, rfl⟩))) rfl) ?_
    exact sd_nx rfl Le.rfl
end
end Bt

end BtA_part
section BtB_part
set_option Elab.async false
set_option linter.all false
set_option maxRecDepth 100000
set_option maxHeartbeats 4000000
namespace Bt
open PySem PySem.Spec PyProof.Rows L2 BtR
/-! helpers: comprehensions over ranges, length of sheets and rows -/
section
variable {K : PySem.W.Frag} {C : Addr} {te ta tb tc : TE} {tt : TT} {δ : List Fr} {wi : TI} {g : TG}
theorem ex_rg2F {a b j : Nat} {vs : List Nat} (f : Nat → D) (p : Nat → Bool) (ha : ED K C ta δ (.int (a : Nat))) (hb : ED K C tb δ (.int (b : Nat))) (hn : a ≤ 40000 ∧ b ≤ 40000) (hj : j ∈ vs)
    (hs : ∀ x, a ≤ x → x < b → TD K C tt ((wipeF δ vs).set j (.dat (natD x))) (p x) ∧ (p x = true → ED K C te ((wipeF δ vs).set j (.dat (natD x))) (f x))) : EX K C (tLc (iRng2 (tCons ta (tCons tb tNil))) (gName j) tt te vs) δ (((List.range' a (b - a)).filter p).map f) :=
  ex_lcF (List.range' a (b - a)) natD f p [j] (dw_r2 ha hb ⟨by omega, by omega⟩) (fun i d hi h => y_range2 hi h) (by simp) (by omega) (by simpa using hj) fun x hx => by
    have hm := List.mem_range'_1.mp hx
    exact ⟨_, tg_name, hs x hm.1 (by omega)⟩
theorem ex_rg2 {a b j : Nat} {vs : List Nat} (f : Nat → D) (ha : ED K C ta δ (.int (a : Nat))) (hb : ED K C tb δ (.int (b : Nat))) (hn : a ≤ 40000 ∧ b ≤ 40000) (hj : j ∈ vs)
    (hs : ∀ x, a ≤ x → x < b → ED K C te ((wipeF δ vs).set j (.dat (natD x))) (f x)) : EX K C (tLc (iRng2 (tCons ta (tCons tb tNil))) (gName j) tYes te vs) δ ((List.range' a (b - a)).map f) := by
  have h := ex_rg2F (K := K) (C := C) (te := te) (tt := tYes) f (fun _ => true) ha hb hn hj fun x h1 h2 => ⟨td_yes, fun _ => hs x h1 h2⟩
  rw [List.filter_eq_self.mpr (fun _ _ => rfl)] at h
  exact h
theorem ed_lenSh {ps : List Pt} (h : ED K C te δ (shD ps)) : ED K C (tCB (rLenQ K) (tCons te tNil)) δ (natD ps.length) := ed_is (ed_lenT h) (by rw [List.length_map]; rfl)
theorem ed_lenRow {r : List Nat} (h : ED K C te δ (rowD r)) : ED K C (tCB (rLenQ K) (tCons te tNil)) δ (natD r.length) := ed_is (ed_lenT h) (by rw [List.length_map]; rfl)
theorem ed_addN {i k : Nat} (ha : ED K C ta δ (natD i)) (hb : ED K C tb δ (.int (k : Nat))) : ED K C (tOp (rI0 fun i j => .int (i + j)) ta tb) δ (.int ((i + k : Nat) : Int)) := ed_is (ed_add ha hb) (by simp)
theorem ed_subN {i k : Nat} (ha : ED K C ta δ (natD i)) (hb : ED K C tb δ (.int (k : Nat))) (h : k ≤ i) : ED K C (tOp (rI0 fun i j => .int (i - j)) ta tb) δ (.int ((i - k : Nat) : Int)) := ed_is (ed_sub ha hb) (by rw [Int.ofNat_sub h])
end
section
variable {P : Program} {w : World} {K : PySem.W.Frag} {mg : Str → Option Value} {base : Heap}
/-! ### is_up -/
def Smalls (ps : List Pt) : Prop := ∀ p ∈ ps, Small p
def f_is_up (ds : List D) (d : D) : Prop := ∃ (ps : List Pt) (i j k : Nat), ds = [shD ps, natD i, natD j, natD k] ∧ (Smalls ps ∧ i < ps.length ∧ j < ps.length ∧ k < ps.length) ∧ d = .bl (up ps i j k)
abbrev N_is_up : List Str := ["sheet", "i", "j", "k"]
theorem sc_is_up : FnScope N_is_up ["sheet", "i", "j", "k"] (defScope s_is_up) := ⟨rfl, rfl, rfl, by decide +kernel, rfl, by decide +kernel, by decide +kernel⟩
theorem cal_is_up (T : Tx K mg) : Cal P w K mg base 2 "is_up" ["sheet", "i", "j", "k"] f_is_up := by
  obtain ⟨fd, F⟩ := T.fd_is_up
  refine calOf (N := N_is_up) T.gl_is_up F (fun _ _ _ _ _ _ us hl => match us, hl with | [_, _, _, _], _ => rfl) (okP F sc_is_up (fun ds d h => ?_) fun cdv A outer s H E hr ds d h => ⟨_, 
    (pss_cons (ps_ret (pe_cmpR op_gt (pe_callP (cal_bend T) (hr.mono (by decide)) (by rfl) (pa_cons (pe_ix (ix_tupK (K := K) rfl) (pv 0) (pv 1) (fun _ _ => rfl)) (pa_cons (pe_ix (ix_tupK (K := K) rfl) (pv 0) (pv 2) (fun _ _ => rfl)) (pa_cons (pe_ix (ix_tupK (K := K) rfl) (pv 0) (pv 3) (fun _ _ => rfl)) pa_nil)))) pe_int (nomark _))) pss_nil), ?_⟩)
  · unfold f_is_up at h
    repeat (first | (obtain ⟨e, _⟩ := h; rw [e]; rfl) | (obtain ⟨_, h⟩ := h))
  · obtain ⟨ps, i, j, k, rfl, ⟨h1, hi, hj, hk⟩, rfl⟩ := h
    exact q_ret (ed_gt (ed_call (ea_cons (ed_ixT (ed_var rfl) (ed_var rfl) (at_sh hi)) (ea_cons (ed_ixT (ed_var rfl) (ed_var rfl) (at_sh hj)) (ea_cons (ed_ixT (ed_var rfl) (ed_var rfl) (at_sh hk)) ea_nil))) ⟨_, _, _, rfl, ⟨h1 _ (ix_mem hi), h1 _ (ix_mem hj), h1 _ (ix_mem hk)⟩, rfl⟩) ed_int) rfl
/-! ### are_rising -/
structure Rise (n : Nat) (r : List Nat) : Prop where
  inc : r.Pairwise (· < ·)
  lt : ∀ x ∈ r, x < n
  few : r.length ≤ 1000
theorem getD_mem {r : List Nat} {i : Nat} (h : i < r.length) : r.getD i 0 ∈ r := by
  rw [List.getD_eq_getElem?_getD, List.getElem?_eq_getElem h]
  exact List.getElem_mem h
theorem Rise.at {n : Nat} {r : List Nat} (h : Rise n r) {i j : Nat} (hij : i < j) (hj : j < r.length) : r.getD i 0 < r.getD j 0 := by
  have := List.pairwise_iff_getElem.mp h.inc i j (by omega) hj hij
  rw [List.getD_eq_getElem?_getD, List.getElem?_eq_getElem (by omega : i < r.length), List.getD_eq_getElem?_getD, List.getElem?_eq_getElem hj]
  exact this
def f_are_rising (ds : List D) (d : D) : Prop := ∃ (r : List Nat) (n : Nat), ds = [rowD r, natD n] ∧ Rise n r ∧ d = .bl true
abbrev N_are_rising : List Str := ["thing", "many", "at", "one"]
theorem sc_are_rising : FnScope N_are_rising ["thing", "many"] (defScope s_are_rising) := ⟨rfl, rfl, rfl, by decide +kernel, rfl, by decide +kernel, by decide +kernel⟩
theorem cal_are_rising (T : Tx K mg) : Cal P w K mg base 2 "are_rising" ["thing", "many"] f_are_rising := by
  obtain ⟨fd, F⟩ := T.fd_are_rising
  refine calOf (N := N_are_rising) T.gl_are_rising F (fun _ _ _ _ _ _ us hl => match us, hl with | [_, _], _ => rfl) (okP F sc_are_rising (fun ds d h => ?_) fun cdv A outer s H E hr ds d h => ⟨_, 
    (pss_cons (ps_if (PW.pt (pw_or (pt_not (pt_val (pe_callB call_isi (by rfl) (T.free_isinstance) bb_isinstance (pa_cons (pv 0) (pa_cons (pe_bltn (v := .ty "tuple") (by rfl) T.free_tuple bb_tuple rfl) pa_nil))))) (pw_or1 (pt_not (pt_val (pe_callB (cr_all rfl) (by rfl) (T.free_all) bb_all (pa_cons (pe_lc (own := [("one", 3)]) rfl sc_are_rising.nd (pi_tup (pv 0)) (blkOk_by (own := [("one", 3)]) (N := N_are_rising) (sc := defScope s_are_rising) (by decide +kernel)) (fun _ _ _ _ _ => (pg_name (i := 3) sc_are_rising.nd rfl (Or.inl rfl))) (fun _ _ _ _ _ => pts_nil) (fun _ _ _ _ _ => (pe_and (pe_callP (cal_is_whole T) (hr.mono (by decide)) (by rfl) (pa_cons (pv 3) pa_nil)) (pe_one (pe_chain op_le op_lt pe_int (pv 3) (pv 1)))))) pa_nil))))))) 
      (pss_cons (ps_ret pe_bl) pss_nil) pss_nil)
    (pss_cons (ps_ret (pe_callB (cr_all rfl) (by rfl) (T.free_all) bb_all (pa_cons (pe_lc (own := [("at", 2)]) rfl sc_are_rising.nd (pi_range2 (by rfl) T.free_range (pa_cons pe_int (pa_cons (pe_callB call_len_seq (by rfl) (T.free_len) bb_len (pa_cons (pv 0) pa_nil)) pa_nil))) (blkOk_by (own := [("at", 2)]) (N := N_are_rising) (sc := defScope s_are_rising) (by decide +kernel)) (fun _ _ _ _ _ => (pg_name (i := 2) sc_are_rising.nd rfl (Or.inl rfl))) (fun _ _ _ _ _ => pts_nil) (fun _ _ _ _ _ => (pe_cmpR op_lt (pe_ix (ix_tupK (K := K) rfl) (pv 0) (pe_op op_sub (pv 2) pe_int) (fun _ _ => rfl)) (pe_ix (ix_tupK (K := K) rfl) (pv 0) (pv 2) (fun _ _ => rfl)) (nomark _)))) pa_nil))) pss_nil)), ?_⟩)
  · unfold f_are_rising at h
    repeat (first | (obtain ⟨e, _⟩ := h; rw [e]; rfl) | (obtain ⟨_, h⟩ := h))
  · obtain ⟨r, n, rfl, hR, rfl⟩ := h
    have hl : (r.map natD).length = r.length := List.length_map _
    refine q_no (td_is (td_or (a := false) (b := false) (td_is (td_not (td_B (ed_isi (b := true) (kit_ty (by decide +kernel)) ty_tup (ed_var rfl)))) rfl) fun _ => td_is (td_not (td_B (ed_all (bs := r.map fun _ => true) (ex_l ?_)))) ?_) rfl) ?_
    · rw [List.map_map]
      refine ex_lcM r natD (fun _ => .bl true) [3] (dw_tup (ed_var rfl)) (fun i d _ h => y_map h) (by rw [hl]) (by rw [hl]; have := hR.few; omega) (by simp) fun x hx => ⟨_, tg_name, ?_⟩
      refine ed_is (ed_andV (ed_call (ea_cons (ed_var rfl) ea_nil) ⟨_, rfl, rfl⟩) fun _ => ed_chainI ed_int (ed_var rfl) (ed_var rfl)) ?_
      have := hR.lt x hx
      simp
      omega
    · simp
    · refine q_ret (d := .bl true) (ed_is (ed_all (bs := (List.range' 1 (r.length - 1)).map fun _ => true) (ex_l ?_)) (by simp)) rfl
      rw [List.map_map]
      refine ex_rg2 (fun _ => .bl true) ed_int (ed_lenRow (ed_var rfl)) ⟨by decide, by have := hR.few; omega⟩ (by simp) fun x h1 h2 => ?_
      refine ed_is (ed_lt (ed_ixT (ed_var rfl) (ed_subN (k := 1) (ed_var rfl) ed_int h1) (at_row (by omega))) (ed_ixT (ed_var rfl) (ed_var rfl) (at_row h2))) ?_
      have := hR.at (i := x - 1) (j := x) (by omega) h2
      exact congrArg D.bl (decide_eq_true (by omega))
/-! ### pairs_of -/
def prN (p : Nat × Nat) : D := .tup [natD p.1, natD p.2]
def pairsTo (n i : Nat) : List (Nat × Nat) := (List.range i).flatMap fun i => (List.range' (i + 1) (n - (i + 1))).map fun j => (i, j)
theorem pairsTo_succ (n i : Nat) : pairsTo n (i + 1) = pairsTo n i ++ (List.range' (i + 1) (n - (i + 1))).map fun j => (i, j) := by
  unfold pairsTo
  rw [List.range_succ, List.flatMap_append]
  simp
theorem pairsTo_few : ∀ n, n < 8 → ∀ i, i < 8 → (pairsTo n i).length ≤ 100 := by decide +kernel
theorem pairs_mem {n i : Nat} {p : Nat × Nat} : p ∈ pairsTo n i ↔ p.1 < i ∧ p.1 < p.2 ∧ p.2 < n := by
  obtain ⟨a, b⟩ := p
  unfold pairsTo
  simp only [List.mem_flatMap, List.mem_range, List.mem_map, List.mem_range'_1, Prod.mk.injEq]
  constructor
  · rintro ⟨i', h1, j, h2, rfl, rfl⟩
    exact ⟨h1, by omega, by omega⟩
  · rintro ⟨h1, h2, h3⟩
    exact ⟨a, h1, b, by omega, rfl, rfl⟩
def f_pairs_of (ds : List D) (d : D) : Prop := ∃ ps : List Pt, ds = [shD ps] ∧ ps.length ≤ 7 ∧ d = .lst ((pairsTo ps.length ps.length).map prN)
abbrev N_pairs_of : List Str := ["sheet", "found", "i", "j"]
theorem sc_pairs_of : FnScope N_pairs_of ["sheet"] (defScope s_pairs_of) := ⟨rfl, rfl, rfl, by decide +kernel, rfl, by decide +kernel, by decide +kernel⟩
theorem cal_pairs_of (T : Tx K mg) : Cal P w K mg base 1 "pairs_of" ["sheet"] f_pairs_of := by
  obtain ⟨fd, F⟩ := T.fd_pairs_of
  refine calOf (N := N_pairs_of) T.gl_pairs_of F (fun _ _ _ _ _ _ us hl => match us, hl with | [_], _ => rfl) (okP F sc_pairs_of (fun ds d h => ?_) fun cdv A outer s H E hr ds d h => ⟨_, 
    (pss_cons (ps_set (i := 1) sc_pairs_of.nd rfl (Or.inl rfl) (pe_lst pa_nil))
    (pss_cons (ps_for PassesOwn.never rfl (pi_range1 (by rfl) T.free_range (pa_cons (pe_callB call_len_seq (by rfl) (T.free_len) bb_len (pa_cons (pv 0) pa_nil)) pa_nil)) (pg_name (i := 2) sc_pairs_of.nd rfl (Or.inr rfl)) 
      (pss_cons (ps_expr (pe_bm PySem.F.plainAttrs_list PySem.F.slot_list_extend PySem.F.type_list_extend mt_extend (pv 1) (pa_cons (pe_lc (own := [("j", 3)]) rfl sc_pairs_of.nd (pi_range2 (by rfl) T.free_range (pa_cons (pe_op op_add (pv 2) pe_int) (pa_cons (pe_callB call_len_seq (by rfl) (T.free_len) bb_len (pa_cons (pv 0) pa_nil)) pa_nil))) (blkOk_by (own := [("j", 3)]) (N := N_pairs_of) (sc := defScope s_pairs_of) (by decide +kernel)) (fun _ _ _ _ _ => (pg_name (i := 3) sc_pairs_of.nd rfl (Or.inl rfl))) (fun _ _ _ _ _ => pts_nil) (fun _ _ _ _ _ => (pe_tup (pa_cons (pv 2) (pa_cons (pv 3) pa_nil))))) pa_nil))) pss_nil))
    (pss_cons (ps_ret (pv 1)) pss_nil))), ?_⟩)
  · unfold f_pairs_of at h
    repeat (first | (obtain ⟨e, _⟩ := h; rw [e]; rfl) | (obtain ⟨_, h⟩ := h))
  · obtain ⟨ps, rfl, hl, rfl⟩ := h
    refine q_newL ?_
    refine q_for (n := ps.length) (dw_r1 (ed_lenSh (ed_var rfl)) (by omega)) (fun i δ => δ = [.dat (shD ps), .ol ((pairsTo ps.length i).map prN), .un, .un]) (fun _ => False) rfl Le.rfl ?_ ?_ (fun _ z => z.elim)
    · rintro i d δ1 hi rfl rfl
      refine ⟨[2], _, tg_name, ?_⟩
      refine q_ext (i := 1) (ex_rg2 (fun j => prN (i, j)) (ed_addN (k := 1) (ed_var rfl) ed_int) (ed_lenSh (ed_var rfl)) ⟨by omega, by omega⟩ (by simp) fun x h1 h2 => ed_tup (ea_cons (ed_var rfl) (ea_cons (ed_var rfl) ea_nil)) (by simp)) rfl rfl ?_ ?_
      · have h1 := pairsTo_few ps.length (by omega) i (by omega)
        simp only [List.length_map, List.length_range']
        omega
      · refine sd_nx rfl ?_
        rw [pairsTo_succ, List.map_append, List.map_map]
        exact .eq (.eq (.un (.eq .nil)))
    · rintro δ1 rfl
      exact q_keepL (i := 1) rfl rfl (q_ret (ed_var rfl) rfl)
/-! ### bends -/
def bendsB (ps : List Pt) (r : List Nat) (b : Bool) : Bool := decide (∀ t, t < r.length - 2 → up ps (r.getD t 0) (r.getD (t + 1) 0) (r.getD (t + 2) 0) = b)
def f_bends (ds : List D) (d : D) : Prop := ∃ (ps : List Pt) (r : List Nat) (b : Bool), ds = [shD ps, rowD r, .bl b] ∧ (Smalls ps ∧ Rise ps.length r ∧ 2 ≤ r.length) ∧ d = .bl (bendsB ps r b)
abbrev N_bends : List Str := ["sheet", "thing", "up", "at"]
theorem sc_bends : FnScope N_bends ["sheet", "thing", "up"] (defScope s_bends) := ⟨rfl, rfl, rfl, by decide +kernel, rfl, by decide +kernel, by decide +kernel⟩
theorem cal_bends (T : Tx K mg) : Cal P w K mg base 3 "bends" ["sheet", "thing", "up"] f_bends := by
  obtain ⟨fd, F⟩ := T.fd_bends
  refine calOf (N := N_bends) T.gl_bends F (fun _ _ _ _ _ _ us hl => match us, hl with | [_, _, _], _ => rfl) (okP F sc_bends (fun ds d h => ?_) fun cdv A outer s H E hr ds d h => ⟨_, 
    (pss_cons (ps_if (PW.pt (pw_or (pt_not (pt_val (pe_callP (cal_are_rising T) (hr.mono (by decide)) (by rfl) (pa_cons (pv 1) (pa_cons (pe_callB call_len_seq (by rfl) (T.free_len) bb_len (pa_cons (pv 0) pa_nil)) pa_nil))))) (pw_or1 (pt_cmpR op_lt (pe_callB call_len_seq (by rfl) (T.free_len) bb_len (pa_cons (pv 1) pa_nil)) pe_int (nomark _))))) 
      (pss_cons (ps_ret pe_bl) pss_nil) pss_nil)
    (pss_cons (ps_for PassesOwn.never rfl (pi_range2 (by rfl) T.free_range (pa_cons pe_int (pa_cons (pe_callB call_len_seq (by rfl) (T.free_len) bb_len (pa_cons (pv 1) pa_nil)) pa_nil))) (pg_name (i := 3) sc_bends.nd rfl (Or.inl rfl)) 
      (pss_cons (ps_if (pt_cmpR op_ne (pe_callP (cal_is_up T) (hr.mono (by decide)) (by rfl) (pa_cons (pv 0) (pa_cons (pe_ix (ix_tupK (K := K) rfl) (pv 1) (pe_op op_sub (pv 3) pe_int) (fun _ _ => rfl)) (pa_cons (pe_ix (ix_tupK (K := K) rfl) (pv 1) (pe_op op_sub (pv 3) pe_int) (fun _ _ => rfl)) (pa_cons (pe_ix (ix_tupK (K := K) rfl) (pv 1) (pv 3) (fun _ _ => rfl)) pa_nil))))) (pv 2) (nomark _)) 
        (pss_cons (ps_ret pe_bl) pss_nil) pss_nil) pss_nil))
    (pss_cons (ps_ret pe_bl) pss_nil))), ?_⟩)
  · unfold f_bends at h
    repeat (first | (obtain ⟨e, _⟩ := h; rw [e]; rfl) | (obtain ⟨_, h⟩ := h))
  · obtain ⟨ps, r, b, rfl, ⟨h1, hR, h2⟩, rfl⟩ := h
    have hf : f_are_rising [rowD r, natD ps.length] (.bl true) := ⟨r, _, rfl, hR, rfl⟩
    refine q_no (td_is (td_or (a := false) (b := false) (td_is (td_not (td_B (ed_call (ea_cons (ed_var rfl) (ea_cons (ed_lenSh (ed_var rfl)) ea_nil)) hf))) rfl) fun _ => td_is (td_test (ed_lt (ed_lenRow (ed_var rfl)) ed_int)) (decide_eq_false (by omega))) rfl) ?_
    refine q_for (n := r.length - 2) (dw_r2 (a := 2) (b := r.length) ed_int (ed_lenRow (ed_var rfl)) ⟨by decide, by have := hR.few; omega⟩) (fun i δ => δ = [.dat (shD ps), .dat (rowD r), .dat (.bl b), .un] ∧ ∀ t, t < i → up ps (r.getD t 0) (r.getD (t + 1) 0) (r.getD (t + 2) 0) = b) (fun _ => False) ⟨rfl, fun _ z => absurd z (Nat.not_lt_zero _)⟩ Le.rfl ?_ ?_ (fun _ z => z.elim)
    · rintro i d δ1 hi rfl ⟨rfl, hb⟩
      refine ⟨[3], _, tg_name, ?_⟩
      have a1 : r.getD i 0 < ps.length := hR.lt _ (getD_mem (by omega))
      have a2 : r.getD (i + 1) 0 < ps.length := hR.lt _ (getD_mem (by omega))
      have a3 : r.getD (i + 2) 0 < ps.length := hR.lt _ (getD_mem (by omega))
      have hu : f_is_up [shD ps, natD (r.getD i 0), natD (r.getD (i + 1) 0), natD (r.getD (i + 2) 0)] (.bl (up ps (r.getD i 0) (r.getD (i + 1) 0) (r.getD (i + 2) 0))) := ⟨_, _, _, _, rfl, ⟨h1, a1, a2, a3⟩, rfl⟩
      have e1 : 2 + i - 2 = i := by omega
      have e2 : 2 + i - 1 = i + 1 := by omega
      have e3 : 2 + i = i + 2 := by omega
      refine q_when (td_test (ed_neB (ed_call (ea_cons (ed_var rfl) (ea_cons (ed_ixT (ed_var rfl) (ed_subN (k := 2) (ed_var rfl) ed_int (by omega)) (at_row (i := 2 + i - 2) (by omega))) (ea_cons (ed_ixT (ed_var rfl) (ed_subN (k := 1) (ed_var rfl) ed_int (by omega)) (at_row (i := 2 + i - 1) (by omega))) (ea_cons (ed_ixT (ed_var rfl) (ed_var rfl) (at_row (i := 2 + i) (by omega))) ea_nil)))) (by rw [e1, e2, e3]; exact hu)) (ed_var rfl))) ?_ ?_
      · intro hne
        refine q_ret ed_bl ?_
        have : bendsB ps r b = false := by
          unfold bendsB
          refine decide_eq_false fun hh => ?_
          rw [Bool.not_eq_true', decide_eq_false_iff_not] at hne
          exact hne (hh i hi)
        rw [this]
        rfl
      · intro he
        refine sd_nx ⟨rfl, fun t ht => ?_⟩ (.eq (.eq (.eq (.un .nil))))
        by_cases e : t = i
        · subst e
          simpa using he
        · exact hb t (by omega)
    · rintro δ1 ⟨rfl, hb⟩
      refine q_ret ed_bl ?_
      have : bendsB ps r b = true := decide_eq_true hb
      rw [this]
      rfl
/-! ### is_cup, is_cap -/
def f_is_cup (ds : List D) (d : D) : Prop := ∃ (ps : List Pt) (r : List Nat), ds = [rowD r, shD ps] ∧ (Sh ps ∧ Rise ps.length r ∧ 2 ≤ r.length) ∧ d = .bl (bendsB ps r true)
abbrev N_is_cup : List Str := ["thing", "sheet"]
theorem sc_is_cup : FnScope N_is_cup ["thing", "sheet"] (defScope s_is_cup) := ⟨rfl, rfl, rfl, by decide +kernel, rfl, by decide +kernel, by decide +kernel⟩
theorem cal_is_cup (T : Tx K mg) : Cal P w K mg base 6 "is_cup" ["thing", "sheet"] f_is_cup := by
  obtain ⟨fd, F⟩ := T.fd_is_cup
  refine calOf (N := N_is_cup) T.gl_is_cup F (fun _ _ _ _ _ _ us hl => match us, hl with | [_, _], _ => rfl) (okP F sc_is_cup (fun ds d h => ?_) fun cdv A outer s H E hr ds d h => ⟨_, 
    (pss_cons (ps_expr (pe_callP (cal_need_sheet T) (hr.mono (by decide)) (by rfl) (pa_cons (pv 1) pa_nil)))
    (pss_cons (ps_ret (pe_callP (cal_bends T) (hr.mono (by decide)) (by rfl) (pa_cons (pv 1) (pa_cons (pv 0) (pa_cons pe_bl pa_nil))))) pss_nil)), ?_⟩)
  · unfold f_is_cup at h
    repeat (first | (obtain ⟨e, _⟩ := h; rw [e]; rfl) | (obtain ⟨_, h⟩ := h))
  · obtain ⟨ps, r, rfl, ⟨hS, hR, h2⟩, rfl⟩ := h
    have h1 : f_need_sheet [shD ps] .non := ⟨ps, rfl, hS, rfl⟩
    have h3 : f_bends [shD ps, rowD r, .bl true] (.bl (bendsB ps r true)) := ⟨ps, r, true, rfl, ⟨hS.small, hR, h2⟩, rfl⟩
    exact q_drop (ed_call (ea_cons (ed_var rfl) ea_nil) h1) (q_ret (ed_call (ea_cons (ed_var rfl) (ea_cons (ed_var rfl) (ea_cons ed_bl ea_nil))) h3) rfl)
def f_is_cap (ds : List D) (d : D) : Prop := ∃ (ps : List Pt) (r : List Nat), ds = [rowD r, shD ps] ∧ (Sh ps ∧ Rise ps.length r ∧ 2 ≤ r.length) ∧ d = .bl (bendsB ps r false)
abbrev N_is_cap : List Str := ["thing", "sheet"]
theorem sc_is_cap : FnScope N_is_cap ["thing", "sheet"] (defScope s_is_cap) := ⟨rfl, rfl, rfl, by decide +kernel, rfl, by decide +kernel, by decide +kernel⟩
theorem cal_is_cap (T : Tx K mg) : Cal P w K mg base 6 "is_cap" ["thing", "sheet"] f_is_cap := by
  obtain ⟨fd, F⟩ := T.fd_is_cap
  refine calOf (N := N_is_cap) T.gl_is_cap F (fun _ _ _ _ _ _ us hl => match us, hl with | [_, _], _ => rfl) (okP F sc_is_cap (fun ds d h => ?_) fun cdv A outer s H E hr ds d h => ⟨_, 
    (pss_cons (ps_expr (pe_callP (cal_need_sheet T) (hr.mono (by decide)) (by rfl) (pa_cons (pv 1) pa_nil)))
    (pss_cons (ps_ret (pe_callP (cal_bends T) (hr.mono (by decide)) (by rfl) (pa_cons (pv 1) (pa_cons (pv 0) (pa_cons pe_bl pa_nil))))) pss_nil)), ?_⟩)
  · unfold f_is_cap at h
    repeat (first | (obtain ⟨e, _⟩ := h; rw [e]; rfl) | (obtain ⟨_, h⟩ := h))
  · obtain ⟨ps, r, rfl, ⟨hS, hR, h2⟩, rfl⟩ := h
    have h1 : f_need_sheet [shD ps] .non := ⟨ps, rfl, hS, rfl⟩
    have h3 : f_bends [shD ps, rowD r, .bl false] (.bl (bendsB ps r false)) := ⟨ps, r, false, rfl, ⟨hS.small, hR, h2⟩, rfl⟩
    exact q_drop (ed_call (ea_cons (ed_var rfl) ea_nil) h1) (q_ret (ed_call (ea_cons (ed_var rfl) (ea_cons (ed_var rfl) (ea_cons ed_bl ea_nil))) h3) rfl)
/-! ### threes_of -/
def trN (p : Nat × Nat × Nat) : D := .tup [natD p.1, natD p.2.1, natD p.2.2]
def thrIn (n i t : Nat) : List (Nat × Nat × Nat) := (List.range' (i + 1) t).flatMap fun j => (List.range' (j + 1) (n - (j + 1))).map fun k => (i, j, k)
def thrTo (n i : Nat) : List (Nat × Nat × Nat) := (List.range i).flatMap fun i => thrIn n i (n - (i + 1))
theorem thrIn_succ (n i t : Nat) : thrIn n i (t + 1) = thrIn n i t ++ (List.range' (i + 1 + t + 1) (n - (i + 1 + t + 1))).map fun k => (i, i + 1 + t, k) := by
  unfold thrIn
  rw [List.range'_1_concat, List.flatMap_append]
  simp
theorem thrTo_succ (n i : Nat) : thrTo n (i + 1) = thrTo n i ++ thrIn n i (n - (i + 1)) := by
  unfold thrTo
  rw [List.range_succ, List.flatMap_append]
  simp
theorem thrTo_few : ∀ n, n < 8 → ∀ i, i < 8 → (thrTo n i).length ≤ 100 := by decide +kernel
theorem thrIn_few : ∀ n, n < 8 → ∀ i, i < 8 → ∀ t, t < 8 → (thrIn n i t).length ≤ 100 := by decide +kernel
theorem thr_mem : ∀ {n : Nat}, n < 8 → ∀ p ∈ thrTo n n, p.1 < p.2.1 ∧ p.2.1 < p.2.2 ∧ p.2.2 < n := by decide +kernel
def f_threes_of (ds : List D) (d : D) : Prop := ∃ n : Nat, ds = [natD n] ∧ n ≤ 7 ∧ d = .lst ((thrTo n n).map trN)
abbrev N_threes_of : List Str := ["many", "found", "i", "j", "k"]
theorem sc_threes_of : FnScope N_threes_of ["many"] (defScope s_threes_of) := ⟨rfl, rfl, rfl, by decide +kernel, rfl, by decide +kernel, by decide +kernel⟩
theorem cal_threes_of (T : Tx K mg) : Cal P w K mg base 1 "threes_of" ["many"] f_threes_of := by
  obtain ⟨fd, F⟩ := T.fd_threes_of
  refine calOf (N := N_threes_of) T.gl_threes_of F (fun _ _ _ _ _ _ us hl => match us, hl with | [_], _ => rfl) (okP F sc_threes_of (fun ds d h => ?_) fun cdv A outer s H E hr ds d h => ⟨_, 
    (pss_cons (ps_set (i := 1) sc_threes_of.nd rfl (Or.inl rfl) (pe_lst pa_nil))
    (pss_cons (ps_for PassesOwn.never rfl (pi_range1 (by rfl) T.free_range (pa_cons (pv 0) pa_nil)) (pg_name (i := 2) sc_threes_of.nd rfl (Or.inr rfl)) 
      (pss_cons (ps_for PassesOwn.never rfl (pi_range2 (by rfl) T.free_range (pa_cons (pe_op op_add (pv 2) pe_int) (pa_cons (pv 0) pa_nil))) (pg_name (i := 3) sc_threes_of.nd rfl (Or.inr rfl)) 
        (pss_cons (ps_expr (pe_bm PySem.F.plainAttrs_list PySem.F.slot_list_extend PySem.F.type_list_extend mt_extend (pv 1) (pa_cons (pe_lc (own := [("k", 4)]) rfl sc_threes_of.nd (pi_range2 (by rfl) T.free_range (pa_cons (pe_op op_add (pv 3) pe_int) (pa_cons (pv 0) pa_nil))) (blkOk_by (own := [("k", 4)]) (N := N_threes_of) (sc := defScope s_threes_of) (by decide +kernel)) (fun _ _ _ _ _ => (pg_name (i := 4) sc_threes_of.nd rfl (Or.inl rfl))) (fun _ _ _ _ _ => pts_nil) (fun _ _ _ _ _ => (pe_tup (pa_cons (pv 2) (pa_cons (pv 3) (pa_cons (pv 4) pa_nil)))))) pa_nil))) pss_nil)) pss_nil))
    (pss_cons (ps_ret (pv 1)) pss_nil))), ?_⟩)
  · unfold f_threes_of at h
    repeat (first | (obtain ⟨e, _⟩ := h; rw [e]; rfl) | (obtain ⟨_, h⟩ := h))
  · obtain ⟨n, rfl, hl, rfl⟩ := h
    refine q_newL ?_
    refine q_for (n := n) (dw_r1 (ed_var rfl) (by omega)) (fun i δ => δ = [.dat (natD n), .ol ((thrTo n i).map trN), .un, .un, .un]) (fun _ => False) rfl Le.rfl ?_ ?_ (fun _ z => z.elim)
    · rintro i d δ1 hi rfl rfl
      refine ⟨[2], _, tg_name, ?_⟩
      refine q_for (n := n - (i + 1)) (dw_r2 (a := i + 1) (b := n) (ed_addN (k := 1) (ed_var rfl) ed_int) (ed_var rfl) ⟨by omega, by omega⟩) (fun t δ => δ = [.dat (natD n), .ol ((thrTo n i ++ thrIn n i t).map trN), .dat (natD i), .un, .un]) (fun _ => False) (by
        show _ = _
        simp [thrIn]; rfl) Le.rfl ?_ ?_ (fun _ z => z.elim)
      · rintro t d δ1 ht rfl rfl
        refine ⟨[3], _, tg_name, ?_⟩
        refine q_ext (i := 1) (ex_rg2 (fun k => trN (i, i + 1 + t, k)) (ed_addN (k := 1) (ed_var rfl) ed_int) (ed_var rfl) ⟨by omega, by omega⟩ (by simp) fun x h1 h2 => ed_tup (ea_cons (ed_var rfl) (ea_cons (ed_var rfl) (ea_cons (ed_var rfl) ea_nil))) (by simp)) rfl rfl ?_ ?_
        · have h1 := thrTo_few n (by omega) i (by omega)
          have h2 := thrIn_few n (by omega) i (by omega) t (by omega)
          simp only [List.length_map, List.length_range', List.length_append]
          omega
        · refine sd_nx rfl ?_
          rw [thrIn_succ, ← List.append_assoc, List.map_append, List.map_map]
          exact .eq (.eq (.eq (.un (.eq .nil))))
      · rintro δ1 rfl
        refine sd_nx rfl ?_
        rw [thrTo_succ]
        exact .eq (.eq (.un (.eq (.eq .nil))))
    · rintro δ1 rfl
      exact q_keepL (i := 1) rfl rfl (q_ret (ed_var rfl) rfl)
/-! ### fours_of -/
def foN (p : Nat × Nat × Nat × Nat) : D := .tup [natD p.1, natD p.2.1, natD p.2.2.1, natD p.2.2.2]
def fouIn (n h : Nat) : List (Nat × Nat × Nat × Nat) := ((thrTo n n).filter fun p => decide (h < p.1)).map fun p => (h, p)
def fouTo (n h : Nat) : List (Nat × Nat × Nat × Nat) := (List.range h).flatMap (fouIn n)
theorem fouTo_succ (n i : Nat) : fouTo n (i + 1) = fouTo n i ++ fouIn n i := by
  unfold fouTo
  rw [List.range_succ, List.flatMap_append]
  simp
theorem fouTo_few : ∀ n, n < 8 → ∀ i, i < 8 → (fouTo n i).length ≤ 35 := by decide +kernel
theorem fouIn_few : ∀ n, n < 8 → ∀ i, i < 8 → (fouIn n i).length ≤ 100 := by decide +kernel
theorem fou_mem : ∀ {n : Nat}, n < 8 → ∀ p ∈ fouTo n n, p.1 < p.2.1 ∧ p.2.1 < p.2.2.1 ∧ p.2.2.1 < p.2.2.2 ∧ p.2.2.2 < n := by decide +kernel
def f_fours_of (ds : List D) (d : D) : Prop := ∃ n : Nat, ds = [natD n] ∧ n ≤ 7 ∧ d = .lst ((fouTo n n).map foN)
abbrev N_fours_of : List Str := ["many", "found", "h", "i", "j", "k"]
theorem sc_fours_of : FnScope N_fours_of ["many"] (defScope s_fours_of) := ⟨rfl, rfl, rfl, by decide +kernel, rfl, by decide +kernel, by decide +kernel⟩
theorem cal_fours_of (T : Tx K mg) : Cal P w K mg base 2 "fours_of" ["many"] f_fours_of := by
  obtain ⟨fd, F⟩ := T.fd_fours_of
  refine calOf (N := N_fours_of) T.gl_fours_of F (fun _ _ _ _ _ _ us hl => match us, hl with | [_], _ => rfl) (okP F sc_fours_of (fun ds d h => ?_) fun cdv A outer s H E hr ds d h => ⟨_, 
    (pss_cons (ps_set (i := 1) sc_fours_of.nd rfl (Or.inl rfl) (pe_lst pa_nil))
    (pss_cons (ps_for PassesOwn.never rfl (pi_range1 (by rfl) T.free_range (pa_cons (pv 0) pa_nil)) (pg_name (i := 2) sc_fours_of.nd rfl (Or.inr rfl)) 
      (pss_cons (ps_expr (pe_bm PySem.F.plainAttrs_list PySem.F.slot_list_extend PySem.F.type_list_extend mt_extend (pv 1) (pa_cons (pe_lc (own := [("i", 3), ("j", 4), ("k", 5)]) rfl sc_fours_of.nd (pi_list (pe_callP (cal_threes_of T) (hr.mono (by decide)) (by rfl) (pa_cons (pv 0) pa_nil))) (blkOk_by (own := [("i", 3), ("j", 4), ("k", 5)]) (N := N_fours_of) (sc := defScope s_fours_of) (by decide +kernel)) (fun _ _ _ _ _ => (pg_tupK (K := K) (n := 3) rfl rfl (pgs_cons (pg_name (i := 3) sc_fours_of.nd rfl (Or.inl rfl)) (pgs_cons (pg_name (i := 4) sc_fours_of.nd rfl (Or.inl rfl)) (pgs_cons (pg_name (i := 5) sc_fours_of.nd rfl (Or.inl rfl)) pgs_nil))))) (fun _ _ _ _ _ => (pts_one (pt_cmpR op_lt (pv 2) (pv 3) (nomark _)))) (fun _ _ _ _ _ => (pe_tup (pa_cons (pv 2) (pa_cons (pv 3) (pa_cons (pv 4) (pa_cons (pv 5) pa_nil))))))) pa_nil))) pss_nil))
    (pss_cons (ps_ret (pv 1)) pss_nil))), ?_⟩)
  · unfold f_fours_of at h
    repeat (first | (obtain ⟨e, _⟩ := h; rw [e]; rfl) | (obtain ⟨_, h⟩ := h))
  · obtain ⟨n, rfl, hl, rfl⟩ := h
    refine q_newL ?_
    have ht : f_threes_of [natD n] (.lst ((thrTo n n).map trN)) := ⟨n, rfl, hl, rfl⟩
    refine q_for (n := n) (dw_r1 (ed_var rfl) (by omega)) (fun i δ => δ = [.dat (natD n), .ol ((fouTo n i).map foN), .un, .un, .un, .un]) (fun _ => False) rfl Le.rfl ?_ ?_ (fun _ z => z.elim)
    · rintro i d δ1 hi rfl rfl
      refine ⟨[2], _, tg_name, ?_⟩
      have hw := thrTo_few n (by omega) n (by omega)
      refine q_ext (i := 1) (ex_lcF (thrTo n n) trN (fun p => foN (i, p)) (fun p => decide (i < p.1)) [3, 4, 5] (dw_list (ed_call (ea_cons (ed_var rfl) ea_nil) ht)) (fun i d _ h => y_map h) (by rw [List.length_map]) (by rw [List.length_map]; omega) (by simp) fun x _ => ⟨_, tg_tup [3, 4, 5] rfl rfl, td_is (td_test (ed_lt (ed_var rfl) (ed_var rfl))) (by simp), fun _ => ed_tup (ea_cons (ed_var rfl) (ea_cons (ed_var rfl) (ea_cons (ed_var rfl) (ea_cons (ed_var rfl) ea_nil)))) (by simp)⟩) rfl rfl ?_ ?_
      · have h1 := fouTo_few n (by omega) i (by omega)
        have h2 := fouIn_few n (by omega) i (by omega)
        unfold fouIn at h2
        simp only [List.length_map] at h2 ⊢
        omega
      · refine sd_nx rfl ?_
        rw [fouTo_succ, List.map_append, fouIn, List.map_map]
        exact .eq (.eq (.un (.eq (.eq (.eq .nil)))))
    · rintro δ1 rfl
      exact q_keepL (i := 1) rfl rfl (q_ret (ed_var rfl) rfl)
end
end Bt

end BtB_part
section BtM1_part
set_option Elab.async false
set_option linter.all false
set_option maxRecDepth 100000
set_option maxHeartbeats 4000000
namespace Bt
/-! ## tables and chains, in plain Lean -/
def mxN : List Nat → Nat
  | [] => 0
  | x :: xs => max x (mxN xs)
theorem mxN_ge : ∀ {xs : List Nat} {x : Nat}, x ∈ xs → x ≤ mxN xs
  | y :: ys, x, h => by
    rcases List.mem_cons.mp h with rfl | h
    · exact Nat.le_max_left _ _
    · exact Nat.le_trans (mxN_ge h) (Nat.le_max_right _ _)
theorem mxN_mem : ∀ {xs : List Nat}, xs ≠ [] → mxN xs ∈ xs
  | [x], _ => by simp [mxN]
  | x :: y :: ys, _ => by
    have h := mxN_mem (xs := y :: ys) (by simp)
    show max x (mxN (y :: ys)) ∈ _
    rcases Nat.le_total x (mxN (y :: ys)) with e | e
    · rw [Nat.max_eq_right e]; exact List.mem_cons_of_mem _ h
    · rw [Nat.max_eq_left e]; exact List.mem_cons_self
section
variable (U : Nat → Nat → Nat → Bool) (n : Nat)
/-- most of the places that a row ending so has, by the first h -/
def Tp : Nat → Nat → Nat → Nat
  | 0, _, _ => 2
  | h + 1, i, j => if U h i j = true then (if Tp h h i + 1 > Tp h i j then Tp h h i + 1 else Tp h i j) else Tp h i j
def Tv (i j : Nat) : Nat := Tp U i i j
def lstep (G : Nat → Nat → Nat) (i j : Nat) (m k : Nat) : Nat := if U i j k = true then (if G j k + 1 > m then G j k + 1 else m) else m
def lfold (G : Nat → Nat → Nat) (i j t : Nat) : Nat := (List.range' (j + 1) t).foldl (lstep U G i j) 2
def Lf : Nat → Nat → Nat → Nat
  | 0, _, _ => 2
  | f + 1, i, j => lfold U (Lf f) i j (n - (j + 1))
def Lv (i j : Nat) : Nat := Lf U n n i j
variable {U n}
theorem lfold_succ (G : Nat → Nat → Nat) (i j t : Nat) : lfold U G i j (t + 1) = lstep U G i j (lfold U G i j t) (j + 1 + t) := by
  unfold lfold
  rw [List.range'_1_concat, List.foldl_append]
  rfl
theorem lfold_congr {G G' : Nat → Nat → Nat} (i j : Nat) : ∀ t, (∀ k, j < k → k < j + 1 + t → G j k = G' j k) → lfold U G i j t = lfold U G' i j t
  | 0, _ => rfl
  | t + 1, h => by
    rw [lfold_succ, lfold_succ, lfold_congr i j t fun k h1 h2 => h k h1 (by omega)]
    unfold lstep
    rw [h (j + 1 + t) (by omega) (by omega)]
theorem Lf_stable : ∀ f i j, n - (j + 1) ≤ f → Lf U n (f + 1) i j = Lf U n f i j
  | 0, i, j, h => by
    show lfold U _ i j (n - (j + 1)) = 2
    have : n - (j + 1) = 0 := by omega
    rw [this]
    rfl
  | f + 1, i, j, h => by
    show lfold U _ i j (n - (j + 1)) = lfold U _ i j (n - (j + 1))
    exact lfold_congr i j _ fun k h1 h2 => Lf_stable f j k (by omega)
theorem Lv_eq (hn : 1 ≤ n) (i j : Nat) : Lv U n i j = lfold U (Lv U n) i j (n - (j + 1)) := by
  obtain ⟨m, rfl⟩ : ∃ m, n = m + 1 := ⟨n - 1, by omega⟩
  show lfold U _ i j _ = _
  exact lfold_congr i j _ fun k h1 h2 => (Lf_stable m j k (by omega)).symm
theorem lfold_ge (G : Nat → Nat → Nat) (i j : Nat) : ∀ t, 2 ≤ lfold U G i j t ∧ ∀ k, j < k → k < j + 1 + t → U i j k = true → G j k + 1 ≤ lfold U G i j t
  | 0 => ⟨Nat.le_refl _, fun k h1 h2 => by omega⟩
  | t + 1 => by
    have ih := lfold_ge G i j t
    rw [lfold_succ]
    have hs : lfold U G i j t ≤ lstep U G i j (lfold U G i j t) (j + 1 + t) := by
      unfold lstep
      split
      · split <;> omega
      · exact Nat.le_refl _
    refine ⟨Nat.le_trans ih.1 hs, fun k h1 h2 h3 => ?_⟩
    by_cases e : k = j + 1 + t
    · subst e
      unfold lstep
      rw [if_pos h3]
      split <;> omega
    · exact Nat.le_trans (ih.2 k h1 (by omega) h3) hs
theorem lfold_att (G : Nat → Nat → Nat) (i j : Nat) : ∀ t, lfold U G i j t = 2 ∨ ∃ k, j < k ∧ k < j + 1 + t ∧ U i j k = true ∧ lfold U G i j t = G j k + 1
  | 0 => .inl rfl
  | t + 1 => by
    rw [lfold_succ]
    have ih := lfold_att G i j t
    have ih' : lfold U G i j t = 2 ∨ ∃ k, j < k ∧ k < j + 1 + (t + 1) ∧ U i j k = true ∧ lfold U G i j t = G j k + 1 := by
      rcases ih with h | ⟨k, h1, h2, h3, h4⟩
      · exact .inl h
      · exact .inr ⟨k, h1, by omega, h3, h4⟩
    unfold lstep
    split
    · rename_i h
      split
      · exact .inr ⟨j + 1 + t, by omega, by omega, h, rfl⟩
      · exact ih'
    · exact ih'
theorem Lv_ge (hn : 1 ≤ n) {i j k : Nat} (h1 : j < k) (h2 : k < n) (h3 : U i j k = true) : Lv U n j k + 1 ≤ Lv U n i j := by
  rw [Lv_eq hn i j]
  exact (lfold_ge (Lv U n) i j (n - (j + 1))).2 k h1 (by omega) h3
theorem Lv_two (hn : 1 ≤ n) (i j : Nat) : 2 ≤ Lv U n i j := by
  rw [Lv_eq hn i j]
  exact (lfold_ge (Lv U n) i j (n - (j + 1))).1
theorem Lv_att (hn : 1 ≤ n) {i j : Nat} (h : 2 < Lv U n i j) : ∃ k, j < k ∧ k < n ∧ U i j k = true ∧ Lv U n i j = Lv U n j k + 1 := by
  rw [Lv_eq hn i j] at h
  rcases lfold_att (U := U) (Lv U n) i j (n - (j + 1)) with e | ⟨k, h1, h2, h3, h4⟩
  · omega
  · exact ⟨k, h1, by omega, h3, by rw [Lv_eq hn i j]; exact h4⟩
/-- rows that bend so -/
def Ch (U : Nat → Nat → Nat → Bool) : List Nat → Prop
  | a :: b :: c :: r => a < b ∧ U a b c = true ∧ Ch U (b :: c :: r)
  | [a, b] => a < b
  | _ => True
theorem Ch_snoc {i j k : Nat} (h : U i j k = true) (hjk : j < k) : ∀ {pre : List Nat}, Ch U (pre ++ [i, j]) → Ch U (pre ++ [i, j, k])
  | [], c => ⟨c, h, hjk⟩
  | [a], c => ⟨c.1, c.2.1, c.2.2, h, hjk⟩
  | a :: b :: pre, c => by
    have e1 : a :: b :: pre ++ [i, j, k] = a :: b :: (pre ++ [i, j, k]) := rfl
    have ih := Ch_snoc h hjk (pre := b :: pre) (by
      cases pre with
      | nil => exact c.2.2
      | cons p q => exact c.2.2)
    cases pre with
    | nil => exact ⟨c.1, c.2.1, ih⟩
    | cons p q => exact ⟨c.1, c.2.1, ih⟩
theorem Tp_att : ∀ h i j, h ≤ i → i < j → ∃ pre : List Nat, Ch U (pre ++ [i, j]) ∧ (pre ++ [i, j]).length = Tp U h i j
  | 0, i, j, h1, h2 => ⟨[], h2, rfl⟩
  | h + 1, i, j, h1, h2 => by
    have ih := Tp_att h i j (by omega) h2
    show ∃ pre : List Nat, _ ∧ _ = if U h i j = true then (if Tp U h h i + 1 > Tp U h i j then Tp U h h i + 1 else Tp U h i j) else Tp U h i j
    split
    · rename_i hu
      split
      · obtain ⟨pre, c, l⟩ := Tp_att h h i (Nat.le_refl _) (by omega)
        refine ⟨pre ++ [h], ?_, ?_⟩
        · have := Ch_snoc hu h2 c
          simpa using this
        · simp only [List.length_append, List.length_cons, List.length_nil] at l ⊢
          omega
      · exact ih
    · exact ih
theorem Tp_two : ∀ h i j, 2 ≤ Tp U h i j
  | 0, _, _ => Nat.le_refl _
  | h + 1, i, j => by
    have := Tp_two h i j
    show 2 ≤ if U h i j = true then (if Tp U h h i + 1 > Tp U h i j then Tp U h h i + 1 else Tp U h i j) else Tp U h i j
    split
    · split <;> omega
    · exact this
theorem Ch_L (hn : 1 ≤ n) : ∀ (r : List Nat) (a b : Nat), Ch U (a :: b :: r) → (∀ x ∈ a :: b :: r, x < n) → r.length + 2 ≤ Lv U n a b
  | [], a, b, _, _ => Lv_two hn a b
  | c :: r, a, b, h, hm => by
    have ih := Ch_L hn r b c h.2.2 fun x hx => hm x (List.mem_cons_of_mem _ hx)
    have hbc : b < c := by
      cases r with
      | nil => exact h.2.2
      | cons d r => exact h.2.2.1
    have := Lv_ge hn hbc (hm c (by simp)) h.2.1
    simp only [List.length_cons]
    omega
/-! the greedy row -/
def nextK (U : Nat → Nat → Nat → Bool) (n : Nat) (a b left : Nat) : Option Nat := (List.range' (b + 1) (n - (b + 1))).find? fun k => U a b k && decide (left < Lv U n b k)
def grow (U : Nat → Nat → Nat → Bool) (n : Nat) : Nat → List Nat → Nat → Nat → List Nat
  | 0, pre, a, b => pre ++ [a, b]
  | f + 1, pre, a, b => match nextK U n a b (f + 1) with
    | some k => grow U n f (pre ++ [a]) b k
    | none => pre ++ [a, b]
theorem nextK_some {a b left k : Nat} (h : nextK U n a b left = some k) : b < k ∧ k < n ∧ U a b k = true ∧ left < Lv U n b k := by
  have h1 := List.find?_some h
  have h2 := List.mem_range'_1.mp (List.mem_of_find?_eq_some h)
  rw [Bool.and_eq_true, decide_eq_true_iff] at h1
  exact ⟨by omega, by omega, h1.1, h1.2⟩
theorem nextK_ex (hn : 1 ≤ n) {a b left : Nat} (hl : 1 ≤ left) (h : left + 2 ≤ Lv U n a b) : ∃ k, nextK U n a b left = some k := by
  obtain ⟨k, h1, h2, h3, h4⟩ := Lv_att hn (show 2 < Lv U n a b by omega)
  cases e : nextK U n a b left with
  | some k => exact ⟨k, rfl⟩
  | none =>
    have := List.find?_eq_none.mp e k (List.mem_range'_1.mpr ⟨by omega, by omega⟩)
    simp [h3] at this
    omega
theorem grow_ok (hn : 1 ≤ n) : ∀ (f : Nat) (pre : List Nat) (a b : Nat), Ch U (pre ++ [a, b]) → (∀ x ∈ pre ++ [a, b], x < n) → f + 2 ≤ Lv U n a b →
    Ch U (grow U n f pre a b) ∧ (∀ x ∈ grow U n f pre a b, x < n) ∧ (grow U n f pre a b).length = pre.length + 2 + f
  | 0, pre, a, b, h1, h2, _ => ⟨h1, h2, by simp [grow]⟩
  | f + 1, pre, a, b, h1, h2, h3 => by
    obtain ⟨k, hk⟩ := nextK_ex hn (left := f + 1) (by omega) (by omega) (U := U) (a := a) (b := b)
    obtain ⟨k1, k2, k3, k4⟩ := nextK_some hk
    have e : grow U n (f + 1) pre a b = grow U n f (pre ++ [a]) b k := by
      show (match nextK U n a b (f + 1) with | some k => grow U n f (pre ++ [a]) b k | none => pre ++ [a, b]) = _
      rw [hk]
    have c : Ch U ((pre ++ [a]) ++ [b, k]) := by
      have := Ch_snoc k3 k1 h1
      simpa using this
    have ih := grow_ok hn f (pre ++ [a]) b k c (fun x hx => by
      simp only [List.append_assoc, List.mem_append, List.mem_cons, List.not_mem_nil, or_false] at hx
      rcases hx with hx | hx | hx | hx
      · exact h2 x (by simp [hx])
      · exact h2 x (by simp [hx])
      · exact h2 x (by simp [hx])
      · omega) (by omega)
    rw [e]
    refine ⟨ih.1, ih.2.1, ?_⟩
    rw [ih.2.2]
    simp
    omega
end
/-- what is found at a place in order -/
theorem find_at {α : Type} {p : α → Bool} : ∀ {xs : List α} {i : Nat} {x : α}, xs[i]? = some x → p x = true → (∀ (j : Nat) (y : α), j < i → xs[j]? = some y → p y = false) → xs.find? p = some x
  | [], i, x, h, _, _ => by simp at h
  | y :: ys, 0, x, h, hp, _ => by
    simp at h
    subst h
    simp [List.find?, hp]
  | y :: ys, i + 1, x, h, hp, hn => by
    have h0 := hn 0 y (by omega) rfl
    rw [List.find?, h0]
    exact find_at (xs := ys) (i := i) (by simpa using h) hp fun j z hj hz => hn (j + 1) z (by omega) (by simpa using hz)
theorem find_no {α : Type} {p : α → Bool} {xs : List α} (h : ∀ (j : Nat) (y : α), xs[j]? = some y → p y = false) : xs.find? p = none :=
  List.find?_eq_none.mpr fun x hx => by
    obtain ⟨i, hi⟩ := List.mem_iff_getElem?.mp hx
    simp [h i x hi]
/-! tables as data -/
def tabD (keys : List (Nat × Nat)) (G : Nat → Nat → Nat) : List (List Int × D) := keys.map fun p => ([(p.1 : Int), (p.2 : Int)], natD (G p.1 p.2))
theorem tab_get {G : Nat → Nat → Nat} {a b : Nat} : ∀ {keys : List (Nat × Nat)}, (a, b) ∈ keys → getT (tabD keys G) [(a : Int), (b : Int)] = some (natD (G a b))
  | p :: keys, h => by
    by_cases e : p = (a, b)
    · subst e
      simp [tabD, getT]
    · have hm : (a, b) ∈ keys := by
        rcases List.mem_cons.mp h with h | h
        · exact absurd h.symm e
        · exact h
      have ih := tab_get (G := G) hm
      have hne : ¬ ([(p.1 : Int), (p.2 : Int)] = [(a : Int), (b : Int)]) := by
        intro z
        simp only [List.cons.injEq, Int.natCast_inj, and_true] at z
        exact e (Prod.ext z.1 z.2)
      unfold getT tabD at ih ⊢
      rw [List.map_cons, List.find?, decide_eq_false hne]
      exact ih
theorem tab_put {G : Nat → Nat → Nat} {a b : Nat} {keys : List (Nat × Nat)} (h : (a, b) ∉ keys) : putT (tabD keys G) [(a : Int), (b : Int)] (natD (G a b)) = tabD (keys ++ [(a, b)]) G := by
  have : ((tabD keys G).any fun kv => decide (kv.1 = [(a : Int), (b : Int)])) = false := by
    rw [List.any_eq_false]
    rintro ⟨k, v⟩ hk
    unfold tabD at hk
    obtain ⟨p, hp, e⟩ := List.mem_map.mp hk
    simp only [Prod.mk.injEq] at e
    obtain ⟨rfl, rfl⟩ := e
    simp only [decide_eq_true_eq]
    intro z
    simp only [List.cons.injEq, Int.natCast_inj, and_true] at z
    have : p = (a, b) := Prod.ext z.1 z.2
    exact h (this ▸ hp)
  unfold putT
  rw [if_neg (by rw [this]; simp)]
  simp [tabD]
theorem tab_len {G : Nat → Nat → Nat} {keys : List (Nat × Nat)} : (tabD keys G).length = keys.length := by simp [tabD]
end Bt

end BtM1_part
section BtC_part
set_option Elab.async false
set_option linter.all false
set_option maxRecDepth 100000
set_option maxHeartbeats 4000000
namespace Bt
open PySem PySem.Spec PyProof.Rows L2 BtR
section
variable {K : PySem.W.Frag} {C : Addr} {te ta tb tc : TE} {tt : TT} {δ : List Fr} {wi : TI} {g : TG}
theorem dw_dn {n m : Nat} {b : Int} (ha : ED K C ta δ (.int ((n : Nat) - 1))) (hb : ED K C tb δ (.int b)) (hc : ED K C tc δ (.int (-1))) (hn : 1 ≤ n ∧ n ≤ 100000) (h2 : -1 ≤ b ∧ b ≤ 100000) (hm : ((n : Int) - 1 - b).toNat = m) :
    DW K C (iRng3 (tCons ta (tCons tb (tCons tc tNil)))) δ m fun i d => d = .int ((n : Int) - 1 - (i : Nat)) := hm ▸ dw_r3 ha hb hc ⟨by omega, by omega⟩ h2
end
def uB (ps : List Pt) (b : Bool) (i j k : Nat) : Bool := decide (up ps i j k = b)
def tabKeys (j : Nat) : List (Nat × Nat) := (List.range j).flatMap fun j => (List.range j).map fun i => (i, j)
theorem tabKeys_succ (j : Nat) : tabKeys (j + 1) = tabKeys j ++ (List.range j).map fun i => (i, j) := by
  unfold tabKeys
  rw [List.range_succ, List.flatMap_append]
  simp
theorem tabKeys_mem {j : Nat} {p : Nat × Nat} : p ∈ tabKeys j ↔ p.1 < p.2 ∧ p.2 < j := by
  obtain ⟨a, b⟩ := p
  unfold tabKeys
  simp only [List.mem_flatMap, List.mem_range, List.mem_map, Prod.mk.injEq]
  constructor
  · rintro ⟨i', h1, j, h2, rfl, rfl⟩
    exact ⟨h2, h1⟩
  · rintro ⟨h1, h2⟩
    exact ⟨b, h2, a, h1, rfl, rfl⟩
theorem tabKeys_few : ∀ n, n < 8 → (tabKeys n).length ≤ 100 := by decide +kernel
def lefIn (n i t : Nat) : List (Nat × Nat) := (List.range t).map fun s => (i, n - 1 - s)
def lefKeys (n t : Nat) : List (Nat × Nat) := (List.range t).flatMap fun s => lefIn n (n - 1 - s) (n - 1 - (n - 1 - s))
theorem lefIn_succ (n i t : Nat) : lefIn n i (t + 1) = lefIn n i t ++ [(i, n - 1 - t)] := by
  unfold lefIn
  rw [List.range_succ, List.map_append]
  rfl
theorem lefKeys_succ (n t : Nat) : lefKeys n (t + 1) = lefKeys n t ++ lefIn n (n - 1 - t) (n - 1 - (n - 1 - t)) := by
  unfold lefKeys
  rw [List.range_succ, List.flatMap_append]
  simp
theorem lefIn_mem {n i t : Nat} {p : Nat × Nat} (ht : t ≤ n - 1 - i) : p ∈ lefIn n i t ↔ p.1 = i ∧ n - t ≤ p.2 ∧ i < p.2 ∧ p.2 < n := by
  obtain ⟨a, b⟩ := p
  unfold lefIn
  simp only [List.mem_range, List.mem_map, Prod.mk.injEq]
  constructor
  · rintro ⟨s, h1, rfl, rfl⟩
    exact ⟨rfl, by omega, by omega, by omega⟩
  · rintro ⟨rfl, h2, h3, h4⟩
    exact ⟨n - 1 - b, by omega, rfl, by omega⟩
theorem lefKeys_mem {n t : Nat} {p : Nat × Nat} (ht : t ≤ n) : p ∈ lefKeys n t ↔ n - t ≤ p.1 ∧ p.1 < p.2 ∧ p.2 < n := by
  obtain ⟨a, b⟩ := p
  unfold lefKeys
  simp only [List.mem_flatMap, List.mem_range]
  constructor
  · rintro ⟨s, h1, h2⟩
    have := (lefIn_mem (Nat.le_refl _)).mp h2
    omega
  · rintro ⟨h1, h2, h3⟩
    refine ⟨n - 1 - a, by omega, (lefIn_mem (Nat.le_refl _)).mpr ⟨?_, ?_, ?_, ?_⟩⟩ <;> simp only <;> omega
theorem lefKeys_few : ∀ n, n < 8 → ∀ t, t < 8 → (lefKeys n t).length ≤ 100 := by decide +kernel
section
variable {P : Program} {w : World} {K : PySem.W.Frag} {mg : Str → Option Value} {base : Heap}
/-! ### table_of -/
def f_table_of (ds : List D) (d : D) : Prop := ∃ (ps : List Pt) (b : Bool), ds = [shD ps, .bl b] ∧ (Smalls ps ∧ ps.length ≤ 7) ∧ d = .dT (tabD (tabKeys ps.length) (Tv (uB ps b)))
abbrev N_table_of : List Str := ["sheet", "up", "found", "j", "i", "most", "h"]
theorem sc_table_of : FnScope N_table_of ["sheet", "up"] (defScope s_table_of) := ⟨rfl, rfl, rfl, by decide +kernel, rfl, by decide +kernel, by decide +kernel⟩
theorem cal_table_of (T : Tx K mg) : Cal P w K mg base 3 "table_of" ["sheet", "up"] f_table_of := by
  obtain ⟨fd, F⟩ := T.fd_table_of
  refine calOf (N := N_table_of) T.gl_table_of F (fun _ _ _ _ _ _ us hl => match us, hl with | [_, _], _ => rfl) (okP F sc_table_of (fun ds d h => ?_) fun cdv A outer s H E hr ds d h => ⟨_, 
    (pss_cons (ps_set (i := 2) sc_table_of.nd rfl (Or.inl rfl) pe_dnewT)
    (pss_cons (ps_for PassesOwn.never rfl (pi_range1 (by rfl) T.free_range (pa_cons (pe_callB call_len_seq (by rfl) (T.free_len) bb_len (pa_cons (pv 0) pa_nil)) pa_nil)) (pg_name (i := 3) sc_table_of.nd rfl (Or.inl rfl)) 
      (pss_cons (ps_for PassesOwn.never rfl (pi_range1 (by rfl) T.free_range (pa_cons (pv 3) pa_nil)) (pg_name (i := 4) sc_table_of.nd rfl (Or.inl rfl)) 
        (pss_cons (ps_set (i := 5) sc_table_of.nd rfl (Or.inl rfl) pe_int)
        (pss_cons (ps_for PassesOwn.never rfl (pi_range1 (by rfl) T.free_range (pa_cons (pv 4) pa_nil)) (pg_name (i := 6) sc_table_of.nd rfl (Or.inl rfl)) 
          (pss_cons (ps_if (pt_cmpR op_eq (pe_callP (cal_is_up T) (hr.mono (by decide)) (by rfl) (pa_cons (pv 0) (pa_cons (pv 6) (pa_cons (pv 4) (pa_cons (pv 3) pa_nil))))) (pv 1) (nomark _)) 
            (pss_cons (ps_set (i := 5) sc_table_of.nd rfl (Or.inl rfl) (pe_callB (call_max2 rfl) (by rfl) (T.free_max) bb_max (pa_cons (pv 5) (pa_cons (pe_op op_add (pe_dget (hu_of hr) (pv 2) (pe_tup (pa_cons (pv 6) (pa_cons (pv 4) pa_nil))) (fun _ _ => rfl)) pe_int) pa_nil)))) pss_nil) pss_nil) pss_nil))
        (pss_cons (ps_dput (hu_of hr) (pv 2) (pe_tup (pa_cons (pv 4) (pa_cons (pv 3) pa_nil))) (pv 5) rfl) pss_nil)))) pss_nil))
    (pss_cons (ps_ret (pv 2)) pss_nil))), ?_⟩)
  · unfold f_table_of at h
    repeat (first | (obtain ⟨e, _⟩ := h; rw [e]; rfl) | (obtain ⟨_, h⟩ := h))
  · obtain ⟨ps, b, rfl, ⟨hs, hl⟩, rfl⟩ := h
    refine q_newT ?_
    refine q_for (n := ps.length) (dw_r1 (ed_lenSh (ed_var rfl)) (by omega)) (fun j δ => δ = [.dat (shD ps), .dat (.bl b), .oT (tabD (tabKeys j) (Tv (uB ps b))), .un, .un, .un, .un]) (fun _ => False) rfl Le.rfl ?_ ?_ (fun _ z => z.elim)
    · rintro j d δ1 hj rfl rfl
      refine ⟨[3], _, tg_name, ?_⟩
      refine q_for (n := j) (dw_r1 (ed_var rfl) (by omega)) (fun i δ => δ = [.dat (shD ps), .dat (.bl b), .oT (tabD (tabKeys j ++ (List.range i).map fun i => (i, j)) (Tv (uB ps b))), .dat (natD j), .un, .un, .un]) (fun _ => False) (by
        show _ = _
        simp; rfl) Le.rfl ?_ ?_ (fun _ z => z.elim)
      · rintro i d δ1 hi rfl rfl
        refine ⟨[4], _, tg_name, ?_⟩
        refine q_asg ed_int ?_
        refine q_for (n := i) (dw_r1 (ed_var rfl) (by omega)) (fun h δ => δ = [.dat (shD ps), .dat (.bl b), .oT (tabD (tabKeys j ++ (List.range i).map fun i => (i, j)) (Tv (uB ps b))), .dat (natD j), .dat (natD i), .dat (natD (Tp (uB ps b) h i j)), .un]) (fun _ => False) rfl Le.rfl ?_ ?_ (fun _ z => z.elim)
        · rintro h d δ1 hh rfl rfl
          refine ⟨[6], _, tg_name, ?_⟩
          have hu : f_is_up [shD ps, natD h, natD i, natD j] (.bl (up ps h i j)) := ⟨ps, _, _, _, rfl, ⟨hs, by omega, by omega, by omega⟩, rfl⟩
          have hg : getT (tabD (tabKeys j ++ (List.range i).map fun i => (i, j)) (Tv (uB ps b))) [(h : Int), (i : Int)] = some (natD (Tv (uB ps b) h i)) := tab_get (List.mem_append_left _ (tabKeys_mem.mpr ⟨hh, hi⟩))
          refine q_when (td_test (ed_eqB (ed_call (ea_cons (ed_var rfl) (ea_cons (ed_var rfl) (ea_cons (ed_var rfl) (ea_cons (ed_var rfl) ea_nil)))) hu) (ed_var rfl))) (fun e => ?_) fun e => ?_
          · refine q_asg (d := natD (Tp (uB ps b) (h + 1) i j)) (ed_is (ed_max2 (ed_var rfl) (ed_add (i := (Tv (uB ps b) h i : Nat)) (ed_getT (ns := [(h : Int), (i : Int)]) (et_own rfl) (ea_cons (ed_var rfl) (ea_cons (ed_var rfl) ea_nil)) (by simp) hg) ed_int)) ?_) (sd_nx rfl (.eq (.eq (.eq (.eq (.eq (.eq (.un .nil))))))))
            have e' : uB ps b h i j = true := e
            show D.int _ = D.int ((if uB ps b h i j = true then _ else _ : Nat) : Int)
            rw [if_pos e']
            show D.int _ = D.int ((if Tv (uB ps b) h i + 1 > Tp (uB ps b) h i j then Tv (uB ps b) h i + 1 else Tp (uB ps b) h i j : Nat) : Int)
            congr 1
            split <;> split <;> omega
          · refine sd_nx rfl ?_
            have e' : ¬ uB ps b h i j = true := by
              unfold uB
              rw [e]
              exact Bool.false_ne_true
            have : Tp (uB ps b) (h + 1) i j = Tp (uB ps b) h i j := if_neg e'
            rw [this]
            exact .eq (.eq (.eq (.eq (.eq (.eq (.un .nil))))))
        · rintro δ1 rfl
          refine q_putT (i := 2) (ns := [(i : Int), (j : Int)]) (d := natD (Tv (uB ps b) i j)) (ed_var rfl) rfl (ea_cons (ed_var rfl) (ea_cons (ed_var rfl) ea_nil)) rfl (by simp) ?_ ?_
          · have := tabKeys_few j (by omega)
            rw [tab_len, List.length_append, List.length_map, List.length_range]
            omega
          · refine sd_nx rfl ?_
            rw [tab_put, List.range_succ, List.map_append, ← List.append_assoc]
            · exact .eq (.eq (.eq (.eq (.un (.un (.un .nil))))))
            · intro hm
              rcases List.mem_append.mp hm with hm | hm
              · have := tabKeys_mem.mp hm
                simp only at this
                omega
              · simp at hm
      · rintro δ1 rfl
        refine sd_nx rfl ?_
        rw [tabKeys_succ]
        exact .eq (.eq (.eq (.un (.eq (.eq (.eq .nil))))))
    · rintro δ1 rfl
      exact q_keepT (i := 2) rfl rfl (q_ret (ed_var rfl) rfl)
/-! ### left_table -/
def f_left_table (ds : List D) (d : D) : Prop := ∃ (ps : List Pt) (b : Bool), ds = [shD ps, .bl b] ∧ (Smalls ps ∧ 1 ≤ ps.length ∧ ps.length ≤ 7) ∧ d = .dT (tabD (lefKeys ps.length ps.length) (Lv (uB ps b) ps.length))
abbrev N_left_table : List Str := ["sheet", "up", "found", "many", "i", "j", "most", "k"]
theorem sc_left_table : FnScope N_left_table ["sheet", "up"] (defScope s_left_table) := ⟨rfl, rfl, rfl, by decide +kernel, rfl, by decide +kernel, by decide +kernel⟩
theorem cal_left_table (T : Tx K mg) : Cal P w K mg base 3 "left_table" ["sheet", "up"] f_left_table := by
  obtain ⟨fd, F⟩ := T.fd_left_table
  refine calOf (N := N_left_table) T.gl_left_table F (fun _ _ _ _ _ _ us hl => match us, hl with | [_, _], _ => rfl) (okP F sc_left_table (fun ds d h => ?_) fun cdv A outer s H E hr ds d h => ⟨_, 
    (pss_cons (ps_set (i := 2) sc_left_table.nd rfl (Or.inl rfl) pe_dnewT)
    (pss_cons (ps_set (i := 3) sc_left_table.nd rfl (Or.inl rfl) (pe_callB call_len_seq (by rfl) (T.free_len) bb_len (pa_cons (pv 0) pa_nil)))
    (pss_cons (ps_for PassesOwn.never rfl (pi_range3 (by rfl) T.free_range (pa_cons (pe_op op_sub (pv 3) pe_int) (pa_cons (pe_un un_neg pe_int) (pa_cons (pe_un un_neg pe_int) pa_nil)))) (pg_name (i := 4) sc_left_table.nd rfl (Or.inl rfl)) 
      (pss_cons (ps_for PassesOwn.never rfl (pi_range3 (by rfl) T.free_range (pa_cons (pe_op op_sub (pv 3) pe_int) (pa_cons (pv 4) (pa_cons (pe_un un_neg pe_int) pa_nil)))) (pg_name (i := 5) sc_left_table.nd rfl (Or.inl rfl)) 
        (pss_cons (ps_set (i := 6) sc_left_table.nd rfl (Or.inl rfl) pe_int)
        (pss_cons (ps_for PassesOwn.never rfl (pi_range2 (by rfl) T.free_range (pa_cons (pe_op op_add (pv 5) pe_int) (pa_cons (pv 3) pa_nil))) (pg_name (i := 7) sc_left_table.nd rfl (Or.inl rfl)) 
          (pss_cons (ps_if (pt_cmpR op_eq (pe_callP (cal_is_up T) (hr.mono (by decide)) (by rfl) (pa_cons (pv 0) (pa_cons (pv 4) (pa_cons (pv 5) (pa_cons (pv 7) pa_nil))))) (pv 1) (nomark _)) 
            (pss_cons (ps_set (i := 6) sc_left_table.nd rfl (Or.inl rfl) (pe_callB (call_max2 rfl) (by rfl) (T.free_max) bb_max (pa_cons (pv 6) (pa_cons (pe_op op_add (pe_dget (hu_of hr) (pv 2) (pe_tup (pa_cons (pv 5) (pa_cons (pv 7) pa_nil))) (fun _ _ => rfl)) pe_int) pa_nil)))) pss_nil) pss_nil) pss_nil))
        (pss_cons (ps_dput (hu_of hr) (pv 2) (pe_tup (pa_cons (pv 4) (pa_cons (pv 5) pa_nil))) (pv 6) rfl) pss_nil)))) pss_nil))
    (pss_cons (ps_ret (pv 2)) pss_nil)))), ?_⟩)
  · unfold f_left_table at h
    repeat (first | (obtain ⟨e, _⟩ := h; rw [e]; rfl) | (obtain ⟨_, h⟩ := h))
  · obtain ⟨ps, b, rfl, ⟨hs, hn, hl⟩, rfl⟩ := h
    refine q_newT (q_asg (ed_lenSh (ed_var rfl)) ?_)
    obtain ⟨n, en⟩ : ∃ n, n = ps.length := ⟨_, rfl⟩
    rw [← en] at hn hl ⊢
    refine q_for (n := n) (dw_dn (n := n) (b := -1) (ed_sub (ed_var rfl) ed_int) (ed_neg ed_int) (ed_neg ed_int) ⟨hn, by omega⟩ ⟨by omega, by omega⟩ (by omega)) (fun t δ => δ = [.dat (shD ps), .dat (.bl b), .oT (tabD (lefKeys n t) (Lv (uB ps b) n)), .dat (natD n), .un, .un, .un, .un]) (fun _ => False) rfl Le.rfl ?_ ?_ (fun _ z => z.elim)
    · rintro t d δ1 ht hd rfl
      obtain ⟨i, hi⟩ : ∃ i, i = n - 1 - t := ⟨_, rfl⟩
      obtain rfl : d = natD i := hd.trans (congrArg D.int (by omega))
      refine ⟨[4], _, tg_name, ?_⟩
      refine q_for (n := n - 1 - i) (dw_dn (n := n) (b := (i : Int)) (ed_sub (ed_var rfl) ed_int) (ed_var rfl) (ed_neg ed_int) ⟨hn, by omega⟩ ⟨by omega, by omega⟩ (by omega)) (fun r δ => δ = [.dat (shD ps), .dat (.bl b), .oT (tabD (lefKeys n t ++ lefIn n i r) (Lv (uB ps b) n)), .dat (natD n), .dat (natD i), .un, .un, .un]) (fun _ => False) (by
        show _ = _
        simp [lefIn]) Le.rfl ?_ ?_ (fun _ z => z.elim)
      · rintro r d δ1 hr hd rfl
        obtain ⟨j, hj⟩ : ∃ j, j = n - 1 - r := ⟨_, rfl⟩
        obtain rfl : d = natD j := hd.trans (congrArg D.int (by omega))
        refine ⟨[5], _, tg_name, ?_⟩
        refine q_asg ed_int ?_
        refine q_for (n := n - (j + 1)) (dw_r2 (a := j + 1) (b := n) (ed_addN (k := 1) (ed_var rfl) ed_int) (ed_var rfl) ⟨by omega, by omega⟩) (fun s δ => δ = [.dat (shD ps), .dat (.bl b), .oT (tabD (lefKeys n t ++ lefIn n i r) (Lv (uB ps b) n)), .dat (natD n), .dat (natD i), .dat (natD j), .dat (natD (lfold (uB ps b) (Lv (uB ps b) n) i j s)), .un]) (fun _ => False) rfl Le.rfl ?_ ?_ (fun _ z => z.elim)
        · rintro s d δ1 hh rfl rfl
          refine ⟨[7], _, tg_name, ?_⟩
          have hu : f_is_up [shD ps, natD i, natD j, natD (j + 1 + s)] (.bl (up ps i j (j + 1 + s))) := ⟨ps, _, _, _, rfl, ⟨hs, by omega, by omega, by omega⟩, rfl⟩
          have hg : getT (tabD (lefKeys n t ++ lefIn n i r) (Lv (uB ps b) n)) [(j : Int), ((j + 1 + s : Nat) : Int)] = some (natD (Lv (uB ps b) n j (j + 1 + s))) := tab_get (List.mem_append_left _ ((lefKeys_mem (by omega)).mpr ⟨by simp only; omega, by simp only; omega, by simp only; omega⟩))
          refine q_when (td_test (ed_eqB (ed_call (ea_cons (ed_var rfl) (ea_cons (ed_var rfl) (ea_cons (ed_var rfl) (ea_cons (ed_var rfl) ea_nil)))) hu) (ed_var rfl))) (fun e => ?_) fun e => ?_
          · refine q_asg (d := natD (lfold (uB ps b) (Lv (uB ps b) n) i j (s + 1))) (ed_is (ed_max2 (ed_var rfl) (ed_add (i := (Lv (uB ps b) n j (j + 1 + s) : Nat)) (ed_getT (ns := [(j : Int), ((j + 1 + s : Nat) : Int)]) (et_own rfl) (ea_cons (ed_var rfl) (ea_cons (ed_var rfl) ea_nil)) (by simp) hg) ed_int)) ?_) (sd_nx rfl (.eq (.eq (.eq (.eq (.eq (.eq (.eq (.un .nil)))))))))
            have e' : uB ps b i j (j + 1 + s) = true := e
            rw [lfold_succ]
            unfold lstep
            rw [if_pos e']
            refine congrArg D.int ?_
            split <;> split <;> omega
          · refine sd_nx rfl ?_
            have e' : ¬ uB ps b i j (j + 1 + s) = true := by
              unfold uB
              rw [e]
              exact Bool.false_ne_true
            have : lfold (uB ps b) (Lv (uB ps b) n) i j (s + 1) = lfold (uB ps b) (Lv (uB ps b) n) i j s := by
              rw [lfold_succ]
              exact if_neg e'
            rw [this]
            exact .eq (.eq (.eq (.eq (.eq (.eq (.eq (.un .nil)))))))
        · rintro δ1 rfl
          refine q_putT (i := 2) (ns := [(i : Int), (j : Int)]) (d := natD (Lv (uB ps b) n i j)) (ed_is (ed_var rfl) (by rw [← Lv_eq hn])) rfl (ea_cons (ed_var rfl) (ea_cons (ed_var rfl) ea_nil)) rfl (by simp) ?_ ?_
          · have := lefKeys_few n (by omega) t (by omega)
            rw [tab_len, List.length_append, lefIn, List.length_map, List.length_range]
            omega
          · refine sd_nx rfl ?_
            rw [tab_put, lefIn_succ, ← List.append_assoc, ← hj]
            · exact .eq (.eq (.eq (.eq (.eq (.un (.un (.un .nil)))))))
            · intro hm
              rcases List.mem_append.mp hm with hm | hm
              · have := (lefKeys_mem (by omega)).mp hm
                simp only at this
                omega
              · have := (lefIn_mem (by omega)).mp hm
                simp only at this
                omega
      · rintro δ1 rfl
        refine sd_nx rfl ?_
        rw [lefKeys_succ, ← hi]
        exact .eq (.eq (.eq (.eq (.un (.eq (.eq (.eq .nil)))))))
    · rintro δ1 rfl
      exact q_keepT (i := 2) rfl rfl (q_ret (ed_var rfl) rfl)
end
end Bt

end BtC_part
section BtD_part
set_option Elab.async false
set_option linter.all false
set_option maxRecDepth 100000
set_option maxHeartbeats 4000000
namespace Bt
open PySem PySem.Spec PyProof.Rows L2 BtR
def optD : Option (List Nat) → D
  | none => .non
  | some r => rowD r
def firstP (U : Nat → Nat → Nat → Bool) (n many : Nat) : Option (List Nat) := ((pairsTo n n).find? fun p => decide (many ≤ Lv U n p.1 p.2)).map fun p => grow U n (many - 2) [] p.1 p.2
theorem row_at1 {pre : List Nat} {a b : Nat} : atI ((pre ++ [a, b]).map natD) (-1) = some (natD b) :=
  at_neg (k := 1) (by decide) (by simp) (by
    rw [List.length_map, List.length_append]
    show ((pre ++ [a, b]).map natD)[pre.length + 2 - 1]? = _
    have : pre.length + 2 - 1 = pre.length + 1 := by omega
    rw [this, List.map_append, List.getElem?_append_right (by simp)]
    simp)
theorem row_at2 {pre : List Nat} {a b : Nat} : atI ((pre ++ [a, b]).map natD) (-2) = some (natD a) :=
  at_neg (k := 2) (by decide) (by simp) (by
    rw [List.length_map, List.length_append]
    show ((pre ++ [a, b]).map natD)[pre.length + 2 - 2]? = _
    have : pre.length + 2 - 2 = pre.length := by omega
    rw [this, List.map_append, List.getElem?_append_right (by simp)]
    simp)
section
variable {P : Program} {w : World} {K : PySem.W.Frag} {mg : Str → Option Value} {base : Heap}
theorem dw_listN {C : Addr} {te : TE} {δ : List Fr} {ds : List D} {n : Nat} (h : ED K C te δ (.lst ds)) (hn : ds.length = n) : DW K C (iList K te) δ n fun i d => ds[i]? = some d := hn ▸ dw_list h
theorem dw_tupN {C : Addr} {te : TE} {δ : List Fr} {ds : List D} {n : Nat} (h : ED K C te δ (.tup ds)) (hn : ds.length = n) : DW K C (iTup K te) δ n fun i d => ds[i]? = some d := hn ▸ dw_tup h
/-! ### first_row -/
def f_first_row (ds : List D) (d : D) : Prop := ∃ (ps : List Pt) (b : Bool) (many : Nat), ds = [shD ps, .bl b, natD many] ∧ (Smalls ps ∧ 1 ≤ ps.length ∧ ps.length ≤ 7 ∧ many ≤ 100) ∧ d = optD (firstP (uB ps b) ps.length many)
abbrev N_first_row : List Str := ["sheet", "up", "many", "told", "i", "j", "row", "left", "k"]
theorem sc_first_row : FnScope N_first_row ["sheet", "up", "many"] (defScope s_first_row) := ⟨rfl, rfl, rfl, by decide +kernel, rfl, by decide +kernel, by decide +kernel⟩
theorem cal_first_row (T : Tx K mg) : Cal P w K mg base 4 "first_row" ["sheet", "up", "many"] f_first_row := by
  obtain ⟨fd, F⟩ := T.fd_first_row
  refine calOf (N := N_first_row) T.gl_first_row F (fun _ _ _ _ _ _ us hl => match us, hl with | [_, _, _], _ => rfl) (okP F sc_first_row (fun ds d h => ?_) fun cdv A outer s H E hr ds d h => ⟨_, 
    (pss_cons (ps_set (i := 3) sc_first_row.nd rfl (Or.inl rfl) (pe_callP (cal_left_table T) (hr.mono (by decide)) (by rfl) (pa_cons (pv 0) (pa_cons (pv 1) pa_nil))))
    (pss_cons (ps_for PassesOwn.never rfl (pi_list (pe_callP (cal_pairs_of T) (hr.mono (by decide)) (by rfl) (pa_cons (pv 0) pa_nil))) (pg_tupK (K := K) (n := 2) rfl rfl (pgs_cons (pg_name (i := 4) sc_first_row.nd rfl (Or.inl rfl)) (pgs_cons (pg_name (i := 5) sc_first_row.nd rfl (Or.inl rfl)) pgs_nil))) 
      (pss_cons (ps_if (pt_cmpR op_ge (pe_dget (hu_of hr) (pv 3) (pe_tup (pa_cons (pv 4) (pa_cons (pv 5) pa_nil))) (fun _ _ => rfl)) (pv 2) (nomark _)) 
        (pss_cons (ps_set (i := 6) sc_first_row.nd rfl (Or.inl rfl) (pe_tup (pa_cons (pv 4) (pa_cons (pv 5) pa_nil))))
        (pss_cons (ps_while PassesOwn.never (pt_cmpR op_lt (pe_callB call_len_seq (by rfl) (T.free_len) bb_len (pa_cons (pv 6) pa_nil)) (pv 2) (nomark _)) 
          (pss_cons (ps_set (i := 7) sc_first_row.nd rfl (Or.inl rfl) (pe_op op_sub (pv 2) (pe_callB call_len_seq (by rfl) (T.free_len) bb_len (pa_cons (pv 6) pa_nil))))
          (pss_cons (ps_for PassesOwn.never rfl (pi_range2 (by rfl) T.free_range (pa_cons (pe_op op_add (pe_ix (ix_tupK (K := K) rfl) (pv 6) (pe_un un_neg pe_int) (fun _ _ => rfl)) pe_int) (pa_cons (pe_callB call_len_seq (by rfl) (T.free_len) bb_len (pa_cons (pv 0) pa_nil)) pa_nil))) (pg_name (i := 8) sc_first_row.nd rfl (Or.inl rfl)) 
            (pss_cons (ps_if (PW.pt (pw_and (pt_cmpR op_eq (pe_callP (cal_is_up T) (hr.mono (by decide)) (by rfl) (pa_cons (pv 0) (pa_cons (pe_ix (ix_tupK (K := K) rfl) (pv 6) (pe_un un_neg pe_int) (fun _ _ => rfl)) (pa_cons (pe_ix (ix_tupK (K := K) rfl) (pv 6) (pe_un un_neg pe_int) (fun _ _ => rfl)) (pa_cons (pv 8) pa_nil))))) (pv 1) (nomark _)) (pw_and1 (pt_cmpR op_gt (pe_dget (hu_of hr) (pv 3) (pe_tup (pa_cons (pe_ix (ix_tupK (K := K) rfl) (pv 6) (pe_un un_neg pe_int) (fun _ _ => rfl)) (pa_cons (pv 8) pa_nil))) (fun _ _ => rfl)) (pv 7) (nomark _))))) 
              (pss_cons (ps_set (i := 6) sc_first_row.nd rfl (Or.inl rfl) (pe_op op_catA (pv 6) (pe_tup (pa_cons (pv 8) pa_nil))))
              (pss_cons ps_break pss_nil)) pss_nil) pss_nil)) pss_nil)))
        (pss_cons (ps_ret (pv 6)) pss_nil))) pss_nil) pss_nil))
    (pss_cons (ps_ret pe_non) pss_nil))), ?_⟩)
  · unfold f_first_row at h
    repeat (first | (obtain ⟨e, _⟩ := h; rw [e]; rfl) | (obtain ⟨_, h⟩ := h))
  · obtain ⟨ps, b, many, rfl, ⟨hs, hn, hl, hm⟩, rfl⟩ := h
    have hp : f_pairs_of [shD ps] (.lst ((pairsTo ps.length ps.length).map prN)) := ⟨ps, rfl, hl, rfl⟩
    obtain ⟨n, en⟩ : ∃ n, n = ps.length := ⟨_, rfl⟩
    refine q_asg (d := .dT (tabD (lefKeys n n) (Lv (uB ps b) n))) (ed_call (ea_cons (ed_var rfl) (ea_cons (ed_var rfl) ea_nil)) ⟨ps, b, rfl, ⟨hs, hn, hl⟩, by rw [en]⟩) ?_
    rw [← en] at hn hl hp ⊢
    obtain ⟨U, eU⟩ : ∃ U, U = uB ps b := ⟨_, rfl⟩
    rw [← eU]
    refine q_for (n := (pairsTo n n).length) (dw_listN (ed_call (ea_cons (ed_var rfl) ea_nil) hp) (List.length_map _)) (fun i δ => δ = [.dat (shD ps), .dat (.bl b), .dat (natD many), .dat (.dT (tabD (lefKeys n n) (Lv U n))), .un, .un, .un, .un, .un] ∧ ∀ (j : Nat) y, j < i → (pairsTo n n)[j]? = some y → decide (many ≤ Lv U n y.1 y.2) = false) (fun _ => False) ⟨rfl, fun _ _ z => absurd z (Nat.not_lt_zero _)⟩ Le.rfl ?_ ?_ (fun _ z => z.elim)
    · rintro t d δ1 ht hd ⟨rfl, hno⟩
      obtain ⟨⟨i, j⟩, hx, rfl⟩ := y_map hd
      have hij := pairs_mem.mp (List.mem_of_getElem? hx)
      dsimp only at hij
      refine ⟨[4, 5], _, tg_tup [4, 5] rfl rfl, ?_⟩
      have hg : ∀ {a c : Nat}, a < c → c < n → getT (tabD (lefKeys n n) (Lv U n)) [(a : Int), (c : Int)] = some (natD (Lv U n a c)) := fun h1 h2 => tab_get ((lefKeys_mem (Nat.le_refl _)).mpr ⟨by omega, h1, h2⟩)
      refine q_when (td_test (ed_ge (i := (Lv U n i j : Nat)) (j := (many : Nat)) (ed_getT (ns := [(i : Int), (j : Int)]) (ed_T (ed_var rfl)) (ea_cons (ed_var rfl) (ea_cons (ed_var rfl) ea_nil)) (by simp) (hg hij.2.1 hij.2.2)) (ed_var rfl))) (fun e => ?_) fun e => ?_
      · have hge : many ≤ Lv U n i j := Int.ofNat_le.mp (of_decide_eq_true e)
        have hfind : firstP U n many = some (grow U n (many - 2) [] i j) := by
          unfold firstP
          rw [find_at hx (decide_eq_true hge) hno]
          rfl
        rw [hfind]
        obtain ⟨tgt, et⟩ : ∃ tgt, tgt = grow U n (many - 2) [] i j := ⟨_, rfl⟩
        rw [← et]
        refine q_asg (d := rowD ([] ++ [i, j])) (ed_tup (ea_cons (ed_var rfl) (ea_cons (ed_var rfl) ea_nil)) (by simp)) ?_
        refine q_while (m0 := many - 2) (fun m δ => ∃ pre a c, m = many - (pre.length + 2) ∧ pre.length ≤ 100 ∧ a < c ∧ c < n ∧ m + 2 ≤ Lv U n a c ∧ grow U n m pre a c = tgt ∧ δ = [.dat (shD ps), .dat (.bl b), .dat (natD many), .dat (.dT (tabD (lefKeys n n) (Lv U n))), .dat (natD i), .dat (natD j), .dat (rowD (pre ++ [a, c])), .un, .un]) ⟨[], i, j, rfl, by simp, hij.2.1, hij.2.2, by have := Lv_two (U := U) hn i j; omega, et.symm, rfl⟩ Le.rfl (fun _ => False) ?_ (fun _ z => z.elim)
        rintro m δ1 ⟨pre, a, c, em, hpl, hac, hcn, hLm, hgr, rfl⟩
        have hlr : (pre ++ [a, c]).length = pre.length + 2 := by simp
        refine ⟨_, td_test (ed_lt (ed_lenRow (ed_var rfl)) (ed_var rfl)), fun e1 => ?_, fun e1 => ?_⟩
        · have hlt : pre.length + 2 < many := by
            have := of_decide_eq_true e1
            omega
          obtain ⟨f, hf⟩ : ∃ f, m = f + 1 := ⟨m - 1, by omega⟩
          subst hf
          obtain ⟨k, hk⟩ := nextK_ex (U := U) hn (left := f + 1) (by omega) hLm
          obtain ⟨k1, k2, k3, k4⟩ := nextK_some hk
          have hgr' : grow U n f (pre ++ [a]) c k = tgt := by
            rw [← hgr]
            show _ = (match nextK U n a c (f + 1) with | some k => grow U n f (pre ++ [a]) c k | none => pre ++ [a, c])
            rw [hk]
          refine q_asg (d := natD (f + 1)) (ed_is (ed_sub (ed_var rfl) (ed_lenRow (ed_var rfl))) (congrArg D.int (by omega))) ?_
          refine q_for (n := n - (c + 1)) (dw_r2 (a := c + 1) (b := n) (ed_addN (k := 1) (ed_ixT (ed_var rfl) (ed_neg ed_int) row_at1) ed_int) (ed_is (ed_lenSh (ed_var rfl)) (by rw [en]; rfl)) ⟨by omega, by omega⟩) (fun s δ => δ = [.dat (shD ps), .dat (.bl b), .dat (natD many), .dat (.dT (tabD (lefKeys n n) (Lv U n))), .dat (natD i), .dat (natD j), .dat (rowD (pre ++ [a, c])), .dat (natD (f + 1)), .un] ∧ ∀ (v : Nat) y, v < s → (List.range' (c + 1) (n - (c + 1)))[v]? = some y → (U a c y && decide (f + 1 < Lv U n c y)) = false)
            (fun δ => δ = [.dat (shD ps), .dat (.bl b), .dat (natD many), .dat (.dT (tabD (lefKeys n n) (Lv U n))), .dat (natD i), .dat (natD j), .dat (rowD ((pre ++ [a]) ++ [c, k])), .dat (natD (f + 1)), .un]) ⟨rfl, fun _ _ z => absurd z (Nat.not_lt_zero _)⟩ Le.rfl ?_ ?_ ?_
          · rintro s d δ1 hs1 rfl ⟨rfl, hno1⟩
            refine ⟨[8], _, tg_name, ?_⟩
            have hrg : (List.range' (c + 1) (n - (c + 1)))[s]? = some (c + 1 + s) := by rw [List.getElem?_range' hs1, Nat.one_mul]
            have hu : f_is_up [shD ps, natD a, natD c, natD (c + 1 + s)] (.bl (up ps a c (c + 1 + s))) := ⟨ps, _, _, _, rfl, ⟨hs, by omega, by omega, by omega⟩, rfl⟩
            have hU : decide (up ps a c (c + 1 + s) = b) = U a c (c + 1 + s) := by rw [eU]; rfl
            refine q_when (td_and (td_is (td_test (ed_eqB (ed_call (ea_cons (ed_var rfl) (ea_cons (ed_ixT (ed_var rfl) (ed_neg ed_int) row_at2) (ea_cons (ed_ixT (ed_var rfl) (ed_neg ed_int) row_at1) (ea_cons (ed_var rfl) ea_nil)))) hu) (ed_var rfl))) hU) fun _ => td_is (td_test (ed_gt (i := (Lv U n c (c + 1 + s) : Nat)) (j := ((f + 1 : Nat) : Int)) (ed_getT (ns := [(c : Int), ((c + 1 + s : Nat) : Int)]) (ed_T (ed_var rfl)) (ea_cons (ed_ixT (ed_var rfl) (ed_neg ed_int) row_at1) (ea_cons (ed_var rfl) ea_nil)) (by simp) (hg (by omega) (by omega))) (ed_var rfl))) (b := decide (f + 1 < Lv U n c (c + 1 + s))) (decide_eq_decide.mpr (by omega))) (fun e2 => ?_) fun e2 => ?_
            · have hkk : nextK U n a c (f + 1) = some (c + 1 + s) := find_at hrg e2 hno1
              obtain rfl : k = c + 1 + s := Option.some.inj (hk.symm.trans hkk)
              refine q_asg (d := rowD ((pre ++ [a]) ++ [c, c + 1 + s])) (ed_is (ed_catT (ed_var rfl) (ed_tup (ea_cons (ed_var rfl) ea_nil) (by simp)) (by simp; omega)) ?_) (sd_bkq rfl (.eq (.eq (.eq (.eq (.eq (.eq (.eq (.eq (.un .nil))))))))))
              show D.tup _ = D.tup _
              simp [natD]
            · refine sd_nx ⟨rfl, fun v y hv hy => ?_⟩ (.eq (.eq (.eq (.eq (.eq (.eq (.eq (.eq (.un .nil)))))))))
              by_cases e3 : v = s
              · subst e3
                rw [hrg] at hy
                cases hy
                exact e2
              · exact hno1 v y (by omega) hy
          · rintro δ1 ⟨rfl, hno1⟩
            have : nextK U n a c (f + 1) = none := find_no fun v y hy => hno1 v y (by
              have := (List.getElem?_eq_some_iff.mp hy).1
              rw [List.length_range'] at this
              exact this) hy
            rw [this] at hk
            cases hk
          · rintro δ1 rfl
            refine sd_nx ⟨f, by omega, pre ++ [a], c, k, ?_, ?_, k1, k2, by omega, hgr', rfl⟩ (.eq (.eq (.eq (.eq (.eq (.eq (.eq (.un (.eq .nil)))))))))
            · rw [List.length_append, List.length_singleton]
              omega
            · rw [List.length_append, List.length_singleton]
              omega
        · have hm0 : m = 0 := by
            have := of_decide_eq_false e1
            omega
          subst hm0
          refine q_ret (ed_var rfl) ?_
          rw [← hgr]
          rfl
      · refine sd_nx ⟨rfl, fun v y hv hy => ?_⟩ (.eq (.eq (.eq (.eq (.un (.un (.eq (.eq (.eq .nil)))))))))
        by_cases e3 : v = t
        · subst e3
          rw [hx] at hy
          cases hy
          exact decide_eq_false fun z => of_decide_eq_false e (Int.ofNat_le.mpr z)
        · exact hno v y (by omega) hy
    · rintro δ1 ⟨rfl, hno⟩
      refine q_ret ed_non ?_
      have : firstP U n many = none := by
        unfold firstP
        rw [find_no fun v y hy => hno v y (List.getElem?_eq_some_iff.mp hy).1 hy]
        rfl
      rw [this]
      rfl
/-! ### what chains are -/
theorem Ch_rise {U : Nat → Nat → Nat → Bool} : ∀ {r : List Nat}, Ch U r → r.Pairwise (· < ·)
  | [], _ => .nil
  | [a], _ => List.pairwise_singleton _ _
  | [a, b], h => by
    have h : a < b := h
    simp [h]
  | a :: b :: c :: r, h => by
    have ih := Ch_rise h.2.2
    refine List.pairwise_cons.mpr ⟨fun x hx => ?_, ih⟩
    rcases List.mem_cons.mp hx with rfl | hx
    · exact h.1
    · exact Nat.lt_trans h.1 ((List.pairwise_cons.mp ih).1 x hx)
theorem rise_len : ∀ {r : List Nat} {k n : Nat}, r.Pairwise (· < ·) → (∀ x ∈ r, k ≤ x ∧ x < n) → r.length ≤ n - k
  | [], _, _, _, _ => Nat.zero_le _
  | a :: r, k, n, h, hm => by
    have hc := List.pairwise_cons.mp h
    have := rise_len (k := a + 1) (n := n) hc.2 fun x hx => ⟨hc.1 x hx, (hm x (List.mem_cons_of_mem _ hx)).2⟩
    have := hm a List.mem_cons_self
    simp only [List.length_cons]
    omega
theorem Ch_len {U : Nat → Nat → Nat → Bool} {r : List Nat} {n : Nat} (h : Ch U r) (hm : ∀ x ∈ r, x < n) : r.length ≤ n := by
  have := rise_len (k := 0) (n := n) (Ch_rise h) fun x hx => ⟨Nat.zero_le _, hm x hx⟩
  omega
theorem Ch_bend {U : Nat → Nat → Nat → Bool} : ∀ {r : List Nat} {t : Nat}, Ch U r → t < r.length - 2 → U (r.getD t 0) (r.getD (t + 1) 0) (r.getD (t + 2) 0) = true
  | a :: b :: c :: r, 0, h, _ => h.2.1
  | a :: b :: c :: r, t + 1, h, ht => by
    have := Ch_bend (r := b :: c :: r) (t := t) h.2.2 (by simp only [List.length_cons] at ht ⊢; omega)
    exact this
  | [], t, _, ht => by simp at ht
  | [a], t, _, ht => by simp at ht
  | [a, b], t, _, ht => by simp at ht
theorem Ch_bends {ps : List Pt} {b : Bool} {r : List Nat} (h : Ch (uB ps b) r) : bendsB ps r b = true := decide_eq_true fun t ht => of_decide_eq_true (Ch_bend h ht)
theorem Ch_Rise {U : Nat → Nat → Nat → Bool} {r : List Nat} {n : Nat} (h : Ch U r) (hm : ∀ x ∈ r, x < n) (hn : n ≤ 1000) : Rise n r := ⟨Ch_rise h, hm, Nat.le_trans (Ch_len h hm) hn⟩
/-! ### longest -/
def mostT (U : Nat → Nat → Nat → Bool) (n : Nat) : Nat := mxN ((tabKeys n).map fun p => Tv U p.1 p.2)
theorem mostT_att {U : Nat → Nat → Nat → Bool} {n : Nat} (hn : 2 ≤ n) : ∃ i j, i < j ∧ j < n ∧ mostT U n = Tv U i j := by
  have hne : ((tabKeys n).map fun p => Tv U p.1 p.2) ≠ [] := by
    intro z
    have h1 : (0, 1) ∈ tabKeys n := tabKeys_mem.mpr ⟨by decide, by omega⟩
    rw [List.map_eq_nil_iff.mp z] at h1
    cases h1
  obtain ⟨p, hp, e⟩ := List.mem_map.mp (mxN_mem hne)
  have := tabKeys_mem.mp hp
  exact ⟨p.1, p.2, this.1, this.2, e.symm⟩
theorem mostT_row {U : Nat → Nat → Nat → Bool} {n : Nat} (hn : 2 ≤ n) : mostT U n ≤ n ∧ 2 ≤ mostT U n ∧ ∃ a b, a < b ∧ b < n ∧ mostT U n ≤ Lv U n a b := by
  obtain ⟨i, j, h1, h2, e⟩ := mostT_att (U := U) hn
  obtain ⟨pre, hc, hl⟩ := Tp_att (U := U) i i j (Nat.le_refl _) h1
  have hr := Ch_rise hc
  have hm : ∀ x ∈ pre ++ [i, j], x < n := fun x hx => by
    have h3 := List.pairwise_append.mp hr
    simp only [List.mem_append, List.mem_cons, List.not_mem_nil, or_false] at hx
    rcases hx with hx | hx | hx
    · have := h3.2.2 x hx j (by simp)
      omega
    · omega
    · omega
  have e2 : mostT U n = (pre ++ [i, j]).length := e.trans hl.symm
  refine ⟨by rw [e2]; exact Ch_len hc hm, by rw [e]; exact Tp_two i i j, ?_⟩
  rcases hq : pre ++ [i, j] with _ | ⟨a, _ | ⟨b, r⟩⟩
  · have := congrArg List.length hq
    simp at this
  · have := congrArg List.length hq
    simp at this
  · rw [hq] at hc hm e2 hr
    have := Ch_L (U := U) (by omega : 1 ≤ n) r a b hc hm
    refine ⟨a, b, ?_, hm b (by simp), ?_⟩
    · exact (List.pairwise_cons.mp hr).1 b (by simp)
    · rw [e2]
      simpa using this
def longP (U : Nat → Nat → Nat → Bool) (n : Nat) : Option (List Nat) := if n = 1 then none else firstP U n (mostT U n)
theorem firstP_ok {U : Nat → Nat → Nat → Bool} {n many : Nat} {r : List Nat} (hn : 1 ≤ n) (h : firstP U n many = some r) : Ch U r ∧ (∀ x ∈ r, x < n) ∧ 2 ≤ r.length := by
  unfold firstP at h
  obtain ⟨p, hp, rfl⟩ := Option.map_eq_some_iff.mp h
  have h1 := pairs_mem.mp (List.mem_of_find?_eq_some hp)
  have h2 : many ≤ Lv U n p.1 p.2 := by
    have := List.find?_some hp
    simpa using this
  have h3 := Lv_two (U := U) hn p.1 p.2
  have := grow_ok (U := U) hn (many - 2) [] p.1 p.2 h1.2.1 (fun x hx => by
    simp only [List.nil_append, List.mem_cons, List.not_mem_nil, or_false] at hx
    omega) (by omega)
  refine ⟨this.1, this.2.1, ?_⟩
  rw [this.2.2]
  simp
theorem longP_ok {U : Nat → Nat → Nat → Bool} {n : Nat} (hn : 2 ≤ n) : ∃ r, longP U n = some r ∧ Ch U r ∧ (∀ x ∈ r, x < n) ∧ 2 ≤ r.length := by
  obtain ⟨_, h2, a, b, h3, h4, h5⟩ := mostT_row (U := U) hn
  have e : longP U n = firstP U n (mostT U n) := if_neg (by omega)
  rw [e]
  cases hf : firstP U n (mostT U n) with
  | some r => exact ⟨r, rfl, firstP_ok (by omega) hf⟩
  | none =>
    unfold firstP at hf
    have := List.find?_eq_none.mp (Option.map_eq_none_iff.mp hf) (a, b) (pairs_mem.mpr ⟨by dsimp only; omega, h3, h4⟩)
    simp at this
    omega
def f_longest (ds : List D) (d : D) : Prop := ∃ (ps : List Pt) (b : Bool), ds = [shD ps, .bl b] ∧ (Smalls ps ∧ 1 ≤ ps.length ∧ ps.length ≤ 7) ∧ d = optD (longP (uB ps b) ps.length)
abbrev N_longest : List Str := ["sheet", "up"]
theorem sc_longest : FnScope N_longest ["sheet", "up"] (defScope s_longest) := ⟨rfl, rfl, rfl, by decide +kernel, rfl, by decide +kernel, by decide +kernel⟩
theorem cal_longest (T : Tx K mg) : Cal P w K mg base 5 "longest" ["sheet", "up"] f_longest := by
  obtain ⟨fd, F⟩ := T.fd_longest
  refine calOf (N := N_longest) T.gl_longest F (fun _ _ _ _ _ _ us hl => match us, hl with | [_, _], _ => rfl) (okP F sc_longest (fun ds d h => ?_) fun cdv A outer s H E hr ds d h => ⟨_, 
    (pss_cons (ps_if (pt_cmpR op_eq (pe_callB call_len_seq (by rfl) (T.free_len) bb_len (pa_cons (pv 0) pa_nil)) pe_int (nomark _)) 
      (pss_cons (ps_ret pe_non) pss_nil) pss_nil)
    (pss_cons (ps_ret (pe_callP (cal_first_row T) (hr.mono (by decide)) (by rfl) (pa_cons (pv 0) (pa_cons (pv 1) (pa_cons (pe_maxVals rfl (by rfl) T.free_max (pe_callP (cal_table_of T) (hr.mono (by decide)) (by rfl) (pa_cons (pv 0) (pa_cons (pv 1) pa_nil)))) pa_nil))))) pss_nil)), ?_⟩)
  · unfold f_longest at h
    repeat (first | (obtain ⟨e, _⟩ := h; rw [e]; rfl) | (obtain ⟨_, h⟩ := h))
  · obtain ⟨ps, b, rfl, ⟨hs, hn, hl⟩, rfl⟩ := h
    refine q_when (td_test (ed_eqI (ed_lenSh (ed_var rfl)) ed_int)) (fun e => ?_) fun e => ?_
    · have e' : ps.length = 1 := by
        have := of_decide_eq_true e
        omega
      refine q_ret ed_non ?_
      rw [longP, if_pos e']
      rfl
    · have e' : ¬ ps.length = 1 := by
        have := of_decide_eq_false e
        omega
      have hr := mostT_row (U := uB ps b) (n := ps.length) (by omega)
      have ht : f_table_of [shD ps, .bl b] (.dT (tabD (tabKeys ps.length) (Tv (uB ps b)))) := ⟨ps, b, rfl, ⟨hs, hl⟩, rfl⟩
      have hf : f_first_row [shD ps, .bl b, natD (mostT (uB ps b) ps.length)] (optD (firstP (uB ps b) ps.length (mostT (uB ps b) ps.length))) := ⟨ps, b, _, rfl, ⟨hs, hn, hl, by omega⟩, rfl⟩
      have hge : ∀ j ∈ (tabKeys ps.length).map (fun p => (Tv (uB ps b) p.1 p.2 : Int)), j ≤ (mostT (uB ps b) ps.length : Int) := fun j hj => by
        obtain ⟨p, hp, rfl⟩ := List.mem_map.mp hj
        exact Int.ofNat_le.mpr (mxN_ge (List.mem_map.mpr ⟨p, hp, rfl⟩))
      obtain ⟨i, j, h1, h2, e2⟩ := mostT_att (U := uB ps b) (n := ps.length) (by omega)
      refine q_ret (d := optD (firstP (uB ps b) ps.length (mostT (uB ps b) ps.length))) (ed_call (ea_cons (ed_var rfl) (ea_cons (ed_var rfl) (ea_cons (ed_maxV (is := (tabKeys ps.length).map fun p => (Tv (uB ps b) p.1 p.2 : Int)) (ed_T (ed_call (ea_cons (ed_var rfl) (ea_cons (ed_var rfl) ea_nil)) ht)) ?_ ?_ hge) ea_nil))) hf) ?_
      · unfold tabD
        rw [List.map_map, List.map_map]
        rfl
      · rw [e2]
        exact List.mem_map.mpr ⟨(i, j), tabKeys_mem.mpr ⟨h1, h2⟩, rfl⟩
      · rw [longP, if_neg e']
        rfl
def f_longest_cup (ds : List D) (d : D) : Prop := ∃ (ps : List Pt), ds = [shD ps] ∧ Sh ps ∧ d = optD (longP (uB ps true) ps.length)
abbrev N_longest_cup : List Str := ["sheet"]
theorem sc_longest_cup : FnScope N_longest_cup ["sheet"] (defScope s_longest_cup) := ⟨rfl, rfl, rfl, by decide +kernel, rfl, by decide +kernel, by decide +kernel⟩
theorem cal_longest_cup (T : Tx K mg) : Cal P w K mg base 6 "longest_cup" ["sheet"] f_longest_cup := by
  obtain ⟨fd, F⟩ := T.fd_longest_cup
  refine calOf (N := N_longest_cup) T.gl_longest_cup F (fun _ _ _ _ _ _ us hl => match us, hl with | [_], _ => rfl) (okP F sc_longest_cup (fun ds d h => ?_) fun cdv A outer s H E hr ds d h => ⟨_, 
    (pss_cons (ps_expr (pe_callP (cal_need_sheet T) (hr.mono (by decide)) (by rfl) (pa_cons (pv 0) pa_nil)))
    (pss_cons (ps_ret (pe_callP (cal_longest T) (hr.mono (by decide)) (by rfl) (pa_cons (pv 0) (pa_cons pe_bl pa_nil)))) pss_nil)), ?_⟩)
  · unfold f_longest_cup at h
    repeat (first | (obtain ⟨e, _⟩ := h; rw [e]; rfl) | (obtain ⟨_, h⟩ := h))
  · obtain ⟨ps, rfl, hS, rfl⟩ := h
    have h1 : f_need_sheet [shD ps] .non := ⟨ps, rfl, hS, rfl⟩
    have h3 : f_longest [shD ps, .bl true] (optD (longP (uB ps true) ps.length)) := ⟨ps, true, rfl, ⟨hS.small, hS.pos, hS.le⟩, rfl⟩
    exact q_drop (ed_call (ea_cons (ed_var rfl) ea_nil) h1) (q_ret (ed_call (ea_cons (ed_var rfl) (ea_cons ed_bl ea_nil)) h3) rfl)
def f_longest_cap (ds : List D) (d : D) : Prop := ∃ (ps : List Pt), ds = [shD ps] ∧ Sh ps ∧ d = optD (longP (uB ps false) ps.length)
abbrev N_longest_cap : List Str := ["sheet"]
theorem sc_longest_cap : FnScope N_longest_cap ["sheet"] (defScope s_longest_cap) := ⟨rfl, rfl, rfl, by decide +kernel, rfl, by decide +kernel, by decide +kernel⟩
theorem cal_longest_cap (T : Tx K mg) : Cal P w K mg base 6 "longest_cap" ["sheet"] f_longest_cap := by
  obtain ⟨fd, F⟩ := T.fd_longest_cap
  refine calOf (N := N_longest_cap) T.gl_longest_cap F (fun _ _ _ _ _ _ us hl => match us, hl with | [_], _ => rfl) (okP F sc_longest_cap (fun ds d h => ?_) fun cdv A outer s H E hr ds d h => ⟨_, 
    (pss_cons (ps_expr (pe_callP (cal_need_sheet T) (hr.mono (by decide)) (by rfl) (pa_cons (pv 0) pa_nil)))
    (pss_cons (ps_ret (pe_callP (cal_longest T) (hr.mono (by decide)) (by rfl) (pa_cons (pv 0) (pa_cons pe_bl pa_nil)))) pss_nil)), ?_⟩)
  · unfold f_longest_cap at h
    repeat (first | (obtain ⟨e, _⟩ := h; rw [e]; rfl) | (obtain ⟨_, h⟩ := h))
  · obtain ⟨ps, rfl, hS, rfl⟩ := h
    have h1 : f_need_sheet [shD ps] .non := ⟨ps, rfl, hS, rfl⟩
    have h3 : f_longest [shD ps, .bl false] (optD (longP (uB ps false) ps.length)) := ⟨ps, false, rfl, ⟨hS.small, hS.pos, hS.le⟩, rfl⟩
    exact q_drop (ed_call (ea_cons (ed_var rfl) ea_nil) h1) (q_ret (ed_call (ea_cons (ed_var rfl) (ea_cons ed_bl ea_nil)) h3) rfl)
/-! ### need_numbers, lacks -/
def f_need_numbers (ds : List D) (d : D) : Prop := ∃ k l : Nat, ds = [natD k, natD l] ∧ (2 ≤ k ∧ k ≤ 9 ∧ 2 ≤ l ∧ l ≤ 9) ∧ d = .non
abbrev N_need_numbers : List Str := ["k", "l", "one"]
theorem sc_need_numbers : FnScope N_need_numbers ["k", "l"] (defScope s_need_numbers) := ⟨rfl, rfl, rfl, by decide +kernel, rfl, by decide +kernel, by decide +kernel⟩
theorem cal_need_numbers (T : Tx K mg) : Cal P w K mg base 2 "need_numbers" ["k", "l"] f_need_numbers := by
  obtain ⟨fd, F⟩ := T.fd_need_numbers
  refine calOf (N := N_need_numbers) T.gl_need_numbers F (fun _ _ _ _ _ _ us hl => match us, hl with | [_, _], _ => rfl) (okP F sc_need_numbers (fun ds d h => ?_) fun cdv A outer s H E hr ds d h => ⟨_, 
    (pss_cons (ps_for PassesOwn.never rfl (pi_tup (pe_tup (pa_cons (pv 0) (pa_cons (pv 1) pa_nil)))) (pg_name (i := 2) sc_need_numbers.nd rfl (Or.inl rfl)) 
      (pss_cons (ps_if (PW.pt (pw_or (pt_not (pt_val (pe_callP (cal_is_whole T) (hr.mono (by decide)) (by rfl) (pa_cons (pv 2) pa_nil)))) (pw_or1 (pt_not (pt_chain op_le op_le pe_int (pv 2) pe_int))))) 
        (pss_cons ps_never pss_nil) pss_nil) pss_nil)) pss_nil), ?_⟩)
  · unfold f_need_numbers at h
    repeat (first | (obtain ⟨e, _⟩ := h; rw [e]; rfl) | (obtain ⟨_, h⟩ := h))
  · obtain ⟨k, l, rfl, ⟨h1, h2, h3, h4⟩, rfl⟩ := h
    refine q_for (n := 2) (dw_tupN (ed_tup (ea_cons (ed_var rfl) (ea_cons (ed_var rfl) ea_nil)) (by simp)) rfl) (fun _ δ => δ = [.dat (natD k), .dat (natD l), .un]) (fun _ => False) rfl Le.rfl ?_ ?_ (fun _ z => z.elim)
    · rintro i d δ1 hi hd rfl
      have : ∃ m : Nat, d = natD m ∧ 2 ≤ m ∧ m ≤ 9 := by
        match i, hi, hd with
        | 0, _, hd => exact ⟨k, (Option.some.inj hd).symm, h1, h2⟩
        | 1, _, hd => exact ⟨l, (Option.some.inj hd).symm, h3, h4⟩
      obtain ⟨m, rfl, m1, m2⟩ := this
      refine ⟨[2], _, tg_name, ?_⟩
      refine q_no (td_is (td_or (a := false) (b := false) (td_is (td_not (b := true) (td_B (ed_call (ea_cons (ed_var rfl) ea_nil) ⟨_, rfl, rfl⟩))) rfl) fun _ => td_is (td_not (td_test (ed_chainI ed_int (ed_var rfl) ed_int))) ?_) rfl) ?_
      · simp
        omega
      · exact sd_nx rfl (.eq (.eq (.un .nil)))
    · rintro δ1 rfl
      exact sd_nx rfl Le.rfl
def lacksB (ps : List Pt) (k l : Nat) : Bool := (firstP (uB ps true) ps.length k).isNone && (firstP (uB ps false) ps.length l).isNone
theorem isNon_opt : ∀ o : Option (List Nat), isNon (optD o) = o.isNone
  | none => rfl
  | some _ => rfl
def f_lacks (ds : List D) (d : D) : Prop := ∃ (ps : List Pt) (k l : Nat), ds = [shD ps, natD k, natD l] ∧ (Sh ps ∧ 2 ≤ k ∧ k ≤ 9 ∧ 2 ≤ l ∧ l ≤ 9) ∧ d = .bl (lacksB ps k l)
abbrev N_lacks : List Str := ["sheet", "k", "l"]
theorem sc_lacks : FnScope N_lacks ["sheet", "k", "l"] (defScope s_lacks) := ⟨rfl, rfl, rfl, by decide +kernel, rfl, by decide +kernel, by decide +kernel⟩
theorem cal_lacks (T : Tx K mg) : Cal P w K mg base 6 "lacks" ["sheet", "k", "l"] f_lacks := by
  obtain ⟨fd, F⟩ := T.fd_lacks
  refine calOf (N := N_lacks) T.gl_lacks F (fun _ _ _ _ _ _ us hl => match us, hl with | [_, _, _], _ => rfl) (okP F sc_lacks (fun ds d h => ?_) fun cdv A outer s H E hr ds d h => ⟨_, 
    (pss_cons (ps_expr (pe_callP (cal_need_sheet T) (hr.mono (by decide)) (by rfl) (pa_cons (pv 0) pa_nil)))
    (pss_cons (ps_expr (pe_callP (cal_need_numbers T) (hr.mono (by decide)) (by rfl) (pa_cons (pv 1) (pa_cons (pv 2) pa_nil))))
    (pss_cons (ps_ret (pe_and (pe_cmpR op_isN (pe_callP (cal_first_row T) (hr.mono (by decide)) (by rfl) (pa_cons (pv 0) (pa_cons pe_bl (pa_cons (pv 1) pa_nil)))) pe_non (nomark _)) (pe_one (pe_cmpR op_isN (pe_callP (cal_first_row T) (hr.mono (by decide)) (by rfl) (pa_cons (pv 0) (pa_cons pe_bl (pa_cons (pv 2) pa_nil)))) pe_non (nomark _))))) pss_nil))), ?_⟩)
  · unfold f_lacks at h
    repeat (first | (obtain ⟨e, _⟩ := h; rw [e]; rfl) | (obtain ⟨_, h⟩ := h))
  · obtain ⟨ps, k, l, rfl, ⟨hS, h1, h2, h3, h4⟩, rfl⟩ := h
    have g1 : f_need_sheet [shD ps] .non := ⟨ps, rfl, hS, rfl⟩
    have g2 : f_need_numbers [natD k, natD l] .non := ⟨k, l, rfl, ⟨h1, h2, h3, h4⟩, rfl⟩
    have g3 : f_first_row [shD ps, .bl true, natD k] (optD (firstP (uB ps true) ps.length k)) := ⟨ps, true, k, rfl, ⟨hS.small, hS.pos, hS.le, by omega⟩, rfl⟩
    have g4 : f_first_row [shD ps, .bl false, natD l] (optD (firstP (uB ps false) ps.length l)) := ⟨ps, false, l, rfl, ⟨hS.small, hS.pos, hS.le, by omega⟩, rfl⟩
    refine q_drop (ed_call (ea_cons (ed_var rfl) ea_nil) g1) (q_drop (ed_call (ea_cons (ed_var rfl) (ea_cons (ed_var rfl) ea_nil)) g2) (q_ret (d := .bl (lacksB ps k l)) (ed_is (ed_andV (ed_isN (ed_call (ea_cons (ed_var rfl) (ea_cons ed_bl (ea_cons (ed_var rfl) ea_nil))) g3)) fun _ => ed_isN (ed_call (ea_cons (ed_var rfl) (ea_cons ed_bl (ea_cons (ed_var rfl) ea_nil))) g4)) ?_) rfl))
    rw [isNon_opt, isNon_opt]
    rfl
end
end Bt

end BtD_part
section BtM2_part
set_option Elab.async false
set_option linter.all false
set_option maxRecDepth 100000
set_option maxHeartbeats 4000000
namespace Bt
open PySem PySem.Spec PyProof.Rows L2 BtR
/-! ## outer rows: the stack -/
def popR (U : Nat → Nat → Nat → Bool) (k : Nat) : List Nat → List Nat
  | l :: m :: r => if U m l k = true then l :: m :: r else popR U k (m :: r)
  | s => s
def stk (U : Nat → Nat → Nat → Bool) : Nat → List Nat
  | 0 => []
  | k + 1 => k :: popR U k (stk U k)
def outR (ps : List Pt) (b : Bool) : List Nat := (stk (uB ps b) ps.length).reverse
def setP (n : Nat) (s : List Nat) : List Nat := (List.range n).filter fun x => decide (x ∈ s)
theorem popR_sub (U : Nat → Nat → Nat → Bool) (k : Nat) : ∀ s : List Nat, (popR U k s).Sublist s
  | [] => .slnil
  | [x] => List.Sublist.refl _
  | l :: m :: r => by
    show (if U m l k = true then l :: m :: r else popR U k (m :: r)).Sublist _
    split
    · exact List.Sublist.refl _
    · exact (popR_sub U k (m :: r)).cons l
theorem stk_lt (U : Nat → Nat → Nat → Bool) : ∀ k, ∀ x ∈ stk U k, x < k
  | 0, x, h => by cases h
  | k + 1, x, h => by
    rcases List.mem_cons.mp h with rfl | h
    · exact Nat.lt_succ_self _
    · exact Nat.lt_succ_of_lt (stk_lt U k x ((popR_sub U k _).subset h))
theorem stk_len (U : Nat → Nat → Nat → Bool) : ∀ k, (stk U k).length ≤ k
  | 0 => Nat.le_refl _
  | k + 1 => by
    have h1 := stk_len U k
    have h2 := (popR_sub U k (stk U k)).length_le
    show (popR U k (stk U k)).length + 1 ≤ k + 1
    omega
theorem outR_lt {ps : List Pt} {b : Bool} {x : Nat} (h : x ∈ outR ps b) : x < ps.length := stk_lt _ _ x (List.mem_reverse.mp h)
theorem outR_len (ps : List Pt) (b : Bool) : (outR ps b).length ≤ ps.length := by
  unfold outR
  rw [List.length_reverse]
  exact stk_len _ _
/-- stacks from place 0 on -/
theorem popR_ne {U : Nat → Nat → Nat → Bool} {k : Nat} : ∀ {s : List Nat}, s ≠ [] → popR U k s ≠ [] ∧ (popR U k s).getLast? = s.getLast?
  | [], h => absurd rfl h
  | [x], h => ⟨by simp [popR], rfl⟩
  | l :: m :: r, h => by
    show (if U m l k = true then l :: m :: r else popR U k (m :: r)) ≠ [] ∧ (if U m l k = true then l :: m :: r else popR U k (m :: r)).getLast? = _
    split
    · exact ⟨by simp, rfl⟩
    · have ih := popR_ne (U := U) (k := k) (s := m :: r) (by simp)
      exact ⟨ih.1, by rw [ih.2]; simp⟩
theorem stk_last (U : Nat → Nat → Nat → Bool) : ∀ k, (stk U (k + 1)).getLast? = some 0
  | 0 => rfl
  | k + 1 => by
    have ih := stk_last U k
    have hne : stk U (k + 1) ≠ [] := by simp [stk]
    have h := popR_ne (U := U) (k := k + 1) hne
    show ((k + 1) :: popR U (k + 1) (stk U (k + 1))).getLast? = some 0
    rcases hp : popR U (k + 1) (stk U (k + 1)) with _ | ⟨a, r⟩
    · exact absurd hp h.1
    · rw [List.getLast?_cons_cons, ← hp, h.2, ih]
theorem zero_outR {ps : List Pt} (h : 1 ≤ ps.length) (b : Bool) : 0 ∈ outR ps b := by
  unfold outR
  obtain ⟨m, hm⟩ : ∃ m, ps.length = m + 1 := ⟨ps.length - 1, by omega⟩
  rw [hm]
  exact List.mem_reverse.mpr (List.mem_of_getLast? (stk_last _ m))
theorem setP_mem {n : Nat} {s : List Nat} {x : Nat} : x ∈ setP n s ↔ x < n ∧ x ∈ s := by simp [setP]
theorem setP_rise (n : Nat) (s : List Nat) : (setP n s).Pairwise (· < ·) := List.Pairwise.filter _ List.pairwise_lt_range
/-! ## longest rows from a place -/
section
variable (U : Nat → Nat → Nat → Bool) (p : Nat)
def Qr : Nat → Nat → Nat → Option (List Nat)
  | 0, _, _ => none
  | h + 1, i, j => match (if h = p then some [p, i] else if h < p then none else Qr h h i) with
    | none => Qr h i j
    | some r => if U h i j = true then (match Qr h i j with
      | none => some (r ++ [j])
      | some q => if q.length ≤ r.length then some (r ++ [j]) else some q) else Qr h i j
def Vr (i j : Nat) : Option (List Nat) := if i = p then some [p, j] else Qr U p i i j
def Eb : Nat → Nat → List Nat
  | 0, j => [p, j]
  | s + 1, j => match Vr U p (p + 1 + s) j with
    | some r => if (Eb s j).length < r.length then r else Eb s j
    | none => Eb s j
def Ew (j : Nat) : List Nat := Eb U p (j - (p + 1)) j
variable {U p}
theorem Qr_le : ∀ h, h ≤ p → ∀ i j, Qr U p h i j = none
  | 0, _, _, _ => rfl
  | h + 1, hp, i, j => by
    show (match (if h = p then some [p, i] else if h < p then none else Qr U p h h i) with
      | none => Qr U p h i j
      | some r => _) = none
    rw [if_neg (by omega), if_pos (by omega)]
    exact Qr_le h (by omega) i j
theorem Qr_succ {h i j : Nat} (hp : p ≤ h) : Qr U p (h + 1) i j = match Vr U p h i with
    | none => Qr U p h i j
    | some r => if U h i j = true then (match Qr U p h i j with
      | none => some (r ++ [j])
      | some q => if q.length ≤ r.length then some (r ++ [j]) else some q) else Qr U p h i j := by
  have e : (if h = p then some [p, i] else if h < p then none else Qr U p h h i) = Vr U p h i := by
    unfold Vr
    by_cases e : h = p
    · rw [if_pos e, if_pos e]
    · rw [if_neg e, if_neg e, if_neg (by omega)]
  show (match (if h = p then some [p, i] else if h < p then none else Qr U p h h i) with
      | none => Qr U p h i j
      | some r => _) = _
  rw [e]
theorem Qr_ok : ∀ h i j (r : List Nat), h ≤ i → i < j → Qr U p h i j = some r → r.length ≤ i + 2 ∧ ∀ x ∈ r, x ≤ j
  | 0, _, _, _, _, _, z => by cases z
  | h + 1, i, j, r, h1, h2, z => by
    by_cases hp : p ≤ h
    · rw [Qr_succ hp] at z
      have ih := fun r => Qr_ok h i j r (by omega) h2
      cases hv : Vr U p h i with
      | none => rw [hv] at z; exact ih r z
      | some q =>
        rw [hv] at z
        dsimp only at z
        have hq : q.length ≤ h + 2 ∧ ∀ x ∈ q, x ≤ i := by
          unfold Vr at hv
          by_cases e : h = p
          · rw [if_pos e] at hv
            cases hv
            refine ⟨by simp, fun x hx => ?_⟩
            simp only [List.mem_cons, List.not_mem_nil, or_false] at hx
            omega
          · rw [if_neg e] at hv
            exact Qr_ok h h i q (Nat.le_refl _) (by omega) hv
        have hnew : (q ++ [j]).length ≤ i + 2 ∧ ∀ x ∈ q ++ [j], x ≤ j := by
          refine ⟨by rw [List.length_append, List.length_singleton]; omega, fun x hx => ?_⟩
          rcases List.mem_append.mp hx with hx | hx
          · have := hq.2 x hx
            omega
          · rw [List.mem_singleton.mp hx]
            exact Nat.le_refl _
        split at z
        · cases hc : Qr U p h i j with
          | none => rw [hc] at z; cases z; exact hnew
          | some q2 =>
            rw [hc] at z
            dsimp only at z
            split at z
            · cases z; exact hnew
            · cases z; exact ih _ hc
        · exact ih r z
    · have := Qr_le (U := U) (p := p) (h + 1) (by omega) i j
      rw [this] at z
      cases z
theorem Vr_ok {i j : Nat} {r : List Nat} (hij : i < j) (h : Vr U p i j = some r) : r.length ≤ i + 2 ∧ ∀ x ∈ r, x ≤ j := by
  unfold Vr at h
  by_cases e : i = p
  · rw [if_pos e] at h
    cases h
    refine ⟨by simp, fun x hx => ?_⟩
    simp only [List.mem_cons, List.not_mem_nil, or_false] at hx
    omega
  · rw [if_neg e] at h
    exact Qr_ok i i j r (Nat.le_refl _) hij h
theorem Eb_ok : ∀ s j, p + 1 + s ≤ j → p < j → (Eb U p s j).length ≤ j + 2 ∧ ∀ x ∈ Eb U p s j, x ≤ j
  | 0, j, _, hp => by
    refine ⟨by show 2 ≤ j + 2; omega, fun x hx => ?_⟩
    have hx : x ∈ [p, j] := hx
    simp only [List.mem_cons, List.not_mem_nil, or_false] at hx
    omega
  | s + 1, j, h, hp => by
    have ih := Eb_ok s j (by omega) hp
    have e : Eb U p (s + 1) j = match Vr U p (p + 1 + s) j with
      | some r => if (Eb U p s j).length < r.length then r else Eb U p s j
      | none => Eb U p s j := rfl
    rw [e]
    cases hv : Vr U p (p + 1 + s) j with
    | none => exact ih
    | some r =>
      dsimp only
      split
      · have := Vr_ok (by omega) hv
        exact ⟨by omega, this.2⟩
      · exact ih
theorem Ew_ok {j : Nat} (h : p < j) : (Ew U p j).length ≤ j + 2 ∧ ∀ x ∈ Ew U p j, x ≤ j := Eb_ok _ _ (by omega) h
end
/-- a place between 0 and 2 on the one side or the other -/
theorem Ew_one {U : Nat → Nat → Nat → Bool} (h : U 0 1 2 = true) : Ew U 0 2 = [0, 1, 2] := by
  have e : Qr U 0 1 1 2 = some [0, 1, 2] := by
    rw [Qr_succ (U := U) (p := 0) (Nat.le_refl _)]
    simp [Vr, h, Qr]
  show Eb U 0 1 2 = _
  show (match Vr U 0 1 2 with
      | some r => if (Eb U 0 0 2).length < r.length then r else Eb U 0 0 2
      | none => Eb U 0 0 2) = _
  have : Vr U 0 1 2 = some [0, 1, 2] := e
  rw [this]
  rfl
/-! the greatest ring -/
def bstep (r : List Nat) (best : Option (List Nat)) : Option (List Nat) := if (decide (2 < r.length) && (best.isNone || decide ((best.getD []).length < r.length))) = true then some r else best
def rgP (ps : List Pt) (p j : Nat) : List Nat := setP ps.length (Ew (uB ps true) p j ++ Ew (uB ps false) p j)
def bstIn (ps : List Pt) (p : Nat) (best : Option (List Nat)) : Nat → Option (List Nat)
  | 0 => best
  | t + 1 => bstep (rgP ps p (p + 1 + t)) (bstIn ps p best t)
def bstTo (ps : List Pt) : Nat → Option (List Nat)
  | 0 => none
  | p + 1 => bstIn ps p (bstTo ps p) (ps.length - (p + 1))
def grP (ps : List Pt) : Option (List Nat) := bstTo ps ps.length
theorem bstep_some {r : List Nat} {b : Option (List Nat)} (h : b.isSome = true) : (bstep r b).isSome = true := by
  unfold bstep
  split
  · rfl
  · exact h
theorem bstIn_some {ps : List Pt} {p : Nat} {b : Option (List Nat)} (h : b.isSome = true) : ∀ t, (bstIn ps p b t).isSome = true
  | 0 => h
  | t + 1 => bstep_some (bstIn_some h t)
theorem bstep_big {r : List Nat} {b : Option (List Nat)} (h : 2 < r.length) : (bstep r b).isSome = true := by
  unfold bstep
  split
  · rfl
  · rename_i z
    cases b with
    | none => simp at z; omega
    | some q => rfl
theorem grP_some {ps : List Pt} (h : 3 ≤ ps.length) : (grP ps).isSome = true := by
  have hr : 2 < (rgP ps 0 2).length := by
    have h0 : ∀ x, x < 3 → x ∈ rgP ps 0 2 := fun x hx => setP_mem.mpr ⟨by omega, by
      rw [List.mem_append]
      by_cases hu : up ps 0 1 2 = true
      · left
        rw [Ew_one (U := uB ps true) (decide_eq_true hu)]
        simp
        omega
      · right
        rw [Ew_one (U := uB ps false) (decide_eq_true (by simpa using hu))]
        simp
        omega⟩
    have hs : List.Sublist [0, 1, 2] (rgP ps 0 2) := by
      have e : List.filter (fun x => decide (x ∈ rgP ps 0 2)) (List.range ps.length) = rgP ps 0 2 := by
        unfold rgP setP
        apply List.filter_congr
        intro x hx
        simp [List.mem_range.mp hx]
      obtain ⟨m, hm⟩ : ∃ m, ps.length = 3 + m := ⟨ps.length - 3, by omega⟩
      rw [← e, hm, List.range_add, List.filter_append]
      have : List.filter (fun x => decide (x ∈ rgP ps 0 2)) (List.range 3) = [0, 1, 2] := by
        rw [List.filter_eq_self.mpr]
        · rfl
        · intro x hx
          exact decide_eq_true (h0 x (List.mem_range.mp hx))
      rw [this]
      exact List.sublist_append_left _ _
    exact hs.length_le
  have h1 : (bstTo ps 1).isSome = true := by
    show (bstIn ps 0 none (ps.length - 1)).isSome = true
    obtain ⟨m, hm⟩ : ∃ m, ps.length - 1 = 2 + m := ⟨ps.length - 3, by omega⟩
    rw [hm]
    have : ∀ m, (bstIn ps 0 none (2 + m)).isSome = true := by
      intro m
      induction m with
      | zero => exact bstep_big hr
      | succ m ih => exact bstep_some ih
    exact this m
  have h2 : ∀ p, 1 ≤ p → (bstTo ps p).isSome = true := by
    intro p hp
    induction p with
    | zero => omega
    | succ p ih =>
      by_cases e : p = 0
      · subst e; exact h1
      · exact bstIn_some (ih (by omega)) _
  exact h2 _ (by omega)
/-! peels -/
def pkP (ps : List Pt) (left : List Nat) : List Nat := (setP left.length (outR (left.map (ix ps)) true ++ outR (left.map (ix ps)) false)).map fun a => left.getD a 0
def peelF (ps : List Pt) : Nat → List Nat → List (List Nat)
  | 0, _ => []
  | f + 1, left => if left = [] then [] else pkP ps left :: peelF ps f (left.filter fun x => decide (x ∉ pkP ps left))
theorem peel_less {ps : List Pt} {left : List Nat} (h : left ≠ []) : (left.filter fun x => decide (x ∉ pkP ps left)).length < left.length := by
  have hl : 0 < left.length := List.length_pos_iff.mpr h
  have h0 : left.getD 0 0 ∈ pkP ps left := List.mem_map.mpr ⟨0, setP_mem.mpr ⟨hl, List.mem_append_left _ (zero_outR (by rw [List.length_map]; exact hl) _)⟩, rfl⟩
  refine List.length_filter_lt_length_iff_exists.mpr ⟨left.getD 0 0, getD_mem hl, ?_⟩
  simpa using h0
end Bt

end BtM2_part
section BtE_part
set_option Elab.async false
set_option linter.all false
set_option maxRecDepth 100000
set_option maxHeartbeats 4000000
namespace Bt
open PySem PySem.Spec PyProof.Rows L2 BtR
def sideL (ps : List Pt) (a : Nat) (mid : List Nat) (z : Nat) (low : Bool) : List Nat := a :: (mid.filter (fun x => uB ps low a x z) ++ [z])
theorem cut_mid {a z : D} {mid : List D} : cutD (a :: (mid ++ [z])) (some 1) (some (-1)) = mid := by
  unfold cutD
  have e1 : HT.sIx (a :: (mid ++ [z])).length 0 (some 1) = 1 := by
    rw [show (some (1 : Int)) = some ((1 : Nat) : Int) from rfl, HT.sIx_nat]
    simp
  have e2 : HT.sIx (a :: (mid ++ [z])).length (a :: (mid ++ [z])).length (some (-1)) = mid.length + 1 := by
    have : ∀ n d : Nat, HT.sIx n d (some (-1)) = ((-1 : Int) + (n : Int)).toNat := fun n d => by
      show (if (-1 : Int) < 0 then ((-1 : Int) + (n : Int)).toNat else min (-1 : Int).toNat n) = _
      rw [if_pos (by decide)]
    rw [this]
    simp only [List.length_cons, List.length_append, List.length_nil]
    omega
  rw [e1, e2]
  simp
theorem row_enc (a : Nat) (mid : List Nat) (z : Nat) : (a :: (mid ++ [z])).map natD = natD a :: (mid.map natD ++ [natD z]) := by simp
theorem at_last {a z : D} {mid : List D} : atI (a :: (mid ++ [z])) (-1) = some z := at_neg (k := 1) (by decide) (by simp) (by simp)
theorem at_zero {α : Type} {a : α} {l : List α} : atI (a :: l) 0 = some a := atI_nat' (i := 0) rfl
theorem sideL_sub (ps : List Pt) (a : Nat) (mid : List Nat) (z : Nat) (low : Bool) : (sideL ps a mid z low).Sublist (a :: (mid ++ [z])) := ((List.filter_sublist).append_right _).cons_cons _
theorem Rise.sub {n : Nat} {r s : List Nat} (h : Rise n r) (hs : s.Sublist r) : Rise n s := ⟨h.inc.sublist hs, fun x hx => h.lt x (hs.subset hx), Nat.le_trans hs.length_le h.few⟩
theorem inD_nat {x : Nat} : ∀ {s : List Nat}, inD (natD x) (s.map natD) = decide (x ∈ s)
  | [] => rfl
  | y :: s => by
    have ih := inD_nat (x := x) (s := s)
    have e : inD (natD x) ((y :: s).map natD) = (((y : Int) == (x : Int)) || inD (natD x) (s.map natD)) := rfl
    rw [e, ih]
    by_cases h : x = y
    · subst h
      simp
    · have : ((y : Int) == (x : Int)) = false := by
        rw [beq_eq_false_iff_ne]
        omega
      rw [this]
      simp [h]
theorem flat_nats : ∀ s : List Nat, (s.map natD).all flatD = true
  | [] => rfl
  | y :: s => by
    rw [List.map_cons, List.all_cons, flat_nats s]
    rfl
section
variable {K : PySem.W.Frag} {C : Addr} {te ta tb tc : TE} {tt : TT} {δ : List Fr} {wi : TI} {g : TG} {w : World}
theorem set_eq {n : Nat} {s : List Nat} (hm : ∀ x ∈ s, x < n) : ∀ k : Int, k ∈ (setP n s).map (fun x : Nat => (x : Int)) ↔ k ∈ s.map (fun x : Nat => (x : Int)) := by
  intro k
  simp only [List.mem_map, setP_mem]
  constructor
  · rintro ⟨x, ⟨_, h⟩, rfl⟩
    exact ⟨x, h, rfl⟩
  · rintro ⟨x, h, rfl⟩
    exact ⟨x, ⟨hm x h, h⟩, rfl⟩
theorem set_rise (n : Nat) (s : List Nat) : ((setP n s).map (fun x : Nat => (x : Int))).Pairwise (· < ·) := by
  rw [List.pairwise_map]
  exact (setP_rise n s).imp fun h => Int.ofNat_lt.mpr h
theorem nat_ints (s : List Nat) : s.map natD = (s.map fun x : Nat => (x : Int)).map D.int := by
  rw [List.map_map]
  rfl
theorem ex_ssetN {n : Nat} {s : List Nat} (h : EX K C te δ (s.map natD)) (hl : s.length < 64) (hm : ∀ x ∈ s, x < n) : EX K C (tCB (rSortedSet w) (tCons (tCB (rSetI K w) (tCons te tNil)) tNil)) δ ((setP n s).map natD) := by
  rw [nat_ints] at h ⊢
  exact ex_ssetL h (by rw [List.length_map]; exact hl) (set_rise n s) (set_eq hm)
theorem ex_ssetNT {n : Nat} {s : List Nat} (h : ED K C te δ (rowD s)) (hl : s.length < 64) (hm : ∀ x ∈ s, x < n) : EX K C (tCB (rSortedSet w) (tCons (tCB (rSetI K w) (tCons te tNil)) tNil)) δ ((setP n s).map natD) := by
  unfold rowD at h
  rw [nat_ints] at h ⊢
  exact ex_ssetT h (by rw [List.length_map]; exact hl) (set_rise n s) (set_eq hm)
end
section
variable {P : Program} {w : World} {K : PySem.W.Frag} {mg : Str → Option Value} {base : Heap}
/-! ### side_row -/
def f_side_row (ds : List D) (d : D) : Prop := ∃ (ps : List Pt) (a : Nat) (mid : List Nat) (z : Nat) (low : Bool), ds = [shD ps, rowD (a :: (mid ++ [z])), .bl low] ∧ (Smalls ps ∧ Rise ps.length (a :: (mid ++ [z]))) ∧ d = rowD (sideL ps a mid z low)
abbrev N_side_row : List Str := ["sheet", "some", "low", "first", "last", "inner", "one"]
theorem sc_side_row : FnScope N_side_row ["sheet", "some", "low"] (defScope s_side_row) := ⟨rfl, rfl, rfl, by decide +kernel, rfl, by decide +kernel, by decide +kernel⟩
theorem cal_side_row (T : Tx K mg) : Cal P w K mg base 3 "side_row" ["sheet", "some", "low"] f_side_row := by
  obtain ⟨fd, F⟩ := T.fd_side_row
  refine calOf (N := N_side_row) T.gl_side_row F (fun _ _ _ _ _ _ us hl => match us, hl with | [_, _, _], _ => rfl) (okP F sc_side_row (fun ds d h => ?_) fun cdv A outer s H E hr ds d h => ⟨_, 
    (pss_cons (ps_asg (pe_tup (pa_cons (pe_ix (ix_tupK (K := K) rfl) (pv 1) pe_int (fun _ _ => rfl)) (pa_cons (pe_ix (ix_tupK (K := K) rfl) (pv 1) (pe_un un_neg pe_int) (fun _ _ => rfl)) pa_nil))) (pg_tupK (K := K) (n := 2) rfl rfl (pgs_cons (pg_name (i := 3) sc_side_row.nd rfl (Or.inr rfl)) (pgs_cons (pg_name (i := 4) sc_side_row.nd rfl (Or.inr rfl)) pgs_nil))))
    (pss_cons (ps_setLc (i := 5) (own := [("one", 6)]) rfl sc_side_row.nd rfl rfl (sw_true rfl rfl rfl (by decide +kernel)) (pi_tup (pe_slice sl_tupA (pv 1) (po_some pe_int) (po_some (pe_un un_neg pe_int)))) (blkOk_by (own := [("one", 6)]) (N := N_side_row) (sc := defScope s_side_row) (by decide +kernel)) (fun _ _ _ _ _ => (pg_name (i := 6) sc_side_row.nd rfl (Or.inl rfl))) (fun _ _ _ _ _ => (pts_one (pt_cmpR op_eq (pe_callP (cal_is_up T) (hr.mono (by decide)) (by rfl) (pa_cons (pv 0) (pa_cons (pv 3) (pa_cons (pv 6) (pa_cons (pv 4) pa_nil))))) (pv 2) (nomark _)))) (fun _ _ _ _ _ => (pv 6)))
    (pss_cons (ps_ret (pe_callTy call_tuple_of (by rfl) (T.free_tuple) bb_tuple (pa_cons (pe_op op_cat (pe_op op_cat (pe_lst (pa_cons (pv 3) pa_nil)) (pv 5)) (pe_lst (pa_cons (pv 4) pa_nil))) pa_nil))) pss_nil))), ?_⟩)
  · unfold f_side_row at h
    repeat (first | (obtain ⟨e, _⟩ := h; rw [e]; rfl) | (obtain ⟨_, h⟩ := h))
  · obtain ⟨ps, a, mid, z, low, rfl, ⟨hs, hR⟩, rfl⟩ := h
    have e : rowD (a :: (mid ++ [z])) = .tup (natD a :: (mid.map natD ++ [natD z])) := congrArg D.tup (row_enc a mid z)
    have hf := hR.few
    simp only [List.length_cons, List.length_append, List.length_nil] at hf
    have ha : a < ps.length := hR.lt a (by simp)
    have hz : z < ps.length := hR.lt z (by simp)
    rw [e]
    refine q_tgt (d := .tup [natD a, natD z]) (ed_tup (ea_cons (ed_ixT (ed_var rfl) ed_int at_zero) (ea_cons (ed_ixT (ed_var rfl) (ed_neg ed_int) at_last) ea_nil)) (by simp)) (tg_tup [3, 4] rfl rfl) ?_
    refine q_asg (d := .lst ((mid.filter fun x => uB ps low a x z).map natD)) (ex_d (ex_lcF mid natD natD (fun x => uB ps low a x z) (n := mid.length) [6] (dw_tupN (ds := mid.map natD) (ed_is (ed_slT (ed_var rfl) (eo_some ed_int) (eo_some (ed_neg ed_int))) (by rw [cut_mid])) (List.length_map _)) (fun i d _ h => y_map h) rfl (by omega) (by simp) fun x hx => ?_)) ?_
    · have hxn : x < ps.length := hR.lt x (by simp [hx])
      have hu : f_is_up [shD ps, natD a, natD x, natD z] (.bl (up ps a x z)) := ⟨ps, _, _, _, rfl, ⟨hs, ha, hxn, hz⟩, rfl⟩
      exact ⟨_, tg_name, td_test (ed_eqB (ed_call (ea_cons (ed_var rfl) (ea_cons (ed_var rfl) (ea_cons (ed_var rfl) (ea_cons (ed_var rfl) ea_nil)))) hu) (ed_var rfl)), fun _ => ed_var rfl⟩
    · have hfl := List.length_filter_le (fun x => uB ps low a x z) mid
      refine q_ret (d := .tup ([natD a] ++ (mid.filter fun x => uB ps low a x z).map natD ++ [natD z])) (ed_tupL (ex_l (ex_catL (ex_catL (ex_lst (ea_cons (ed_var rfl) ea_nil) (by simp)) (ed_x (ed_var rfl)) ?_) (ex_lst (ea_cons (ed_var rfl) ea_nil) (by simp)) ?_))) ?_
      · rw [List.length_map, List.length_singleton]
        omega
      · rw [List.length_append, List.length_map, List.length_singleton, List.length_singleton]
        omega
      · show D.tup _ = rowD _
        unfold rowD sideL
        rw [row_enc]
        rfl
/-! ### is_ring_of, is_ring -/
def ringB (ps : List Pt) (a : Nat) (mid : List Nat) (z : Nat) : Bool := bendsB ps (sideL ps a mid z true) true && bendsB ps (sideL ps a mid z false) false
theorem sideL_two (ps : List Pt) (a : Nat) (mid : List Nat) (z : Nat) (low : Bool) : 2 ≤ (sideL ps a mid z low).length := by
  unfold sideL
  simp only [List.length_cons, List.length_append, List.length_nil]
  omega
def f_is_ring_of (ds : List D) (d : D) : Prop := ∃ (ps : List Pt) (a : Nat) (mid : List Nat) (z : Nat), ds = [shD ps, rowD (a :: (mid ++ [z]))] ∧ (Smalls ps ∧ Rise ps.length (a :: (mid ++ [z])) ∧ mid ≠ []) ∧ d = .bl (ringB ps a mid z)
abbrev N_is_ring_of : List Str := ["sheet", "thing"]
theorem sc_is_ring_of : FnScope N_is_ring_of ["sheet", "thing"] (defScope s_is_ring_of) := ⟨rfl, rfl, rfl, by decide +kernel, rfl, by decide +kernel, by decide +kernel⟩
theorem cal_is_ring_of (T : Tx K mg) : Cal P w K mg base 4 "is_ring_of" ["sheet", "thing"] f_is_ring_of := by
  obtain ⟨fd, F⟩ := T.fd_is_ring_of
  refine calOf (N := N_is_ring_of) T.gl_is_ring_of F (fun _ _ _ _ _ _ us hl => match us, hl with | [_, _], _ => rfl) (okP F sc_is_ring_of (fun ds d h => ?_) fun cdv A outer s H E hr ds d h => ⟨_, 
    (pss_cons (ps_if (PW.pt (pw_or (pt_not (pt_val (pe_callP (cal_are_rising T) (hr.mono (by decide)) (by rfl) (pa_cons (pv 1) (pa_cons (pe_callB call_len_seq (by rfl) (T.free_len) bb_len (pa_cons (pv 0) pa_nil)) pa_nil))))) (pw_or1 (pt_cmpR op_lt (pe_callB call_len_seq (by rfl) (T.free_len) bb_len (pa_cons (pv 1) pa_nil)) pe_int (nomark _))))) 
      (pss_cons (ps_ret pe_bl) pss_nil) pss_nil)
    (pss_cons (ps_ret (pe_and (pe_callP (cal_bends T) (hr.mono (by decide)) (by rfl) (pa_cons (pv 0) (pa_cons (pe_callP (cal_side_row T) (hr.mono (by decide)) (by rfl) (pa_cons (pv 0) (pa_cons (pv 1) (pa_cons pe_bl pa_nil)))) (pa_cons pe_bl pa_nil)))) (pe_one (pe_callP (cal_bends T) (hr.mono (by decide)) (by rfl) (pa_cons (pv 0) (pa_cons (pe_callP (cal_side_row T) (hr.mono (by decide)) (by rfl) (pa_cons (pv 0) (pa_cons (pv 1) (pa_cons pe_bl pa_nil)))) (pa_cons pe_bl pa_nil))))))) pss_nil)), ?_⟩)
  · unfold f_is_ring_of at h
    repeat (first | (obtain ⟨e, _⟩ := h; rw [e]; rfl) | (obtain ⟨_, h⟩ := h))
  · obtain ⟨ps, a, mid, z, rfl, ⟨hs, hR, hne⟩, rfl⟩ := h
    have hl : 3 ≤ (a :: (mid ++ [z])).length := by
      have := List.length_pos_iff.mpr hne
      simp only [List.length_cons, List.length_append, List.length_nil]
      omega
    have g1 : f_are_rising [rowD (a :: (mid ++ [z])), natD ps.length] (.bl true) := ⟨_, _, rfl, hR, rfl⟩
    have g2 : ∀ low, f_side_row [shD ps, rowD (a :: (mid ++ [z])), .bl low] (rowD (sideL ps a mid z low)) := fun low => ⟨ps, a, mid, z, low, rfl, ⟨hs, hR⟩, rfl⟩
    have g3 : ∀ low, f_bends [shD ps, rowD (sideL ps a mid z low), .bl low] (.bl (bendsB ps (sideL ps a mid z low) low)) := fun low => ⟨ps, _, low, rfl, ⟨hs, hR.sub (sideL_sub ps a mid z low), sideL_two ps a mid z low⟩, rfl⟩
    refine q_no (td_is (td_or (a := false) (b := false) (td_is (td_not (td_B (ed_call (ea_cons (ed_var rfl) (ea_cons (ed_lenSh (ed_var rfl)) ea_nil)) g1))) rfl) fun _ => td_is (td_test (ed_lt (ed_lenRow (ed_var rfl)) ed_int)) (decide_eq_false (by omega))) rfl) ?_
    exact q_ret (ed_andV (ed_call (ea_cons (ed_var rfl) (ea_cons (ed_call (ea_cons (ed_var rfl) (ea_cons (ed_var rfl) (ea_cons ed_bl ea_nil))) (g2 true)) (ea_cons ed_bl ea_nil))) (g3 true)) fun _ => ed_call (ea_cons (ed_var rfl) (ea_cons (ed_call (ea_cons (ed_var rfl) (ea_cons (ed_var rfl) (ea_cons ed_bl ea_nil))) (g2 false)) (ea_cons ed_bl ea_nil))) (g3 false)) rfl
def f_is_ring (ds : List D) (d : D) : Prop := ∃ (ps : List Pt) (a : Nat) (mid : List Nat) (z : Nat), ds = [rowD (a :: (mid ++ [z])), shD ps] ∧ (Sh ps ∧ Rise ps.length (a :: (mid ++ [z])) ∧ mid ≠ []) ∧ d = .bl (ringB ps a mid z)
abbrev N_is_ring : List Str := ["thing", "sheet"]
theorem sc_is_ring : FnScope N_is_ring ["thing", "sheet"] (defScope s_is_ring) := ⟨rfl, rfl, rfl, by decide +kernel, rfl, by decide +kernel, by decide +kernel⟩
theorem cal_is_ring (T : Tx K mg) : Cal P w K mg base 6 "is_ring" ["thing", "sheet"] f_is_ring := by
  obtain ⟨fd, F⟩ := T.fd_is_ring
  refine calOf (N := N_is_ring) T.gl_is_ring F (fun _ _ _ _ _ _ us hl => match us, hl with | [_, _], _ => rfl) (okP F sc_is_ring (fun ds d h => ?_) fun cdv A outer s H E hr ds d h => ⟨_, 
    (pss_cons (ps_expr (pe_callP (cal_need_sheet T) (hr.mono (by decide)) (by rfl) (pa_cons (pv 1) pa_nil)))
    (pss_cons (ps_ret (pe_callP (cal_is_ring_of T) (hr.mono (by decide)) (by rfl) (pa_cons (pv 1) (pa_cons (pv 0) pa_nil)))) pss_nil)), ?_⟩)
  · unfold f_is_ring at h
    repeat (first | (obtain ⟨e, _⟩ := h; rw [e]; rfl) | (obtain ⟨_, h⟩ := h))
  · obtain ⟨ps, a, mid, z, rfl, ⟨hS, hR, hne⟩, rfl⟩ := h
    have g1 : f_need_sheet [shD ps] .non := ⟨ps, rfl, hS, rfl⟩
    have g2 : f_is_ring_of [shD ps, rowD (a :: (mid ++ [z]))] (.bl (ringB ps a mid z)) := ⟨ps, a, mid, z, rfl, ⟨hS.small, hR, hne⟩, rfl⟩
    exact q_drop (ed_call (ea_cons (ed_var rfl) ea_nil) g1) (q_ret (ed_call (ea_cons (ed_var rfl) (ea_cons (ed_var rfl) ea_nil)) g2) rfl)
/-! ### outer_row -/
def popB (U : Nat → Nat → Nat → Bool) (k : Nat) : List Nat → Bool
  | l :: m :: _ => !U m l k
  | _ => false
theorem popB_no {U : Nat → Nat → Nat → Bool} {k : Nat} : ∀ {s : List Nat}, popB U k s = false → popR U k s = s
  | [], _ => rfl
  | [_], _ => rfl
  | l :: m :: r, h => if_pos (by simpa [popB] using h)
def f_outer_row (ds : List D) (d : D) : Prop := ∃ (ps : List Pt) (b : Bool), ds = [shD ps, .bl b] ∧ (Smalls ps ∧ ps.length ≤ 7) ∧ d = .lst ((outR ps b).map natD)
abbrev N_outer_row : List Str := ["sheet", "up", "found", "place"]
theorem sc_outer_row : FnScope N_outer_row ["sheet", "up"] (defScope s_outer_row) := ⟨rfl, rfl, rfl, by decide +kernel, rfl, by decide +kernel, by decide +kernel⟩
theorem cal_outer_row (T : Tx K mg) : Cal P w K mg base 3 "outer_row" ["sheet", "up"] f_outer_row := by
  obtain ⟨fd, F⟩ := T.fd_outer_row
  refine calOf (N := N_outer_row) T.gl_outer_row F (fun _ _ _ _ _ _ us hl => match us, hl with | [_, _], _ => rfl) (okP F sc_outer_row (fun ds d h => ?_) fun cdv A outer s H E hr ds d h => ⟨_, 
    (pss_cons (ps_set (i := 2) sc_outer_row.nd rfl (Or.inl rfl) (pe_lst pa_nil))
    (pss_cons (ps_for PassesOwn.never rfl (pi_range1 (by rfl) T.free_range (pa_cons (pe_callB call_len_seq (by rfl) (T.free_len) bb_len (pa_cons (pv 0) pa_nil)) pa_nil)) (pg_name (i := 3) sc_outer_row.nd rfl (Or.inl rfl)) 
      (pss_cons (ps_while PassesOwn.never (PW.pt (pw_and (pt_cmpR op_gt (pe_callB call_len_seq (by rfl) (T.free_len) bb_len (pa_cons (pv 2) pa_nil)) pe_int (nomark _)) (pw_and1 (pt_cmpR op_ne (pe_callP (cal_is_up T) (hr.mono (by decide)) (by rfl) (pa_cons (pv 0) (pa_cons (pe_ix (ix_listK (K := K) rfl) (pv 2) (pe_un un_neg pe_int) (fun _ _ => rfl)) (pa_cons (pe_ix (ix_listK (K := K) rfl) (pv 2) (pe_un un_neg pe_int) (fun _ _ => rfl)) (pa_cons (pv 3) pa_nil))))) (pv 1) (nomark _))))) 
        (pss_cons (ps_expr (pe_bm0 PySem.F.plainAttrs_list PySem.F.slot_list_pop PySem.F.type_list_pop mt_pop (pv 2))) pss_nil))
      (pss_cons (ps_expr (pe_bm PySem.F.plainAttrs_list PySem.F.slot_list_append PySem.F.type_list_append mt_append (pv 2) (pa_cons (pv 3) pa_nil))) pss_nil)))
    (pss_cons (ps_ret (pv 2)) pss_nil))), ?_⟩)
  · unfold f_outer_row at h
    repeat (first | (obtain ⟨e, _⟩ := h; rw [e]; rfl) | (obtain ⟨_, h⟩ := h))
  · obtain ⟨ps, b, rfl, ⟨hs, hl⟩, rfl⟩ := h
    refine q_newL ?_
    refine q_for (n := ps.length) (dw_r1 (ed_lenSh (ed_var rfl)) (by omega)) (fun k δ => δ = [.dat (shD ps), .dat (.bl b), .ol ((stk (uB ps b) k).reverse.map natD), .un]) (fun _ => False) rfl Le.rfl ?_ ?_ (fun _ z => z.elim)
    · rintro k d δ1 hk rfl rfl
      refine ⟨[3], _, tg_name, ?_⟩
      refine q_while (m0 := (stk (uB ps b) k).length) (fun m δ => ∃ s, m = s.length ∧ m ≤ 7 ∧ (∀ x ∈ s, x < k) ∧ popR (uB ps b) k s = popR (uB ps b) k (stk (uB ps b) k) ∧ δ = [.dat (shD ps), .dat (.bl b), .ol (s.reverse.map natD), .dat (natD k)]) ⟨_, rfl, by have := stk_len (uB ps b) k; omega, stk_lt _ k, rfl, rfl⟩ Le.rfl (fun _ => False) ?_ (fun _ z => z.elim)
      rintro m δ1 ⟨s, rfl, hm, hlt, hp, rfl⟩
      have hlen : (s.reverse.map natD).length = s.length := by simp
      refine ⟨popB (uB ps b) k s, ?_, fun z => ?_, fun z => ?_⟩
      · match s, hm, hlt, hlen with
        | [], hm, hlt, hlen => exact td_is (td_and (a := false) (b := false) (td_is (td_test (ed_gt (ed_lenL (el_own rfl)) ed_int)) rfl) fun z => Bool.noConfusion z) rfl
        | [x], hm, hlt, hlen => exact td_is (td_and (a := false) (b := false) (td_is (td_test (ed_gt (ed_lenL (el_own rfl)) ed_int)) rfl) fun z => Bool.noConfusion z) rfl
        | l :: m :: r, hm, hlt, hlen =>
          have e : (l :: m :: r).reverse = r.reverse ++ [m, l] := by simp
          have hl1 : l < k := hlt l (by simp)
          have hm1 : m < k := hlt m (by simp)
          have hu : f_is_up [shD ps, natD m, natD l, natD k] (.bl (up ps m l k)) := ⟨ps, _, _, _, rfl, ⟨hs, by omega, by omega, by omega⟩, rfl⟩
          exact td_is (td_and (a := true) (b := !uB ps b m l k) (td_is (td_test (ed_gt (ed_lenL (el_own rfl)) ed_int)) (decide_eq_true (by rw [hlen]; simp; omega))) fun _ => td_test (ed_neB (ed_call (ea_cons (ed_var rfl) (ea_cons (ed_ixL (el_own rfl) (ed_neg ed_int) (by rw [e]; exact row_at2)) (ea_cons (ed_ixL (el_own rfl) (ed_neg ed_int) (by rw [e]; exact row_at1)) (ea_cons (ed_var rfl) ea_nil)))) hu) (ed_var rfl))) rfl
      · match s, hm, hlt, hp, hlen, z with
        | l :: m :: r, hm, hlt, hp, hlen, z =>
          have hU : ¬ uB ps b m l k = true := by simpa [popB] using z
          have ep : popR (uB ps b) k (l :: m :: r) = popR (uB ps b) k (m :: r) := if_neg hU
          refine q_pop (i := 2) rfl rfl (by rw [hlen]; simp) (sd_nx ⟨(m :: r).length, by simp, m :: r, rfl, by simp at hm ⊢; omega, fun x hx => hlt x (List.mem_cons_of_mem _ hx), ep.symm.trans hp, rfl⟩ ?_)
          have e2 : ((l :: m :: r).reverse.map natD).dropLast = (m :: r).reverse.map natD := by simp
          rw [e2]
          exact Le.rfl
      · refine q_app (i := 2) (d := natD k) (ed_var rfl) rfl rfl (by rw [hlen]; omega) (sd_nx rfl ?_)
        have e : stk (uB ps b) (k + 1) = k :: s := congrArg (k :: ·) (hp.symm.trans (popB_no z))
        rw [e, List.reverse_cons, List.map_append]
        exact .eq (.eq (.eq (.un .nil)))
    · rintro δ1 rfl
      exact q_keepL (i := 2) rfl rfl (q_ret (ed_var rfl) rfl)
/-! ### outer_ring, outermost -/
def outP (ps : List Pt) : List Nat := setP ps.length (outR ps true ++ outR ps false)
theorem out_lt {ps : List Pt} : ∀ x ∈ outR ps true ++ outR ps false, x < ps.length := fun x hx => by
  rcases List.mem_append.mp hx with hx | hx
  · exact outR_lt hx
  · exact outR_lt hx
theorem out_len {ps : List Pt} (hl : ps.length ≤ 7) : (outR ps true ++ outR ps false).length < 64 := by
  have h1 := outR_len ps true
  have h2 := outR_len ps false
  rw [List.length_append]
  omega
theorem ex_out {δ : List Fr} {ta tb : TE} {C : Addr} {ps : List Pt} (hl : ps.length ≤ 7) (h1 : ED K C ta δ (.lst ((outR ps true).map natD))) (h2 : ED K C tb δ (.lst ((outR ps false).map natD))) : EX K C (tCB (rSortedSet w) (tCons (tCB (rSetI K w) (tCons (tOp rCat ta tb) tNil)) tNil)) δ ((outP ps).map natD) := by
  refine ex_ssetN ?_ (out_len hl) out_lt
  have g1 := outR_len ps true
  have g2 := outR_len ps false
  rw [List.map_append]
  exact ex_catL (ed_x h1) (ed_x h2) (by rw [List.length_map, List.length_map]; omega)
def f_outer_ring (ds : List D) (d : D) : Prop := ∃ (ps : List Pt), ds = [shD ps] ∧ (Sh ps ∧ 3 ≤ ps.length) ∧ d = rowD (outP ps)
abbrev N_outer_ring : List Str := ["sheet"]
theorem sc_outer_ring : FnScope N_outer_ring ["sheet"] (defScope s_outer_ring) := ⟨rfl, rfl, rfl, by decide +kernel, rfl, by decide +kernel, by decide +kernel⟩
theorem cal_outer_ring (T : Tx K mg) : Cal P w K mg base 6 "outer_ring" ["sheet"] f_outer_ring := by
  obtain ⟨fd, F⟩ := T.fd_outer_ring
  refine calOf (N := N_outer_ring) T.gl_outer_ring F (fun _ _ _ _ _ _ us hl => match us, hl with | [_], _ => rfl) (okP F sc_outer_ring (fun ds d h => ?_) fun cdv A outer s H E hr ds d h => ⟨_, 
    (pss_cons (ps_expr (pe_callP (cal_need_sheet T) (hr.mono (by decide)) (by rfl) (pa_cons (pv 0) pa_nil)))
    (pss_cons (ps_if (pt_cmpR op_lt (pe_callB call_len_seq (by rfl) (T.free_len) bb_len (pa_cons (pv 0) pa_nil)) pe_int (nomark _)) 
      (pss_cons ps_never pss_nil) pss_nil)
    (pss_cons (ps_ret (pe_callTy call_tuple_of (by rfl) (T.free_tuple) bb_tuple (pa_cons (pe_callB (cr_sortedSet rfl) (by rfl) (T.free_sorted) bb_sorted (pa_cons (pe_callTy (cr_setI rfl) (by rfl) (T.free_set) bb_set (pa_cons (pe_op op_cat (pe_callP (cal_outer_row T) (hr.mono (by decide)) (by rfl) (pa_cons (pv 0) (pa_cons pe_bl pa_nil))) (pe_callP (cal_outer_row T) (hr.mono (by decide)) (by rfl) (pa_cons (pv 0) (pa_cons pe_bl pa_nil)))) pa_nil)) pa_nil)) pa_nil))) pss_nil))), ?_⟩)
  · unfold f_outer_ring at h
    repeat (first | (obtain ⟨e, _⟩ := h; rw [e]; rfl) | (obtain ⟨_, h⟩ := h))
  · obtain ⟨ps, rfl, ⟨hS, h3⟩, rfl⟩ := h
    have g1 : f_need_sheet [shD ps] .non := ⟨ps, rfl, hS, rfl⟩
    have g2 : ∀ b, f_outer_row [shD ps, .bl b] (.lst ((outR ps b).map natD)) := fun b => ⟨ps, b, rfl, ⟨hS.small, hS.le⟩, rfl⟩
    refine q_drop (ed_call (ea_cons (ed_var rfl) ea_nil) g1) (q_no (td_is (td_test (ed_lt (ed_lenSh (ed_var rfl)) ed_int)) (decide_eq_false (by omega))) ?_)
    exact q_ret (d := .tup ((outP ps).map natD)) (ed_tupL (ex_l (ex_out hS.le (ed_call (ea_cons (ed_var rfl) (ea_cons ed_bl ea_nil)) (g2 true)) (ed_call (ea_cons (ed_var rfl) (ea_cons ed_bl ea_nil)) (g2 false))))) rfl
def f_outermost (ds : List D) (d : D) : Prop := ∃ (ps : List Pt), ds = [shD ps] ∧ (Smalls ps ∧ ps.length ≤ 7) ∧ d = .lst ((outP ps).map natD)
abbrev N_outermost : List Str := ["sheet"]
theorem sc_outermost : FnScope N_outermost ["sheet"] (defScope s_outermost) := ⟨rfl, rfl, rfl, by decide +kernel, rfl, by decide +kernel, by decide +kernel⟩
theorem cal_outermost (T : Tx K mg) : Cal P w K mg base 4 "outermost" ["sheet"] f_outermost := by
  obtain ⟨fd, F⟩ := T.fd_outermost
  refine calOf (N := N_outermost) T.gl_outermost F (fun _ _ _ _ _ _ us hl => match us, hl with | [_], _ => rfl) (okP F sc_outermost (fun ds d h => ?_) fun cdv A outer s H E hr ds d h => ⟨_, 
    (pss_cons (ps_ret (pe_callB (cr_sortedSet rfl) (by rfl) (T.free_sorted) bb_sorted (pa_cons (pe_callTy (cr_setI rfl) (by rfl) (T.free_set) bb_set (pa_cons (pe_op op_cat (pe_callP (cal_outer_row T) (hr.mono (by decide)) (by rfl) (pa_cons (pv 0) (pa_cons pe_bl pa_nil))) (pe_callP (cal_outer_row T) (hr.mono (by decide)) (by rfl) (pa_cons (pv 0) (pa_cons pe_bl pa_nil)))) pa_nil)) pa_nil))) pss_nil), ?_⟩)
  · unfold f_outermost at h
    repeat (first | (obtain ⟨e, _⟩ := h; rw [e]; rfl) | (obtain ⟨_, h⟩ := h))
  · obtain ⟨ps, rfl, ⟨hs, hl⟩, rfl⟩ := h
    have g2 : ∀ b, f_outer_row [shD ps, .bl b] (.lst ((outR ps b).map natD)) := fun b => ⟨ps, b, rfl, ⟨hs, hl⟩, rfl⟩
    exact q_ret (ex_d (ex_out hl (ed_call (ea_cons (ed_var rfl) (ea_cons ed_bl ea_nil)) (g2 true)) (ed_call (ea_cons (ed_var rfl) (ea_cons ed_bl ea_nil)) (g2 false)))) rfl
/-! ### peels -/
def peelsP (ps : List Pt) : List (List Nat) := peelF ps ps.length (List.range ps.length)
def f_peels (ds : List D) (d : D) : Prop := ∃ (ps : List Pt), ds = [shD ps] ∧ Sh ps ∧ d = .lst ((peelsP ps).map rowD)
theorem eqv_nil : ∀ s : List Nat, PyData.eqv (toP (.lst (s.map natD))) (toP (.lst [])) = decide (s = [])
  | [] => rfl
  | _ :: _ => rfl
abbrev N_peels : List Str := ["sheet", "left", "found", "some", "peel", "at", "place"]
theorem sc_peels : FnScope N_peels ["sheet"] (defScope s_peels) := ⟨rfl, rfl, rfl, by decide +kernel, rfl, by decide +kernel, by decide +kernel⟩
theorem cal_peels (T : Tx K mg) : Cal P w K mg base 6 "peels" ["sheet"] f_peels := by
  obtain ⟨fd, F⟩ := T.fd_peels
  refine calOf (N := N_peels) T.gl_peels F (fun _ _ _ _ _ _ us hl => match us, hl with | [_], _ => rfl) (okP F sc_peels (fun ds d h => ?_) fun cdv A outer s H E hr ds d h => ⟨_, 
    (pss_cons (ps_expr (pe_callP (cal_need_sheet T) (hr.mono (by decide)) (by rfl) (pa_cons (pv 0) pa_nil)))
    (pss_cons (ps_set (i := 1) sc_peels.nd rfl (Or.inr rfl) (pe_listRg rfl (by rfl) T.free_list (prg_1 (by rfl) T.free_range (pe_callB call_len_seq (by rfl) (T.free_len) bb_len (pa_cons (pv 0) pa_nil)))))
    (pss_cons (ps_set (i := 2) sc_peels.nd rfl (Or.inl rfl) (pe_lst pa_nil))
    (pss_cons (ps_while PassesOwn.never (pt_cmpR (op_neD hr.units) (pv 1) (pe_lst pa_nil) (nomark _)) 
      (pss_cons (ps_set (i := 3) sc_peels.nd rfl (Or.inl rfl) (pe_callTy call_tuple_of (by rfl) (T.free_tuple) bb_tuple (pa_cons (pe_lc (own := [("place", 6)]) rfl sc_peels.nd (pi_list (pv 1)) (blkOk_by (own := [("place", 6)]) (N := N_peels) (sc := defScope s_peels) (by decide +kernel)) (fun _ _ _ _ _ => (pg_name (i := 6) sc_peels.nd rfl (Or.inl rfl))) (fun _ _ _ _ _ => pts_nil) (fun _ _ _ _ _ => (pe_ix (ix_tupK (K := K) rfl) (pv 0) (pv 6) (fun _ _ => rfl)))) pa_nil)))
      (pss_cons (ps_set (i := 4) sc_peels.nd rfl (Or.inr rfl) (pe_lc (own := [("at", 5)]) rfl sc_peels.nd (pi_list (pe_callP (cal_outermost T) (hr.mono (by decide)) (by rfl) (pa_cons (pv 3) pa_nil))) (blkOk_by (own := [("at", 5)]) (N := N_peels) (sc := defScope s_peels) (by decide +kernel)) (fun _ _ _ _ _ => (pg_name (i := 5) sc_peels.nd rfl (Or.inl rfl))) (fun _ _ _ _ _ => pts_nil) (fun _ _ _ _ _ => (pe_ix (ix_listK (K := K) rfl) (pv 1) (pv 5) (fun _ _ => rfl)))))
      (pss_cons (ps_expr (pe_bm PySem.F.plainAttrs_list PySem.F.slot_list_append PySem.F.type_list_append mt_append (pv 2) (pa_cons (pe_callTy call_tuple_of (by rfl) (T.free_tuple) bb_tuple (pa_cons (pv 4) pa_nil)) pa_nil)))
      (pss_cons (ps_set (i := 1) sc_peels.nd rfl (Or.inr rfl) (pe_lc (own := [("place", 6)]) rfl sc_peels.nd (pi_list (pv 1)) (blkOk_by (own := [("place", 6)]) (N := N_peels) (sc := defScope s_peels) (by decide +kernel)) (fun _ _ _ _ _ => (pg_name (i := 6) sc_peels.nd rfl (Or.inl rfl))) (fun _ _ _ _ _ => (pts_one (pt_cmpR (op_notIn_seqK (K := K) rfl) (pv 6) (pv 4) rfl))) (fun _ _ _ _ _ => (pv 6)))) pss_nil)))))
    (pss_cons (ps_ret (pv 2)) pss_nil))))), ?_⟩)
  · unfold f_peels at h
    repeat (first | (obtain ⟨e, _⟩ := h; rw [e]; rfl) | (obtain ⟨_, h⟩ := h))
  · obtain ⟨ps, rfl, hS, rfl⟩ := h
    have g1 : f_need_sheet [shD ps] .non := ⟨ps, rfl, hS, rfl⟩
    have hle := hS.le
    refine q_drop (ed_call (ea_cons (ed_var rfl) ea_nil) g1) ?_
    refine q_asg (d := .lst ((List.range ps.length).map natD)) (ex_d (ex_listRg (ed_lenSh (ed_var rfl)) (by omega))) (q_newL ?_)
    refine q_while (m0 := ps.length) (fun m δ => ∃ left fnd f, m = left.length ∧ left.length ≤ f ∧ left.length ≤ 7 ∧ fnd.length + left.length ≤ 7 ∧ (∀ x ∈ left, x < ps.length) ∧ fnd ++ peelF ps f left = peelsP ps ∧ δ = [.dat (shD ps), .dat (.lst (left.map natD)), .ol (fnd.map rowD), .un, .un, .un, .un]) ⟨List.range ps.length, [], ps.length, by simp, by simp, by simpa using hle, by simpa using hle, fun x hx => List.mem_range.mp hx, rfl, rfl⟩ Le.rfl (fun _ => False) ?_ (fun _ z => z.elim)
    rintro m δ1 ⟨left, fnd, f, rfl, hf, h7, hfl, hlt, htgt, rfl⟩
    refine ⟨_, td_test (ed_neD (b := decide (left = [])) (ed_h (ed_var rfl)) (ed_h (ex_d (ex_lst ea_nil (by simp)))) (isPs_row left) rfl (shaped_lst (canl_row left) (Nat.le_trans (deep_row left) (by decide))) rfl (eqv_nil left)), fun e => ?_, fun e => ?_⟩
    · have hne : left ≠ [] := by simpa using e
      obtain ⟨f', rfl⟩ : ∃ f', f = f' + 1 := by
        have := List.length_pos_iff.mpr hne
        exact ⟨f - 1, by omega⟩
      have hless := peel_less (ps := ps) hne
      have hall : ∀ x ∈ left.map (ix ps), Small x := fun x hx => by
        obtain ⟨y, hy, rfl⟩ := List.mem_map.mp hx
        exact hS.small _ (ix_mem (hlt y hy))
      have g2 : f_outermost [shD (left.map (ix ps))] (.lst ((outP (left.map (ix ps))).map natD)) := ⟨_, rfl, ⟨hall, by rw [List.length_map]; exact h7⟩, rfl⟩
      have hpk : pkP ps left = (outP (left.map (ix ps))).map fun a => left.getD a 0 := by
        unfold pkP outP
        rw [List.length_map]
      have hol : ∀ x ∈ outP (left.map (ix ps)), x < left.length := fun x hx => by
        have := (setP_mem.mp hx).1
        rwa [List.length_map] at this
      have hon : (outP (left.map (ix ps))).length ≤ 7 := by
        have := rise_len (k := 0) (n := left.length) (setP_rise _ _) fun x hx => ⟨Nat.zero_le _, hol x hx⟩
        unfold outP at this ⊢
        omega
      refine q_asg (d := shD (left.map (ix ps))) (ed_is (ed_tupL (ex_l (ex_lcM left natD (fun x => prD (ix ps x)) (n := left.length) [6] (dw_listN (ed_var rfl) (List.length_map _)) (fun i d _ h => y_map h) rfl (by omega) (by simp) fun x hx => ⟨_, tg_name, ed_ixT (ed_var rfl) (ed_var rfl) (at_sh (hlt x hx))⟩))) (by
        unfold shD
        rw [List.map_map]
        rfl)) ?_
      refine q_asg (d := .lst ((pkP ps left).map natD)) (ed_is (ex_d (ex_lcM (outP (left.map (ix ps))) natD (fun a => natD (left.getD a 0)) (n := (outP (left.map (ix ps))).length) [5] (dw_listN (ed_call (ea_cons (ed_var rfl) ea_nil) g2) (List.length_map _)) (fun i d _ h => y_map h) rfl (by omega) (by simp) fun x hx => ⟨_, tg_name, ed_ixL (ed_l (ed_var rfl)) (ed_var rfl) (at_row (hol x hx))⟩)) (by
        rw [hpk, List.map_map]
        rfl)) ?_
      refine q_app (i := 2) (d := rowD (pkP ps left)) (ed_tupL (ed_l (ed_var rfl))) rfl rfl (by rw [List.length_map]; omega) ?_
      refine q_asg (d := .lst ((left.filter fun x => decide (x ∉ pkP ps left)).map natD)) (ex_d (ex_lcF left natD natD (fun x => decide (x ∉ pkP ps left)) (n := left.length) [6] (dw_listN (ed_var rfl) (List.length_map _)) (fun i d _ h => y_map h) rfl (by omega) (by simp) fun x hx => ⟨_, tg_name, td_is (td_test (ed_ninL (ed_var rfl) (ed_l (ed_var rfl)) rfl (flat_nats _))) (by rw [inD_nat]; simp), fun _ => ed_var rfl⟩)) ?_
      refine sd_nx ⟨_, hless, left.filter fun x => decide (x ∉ pkP ps left), fnd ++ [pkP ps left], f', rfl, by omega, by omega, by rw [List.length_append, List.length_singleton]; omega, fun x hx => hlt x (List.mem_filter.mp hx).1, ?_, rfl⟩ ?_
      · rw [← htgt]
        have : peelF ps (f' + 1) left = pkP ps left :: peelF ps f' (left.filter fun x => decide (x ∉ pkP ps left)) := if_neg hne
        rw [this, List.append_assoc]
        rfl
      · rw [List.map_append]
        exact .eq (.eq (.eq (.un (.un (.eq (.eq .nil))))))
    · have he : left = [] := by simpa using e
      subst he
      have hpe : peelF ps f [] = [] := by
        cases f with
        | zero => rfl
        | succ f => exact if_pos rfl
      rw [hpe, List.append_nil] at htgt
      subst htgt
      exact q_keepL (i := 2) rfl rfl (q_ret (ed_var rfl) rfl)
end
end Bt

end BtE_part
section BtF_part
set_option Elab.async false
set_option linter.all false
set_option maxRecDepth 100000
set_option maxHeartbeats 4000000
namespace Bt
open PySem PySem.Spec PyProof.Rows L2 BtR
/-! lookups in dicts -/
theorem getT_map {α : Type} [DecidableEq α] {k k' : α} {d : D} : ∀ kvs : List (α × D), getT (kvs.map fun kv => if kv.1 = k then (kv.1, d) else kv) k' = if k' = k then (getT kvs k).map (fun _ => d) else getT kvs k'
  | [] => by
    split <;> rfl
  | (a, b) :: kvs => by
    have ih := getT_map (k := k) (k' := k') (d := d) kvs
    unfold getT at ih ⊢
    rw [List.map_cons]
    by_cases e1 : a = k
    · subst e1
      rw [if_pos rfl]
      by_cases e2 : k' = a
      · subst e2
        simp
      · rw [if_neg e2] at ih ⊢
        have : ¬ a = k' := fun z => e2 z.symm
        rw [List.find?, decide_eq_false this, List.find?, decide_eq_false this]
        exact ih
    · rw [if_neg e1]
      by_cases e2 : k' = k
      · subst e2
        rw [if_pos rfl] at ih ⊢
        rw [List.find?, decide_eq_false e1, List.find?, decide_eq_false e1]
        exact ih
      · rw [if_neg e2] at ih ⊢
        by_cases e3 : a = k'
        · subst e3
          simp
        · rw [List.find?, decide_eq_false e3, List.find?, decide_eq_false e3]
          exact ih
theorem getT_app {α : Type} [DecidableEq α] {k k' : α} {d : D} : ∀ {kvs : List (α × D)}, getT (kvs ++ [(k, d)]) k' = (getT kvs k').or (if k' = k then some d else none)
  | [] => by
    by_cases e : k' = k
    · subst e
      simp [getT]
    · have : ¬ k = k' := fun z => e z.symm
      simp [getT, e, this]
  | (a, b) :: kvs => by
    have ih := getT_app (k := k) (k' := k') (d := d) (kvs := kvs)
    unfold getT at ih ⊢
    rw [List.cons_append]
    by_cases e : a = k'
    · subst e
      simp
    · rw [List.find?, decide_eq_false e, List.find?, decide_eq_false e]
      exact ih
theorem getT_none {α : Type} [DecidableEq α] {k : α} {kvs : List (α × D)} (h : ¬ (kvs.any fun kv => decide (kv.1 = k)) = true) : getT kvs k = none := by
  unfold getT
  rw [List.find?_eq_none.mpr]
  · rfl
  · intro x hx z
    exact h (List.any_eq_true.mpr ⟨x, hx, z⟩)
theorem getT_any {α : Type} [DecidableEq α] {k : α} {kvs : List (α × D)} (h : (kvs.any fun kv => decide (kv.1 = k)) = true) : ∃ d, getT kvs k = some d := by
  unfold getT
  obtain ⟨x, hx, e⟩ := List.any_eq_true.mp h
  cases hf : kvs.find? fun kv => decide (kv.1 = k) with
  | some y => exact ⟨_, rfl⟩
  | none => exact absurd e (List.find?_eq_none.mp hf x hx)
theorem get_put {α : Type} [DecidableEq α] {k k' : α} {d : D} {kvs : List (α × D)} : getT (putT kvs k d) k' = if k' = k then some d else getT kvs k' := by
  unfold putT
  split
  · rename_i h
    rw [getT_map]
    obtain ⟨x, hx⟩ := getT_any h
    rw [hx]
    rfl
  · rename_i h
    rw [getT_app]
    by_cases e : k' = k
    · subst e
      simp [getT_none h]
    · rw [if_neg e, if_neg e]
      cases getT kvs k' <;> rfl
theorem put_len {α : Type} [DecidableEq α] {k : α} {d : D} {kvs : List (α × D)} : (putT kvs k d).length ≤ kvs.length + 1 := by
  unfold putT
  split
  · rw [List.length_map]
    omega
  · rw [List.length_append]
    exact Nat.le_refl _
/-- all that a dict of pairs answers -/
def Lk (kvs : List (List Int × D)) (S : Nat → Nat → Option (List Nat)) : Prop := ∀ a c : Nat, getT kvs [(a : Int), (c : Int)] = (S a c).map rowD
theorem Lk.put {kvs : List (List Int × D)} {S S' : Nat → Nat → Option (List Nat)} {a c : Nat} {r : List Nat} (h : Lk kvs S) (h1 : S' a c = some r) (h2 : ∀ x y, ¬ (x = a ∧ y = c) → S' x y = S x y) : Lk (putT kvs [(a : Int), (c : Int)] (rowD r)) S' := fun x y => by
  rw [get_put]
  by_cases e : x = a ∧ y = c
  · obtain ⟨rfl, rfl⟩ := e
    rw [if_pos rfl, h1]
    rfl
  · rw [if_neg, h2 x y e]
    · exact h x y
    · intro z
      simp only [List.cons.injEq, Int.natCast_inj, and_true] at z
      exact e z
theorem Lk.is {kvs : List (List Int × D)} {S S' : Nat → Nat → Option (List Nat)} (h : Lk kvs S) (e : ∀ x y, S' x y = S x y) : Lk kvs S' := fun x y => by rw [e]; exact h x y
/-- columns -/
def Cs (U : Nat → Nat → Nat → Bool) (p j : Nat) (E : Nat → Option (List Nat)) (a c : Nat) : Option (List Nat) := if c = j then E a else if c < j ∧ p ≤ a ∧ a < c then Vr U p a c else none
def enD (U : Nat → Nat → Nat → Bool) (p t : Nat) : List (Int × D) := (List.range' (p + 1) t).map fun j : Nat => ((j : Int), rowD (Ew U p j))
theorem enD_get {U : Nat → Nat → Nat → Bool} {p j : Nat} : ∀ {s t : Nat}, s ≤ j → j < s + t → getT ((List.range' s t).map fun j : Nat => ((j : Int), rowD (Ew U p j))) (j : Int) = some (rowD (Ew U p j))
  | s, 0, h1, h2 => by omega
  | s, t + 1, h1, h2 => by
    rw [List.range'_succ, List.map_cons]
    unfold getT
    by_cases e : s = j
    · subst e
      simp
    · have : ¬ ((s : Int) = (j : Int)) := fun z => e (Int.natCast_inj.mp z)
      rw [List.find?, decide_eq_false this]
      exact enD_get (s := s + 1) (t := t) (by omega) (by omega)
theorem enD_no {U : Nat → Nat → Nat → Bool} {p t : Nat} : ((enD U p t).any fun kv => decide (kv.1 = ((p + 1 + t : Nat) : Int))) = false := by
  rw [List.any_eq_false]
  intro x hx
  obtain ⟨y, hy, rfl⟩ := List.mem_map.mp hx
  have := List.mem_range'_1.mp hy
  simp
  omega
theorem enD_new {U : Nat → Nat → Nat → Bool} {p t : Nat} {d : D} : putT (enD U p t) ((p + 1 + t : Nat) : Int) d = enD U p t ++ [(((p + 1 + t : Nat) : Int), d)] := by
  unfold putT
  rw [if_neg (by rw [enD_no]; simp)]
theorem enD_old {U : Nat → Nat → Nat → Bool} {p t : Nat} {d e : D} : putT (enD U p t ++ [(((p + 1 + t : Nat) : Int), e)]) ((p + 1 + t : Nat) : Int) d = enD U p t ++ [(((p + 1 + t : Nat) : Int), d)] := by
  unfold putT
  rw [if_pos (by simp), List.map_append]
  congr 1
  · have hn := enD_no (U := U) (p := p) (t := t)
    rw [List.any_eq_false] at hn
    have : ∀ kv ∈ enD U p t, (if kv.1 = ((p + 1 + t : Nat) : Int) then (kv.1, d) else kv) = kv := fun kv hk => if_neg (by simpa using hn kv hk)
    rw [List.map_congr_left this]
    simp
  · simp
theorem enD_got {U : Nat → Nat → Nat → Bool} {p t : Nat} {e : D} : getT (enD U p t ++ [(((p + 1 + t : Nat) : Int), e)]) ((p + 1 + t : Nat) : Int) = some e := by
  rw [getT_app, getT_none (by rw [enD_no]; simp), if_pos rfl]
  rfl
section
variable {P : Program} {w : World} {K : PySem.W.Frag} {mg : Str → Option Value} {base : Heap}
theorem dw_r2N {C : Addr} {ta tb : TE} {δ : List Fr} {a b n : Nat} (ha : ED K C ta δ (.int (a : Int))) (hb : ED K C tb δ (.int (b : Int))) (hn : a ≤ 100000 ∧ b ≤ 100000) (e : b - a = n) : DW K C (iRng2 (tCons ta (tCons tb tNil))) δ n fun i d => d = .int ((a + i : Nat) : Int) := e ▸ dw_r2 ha hb hn
theorem optM {o : Option (List Nat)} : (o.map rowD).isSome = o.isSome := by cases o <;> rfl
/-! ### longest_from -/
def f_longest_from (ds : List D) (d : D) : Prop := ∃ (ps : List Pt) (p : Nat) (b : Bool), ds = [shD ps, natD p, .bl b] ∧ (Smalls ps ∧ ps.length ≤ 7 ∧ p < ps.length) ∧ d = .dK (enD (uB ps b) p (ps.length - (p + 1)))
abbrev N_longest_from : List Str := ["sheet", "p", "up", "found", "ends", "j", "i", "h"]
theorem sc_longest_from : FnScope N_longest_from ["sheet", "p", "up"] (defScope s_longest_from) := ⟨rfl, rfl, rfl, by decide +kernel, rfl, by decide +kernel, by decide +kernel⟩
theorem cal_longest_from (T : Tx K mg) : Cal P w K mg base 3 "longest_from" ["sheet", "p", "up"] f_longest_from := by
  obtain ⟨fd, F⟩ := T.fd_longest_from
  refine calOf (N := N_longest_from) T.gl_longest_from F (fun _ _ _ _ _ _ us hl => match us, hl with | [_, _, _], _ => rfl) (okP F sc_longest_from (fun ds d h => ?_) fun cdv A outer s H E hr ds d h => ⟨_, 
    (pss_cons (ps_set (i := 3) sc_longest_from.nd rfl (Or.inl rfl) pe_dnewT)
    (pss_cons (ps_set (i := 4) sc_longest_from.nd rfl (Or.inl rfl) pe_dnewK)
    (pss_cons (ps_for PassesOwn.never rfl (pi_range2 (by rfl) T.free_range (pa_cons (pe_op op_add (pv 1) pe_int) (pa_cons (pe_callB call_len_seq (by rfl) (T.free_len) bb_len (pa_cons (pv 0) pa_nil)) pa_nil))) (pg_name (i := 5) sc_longest_from.nd rfl (Or.inl rfl)) 
      (pss_cons (ps_dput (hu_of hr) (pv 3) (pe_tup (pa_cons (pv 1) (pa_cons (pv 5) pa_nil))) (pe_tup (pa_cons (pv 1) (pa_cons (pv 5) pa_nil))) rfl)
      (pss_cons (ps_dput (hu_of hr) (pv 4) (pv 5) (pe_tup (pa_cons (pv 1) (pa_cons (pv 5) pa_nil))) rfl)
      (pss_cons (ps_for PassesOwn.never rfl (pi_range2 (by rfl) T.free_range (pa_cons (pe_op op_add (pv 1) pe_int) (pa_cons (pv 5) pa_nil))) (pg_name (i := 6) sc_longest_from.nd rfl (Or.inl rfl)) 
        (pss_cons (ps_for PassesOwn.never rfl (pi_range2 (by rfl) T.free_range (pa_cons (pv 1) (pa_cons (pv 6) pa_nil))) (pg_name (i := 7) sc_longest_from.nd rfl (Or.inl rfl)) 
          (pss_cons (ps_if (PW.pt (pw_and (pt_cmp (pc_din (hu_of hr) (pe_tup (pa_cons (pv 7) (pa_cons (pv 6) pa_nil))) (pv 3))) (pw_and1 (pt_cmpR op_eq (pe_callP (cal_is_up T) (hr.mono (by decide)) (by rfl) (pa_cons (pv 0) (pa_cons (pv 7) (pa_cons (pv 6) (pa_cons (pv 5) pa_nil))))) (pv 2) (nomark _))))) 
            (pss_cons (ps_if (PW.pt (pw_or (pt_cmp (pc_dnotin (hu_of hr) (pe_tup (pa_cons (pv 6) (pa_cons (pv 5) pa_nil))) (pv 3))) (pw_or1 (pt_cmpR op_le (pe_callB call_len_seq (by rfl) (T.free_len) bb_len (pa_cons (pe_dget (hu_of hr) (pv 3) (pe_tup (pa_cons (pv 6) (pa_cons (pv 5) pa_nil))) (fun _ _ => rfl)) pa_nil)) (pe_callB call_len_seq (by rfl) (T.free_len) bb_len (pa_cons (pe_dget (hu_of hr) (pv 3) (pe_tup (pa_cons (pv 7) (pa_cons (pv 6) pa_nil))) (fun _ _ => rfl)) pa_nil)) (nomark _))))) 
              (pss_cons (ps_dput (hu_of hr) (pv 3) (pe_tup (pa_cons (pv 6) (pa_cons (pv 5) pa_nil))) (pe_op op_catA (pe_dget (hu_of hr) (pv 3) (pe_tup (pa_cons (pv 7) (pa_cons (pv 6) pa_nil))) (fun _ _ => rfl)) (pe_tup (pa_cons (pv 5) pa_nil))) rfl) pss_nil) pss_nil) pss_nil) pss_nil) pss_nil))
        (pss_cons (ps_if (PW.pt (pw_and (pt_cmp (pc_din (hu_of hr) (pe_tup (pa_cons (pv 6) (pa_cons (pv 5) pa_nil))) (pv 3))) (pw_and1 (pt_cmpR op_gt (pe_callB call_len_seq (by rfl) (T.free_len) bb_len (pa_cons (pe_dget (hu_of hr) (pv 3) (pe_tup (pa_cons (pv 6) (pa_cons (pv 5) pa_nil))) (fun _ _ => rfl)) pa_nil)) (pe_callB call_len_seq (by rfl) (T.free_len) bb_len (pa_cons (pe_dget (hu_of hr) (pv 4) (pv 5) (fun _ _ => rfl)) pa_nil)) (nomark _))))) 
          (pss_cons (ps_dput (hu_of hr) (pv 4) (pv 5) (pe_dget (hu_of hr) (pv 3) (pe_tup (pa_cons (pv 6) (pa_cons (pv 5) pa_nil))) (fun _ _ => rfl)) rfl) pss_nil) pss_nil) pss_nil))) pss_nil))))
    (pss_cons (ps_ret (pv 4)) pss_nil)))), ?_⟩)
  · unfold f_longest_from at h
    repeat (first | (obtain ⟨e, _⟩ := h; rw [e]; rfl) | (obtain ⟨_, h⟩ := h))
  · obtain ⟨ps, p, b, rfl, ⟨hs, hl, hp⟩, rfl⟩ := h
    obtain ⟨n, en⟩ : ∃ n, n = ps.length := ⟨_, rfl⟩
    obtain ⟨U, eU⟩ : ∃ U, U = uB ps b := ⟨_, rfl⟩
    rw [← en] at hl hp ⊢
    rw [← eU]
    have lenN : ∀ {te : TE} {δ : List Fr}, ED K (deskC K) te δ (shD ps) → ED K (deskC K) (tCB (rLenQ K) (tCons te tNil)) δ (natD n) := fun h => ed_is (ed_lenSh h) (by rw [en])
    refine q_newT (q_newK ?_)
    refine q_for (n := n - (p + 1)) (dw_r2 (a := p + 1) (b := n) (ed_addN (k := 1) (ed_var rfl) ed_int) (lenN (ed_var rfl)) ⟨by omega, by omega⟩) (fun t δ => ∃ kvs, Lk kvs (Cs U p (p + 1 + t) fun _ => none) ∧ kvs.length ≤ 100 * t ∧ δ = [.dat (shD ps), .dat (natD p), .dat (.bl b), .oT kvs, .oK (enD U p t), .un, .un, .un]) (fun _ => False) ⟨[], fun a c => by
      unfold Cs
      dsimp only
      split
      · rfl
      · rw [if_neg (by omega)]
        rfl, Nat.le_refl _, rfl⟩ Le.rfl ?_ ?_ (fun _ z => z.elim)
    · rintro t d δ1 ht rfl ⟨kvs, hk, hlen, rfl⟩
      obtain ⟨j, ej⟩ : ∃ j, j = p + 1 + t := ⟨_, rfl⟩
      rw [← ej] at hk ⊢
      refine ⟨[5], _, tg_name, ?_⟩
      refine q_putT (i := 3) (ns := [(p : Int), (j : Int)]) (d := rowD [p, j]) (ed_tup (ea_cons (ed_var rfl) (ea_cons (ed_var rfl) ea_nil)) (by simp)) rfl (ea_cons (ed_var rfl) (ea_cons (ed_var rfl) ea_nil)) rfl (by simp) (by omega) ?_
      have hk1 := hk.put (S' := Cs U p j fun a => if p ≤ a ∧ a < p + 1 + 0 then Vr U p a j else none) (a := p) (c := j) (r := [p, j]) (by
        unfold Cs
        dsimp only
        rw [if_pos rfl, if_pos ⟨Nat.le_refl _, by omega⟩]
        exact if_pos rfl) (fun x y hne => by
        unfold Cs
        dsimp only
        by_cases e : y = j
        · rw [if_pos e, if_pos e, if_neg]
          intro z
          exact hne ⟨by omega, e⟩
        · rw [if_neg e, if_neg e])
      have hlen1 : (putT kvs [(p : Int), (j : Int)] (rowD [p, j])).length ≤ 100 * t + 1 + 10 * 0 := by
        have := put_len (k := [(p : Int), (j : Int)]) (d := rowD [p, j]) (kvs := kvs)
        omega
      generalize putT kvs [(p : Int), (j : Int)] (rowD [p, j]) = kv1 at hk1 hlen1
      refine q_putK (i := 4) (n := (j : Int)) (d := rowD [p, j]) (ed_tup (ea_cons (ed_var rfl) (ea_cons (ed_var rfl) ea_nil)) (by simp)) rfl (ed_var rfl) rfl (by unfold enD; rw [List.length_map, List.length_range']; omega) ?_
      have ee : putT (enD U p t) (j : Int) (rowD [p, j]) = enD U p t ++ [((j : Int), rowD (Eb U p 0 j))] := by
        rw [ej]
        exact enD_new
      rw [ee]
      refine q_for (n := t) (dw_r2N (a := p + 1) (b := j) (ed_addN (k := 1) (ed_var rfl) ed_int) (ed_var rfl) ⟨by omega, by omega⟩ (by omega)) (fun s δ => ∃ kvs, Lk kvs (Cs U p j fun a => if p ≤ a ∧ a < p + 1 + s then Vr U p a j else none) ∧ kvs.length ≤ 100 * t + 1 + 10 * s ∧ δ = [.dat (shD ps), .dat (natD p), .dat (.bl b), .oT kvs, .oK (enD U p t ++ [((j : Int), rowD (Eb U p s j))]), .dat (natD j), .un, .un]) (fun _ => False) ⟨kv1, hk1, hlen1, rfl⟩ Le.rfl ?_ ?_ (fun _ z => z.elim)
      · rintro s d δ1 hs1 rfl ⟨kvs, hk, hlen, rfl⟩
        obtain ⟨i, ei⟩ : ∃ i, i = p + 1 + s := ⟨_, rfl⟩
        rw [← ei] at hk ⊢
        refine ⟨[6], _, tg_name, ?_⟩
        refine q_for (n := i - p) (dw_r2N (a := p) (b := i) (ed_var rfl) (ed_var rfl) ⟨by omega, by omega⟩ rfl) (fun v δ => ∃ kvs, Lk kvs (Cs U p j fun a => if a = i then Qr U p (p + v) i j else if p ≤ a ∧ a < i then Vr U p a j else none) ∧ kvs.length ≤ 100 * t + 1 + 10 * s + v ∧ δ = [.dat (shD ps), .dat (natD p), .dat (.bl b), .oT kvs, .oK (enD U p t ++ [((j : Int), rowD (Eb U p s j))]), .dat (natD j), .dat (natD i), .un]) (fun _ => False) ⟨kvs, hk.is fun x y => by
          unfold Cs
          dsimp only
          split
          · split
            · rename_i e
              rw [if_neg (by omega)]
              exact Qr_le _ (by omega) _ _
            · rfl
          · rfl, hlen, rfl⟩ Le.rfl ?_ ?_ (fun _ z => z.elim)
        · rintro v d δ1 hv rfl ⟨kvs, hk, hlen, rfl⟩
          obtain ⟨h, eh⟩ : ∃ h, h = p + v := ⟨_, rfl⟩
          have eh1 : p + (v + 1) = h + 1 := by omega
          rw [← eh] at hk ⊢
          rw [eh1]
          refine ⟨[7], _, tg_name, ?_⟩
          have hu : f_is_up [shD ps, natD h, natD i, natD j] (.bl (up ps h i j)) := ⟨ps, _, _, _, rfl, ⟨hs, by omega, by omega, by omega⟩, rfl⟩
          have hU : decide (up ps h i j = b) = U h i j := by rw [eU]; rfl
          have hhi := hk h i
          have hij := hk i j
          have e1 : Cs U p j (fun a => if a = i then Qr U p h i j else if p ≤ a ∧ a < i then Vr U p a j else none) h i = Vr U p h i := by
            unfold Cs
            dsimp only
            rw [if_neg (by omega), if_pos ⟨by omega, by omega, by omega⟩]
          have e2 : Cs U p j (fun a => if a = i then Qr U p h i j else if p ≤ a ∧ a < i then Vr U p a j else none) i j = Qr U p h i j := by
            unfold Cs
            dsimp only
            rw [if_pos rfl, if_pos rfl]
          rw [e1] at hhi
          rw [e2] at hij
          have same : ∀ {M : Post} {δ : List Fr}, Le [.dat (shD ps), .dat (natD p), .dat (.bl b), .oT kvs, .oK (enD U p t ++ [((j : Int), rowD (Eb U p s j))]), .dat (natD j), .dat (natD i), .un] δ → Qr U p (h + 1) i j = Qr U p h i j → (∀ δ, (∃ kvs, Lk kvs (Cs U p j fun a => if a = i then Qr U p (h + 1) i j else if p ≤ a ∧ a < i then Vr U p a j else none) ∧ kvs.length ≤ 100 * t + 1 + 10 * s + (v + 1) ∧ δ = [.dat (shD ps), .dat (natD p), .dat (.bl b), .oT kvs, .oK (enD U p t ++ [((j : Int), rowD (Eb U p s j))]), .dat (natD j), .dat (natD i), .un]) → M.N δ) → SD K (deskC K) tNext δ M := fun hle hq hM =>
            sd_nx (hM _ ⟨kvs, by rw [hq]; exact hk, by omega, rfl⟩) hle
          refine q_when (td_and (td_is (td_test (ed_inTb (ns := [(h : Int), (i : Int)]) (et_own rfl) (ea_cons (ed_var rfl) (ea_cons (ed_var rfl) ea_nil)) (by simp))) (by rw [hhi, optM])) fun _ => td_is (td_test (ed_eqB (ed_call (ea_cons (ed_var rfl) (ea_cons (ed_var rfl) (ea_cons (ed_var rfl) (ea_cons (ed_var rfl) ea_nil)))) hu) (ed_var rfl))) hU) (fun ec => ?_) fun ec => ?_
          · rw [Bool.and_eq_true] at ec
            obtain ⟨r, hr1⟩ := Option.isSome_iff_exists.mp ec.1
            have hQ : Qr U p (h + 1) i j = match Qr U p h i j with
              | none => some (r ++ [j])
              | some q => if q.length ≤ r.length then some (r ++ [j]) else some q := by
              rw [Qr_succ (by omega), hr1]
              exact if_pos ec.2
            rw [hr1] at hhi
            have hr2 := Vr_ok (by omega) hr1
            cases hq : Qr U p h i j with
            | none =>
              rw [hq] at hQ hij
              have hput := hk.put (S' := Cs U p j fun a => if a = i then Qr U p (h + 1) i j else if p ≤ a ∧ a < i then Vr U p a j else none) (a := i) (c := j) (r := r ++ [j]) (by
                unfold Cs
                dsimp only
                rw [if_pos rfl, if_pos rfl, hQ]) (fun x y hne => by
                unfold Cs
                dsimp only
                by_cases e : y = j
                · rw [if_pos e, if_pos e]
                  have : ¬ x = i := fun z => hne ⟨z, e⟩
                  rw [if_neg this, if_neg this]
                · rw [if_neg e, if_neg e])
              have hpl := put_len (k := [(i : Int), (j : Int)]) (d := rowD (r ++ [j])) (kvs := kvs)
              refine q_yes (td_is (td_or (a := true) (b := true) (td_is (td_test (ed_ninTb (ns := [(i : Int), (j : Int)]) (et_own rfl) (ea_cons (ed_var rfl) (ea_cons (ed_var rfl) ea_nil)) (by simp))) (by rw [hij]; rfl)) fun z => Bool.noConfusion z) rfl) ?_
              refine q_putT (i := 3) (ns := [(i : Int), (j : Int)]) (d := rowD (r ++ [j])) (ed_is (ed_catT (ed_getT (ns := [(h : Int), (i : Int)]) (et_own rfl) (ea_cons (ed_var rfl) (ea_cons (ed_var rfl) ea_nil)) (by simp) hhi) (ed_tup (ea_cons (ed_var rfl) ea_nil) (by simp)) (by rw [List.length_map, List.length_singleton]; omega)) (by
                show D.tup _ = D.tup _
                simp)) rfl (ea_cons (ed_var rfl) (ea_cons (ed_var rfl) ea_nil)) rfl (by simp) (by omega) ?_
              exact sd_nx ⟨_, hput, by omega, rfl⟩ (.eq (.eq (.eq (.eq (.eq (.eq (.eq (.un .nil))))))))
            | some q =>
              rw [hq] at hQ hij
              dsimp only at hQ
              refine q_when (b := decide (q.length ≤ r.length)) (td_is (td_or (a := false) (td_is (td_test (ed_ninTb (ns := [(i : Int), (j : Int)]) (et_own rfl) (ea_cons (ed_var rfl) (ea_cons (ed_var rfl) ea_nil)) (by simp))) (by rw [hij]; rfl)) fun _ => td_test (ed_le (ed_lenRow (r := q) (ed_getT (ns := [(i : Int), (j : Int)]) (et_own rfl) (ea_cons (ed_var rfl) (ea_cons (ed_var rfl) ea_nil)) (by simp) hij)) (ed_lenRow (r := r) (ed_getT (ns := [(h : Int), (i : Int)]) (et_own rfl) (ea_cons (ed_var rfl) (ea_cons (ed_var rfl) ea_nil)) (by simp) hhi)))) (by
                rw [Bool.false_or]
                exact decide_eq_decide.mpr (by omega))) (fun ed => ?_) fun ed => ?_
              · have hle := of_decide_eq_true ed
                rw [if_pos hle] at hQ
                have hput := hk.put (S' := Cs U p j fun a => if a = i then Qr U p (h + 1) i j else if p ≤ a ∧ a < i then Vr U p a j else none) (a := i) (c := j) (r := r ++ [j]) (by
                  unfold Cs
                  dsimp only
                  rw [if_pos rfl, if_pos rfl, hQ]) (fun x y hne => by
                  unfold Cs
                  dsimp only
                  by_cases e : y = j
                  · rw [if_pos e, if_pos e]
                    have : ¬ x = i := fun z => hne ⟨z, e⟩
                    rw [if_neg this, if_neg this]
                  · rw [if_neg e, if_neg e])
                have hpl := put_len (k := [(i : Int), (j : Int)]) (d := rowD (r ++ [j])) (kvs := kvs)
                refine q_putT (i := 3) (ns := [(i : Int), (j : Int)]) (d := rowD (r ++ [j])) (ed_is (ed_catT (ed_getT (ns := [(h : Int), (i : Int)]) (et_own rfl) (ea_cons (ed_var rfl) (ea_cons (ed_var rfl) ea_nil)) (by simp) hhi) (ed_tup (ea_cons (ed_var rfl) ea_nil) (by simp)) (by rw [List.length_map, List.length_singleton]; omega)) (by
                  show D.tup _ = D.tup _
                  simp)) rfl (ea_cons (ed_var rfl) (ea_cons (ed_var rfl) ea_nil)) rfl (by simp) (by omega) ?_
                exact sd_nx ⟨_, hput, by omega, rfl⟩ (.eq (.eq (.eq (.eq (.eq (.eq (.eq (.un .nil))))))))
              · have hle := of_decide_eq_false ed
                rw [if_neg hle] at hQ
                exact same (.eq (.eq (.eq (.eq (.eq (.eq (.eq (.un .nil)))))))) (hQ.trans hq.symm) fun _ z => z
          · refine same (.eq (.eq (.eq (.eq (.eq (.eq (.eq (.un .nil)))))))) ?_ fun _ z => z
            rw [Qr_succ (by omega)]
            cases hr1 : Vr U p h i with
            | none => rfl
            | some r =>
              rw [hr1] at ec
              exact if_neg (by simpa using ec)
        · rintro δ1 ⟨kvs, hk, hlen, rfl⟩
          have ev : p + (i - p) = i := by omega
          rw [ev] at hk
          have hk2 : Lk kvs (Cs U p j fun a => if p ≤ a ∧ a < p + 1 + (s + 1) then Vr U p a j else none) := hk.is fun x y => by
            unfold Cs
            dsimp only
            split
            · by_cases e : x = i
              · rw [if_pos e, if_pos (by omega), e]
                exact if_neg (by omega)
              · rw [if_neg e]
                by_cases e2 : p ≤ x ∧ x < i
                · rw [if_pos e2, if_pos (by omega)]
                · rw [if_neg e2, if_neg (by omega)]
            · rfl
          have hij := hk2 i j
          have e2 : Cs U p j (fun a => if p ≤ a ∧ a < p + 1 + (s + 1) then Vr U p a j else none) i j = Vr U p i j := by
            unfold Cs
            dsimp only
            rw [if_pos rfl, if_pos (by omega)]
          rw [e2] at hij
          have hgo : getT (enD U p t ++ [((j : Int), rowD (Eb U p s j))]) (j : Int) = some (rowD (Eb U p s j)) := by
            rw [ej]
            exact enD_got
          have hE : Eb U p (s + 1) j = match Vr U p i j with
            | some r => if (Eb U p s j).length < r.length then r else Eb U p s j
            | none => Eb U p s j := by
            rw [ei]
            rfl
          have same : ∀ {M : Post} {δ : List Fr}, Le [.dat (shD ps), .dat (natD p), .dat (.bl b), .oT kvs, .oK (enD U p t ++ [((j : Int), rowD (Eb U p s j))]), .dat (natD j), .un, .un] δ → Eb U p (s + 1) j = Eb U p s j → (∀ δ, (∃ kvs, Lk kvs (Cs U p j fun a => if p ≤ a ∧ a < p + 1 + (s + 1) then Vr U p a j else none) ∧ kvs.length ≤ 100 * t + 1 + 10 * (s + 1) ∧ δ = [.dat (shD ps), .dat (natD p), .dat (.bl b), .oT kvs, .oK (enD U p t ++ [((j : Int), rowD (Eb U p (s + 1) j))]), .dat (natD j), .un, .un]) → M.N δ) → SD K (deskC K) tNext δ M := fun hle hq hM =>
            sd_nx (hM _ ⟨kvs, hk2, by omega, by rw [hq]⟩) hle
          cases hv : Vr U p i j with
          | none =>
            rw [hv] at hij hE
            refine q_no (td_is (td_and (a := false) (b := false) (td_is (td_test (ed_inTb (ns := [(i : Int), (j : Int)]) (et_own rfl) (ea_cons (ed_var rfl) (ea_cons (ed_var rfl) ea_nil)) (by simp))) (by rw [hij]; rfl)) fun z => Bool.noConfusion z) rfl) ?_
            exact same (.eq (.eq (.eq (.eq (.eq (.eq (.un (.eq .nil)))))))) hE fun _ z => z
          | some r =>
            rw [hv] at hij hE
            dsimp only at hE
            refine q_when (b := decide ((Eb U p s j).length < r.length)) (td_is (td_and (a := true) (td_is (td_test (ed_inTb (ns := [(i : Int), (j : Int)]) (et_own rfl) (ea_cons (ed_var rfl) (ea_cons (ed_var rfl) ea_nil)) (by simp))) (by rw [hij]; rfl)) fun _ => td_test (ed_gt (ed_lenRow (r := r) (ed_getT (ns := [(i : Int), (j : Int)]) (et_own rfl) (ea_cons (ed_var rfl) (ea_cons (ed_var rfl) ea_nil)) (by simp) hij)) (ed_lenRow (r := Eb U p s j) (ed_getK (ek_own rfl) (ed_var rfl) hgo)))) (by
              rw [Bool.true_and]
              exact decide_eq_decide.mpr (by omega))) (fun ed => ?_) fun ed => ?_
            · have hlt := of_decide_eq_true ed
              rw [if_pos hlt] at hE
              refine q_putK (i := 4) (n := (j : Int)) (d := rowD r) (ed_getT (ns := [(i : Int), (j : Int)]) (et_own rfl) (ea_cons (ed_var rfl) (ea_cons (ed_var rfl) ea_nil)) (by simp) hij) rfl (ed_var rfl) rfl (by unfold enD; rw [List.length_append, List.length_map, List.length_range', List.length_singleton]; omega) ?_
              have ee : putT (enD U p t ++ [((j : Int), rowD (Eb U p s j))]) (j : Int) (rowD r) = enD U p t ++ [((j : Int), rowD (Eb U p (s + 1) j))] := by
                rw [hE, ej]
                exact enD_old
              rw [ee]
              exact sd_nx ⟨kvs, hk2, by omega, rfl⟩ (.eq (.eq (.eq (.eq (.eq (.eq (.un (.eq .nil))))))))
            · have hlt := of_decide_eq_false ed
              rw [if_neg hlt] at hE
              exact same (.eq (.eq (.eq (.eq (.eq (.eq (.un (.eq .nil)))))))) hE fun _ z => z
      · rintro δ1 ⟨kvs, hk, hlen, rfl⟩
        refine sd_nx ⟨kvs, hk.is fun x y => ?_, by omega, rfl⟩ ?_
        · unfold Cs
          dsimp only
          by_cases e1 : y = p + 1 + (t + 1)
          · rw [if_pos e1, if_neg (by omega), if_neg (by omega)]
          · rw [if_neg e1]
            by_cases e2 : y = j
            · rw [if_pos e2]
              by_cases e3 : p ≤ x ∧ x < p + 1 + t
              · rw [if_pos e3, if_pos (by omega), e2]
              · rw [if_neg e3, if_neg (by omega)]
            · rw [if_neg e2]
              by_cases e3 : y < j ∧ p ≤ x ∧ x < y
              · rw [if_pos e3, if_pos (by omega)]
              · rw [if_neg e3, if_neg (by omega)]
        · have : enD U p (t + 1) = enD U p t ++ [((j : Int), rowD (Eb U p t j))] := by
            unfold enD
            rw [List.range'_1_concat, List.map_append]
            congr 1
            have : Ew U p j = Eb U p t j := by
              unfold Ew
              have : j - (p + 1) = t := by omega
              rw [this]
            rw [← ej, ← this]
            rfl
          rw [this]
          exact .eq (.eq (.eq (.eq (.eq (.un (.eq (.eq .nil)))))))
    · rintro δ1 ⟨kvs, hk, hlen, rfl⟩
      exact q_keepK (i := 4) rfl rfl (q_ret (ed_var rfl) rfl)
/-! ### greatest_ring -/
theorem rgP_len {ps : List Pt} {p j : Nat} (hl : ps.length ≤ 7) : (rgP ps p j).length ≤ 7 := by
  have := rise_len (k := 0) (n := ps.length) (setP_rise _ _) fun x (hx : x ∈ rgP ps p j) => ⟨Nat.zero_le _, (setP_mem.mp hx).1⟩
  unfold rgP
  omega
def f_greatest_ring (ds : List D) (d : D) : Prop := ∃ (ps : List Pt), ds = [shD ps] ∧ Sh ps ∧ d = optD (grP ps)
abbrev N_greatest_ring : List Str := ["sheet", "best", "p", "low", "high", "j", "ring"]
theorem sc_greatest_ring : FnScope N_greatest_ring ["sheet"] (defScope s_greatest_ring) := ⟨rfl, rfl, rfl, by decide +kernel, rfl, by decide +kernel, by decide +kernel⟩
theorem cal_greatest_ring (T : Tx K mg) : Cal P w K mg base 6 "greatest_ring" ["sheet"] f_greatest_ring := by
  obtain ⟨fd, F⟩ := T.fd_greatest_ring
  refine calOf (N := N_greatest_ring) T.gl_greatest_ring F (fun _ _ _ _ _ _ us hl => match us, hl with | [_], _ => rfl) (okP F sc_greatest_ring (fun ds d h => ?_) fun cdv A outer s H E hr ds d h => ⟨_, 
    (pss_cons (ps_expr (pe_callP (cal_need_sheet T) (hr.mono (by decide)) (by rfl) (pa_cons (pv 0) pa_nil)))
    (pss_cons (ps_set (i := 1) sc_greatest_ring.nd rfl (Or.inl rfl) pe_non)
    (pss_cons (ps_for PassesOwn.never rfl (pi_range1 (by rfl) T.free_range (pa_cons (pe_callB call_len_seq (by rfl) (T.free_len) bb_len (pa_cons (pv 0) pa_nil)) pa_nil)) (pg_name (i := 2) sc_greatest_ring.nd rfl (Or.inl rfl)) 
      (pss_cons (ps_par (i := 3) (j := 4) (by rfl) sc_greatest_ring.nd rfl rfl (by decide) rfl rfl (pa_cons (pe_callP (cal_longest_from T) (hr.mono (by decide)) (by rfl) (pa_cons (pv 0) (pa_cons (pv 2) (pa_cons pe_bl pa_nil)))) (pa_cons (pe_callP (cal_longest_from T) (hr.mono (by decide)) (by rfl) (pa_cons (pv 0) (pa_cons (pv 2) (pa_cons pe_bl pa_nil)))) pa_nil)) (by rfl))
      (pss_cons (ps_for PassesOwn.never rfl (pi_range2 (by rfl) T.free_range (pa_cons (pe_op op_add (pv 2) pe_int) (pa_cons (pe_callB call_len_seq (by rfl) (T.free_len) bb_len (pa_cons (pv 0) pa_nil)) pa_nil))) (pg_name (i := 5) sc_greatest_ring.nd rfl (Or.inl rfl)) 
        (pss_cons (ps_set (i := 6) sc_greatest_ring.nd rfl (Or.inl rfl) (pe_callTy call_tuple_of (by rfl) (T.free_tuple) bb_tuple (pa_cons (pe_callB (cr_sortedSet rfl) (by rfl) (T.free_sorted) bb_sorted (pa_cons (pe_callTy (cr_setI rfl) (by rfl) (T.free_set) bb_set (pa_cons (pe_op op_catA (pe_dget (hu_of hr) (pv 3) (pv 5) (fun _ _ => rfl)) (pe_dget (hu_of hr) (pv 4) (pv 5) (fun _ _ => rfl))) pa_nil)) pa_nil)) pa_nil)))
        (pss_cons (ps_if (PW.pt (pw_and (pt_cmpR op_gt (pe_callB call_len_seq (by rfl) (T.free_len) bb_len (pa_cons (pv 6) pa_nil)) pe_int (nomark _)) (pw_and1 (PW.pt (pw_or (pt_cmpR op_isN (pv 1) pe_non (nomark _)) (pw_or1 (pt_cmpR op_gt (pe_callB call_len_seq (by rfl) (T.free_len) bb_len (pa_cons (pv 6) pa_nil)) (pe_callB call_len_seq (by rfl) (T.free_len) bb_len (pa_cons (pv 1) pa_nil)) (nomark _)))))))) 
          (pss_cons (ps_set (i := 1) sc_greatest_ring.nd rfl (Or.inl rfl) (pv 6)) pss_nil) pss_nil) pss_nil))) pss_nil)))
    (pss_cons (ps_ret (pv 1)) pss_nil)))), ?_⟩)
  · unfold f_greatest_ring at h
    repeat (first | (obtain ⟨e, _⟩ := h; rw [e]; rfl) | (obtain ⟨_, h⟩ := h))
  · obtain ⟨ps, rfl, hS, rfl⟩ := h
    have hle := hS.le
    have g1 : f_need_sheet [shD ps] .non := ⟨ps, rfl, hS, rfl⟩
    refine q_drop (ed_call (ea_cons (ed_var rfl) ea_nil) g1) (q_asg ed_non ?_)
    refine q_for (n := ps.length) (dw_r1 (ed_lenSh (ed_var rfl)) (by omega)) (fun p δ => δ = [.dat (shD ps), .dat (optD (bstTo ps p)), .un, .un, .un, .un, .un]) (fun _ => False) rfl Le.rfl ?_ ?_ (fun _ z => z.elim)
    · rintro p d δ1 hp rfl rfl
      have g2 : ∀ b, f_longest_from [shD ps, natD p, .bl b] (.dK (enD (uB ps b) p (ps.length - (p + 1)))) := fun b => ⟨ps, p, b, rfl, ⟨hS.small, hle, hp⟩, rfl⟩
      refine ⟨[2], _, tg_name, ?_⟩
      refine q_par (ea_cons (ed_call (ea_cons (ed_var rfl) (ea_cons (ed_var rfl) (ea_cons ed_bl ea_nil))) (g2 true)) (ea_cons (ed_call (ea_cons (ed_var rfl) (ea_cons (ed_var rfl) (ea_cons ed_bl ea_nil))) (g2 false)) ea_nil)) ?_
      refine q_for (n := ps.length - (p + 1)) (dw_r2 (a := p + 1) (b := ps.length) (ed_addN (k := 1) (ed_var rfl) ed_int) (ed_lenSh (ed_var rfl)) ⟨by omega, by omega⟩) (fun t δ => δ = [.dat (shD ps), .dat (optD (bstIn ps p (bstTo ps p) t)), .dat (natD p), .dat (.dK (enD (uB ps true) p (ps.length - (p + 1)))), .dat (.dK (enD (uB ps false) p (ps.length - (p + 1)))), .un, .un]) (fun _ => False) rfl Le.rfl ?_ ?_ (fun _ z => z.elim)
      · rintro t d δ1 ht rfl rfl
        refine ⟨[5], _, tg_name, ?_⟩
        have hw := fun b => Ew_ok (U := uB ps b) (p := p) (j := p + 1 + t) (by omega)
        have hall : ∀ x ∈ Ew (uB ps true) p (p + 1 + t) ++ Ew (uB ps false) p (p + 1 + t), x < ps.length := fun x hx => by
          rcases List.mem_append.mp hx with hx | hx
          · have := (hw true).2 x hx
            omega
          · have := (hw false).2 x hx
            omega
        have h1 := (hw true).1
        have h2 := (hw false).1
        have hg : ∀ b, getT (enD (uB ps b) p (ps.length - (p + 1))) ((p + 1 + t : Nat) : Int) = some (rowD (Ew (uB ps b) p (p + 1 + t))) := fun b => enD_get (s := p + 1) (t := ps.length - (p + 1)) (by omega) (by omega)
        have hrl := rgP_len (ps := ps) (p := p) (j := p + 1 + t) hle
        refine q_asg (d := rowD (rgP ps p (p + 1 + t))) (ed_tupL (ex_l (ex_ssetNT (s := Ew (uB ps true) p (p + 1 + t) ++ Ew (uB ps false) p (p + 1 + t)) (ed_is (ed_catT (ed_getK (ed_K (ed_var rfl)) (ed_var rfl) (hg true)) (ed_getK (ed_K (ed_var rfl)) (ed_var rfl) (hg false)) (by rw [List.length_map, List.length_map]; omega)) (by
          show D.tup _ = D.tup _
          rw [List.map_append])) (by rw [List.length_append]; omega) hall))) ?_
        have hstep : bstIn ps p (bstTo ps p) (t + 1) = bstep (rgP ps p (p + 1 + t)) (bstIn ps p (bstTo ps p) t) := rfl
        generalize bstIn ps p (bstTo ps p) t = best at hstep
        refine q_when (b := decide (2 < (rgP ps p (p + 1 + t)).length) && (best.isNone || decide ((best.getD []).length < (rgP ps p (p + 1 + t)).length))) (td_and (td_is (td_test (ed_gt (ed_lenRow (ed_var rfl)) ed_int)) (decide_eq_decide.mpr (by omega))) fun _ => ?_) (fun e => ?_) fun e => ?_
        · cases best with
          | none => exact td_is (td_or (a := true) (b := true) (td_is (td_test (ed_isN (d := .non) (ed_var rfl))) rfl) fun z => Bool.noConfusion z) rfl
          | some q => exact td_or (a := false) (td_is (td_test (ed_isN (d := rowD q) (ed_var rfl))) rfl) fun _ => td_is (td_test (ed_gt (ed_lenRow (ed_var rfl)) (ed_lenRow (r := q) (ed_var rfl)))) (decide_eq_decide.mpr (by
            show _ ↔ q.length < _
            omega))
        · have : bstep (rgP ps p (p + 1 + t)) best = some (rgP ps p (p + 1 + t)) := if_pos e
          refine q_asg (d := optD (some (rgP ps p (p + 1 + t)))) (ed_var rfl) (sd_nx rfl ?_)
          rw [hstep, this]
          exact .eq (.eq (.eq (.eq (.eq (.un (.un .nil))))))
        · have : bstep (rgP ps p (p + 1 + t)) best = best := if_neg (by rw [e]; simp)
          refine sd_nx rfl ?_
          rw [hstep, this]
          exact .eq (.eq (.eq (.eq (.eq (.un (.un .nil))))))
      · rintro δ1 rfl
        exact sd_nx rfl (.eq (.eq (.un (.un (.un (.eq (.eq .nil)))))))
    · rintro δ1 rfl
      exact q_ret (ed_var rfl) rfl
end
end Bt

end BtF_part
section BtG_part
set_option Elab.async false
set_option linter.all false
set_option maxRecDepth 100000
set_option maxHeartbeats 4000000
namespace Bt
open PySem PySem.Spec PyProof.Rows L2 BtR
/-! ### sorted of fours -/
abbrev Q4 := Nat × Nat × Nat × Nat
def cdQ (q : Q4) : Nat := ((q.1 * 64 + q.2.1) * 64 + q.2.2.1) * 64 + q.2.2.2
def nsQ (q : Q4) : List Int := [(q.1 : Int), (q.2.1 : Int), (q.2.2.1 : Int), (q.2.2.2 : Int)]
def OkQ (q : Q4) : Prop := q.1 < 64 ∧ q.2.1 < 64 ∧ q.2.2.1 < 64 ∧ q.2.2.2 < 64
theorem cdQ_code (q : Q4) : TS.code 64 (nsQ q) = (cdQ q : Nat) := by
  unfold nsQ cdQ
  simp only [TS.code, List.length_cons, List.length_nil]
  push_cast
  omega
theorem cdQ_inj {p q : Q4} (hp : OkQ p) (hq : OkQ q) (h1 : cdQ p ≤ cdQ q) (h2 : cdQ q ≤ cdQ p) : p = q := by
  obtain ⟨a, b, c, d⟩ := p
  obtain ⟨a', b', c', d'⟩ := q
  unfold cdQ at h1 h2
  unfold OkQ at hp hq
  dsimp only at hp hq h1 h2
  have : a = a' ∧ b = b' ∧ c = c' ∧ d = d' := by omega
  obtain ⟨rfl, rfl, rfl, rfl⟩ := this
  rfl
def sortQ (qs : List Q4) : List Q4 := qs.mergeSort fun p q => decide (cdQ p ≤ cdQ q)
theorem sortQ_eq {qs os : List Q4} (hq : ∀ q ∈ qs, OkQ q) (hp : os.Perm qs) (hs : os.Pairwise fun p q => cdQ p ≤ cdQ q) : os = sortQ qs := by
  have h1 : (sortQ qs).Perm qs := List.mergeSort_perm _ _
  have h2 : (sortQ qs).Pairwise fun p q => cdQ p ≤ cdQ q := (List.pairwise_mergeSort (le := fun p q : Q4 => decide (cdQ p ≤ cdQ q)) (fun a b c x y => by
    simp only [decide_eq_true_eq] at x y ⊢
    omega) (fun a b => by
    simp only [Bool.or_eq_true, decide_eq_true_eq]
    omega) qs).imp fun h => of_decide_eq_true h
  exact List.Perm.eq_of_pairwise (fun a b ha hb => cdQ_inj (hq a (hp.subset ha)) (hq b (h1.subset hb))) hs h2 (hp.trans h1.symm)
section
variable {K : PySem.W.Frag} {C : Addr} {te : TE} {δ : List Fr}
theorem perm_isM {α : Type} {enc : α → D} {F : Hp} : ∀ {vs ys : List V}, ys.Perm vs → ∀ {qs : List α}, IsAll K C F vs (qs.map enc) → ∃ os : List α, IsAll K C F ys (os.map enc) ∧ os.Perm qs := by
  intro vs ys hp
  induction hp with
  | nil => intro qs h; exact ⟨qs, h, .refl _⟩
  | cons x _ ih =>
    intro qs h
    match qs, h with
    | q :: qs, .cons a b =>
      obtain ⟨out, h1, h2⟩ := ih b
      exact ⟨q :: out, .cons a h1, .cons _ h2⟩
  | swap x y l =>
    intro qs h
    match qs, h with
    | q :: r :: qs, .cons a (.cons b c) => exact ⟨r :: q :: qs, .cons b (.cons a c), .swap ..⟩
  | trans _ _ ih1 ih2 =>
    intro qs h
    obtain ⟨o1, h1, h2⟩ := ih2 h
    obtain ⟨o2, h3, h4⟩ := ih1 h1
    exact ⟨o2, h3, h4.trans h2⟩
theorem isQ {F H : Hp} {v : V} {q : Q4} (e : Ex F H) (h : Is K C F v (foN q)) : TupI K H v (nsQ q) := by
  have h' : Is K C F v (.tup ((nsQ q).map D.int)) := h
  cases h' with
  | tup h5 h6 => exact ⟨_, rfl, .inl (.inl (by rw [← h6.ints]; exact e _ _ h5))⟩
theorem pw_Q {F H : Hp} (e : Ex F H) : ∀ {ys : List V} {os : List Q4}, IsAll K C F ys (os.map foN) → ys.Pairwise (fun x y => ∀ n m, TupI K H x n → TupI K H y m → TS.code 64 n ≤ TS.code 64 m) → os.Pairwise fun p q => cdQ p ≤ cdQ q
  | _, [], _, _ => .nil
  | y :: ys, o :: os, .cons a b, h => by
    have hc := List.pairwise_cons.mp h
    refine List.pairwise_cons.mpr ⟨fun q hq => ?_, pw_Q e b hc.2⟩
    obtain ⟨i, hi⟩ := List.mem_iff_getElem?.mp hq
    obtain ⟨v, h1, h2⟩ := b.getD (show (os.map foN)[i]? = some (foN q) by rw [List.getElem?_map, hi]; rfl)
    have := hc.1 v (List.mem_of_getElem? h1) _ _ (isQ e a) (isQ e h2)
    rw [cdQ_code, cdQ_code] at this
    exact Int.ofNat_le.mp this
theorem ex_sortQ {qs : List Q4} (h : EX K C te δ (qs.map foN)) (hl : qs.length < 64) (hq : ∀ q ∈ qs, OkQ q) : EX K C (tCB (rSortU K 4 64) (tCons te tNil)) δ ((sortQ qs).map foN) := fun H0 F H σ x s Q q =>
  h H0 F H σ x s _ fun v F1 H1 f1 ⟨p, vs, a, b, c⟩ => by
    refine ⟨p, vs, by rw [a], .inl (.inl (f1.s _ _ b)), by rw [c.length, List.length_map]; exact hl, fun x hx => ?_, fun ys b' hp hw hn => ?_⟩
    · obtain ⟨i, hi, e⟩ := List.mem_iff_getElem.mp hx
      obtain ⟨d, h1, h2⟩ := c.get (show vs[i]? = some x by rw [List.getElem?_eq_getElem hi, e])
      rw [List.getElem?_map] at h1
      obtain ⟨z, hz, e2⟩ := Option.map_eq_some_iff.mp h1
      subst e2
      refine ⟨nsQ z, isQ f1.s h2, rfl, ?_⟩
      have ho := hq z (List.mem_of_getElem? hz)
      unfold OkQ at ho
      intro m hm
      simp only [nsQ, List.mem_cons, List.not_mem_nil, or_false] at hm
      omega
    · obtain ⟨os, h1, h2⟩ := perm_isM hp c
      have e := sortQ_eq hq h2 (pw_Q f1.s h1 hw)
      rw [e] at h1
      exact q _ (upd F1 b' _) _ (f1.trans (Fut.new f1.s hn)) ⟨b', ys, rfl, upd_same, h1.mono (Ex.new (f1.s.back hn))⟩
end
section
variable {P : Program} {w : World} {K : PySem.W.Frag} {mg : Str → Option Value} {base : Heap}
/-! ### crossing_of, crossings -/
def crossP (ps : List Pt) (q : Q4) : Q4 := if (!decide (up ps q.1 q.2.1 q.2.2.2 = up ps q.1 q.2.2.1 q.2.2.2)) = true then (q.1, q.2.2.2, q.2.1, q.2.2.1) else (q.1, q.2.2.1, q.2.1, q.2.2.2)
def f_crossing_of (ds : List D) (d : D) : Prop := ∃ (ps : List Pt) (q : Q4), ds = [shD ps, foN q] ∧ (Smalls ps ∧ q.1 < ps.length ∧ q.2.1 < ps.length ∧ q.2.2.1 < ps.length ∧ q.2.2.2 < ps.length) ∧ d = foN (crossP ps q)
abbrev N_crossing_of : List Str := ["sheet", "four", "h", "i", "j", "k"]
theorem sc_crossing_of : FnScope N_crossing_of ["sheet", "four"] (defScope s_crossing_of) := ⟨rfl, rfl, rfl, by decide +kernel, rfl, by decide +kernel, by decide +kernel⟩
theorem cal_crossing_of (T : Tx K mg) : Cal P w K mg base 3 "crossing_of" ["sheet", "four"] f_crossing_of := by
  obtain ⟨fd, F⟩ := T.fd_crossing_of
  refine calOf (N := N_crossing_of) T.gl_crossing_of F (fun _ _ _ _ _ _ us hl => match us, hl with | [_, _], _ => rfl) (okP F sc_crossing_of (fun ds d h => ?_) fun cdv A outer s H E hr ds d h => ⟨_, 
    (pss_cons (ps_asg (pv 1) (pg_tupK (K := K) (n := 4) rfl rfl (pgs_cons (pg_name (i := 2) sc_crossing_of.nd rfl (Or.inl rfl)) (pgs_cons (pg_name (i := 3) sc_crossing_of.nd rfl (Or.inl rfl)) (pgs_cons (pg_name (i := 4) sc_crossing_of.nd rfl (Or.inl rfl)) (pgs_cons (pg_name (i := 5) sc_crossing_of.nd rfl (Or.inl rfl)) pgs_nil))))))
    (pss_cons (ps_if (pt_cmpR op_ne (pe_callP (cal_is_up T) (hr.mono (by decide)) (by rfl) (pa_cons (pv 0) (pa_cons (pv 2) (pa_cons (pv 3) (pa_cons (pv 5) pa_nil))))) (pe_callP (cal_is_up T) (hr.mono (by decide)) (by rfl) (pa_cons (pv 0) (pa_cons (pv 2) (pa_cons (pv 4) (pa_cons (pv 5) pa_nil))))) (nomark _)) 
      (pss_cons (ps_ret (pe_tup (pa_cons (pv 2) (pa_cons (pv 5) (pa_cons (pv 3) (pa_cons (pv 4) pa_nil)))))) pss_nil) pss_nil)
    (pss_cons (ps_ret (pe_tup (pa_cons (pv 2) (pa_cons (pv 4) (pa_cons (pv 3) (pa_cons (pv 5) pa_nil)))))) pss_nil))), ?_⟩)
  · unfold f_crossing_of at h
    repeat (first | (obtain ⟨e, _⟩ := h; rw [e]; rfl) | (obtain ⟨_, h⟩ := h))
  · obtain ⟨ps, ⟨h, i, j, k⟩, rfl, ⟨hs, hh, hi, hj, hk⟩, rfl⟩ := h
    dsimp only at hh hi hj hk
    have g1 : f_is_up [shD ps, natD h, natD i, natD k] (.bl (up ps h i k)) := ⟨ps, _, _, _, rfl, ⟨hs, hh, hi, hk⟩, rfl⟩
    have g2 : f_is_up [shD ps, natD h, natD j, natD k] (.bl (up ps h j k)) := ⟨ps, _, _, _, rfl, ⟨hs, hh, hj, hk⟩, rfl⟩
    refine q_tgt (ed_var rfl) (tg_tup [2, 3, 4, 5] rfl rfl) ?_
    refine q_when (td_test (ed_neB (ed_call (ea_cons (ed_var rfl) (ea_cons (ed_var rfl) (ea_cons (ed_var rfl) (ea_cons (ed_var rfl) ea_nil)))) g1) (ed_call (ea_cons (ed_var rfl) (ea_cons (ed_var rfl) (ea_cons (ed_var rfl) (ea_cons (ed_var rfl) ea_nil)))) g2))) (fun e => ?_) fun e => ?_
    · refine q_ret (ed_tup (ea_cons (ed_var rfl) (ea_cons (ed_var rfl) (ea_cons (ed_var rfl) (ea_cons (ed_var rfl) ea_nil)))) (by simp)) ?_
      have : crossP ps (h, i, j, k) = (h, k, i, j) := if_pos e
      rw [this]
      rfl
    · refine q_ret (ed_tup (ea_cons (ed_var rfl) (ea_cons (ed_var rfl) (ea_cons (ed_var rfl) (ea_cons (ed_var rfl) ea_nil)))) (by simp)) ?_
      have : crossP ps (h, i, j, k) = (h, j, i, k) := if_neg (by rw [e]; simp)
      rw [this]
      rfl
def ringQ (ps : List Pt) (q : Q4) : Bool := ringB ps q.1 [q.2.1, q.2.2.1] q.2.2.2
def crossesP (ps : List Pt) : List Q4 := sortQ (((fouTo ps.length ps.length).filter (ringQ ps)).map (crossP ps))
def f_crossings (ds : List D) (d : D) : Prop := ∃ (ps : List Pt), ds = [shD ps] ∧ Sh ps ∧ d = .lst ((crossesP ps).map foN)
abbrev N_crossings : List Str := ["sheet", "four"]
theorem sc_crossings : FnScope N_crossings ["sheet"] (defScope s_crossings) := ⟨rfl, rfl, rfl, by decide +kernel, rfl, by decide +kernel, by decide +kernel⟩
theorem cal_crossings (T : Tx K mg) : Cal P w K mg base 6 "crossings" ["sheet"] f_crossings := by
  obtain ⟨fd, F⟩ := T.fd_crossings
  refine calOf (N := N_crossings) T.gl_crossings F (fun _ _ _ _ _ _ us hl => match us, hl with | [_], _ => rfl) (okP F sc_crossings (fun ds d h => ?_) fun cdv A outer s H E hr ds d h => ⟨_, 
    (pss_cons (ps_expr (pe_callP (cal_need_sheet T) (hr.mono (by decide)) (by rfl) (pa_cons (pv 0) pa_nil)))
    (pss_cons (ps_ret (pe_callB (cr_sortT (d := 4) (B := 64) (by decide)) (by rfl) (T.free_sorted) bb_sorted (pa_cons (pe_lc (own := [("four", 1)]) rfl sc_crossings.nd (pi_list (pe_callP (cal_fours_of T) (hr.mono (by decide)) (by rfl) (pa_cons (pe_callB call_len_seq (by rfl) (T.free_len) bb_len (pa_cons (pv 0) pa_nil)) pa_nil))) (blkOk_by (own := [("four", 1)]) (N := N_crossings) (sc := defScope s_crossings) (by decide +kernel)) (fun _ _ _ _ _ => (pg_name (i := 1) sc_crossings.nd rfl (Or.inl rfl))) (fun _ _ _ _ _ => (pts_one (pt_val (pe_callP (cal_is_ring_of T) (hr.mono (by decide)) (by rfl) (pa_cons (pv 0) (pa_cons (pv 1) pa_nil)))))) (fun _ _ _ _ _ => (pe_callP (cal_crossing_of T) (hr.mono (by decide)) (by rfl) (pa_cons (pv 0) (pa_cons (pv 1) pa_nil))))) pa_nil))) pss_nil)), ?_⟩)
  · unfold f_crossings at h
    repeat (first | (obtain ⟨e, _⟩ := h; rw [e]; rfl) | (obtain ⟨_, h⟩ := h))
  · obtain ⟨ps, rfl, hS, rfl⟩ := h
    have hle := hS.le
    have g1 : f_need_sheet [shD ps] .non := ⟨ps, rfl, hS, rfl⟩
    have g2 : f_fours_of [natD ps.length] (.lst ((fouTo ps.length ps.length).map foN)) := ⟨_, rfl, hle, rfl⟩
    have hlen := fouTo_few ps.length (by omega) ps.length (by omega)
    have hfl := List.length_filter_le (ringQ ps) (fouTo ps.length ps.length)
    refine q_drop (ed_call (ea_cons (ed_var rfl) ea_nil) g1) (q_ret (ex_d (ex_sortQ (qs := ((fouTo ps.length ps.length).filter (ringQ ps)).map (crossP ps)) ?_ ?_ ?_)) rfl)
    · rw [List.map_map]
      refine ex_lcF (fouTo ps.length ps.length) foN (fun q => foN (crossP ps q)) (ringQ ps) (n := (fouTo ps.length ps.length).length) [1] (dw_listN (ed_call (ea_cons (ed_lenSh (ed_var rfl)) ea_nil) g2) (List.length_map _)) (fun i d _ h => y_map h) rfl (by omega) (by simp) fun q hq => ⟨_, tg_name, ?_, fun _ => ?_⟩
      · have hm := fou_mem (n := ps.length) (by omega) q hq
        have g3 : f_is_ring_of [shD ps, foN q] (.bl (ringQ ps q)) := ⟨ps, q.1, [q.2.1, q.2.2.1], q.2.2.2, rfl, ⟨hS.small, ⟨by simp; omega, by simp; omega, by simp⟩, by simp⟩, rfl⟩
        exact td_test (ed_call (ea_cons (ed_var rfl) (ea_cons (ed_var rfl) ea_nil)) g3)
      · have hm := fou_mem (n := ps.length) (by omega) q hq
        have g4 : f_crossing_of [shD ps, foN q] (foN (crossP ps q)) := ⟨ps, q, rfl, ⟨hS.small, by omega, by omega, by omega, by omega⟩, rfl⟩
        exact ed_call (ea_cons (ed_var rfl) (ea_cons (ed_var rfl) ea_nil)) g4
    · rw [List.length_map]
      omega
    · intro q hq
      obtain ⟨z, hz, rfl⟩ := List.mem_map.mp hq
      have hm := fou_mem (n := ps.length) (by omega) z (List.mem_filter.mp hz).1
      unfold crossP OkQ
      split <;> dsimp only <;> omega
/-! ### sides_of, halves, halving -/
def othP (ps : List Pt) (i j : Nat) : List Pt := ((List.range ps.length).filter fun t : Nat => (!decide ((t : Int) = (i : Int))) && !decide ((t : Int) = (j : Int))).map (ix ps)
def abvP (ps : List Pt) (i j : Nat) : Nat := ((othP ps i j).filter fun q => decide (0 < bndP (ix ps i) (ix ps j) q)).length
def f_sides_of (ds : List D) (d : D) : Prop := ∃ (ps : List Pt) (i j : Nat), ds = [shD ps, natD i, natD j] ∧ (Smalls ps ∧ ps.length ≤ 7 ∧ i < ps.length ∧ j < ps.length) ∧ d = .tup [natD (abvP ps i j), .int (((othP ps i j).length : Nat) - (abvP ps i j : Nat))]
theorem othP_len (ps : List Pt) (i j : Nat) : (othP ps i j).length ≤ ps.length := by
  unfold othP
  rw [List.length_map]
  exact Nat.le_trans (List.length_filter_le _ _) (by simp)
theorem othP_mem {ps : List Pt} {i j : Nat} {q : Pt} (h : q ∈ othP ps i j) : q ∈ ps := by
  obtain ⟨t, ht, rfl⟩ := List.mem_map.mp h
  exact ix_mem (List.mem_range.mp (List.mem_filter.mp ht).1)
abbrev N_sides_of : List Str := ["sheet", "i", "j", "others", "above", "place", "point"]
theorem sc_sides_of : FnScope N_sides_of ["sheet", "i", "j"] (defScope s_sides_of) := ⟨rfl, rfl, rfl, by decide +kernel, rfl, by decide +kernel, by decide +kernel⟩
theorem cal_sides_of (T : Tx K mg) : Cal P w K mg base 2 "sides_of" ["sheet", "i", "j"] f_sides_of := by
  obtain ⟨fd, F⟩ := T.fd_sides_of
  refine calOf (N := N_sides_of) T.gl_sides_of F (fun _ _ _ _ _ _ us hl => match us, hl with | [_, _, _], _ => rfl) (okP F sc_sides_of (fun ds d h => ?_) fun cdv A outer s H E hr ds d h => ⟨_, 
    (pss_cons (ps_setLc (i := 3) (own := [("place", 5), ("point", 6)]) rfl sc_sides_of.nd rfl rfl (sw_true rfl rfl rfl (by decide +kernel)) (pi_enumT (by rfl) T.free_enumerate (pa_cons (pv 0) pa_nil)) (blkOk_by (own := [("place", 5), ("point", 6)]) (N := N_sides_of) (sc := defScope s_sides_of) (by decide +kernel)) (fun _ _ _ _ _ => (pg_tupK (K := K) (n := 2) rfl rfl (pgs_cons (pg_name (i := 5) sc_sides_of.nd rfl (Or.inl rfl)) (pgs_cons (pg_name (i := 6) sc_sides_of.nd rfl (Or.inl rfl)) pgs_nil)))) (fun _ _ _ _ _ => (pts_one (PW.pt (pw_and (pt_cmpR op_ne (pv 5) (pv 1) (nomark _)) (pw_and1 (pt_cmpR op_ne (pv 5) (pv 2) (nomark _))))))) (fun _ _ _ _ _ => (pv 6)))
    (pss_cons (ps_set (i := 4) sc_sides_of.nd rfl (Or.inl rfl) (pe_callB call_len_seq (by rfl) (T.free_len) bb_len (pa_cons (pe_lc (own := [("point", 6)]) rfl sc_sides_of.nd (pi_list (pv 3)) (blkOk_by (own := [("point", 6)]) (N := N_sides_of) (sc := defScope s_sides_of) (by decide +kernel)) (fun _ _ _ _ _ => (pg_name (i := 6) sc_sides_of.nd rfl (Or.inl rfl))) (fun _ _ _ _ _ => (pts_one (pt_cmpR op_gt (pe_callP (cal_bend T) (hr.mono (by decide)) (by rfl) (pa_cons (pe_ix (ix_tupK (K := K) rfl) (pv 0) (pv 1) (fun _ _ => rfl)) (pa_cons (pe_ix (ix_tupK (K := K) rfl) (pv 0) (pv 2) (fun _ _ => rfl)) (pa_cons (pv 6) pa_nil)))) pe_int (nomark _)))) (fun _ _ _ _ _ => (pv 6))) pa_nil)))
    (pss_cons (ps_ret (pe_tup (pa_cons (pv 4) (pa_cons (pe_op op_sub (pe_callB call_len_seq (by rfl) (T.free_len) bb_len (pa_cons (pv 3) pa_nil)) (pv 4)) pa_nil)))) pss_nil))), ?_⟩)
  · unfold f_sides_of at h
    repeat (first | (obtain ⟨e, _⟩ := h; rw [e]; rfl) | (obtain ⟨_, h⟩ := h))
  · obtain ⟨ps, i, j, rfl, ⟨hs, hl, hi, hj⟩, rfl⟩ := h
    have hol := othP_len ps i j
    refine q_asg (d := .lst ((othP ps i j).map prD)) (ex_d ?_) ?_
    · unfold othP
      rw [List.map_map]
      refine ex_lcF (List.range ps.length) (fun t => .tup [natD t, prD (ix ps t)]) (fun t => prD (ix ps t)) (fun t : Nat => (!decide ((t : Int) = (i : Int))) && !decide ((t : Int) = (j : Int))) (n := ps.length) [5, 6] (by
        have := dw_enumT (K := K) (C := deskC K) (te := tVar 0) (δ := [.dat (shD ps), .dat (natD i), .dat (natD j), .un, .un, .un, .un]) (ds := ps.map prD) (ed_var rfl)
        rw [List.length_map] at this
        exact this) (fun t d ht hd => ?_) (by simp) (by omega) (by simp) fun t ht => ⟨_, tg_tup [5, 6] rfl rfl, td_and (td_test (ed_neI (ed_var rfl) (ed_var rfl))) fun _ => td_test (ed_neI (ed_var rfl) (ed_var rfl)), fun _ => ed_var rfl⟩
      obtain ⟨e, he, rfl⟩ := hd
      refine ⟨t, by simp [ht], ?_⟩
      rw [List.getElem?_map, ix_get ht] at he
      cases he
      rfl
    refine q_asg (d := natD (abvP ps i j)) (ed_is (ed_lenL (ex_l (ex_lcF (othP ps i j) prD prD (fun q => decide (0 < bndP (ix ps i) (ix ps j) q)) (n := (othP ps i j).length) [6] (dw_listN (ed_var rfl) (List.length_map _)) (fun i d _ h => y_map h) rfl (by omega) (by simp) fun q hq => ?_))) ?_) ?_
    · have g : f_bend [prD (ix ps i), prD (ix ps j), prD q] (.int (bndP (ix ps i) (ix ps j) q)) := ⟨_, _, _, rfl, ⟨hs _ (ix_mem hi), hs _ (ix_mem hj), hs _ (othP_mem hq)⟩, rfl⟩
      exact ⟨_, tg_name, td_test (ed_gt (ed_call (ea_cons (ed_ixT (ed_var rfl) (ed_var rfl) (at_sh hi)) (ea_cons (ed_ixT (ed_var rfl) (ed_var rfl) (at_sh hj)) (ea_cons (ed_var rfl) ea_nil))) g) ed_int), fun _ => ed_var rfl⟩
    · rw [List.length_map]
      rfl
    · refine q_ret (ed_tup (ea_cons (ed_var rfl) (ea_cons (ed_sub (ed_is (ed_lenL (ed_l (ed_var rfl))) (by rw [List.length_map])) (ed_var rfl)) ea_nil)) (by simp)) rfl
def halvB (ps : List Pt) (i j : Nat) : Bool := decide ((if ((abvP ps i j : Nat) : Int) - (((othP ps i j).length : Nat) - (abvP ps i j : Nat)) < 0 then -(((abvP ps i j : Nat) : Int) - (((othP ps i j).length : Nat) - (abvP ps i j : Nat))) else ((abvP ps i j : Nat) : Int) - (((othP ps i j).length : Nat) - (abvP ps i j : Nat))) < 2)
def f_halves (ds : List D) (d : D) : Prop := ∃ (ps : List Pt) (i j : Nat), ds = [shD ps, natD i, natD j] ∧ (Smalls ps ∧ ps.length ≤ 7 ∧ i < ps.length ∧ j < ps.length) ∧ d = .bl (halvB ps i j)
abbrev N_halves : List Str := ["sheet", "i", "j", "above", "below"]
theorem sc_halves : FnScope N_halves ["sheet", "i", "j"] (defScope s_halves) := ⟨rfl, rfl, rfl, by decide +kernel, rfl, by decide +kernel, by decide +kernel⟩
theorem cal_halves (T : Tx K mg) : Cal P w K mg base 3 "halves" ["sheet", "i", "j"] f_halves := by
  obtain ⟨fd, F⟩ := T.fd_halves
  refine calOf (N := N_halves) T.gl_halves F (fun _ _ _ _ _ _ us hl => match us, hl with | [_, _, _], _ => rfl) (okP F sc_halves (fun ds d h => ?_) fun cdv A outer s H E hr ds d h => ⟨_, 
    (pss_cons (ps_asg (pe_callP (cal_sides_of T) (hr.mono (by decide)) (by rfl) (pa_cons (pv 0) (pa_cons (pv 1) (pa_cons (pv 2) pa_nil)))) (pg_tupK (K := K) (n := 2) rfl rfl (pgs_cons (pg_name (i := 3) sc_halves.nd rfl (Or.inl rfl)) (pgs_cons (pg_name (i := 4) sc_halves.nd rfl (Or.inl rfl)) pgs_nil))))
    (pss_cons (ps_ret (pe_cmpR op_lt (pe_callB call_abs (by rfl) (T.free_abs) bb_abs (pa_cons (pe_op op_sub (pv 3) (pv 4)) pa_nil)) pe_int (nomark _))) pss_nil)), ?_⟩)
  · unfold f_halves at h
    repeat (first | (obtain ⟨e, _⟩ := h; rw [e]; rfl) | (obtain ⟨_, h⟩ := h))
  · obtain ⟨ps, i, j, rfl, ⟨hs, hl, hi, hj⟩, rfl⟩ := h
    have g : f_sides_of [shD ps, natD i, natD j] (.tup [natD (abvP ps i j), .int (((othP ps i j).length : Nat) - (abvP ps i j : Nat))]) := ⟨_, _, _, rfl, ⟨hs, hl, hi, hj⟩, rfl⟩
    refine q_tgt (ed_call (ea_cons (ed_var rfl) (ea_cons (ed_var rfl) (ea_cons (ed_var rfl) ea_nil))) g) (tg_tup [3, 4] rfl rfl) ?_
    exact q_ret (ed_lt (ed_abs (ed_sub (ed_var rfl) (ed_var rfl))) ed_int) rfl
def halvP (ps : List Pt) : List (Nat × Nat) := (pairsTo ps.length ps.length).filter fun p => halvB ps p.1 p.2
def f_halving (ds : List D) (d : D) : Prop := ∃ (ps : List Pt), ds = [shD ps] ∧ Sh ps ∧ d = .lst ((halvP ps).map prN)
abbrev N_halving : List Str := ["sheet", "i", "j"]
theorem sc_halving : FnScope N_halving ["sheet"] (defScope s_halving) := ⟨rfl, rfl, rfl, by decide +kernel, rfl, by decide +kernel, by decide +kernel⟩
theorem cal_halving (T : Tx K mg) : Cal P w K mg base 6 "halving" ["sheet"] f_halving := by
  obtain ⟨fd, F⟩ := T.fd_halving
  refine calOf (N := N_halving) T.gl_halving F (fun _ _ _ _ _ _ us hl => match us, hl with | [_], _ => rfl) (okP F sc_halving (fun ds d h => ?_) fun cdv A outer s H E hr ds d h => ⟨_, 
    (pss_cons (ps_expr (pe_callP (cal_need_sheet T) (hr.mono (by decide)) (by rfl) (pa_cons (pv 0) pa_nil)))
    (pss_cons (ps_ret (pe_lc (own := [("i", 1), ("j", 2)]) rfl sc_halving.nd (pi_list (pe_callP (cal_pairs_of T) (hr.mono (by decide)) (by rfl) (pa_cons (pv 0) pa_nil))) (blkOk_by (own := [("i", 1), ("j", 2)]) (N := N_halving) (sc := defScope s_halving) (by decide +kernel)) (fun _ _ _ _ _ => (pg_tupK (K := K) (n := 2) rfl rfl (pgs_cons (pg_name (i := 1) sc_halving.nd rfl (Or.inl rfl)) (pgs_cons (pg_name (i := 2) sc_halving.nd rfl (Or.inl rfl)) pgs_nil)))) (fun _ _ _ _ _ => (pts_one (pt_val (pe_callP (cal_halves T) (hr.mono (by decide)) (by rfl) (pa_cons (pv 0) (pa_cons (pv 1) (pa_cons (pv 2) pa_nil))))))) (fun _ _ _ _ _ => (pe_tup (pa_cons (pv 1) (pa_cons (pv 2) pa_nil)))))) pss_nil)), ?_⟩)
  · unfold f_halving at h
    repeat (first | (obtain ⟨e, _⟩ := h; rw [e]; rfl) | (obtain ⟨_, h⟩ := h))
  · obtain ⟨ps, rfl, hS, rfl⟩ := h
    have hle := hS.le
    have g1 : f_need_sheet [shD ps] .non := ⟨ps, rfl, hS, rfl⟩
    have g2 : f_pairs_of [shD ps] (.lst ((pairsTo ps.length ps.length).map prN)) := ⟨ps, rfl, hle, rfl⟩
    have hlen := pairsTo_few ps.length (by omega) ps.length (by omega)
    refine q_drop (ed_call (ea_cons (ed_var rfl) ea_nil) g1) (q_ret (ex_d (ex_lcF (pairsTo ps.length ps.length) prN prN (fun p => halvB ps p.1 p.2) (n := (pairsTo ps.length ps.length).length) [1, 2] (dw_listN (ed_call (ea_cons (ed_var rfl) ea_nil) g2) (List.length_map _)) (fun i d _ h => y_map h) rfl (by omega) (by simp) fun p hp => ?_)) rfl)
    have hm := pairs_mem.mp hp
    have g3 : f_halves [shD ps, natD p.1, natD p.2] (.bl (halvB ps p.1 p.2)) := ⟨_, _, _, rfl, ⟨hS.small, hle, by omega, by omega⟩, rfl⟩
    exact ⟨_, tg_tup [1, 2] rfl rfl, td_test (ed_call (ea_cons (ed_var rfl) (ea_cons (ed_var rfl) (ea_cons (ed_var rfl) ea_nil))) g3), fun _ => ed_tup (ea_cons (ed_var rfl) (ea_cons (ed_var rfl) ea_nil)) (by simp)⟩
end
end Bt

end BtG_part
section BtT1_part
set_option Elab.async false
set_option linter.all false
set_option maxRecDepth 100000
set_option maxHeartbeats 4000000
namespace Bt
open PySem PySem.Spec PyProof.Rows L2 BtR
/-! ## whole numbers as texts -/
def dig (i : Int) : List Nat := if i < 0 then 45 :: TL.numL i.natAbs else TL.numL i.natAbs
abbrev itx (i : Int) : Str := Str.ofString (toString i)
theorem tl_itx (i : Int) : TL.tl (itx i) = dig i := by
  show (Str.ofString (toString i)).cps.toList = _
  unfold dig
  rw [signs_ofString, Int.toString_eq_repr, Int.repr_eq_if]
  by_cases h : i < 0
  · rw [if_pos h]
    have e : (-i).toNat = i.natAbs := by omega
    split
    · omega
    · rw [String.toList_append, List.map_append, Nat.toList_repr, e]
      rfl
  · rw [if_neg h]
    have e : i.toNat = i.natAbs := by omega
    split
    · rw [Nat.toList_repr, e]
      rfl
    · omega
theorem itx_S (i : Int) : itx i = SX.S (dig i) := TL.ext_tl (tl_itx i)
theorem dig_free {i : Int} {c : Nat} (h : c ≠ 45 ∧ (c < 48 ∨ 57 < c)) : c ∉ dig i := by
  unfold dig
  split
  · intro hm
    rcases List.mem_cons.mp hm with e | hm
    · exact h.1 e
    · exact TL.numL_free h.2 hm
  · exact TL.numL_free h.2
theorem dig_len {i : Int} {k : Nat} (hk : 0 < k) (h : i.natAbs < 10 ^ k) : (dig i).length ≤ k + (if i < 0 then 1 else 0) := by
  have := TL.numL_len hk h
  unfold dig
  split
  · rw [List.length_cons]
    omega
  · omega
theorem itx_len {i : Int} {k : Nat} (hk : 0 < k) (h : i.natAbs < 10 ^ k) : (itx i).length ≤ k + (if i < 0 then 1 else 0) := by
  rw [TL.len_tl, tl_itx]
  exact dig_len hk h
theorem int_itx {i : Int} {k : Nat} (hk : 0 < k) (hk2 : k ≤ 600) (h : i.natAbs < 10 ^ k) : intText? (itx i) = some i := by
  have hl := itx_len hk h
  have hl2 : (itx i).length ≤ 4300 := by
    split at hl <;> omega
  by_cases hi : i < 0
  · have e := intText_neg (x := itx i) (cs := TL.numL i.natAbs) (by
      have := tl_itx i
      unfold dig at this
      rw [if_pos hi] at this
      exact this) (TL.numL_digits _) (TL.numL_ne _) hl2
    rw [e, TL.numL_val]
    congr 1
    omega
  · have e := intText_digits (x := itx i) (by
      have := tl_itx i
      unfold dig at this
      rw [if_neg hi] at this
      rw [show (itx i).cps.toList = TL.tl (itx i) from rfl, this]
      exact TL.numL_digits _) (by
      have := tl_itx i
      unfold dig at this
      rw [if_neg hi] at this
      rw [show (itx i).cps.toList = TL.tl (itx i) from rfl, this]
      exact TL.numL_ne _) hl2
    rw [e, show (itx i).cps.toList = TL.tl (itx i) from rfl, tl_itx]
    unfold dig
    rw [if_neg hi, TL.numL_val]
    congr 1
    omega
theorem numL_head : ∀ n : Nat, n ≠ 0 → ∃ c r, TL.numL n = c :: r ∧ c ≠ 48 := by
  intro n
  induction n using Nat.strongRecOn with
  | _ n ih =>
    intro hn
    by_cases h : n < 10
    · exact ⟨48 + n, [], TL.numL_lt h, by omega⟩
    · obtain ⟨c, r, e, hc⟩ := ih (n / 10) (by omega) (by omega)
      exact ⟨c, r ++ [48 + n % 10], by rw [TL.numL_step (by omega), e]; rfl, hc⟩
theorem itx_zero : itx 0 = ("0" : Str) := by decide +kernel
/-- words of points and of places -/
def wd (p : Pt) : Str := itx p.1 ++ "," ++ itx p.2
theorem tl_wd (p : Pt) : TL.tl (wd p) = dig p.1 ++ 44 :: dig p.2 := by
  unfold wd
  rw [TL.tl_append, TL.tl_append, tl_itx, tl_itx, List.append_assoc]
  rfl
theorem wd_free (p : Pt) : 32 ∉ TL.tl (wd p) := by
  rw [tl_wd]
  intro h
  rcases List.mem_append.mp h with h | h
  · exact dig_free (by decide) h
  · rcases List.mem_cons.mp h with h | h
    · exact absurd h (by decide)
    · exact dig_free (by decide) h
theorem wd_split (p : Pt) : Txt.split (wd p) "," = [itx p.1, itx p.2] := by
  have e : wd p = Txt.join "," [itx p.1, itx p.2] := TL.ext_tl (by
    rw [tl_wd, TL.join_eq, TL.tl_join]
    show _ = TL.joinL (TL.tl ",") [TL.tl (itx p.1), TL.tl (itx p.2)]
    rw [tl_itx, tl_itx]
    rfl)
  rw [e]
  refine TL.split_join (s := 44) (S := []) (by decide +kernel) (by decide +kernel) (by simp) fun q hq => ?_
  simp only [List.mem_cons, List.not_mem_nil, or_false] at hq
  rcases hq with rfl | rfl
  · rw [tl_itx]; exact dig_free (by decide)
  · rw [tl_itx]; exact dig_free (by decide)
def shTx (ps : List Pt) : Str := Txt.join " " (ps.map wd)
theorem shTx_split {ps : List Pt} (h : ps ≠ []) : Txt.split (shTx ps) " " = ps.map wd := by
  refine TL.split_join (s := 32) (S := []) (by decide +kernel) (by decide +kernel) (by simpa using h) fun q hq => ?_
  obtain ⟨p, _, rfl⟩ := List.mem_map.mp hq
  exact wd_free p
def rowTx (r : List Nat) : Str := Txt.join " " (r.map fun n : Nat => itx (n : Int))
theorem rowTx_split {r : List Nat} (h : r ≠ []) : Txt.split (rowTx r) " " = r.map fun n : Nat => itx (n : Int) := by
  refine TL.split_join (s := 32) (S := []) (by decide +kernel) (by decide +kernel) (by simpa using h) fun q hq => ?_
  obtain ⟨p, _, rfl⟩ := List.mem_map.mp hq
  rw [tl_itx]
  exact dig_free (by decide)
def optTx : Option (List Nat) → Str
  | none => "none"
  | some r => rowTx r
/-- sizes -/
theorem small_ten {p : Pt} (h : Small p) : p.1.natAbs < 10 ^ 19 ∧ p.2.natAbs < 10 ^ 19 := by
  unfold Small at h
  constructor <;> omega
theorem wd_len {p : Pt} (h : Small p) : (wd p).length ≤ 50 := by
  have h1 := itx_len (i := p.1) (k := 19) (by decide) (small_ten h).1
  have h2 := itx_len (i := p.2) (k := 19) (by decide) (small_ten h).2
  rw [TL.len_tl, tl_itx] at h1 h2
  rw [TL.len_tl, tl_wd, List.length_append, List.length_cons]
  split at h1 <;> split at h2 <;> omega
theorem sum_le {xs : List Nat} {b : Nat} : (∀ x ∈ xs, x ≤ b) → xs.sum ≤ xs.length * b := by
  induction xs with
  | nil => intro _; simp
  | cons x xs ih =>
    intro h
    have := ih fun y hy => h y (List.mem_cons_of_mem _ hy)
    have := h x List.mem_cons_self
    rw [List.sum_cons, List.length_cons, Nat.add_mul]
    omega
theorem joinL_len {a : List Nat} {b : Nat} : ∀ {ys : List (List Nat)}, (∀ y ∈ ys, y.length ≤ b) → (TL.joinL a ys).length ≤ ys.length * (b + a.length)
  | [], _ => by simp [TL.joinL]
  | [y], h => by
    have := h y (by simp)
    show y.length ≤ 1 * (b + a.length)
    omega
  | y :: z :: r, h => by
    have ih := joinL_len (a := a) (b := b) (ys := z :: r) fun x hx => h x (List.mem_cons_of_mem _ hx)
    have := h y (by simp)
    show (y ++ (a ++ TL.joinL a (z :: r))).length ≤ _
    rw [List.length_append, List.length_append]
    have e : (y :: z :: r).length * (b + a.length) = (z :: r).length * (b + a.length) + (b + a.length) := by
      rw [List.length_cons, Nat.add_mul, Nat.one_mul]
    omega
theorem join_len {y : Str} {ys : List Str} {b : Nat} (h : ∀ z ∈ ys, z.length ≤ b) : (Txt.join y ys).length ≤ ys.length * (b + y.length) := by
  rw [TL.len_tl, TL.join_eq, TL.tl_join]
  have := joinL_len (a := TL.tl y) (b := b) (ys := ys.map TL.tl) fun z hz => by
    obtain ⟨q, hq, rfl⟩ := List.mem_map.mp hz
    rw [← TL.len_tl]
    exact h q hq
  rw [List.length_map, ← TL.len_tl] at this
  exact this
theorem shTx_len {ps : List Pt} (h : Smalls ps) (hl : ps.length ≤ 7) : (shTx ps).length ≤ 1000 := by
  have := join_len (y := " ") (ys := ps.map wd) (b := 50) fun z hz => by
    obtain ⟨p, hp, rfl⟩ := List.mem_map.mp hz
    exact wd_len (h p hp)
  rw [List.length_map] at this
  have e : (" " : Str).length = 1 := by decide +kernel
  rw [e] at this
  show (Txt.join " " (ps.map wd)).length ≤ 1000
  have : ps.length * (50 + 1) ≤ 7 * 51 := Nat.mul_le_mul hl (Nat.le_refl _)
  omega
theorem rowTx_len {r : List Nat} (h : ∀ x ∈ r, x < 100) (hl : r.length ≤ 100) : (rowTx r).length ≤ 1000 := by
  have := join_len (y := " ") (ys := r.map fun n : Nat => itx (n : Int)) (b := 3) fun z hz => by
    obtain ⟨p, hp, rfl⟩ := List.mem_map.mp hz
    have := itx_len (i := (p : Int)) (k := 2) (by decide) (by have := h p hp; omega)
    split at this <;> omega
  rw [List.length_map] at this
  have e : (" " : Str).length = 1 := by decide +kernel
  rw [e] at this
  show (Txt.join " " (r.map fun n : Nat => itx (n : Int))).length ≤ 1000
  omega
end Bt

end BtT1_part
section BtH_part
set_option Elab.async false
set_option linter.all false
set_option maxRecDepth 100000
set_option maxHeartbeats 4000000
namespace Bt
open PySem PySem.Spec PyProof.Rows L2 BtR
theorem cut_1 (l : List Nat) : cutS (SX.S l) none (some 1) = SX.S (l.take 1) := (C8.cutS_slice _ _ _).trans (SX.slice_to (by decide))
theorem cut_from1 (l : List Nat) : cutS (SX.S l) (some 1) none = SX.S (l.drop 1) := (C8.cutS_slice _ _ _).trans (SX.slice_from (by decide))
section
variable {P : Program} {w : World} {K : PySem.W.Frag} {mg : Str → Option Value} {base : Heap}
theorem y_str {l : List Nat} {i : Nat} {d : D} (h : ∃ c, (SX.S l).cps[i]? = some c ∧ d = D.str ⟨#[c]⟩) : ∃ x, l[i]? = some x ∧ d = D.str ⟨#[x]⟩ := by
  obtain ⟨c, h1, h2⟩ := h
  exact ⟨c, by simpa [SX.S] using h1, h2⟩
theorem dig_in {c : Nat} (h : 48 ≤ c ∧ c ≤ 57) : decide (c ∈ ("0123456789" : Str).cps.toList) = true := by
  have e : ("0123456789" : Str).cps.toList = [48, 49, 50, 51, 52, 53, 54, 55, 56, 57] := by decide +kernel
  rw [e]
  refine decide_eq_true ?_
  simp
  omega
/-! ### number_in -/
def Ten (k : Nat) (i : Int) : Prop := i.natAbs < 10 ^ k
def f_number_in (ds : List D) (d : D) : Prop := ∃ i : Int, ds = [.str (itx i)] ∧ Ten 40 i ∧ d = .int i
abbrev N_number_in : List Str := ["word", "figures", "sign"]
theorem sc_number_in : FnScope N_number_in ["word"] (defScope s_number_in) := ⟨rfl, rfl, rfl, by decide +kernel, rfl, by decide +kernel, by decide +kernel⟩
theorem cal_number_in (T : Tx K mg) : Cal P w K mg base 1 "number_in" ["word"] f_number_in := by
  obtain ⟨fd, F⟩ := T.fd_number_in
  refine calOf (N := N_number_in) T.gl_number_in F (fun _ _ _ _ _ _ us hl => match us, hl with | [_], _ => rfl) (okP F sc_number_in (fun ds d h => ?_) fun cdv A outer s H E hr ds d h => ⟨_, 
    (pss_cons (ps_set (i := 1) sc_number_in.nd rfl (Or.inl rfl) (pv 0))
    (pss_cons (ps_if (pt_cmpR op_eq (pe_slice sl_str (pv 0) po_none (po_some pe_int)) pe_str (nomark _)) 
      (pss_cons (ps_set (i := 1) sc_number_in.nd rfl (Or.inl rfl) (pe_slice sl_str (pv 0) (po_some pe_int) po_none)) pss_nil) pss_nil)
    (pss_cons (ps_if (PW.pt (pw_or (pt_cmpR op_eq (pv 1) pe_str (nomark _)) (pw_or1 (pt_not (pt_val (pe_callB (cr_all rfl) (by rfl) (T.free_all) bb_all (pa_cons (pe_lc (own := [("sign", 2)]) rfl sc_number_in.nd (pi_str (pv 1)) (blkOk_by (own := [("sign", 2)]) (N := N_number_in) (sc := defScope s_number_in) (by decide +kernel)) (fun _ _ _ _ _ => (pg_name (i := 2) sc_number_in.nd rfl (Or.inl rfl))) (fun _ _ _ _ _ => pts_nil) (fun _ _ _ _ _ => (pe_cmpR op_in_sign (pv 2) (pe_globS rfl T.glo_FIGURES) rfl))) pa_nil))))))) 
      (pss_cons (ps_ret pe_non) pss_nil) pss_nil)
    (pss_cons (ps_if (PW.pt (pw_and (pt_cmpR op_eq (pe_ix ix_str (pv 1) pe_int (fun _ _ => rfl)) pe_str (nomark _)) (pw_and1 (pt_cmpR op_ne (pv 0) pe_str (nomark _))))) 
      (pss_cons (ps_ret pe_non) pss_nil) pss_nil)
    (pss_cons (ps_ret (pe_callTy call_int_str (by rfl) (T.free_int) bb_int (pa_cons (pv 0) pa_nil))) pss_nil))))), ?_⟩)
  · unfold f_number_in at h
    repeat (first | (obtain ⟨e, _⟩ := h; rw [e]; rfl) | (obtain ⟨_, h⟩ := h))
  · obtain ⟨i, rfl, hi, rfl⟩ := h
    have hlen := itx_len (k := 40) (by decide) hi
    have hl2 : (itx i).length ≤ 41 := by split at hlen <;> omega
    have hint := int_itx (k := 40) (by decide) (by decide) hi
    have hnl := TL.numL_len (k := 40) (by decide) hi
    obtain ⟨F, eF⟩ : ∃ F, F = TL.numL i.natAbs := ⟨_, rfl⟩
    have hne : F ≠ [] := by rw [eF]; exact TL.numL_ne _
    have hdg : ∀ c ∈ F, 48 ≤ c ∧ c ≤ 57 := fun c hc => TL.numL_digits i.natAbs c (by rw [← eF]; exact hc)
    have hfl : F.length ≤ 40 := by rw [eF]; exact hnl
    obtain ⟨c0, r0, e0⟩ : ∃ c r, F = c :: r := by
      cases F with
      | nil => exact absurd rfl hne
      | cons c r => exact ⟨c, r, rfl⟩
    have h0 : c0 = 48 → i = 0 := fun hc => by
      by_cases hz : i.natAbs = 0
      · omega
      · obtain ⟨c, r, e, hcc⟩ := numL_head _ hz
        rw [← eF, e0] at e
        cases e
        exact absurd hc hcc
    have e48 : (⟨#[48]⟩ : Str) = "0" := by decide +kernel
    refine q_asg (ed_var rfl) ?_
    by_cases hs : i < 0
    case pos =>
      have eW : itx i = SX.S (45 :: F) := by
        rw [itx_S, dig, if_pos hs, eF]
      have ecut : cutS (itx i) (some 1) none = SX.S F := by rw [eW, cut_from1]; rfl
      refine q_yes (td_is (td_test (ed_eqS (ed_slS (ed_var rfl) eo_none (eo_some ed_int) (by omega)) ed_str)) (decide_eq_true (by
        rw [eW, cut_1]
        show SX.S [45] = _
        decide +kernel))) (q_asg (d := .str (SX.S F)) (ed_is (ed_slS (ed_var rfl) (eo_some ed_int) eo_none (by omega)) (by rw [ecut])) (sd_skip ?_))
      refine q_no (td_is (td_or (a := false) (b := false) (td_is (td_test (ed_eqS (ed_var rfl) ed_str)) (decide_eq_false (by
        rw [e0]
        intro z
        have z2 := congrArg (fun x : Str => x.cps.toList) z
        have e45 : ("" : Str).cps.toList = [] := by decide +kernel
        rw [e45] at z2
        have z3 : c0 :: r0 = [] := z2
        cases z3))) fun _ => td_is (td_not (td_B (ed_all (bs := F.map fun _ => true) (ex_l ?_)))) ?_) rfl) ?_
      · rw [List.map_map]
        refine ex_lcM F (fun c => .str ⟨#[c]⟩) (fun _ => .bl true) (n := F.length) [2] (dw_str (z := SX.S F) (ed_var rfl)) (fun i d _ h => y_str h) rfl (by omega) (by simp) fun c hc => ⟨_, tg_name, ed_is (ed_inS (ed_var rfl) ed_str) (by rw [dig_in (hdg c hc)])⟩
      · simp
      refine q_no (td_is (td_and (b := false) (td_is (td_test (ed_eqS (ed_ixS (z := SX.S F) (c := c0) (ed_var rfl) ed_int (by rw [SX.S_len]; omega) (by rw [e0]; exact at_zero)) ed_str)) (b := decide (c0 = 48)) (decide_eq_decide.mpr ⟨fun z => by
        have z2 := congrArg (fun x : Str => x.cps.toList) z
        have e45 : ("0" : Str).cps.toList = [48] := by decide +kernel
        rw [e45] at z2
        have z3 : [c0] = [48] := z2
        cases z3
        rfl, fun z => by rw [z]; exact e48⟩)) fun e => td_is (td_test (ed_neS (ed_var rfl) ed_str)) (by
        have hz := h0 (of_decide_eq_true e)
        rw [hz, itx_zero]
        simp)) (by simp)) ?_
      exact q_ret (ed_intS (ed_var rfl) hint (by omega)) rfl
    case neg =>
      have eW : itx i = SX.S F := by
        rw [itx_S, dig, if_neg hs, eF]
      have hW : D.str (itx i) = D.str (SX.S F) := by rw [eW]
      refine q_no (td_is (td_test (ed_eqS (ed_slS (ed_var rfl) eo_none (eo_some ed_int) (by omega)) ed_str)) (decide_eq_false (by
        rw [eW, cut_1, e0]
        intro z
        have hc := hdg c0 (by rw [e0]; simp)
        have z2 := congrArg (fun x : Str => x.cps.toList) z
        have e45 : ("-" : Str).cps.toList = [45] := by decide +kernel
        rw [e45] at z2
        have z3 : [c0] = [45] := z2
        cases z3
        omega))) ?_
      refine SD.le (δ' := [.dat (.str (itx i)), .dat (.str (SX.S F)), .un]) (by rw [← hW]; exact Le.rfl) ?_
      refine q_no (td_is (td_or (a := false) (b := false) (td_is (td_test (ed_eqS (ed_var rfl) ed_str)) (decide_eq_false (by
        rw [e0]
        intro z
        have z2 := congrArg (fun x : Str => x.cps.toList) z
        have e45 : ("" : Str).cps.toList = [] := by decide +kernel
        rw [e45] at z2
        have z3 : c0 :: r0 = [] := z2
        cases z3))) fun _ => td_is (td_not (td_B (ed_all (bs := F.map fun _ => true) (ex_l ?_)))) ?_) rfl) ?_
      · rw [List.map_map]
        refine ex_lcM F (fun c => .str ⟨#[c]⟩) (fun _ => .bl true) (n := F.length) [2] (dw_str (z := SX.S F) (ed_var rfl)) (fun i d _ h => y_str h) rfl (by omega) (by simp) fun c hc => ⟨_, tg_name, ed_is (ed_inS (ed_var rfl) ed_str) (by rw [dig_in (hdg c hc)])⟩
      · simp
      refine q_no (td_is (td_and (b := false) (td_is (td_test (ed_eqS (ed_ixS (z := SX.S F) (c := c0) (ed_var rfl) ed_int (by rw [SX.S_len]; omega) (by rw [e0]; exact at_zero)) ed_str)) (b := decide (c0 = 48)) (decide_eq_decide.mpr ⟨fun z => by
        have z2 := congrArg (fun x : Str => x.cps.toList) z
        have e45 : ("0" : Str).cps.toList = [48] := by decide +kernel
        rw [e45] at z2
        have z3 : [c0] = [48] := z2
        cases z3
        rfl, fun z => by rw [z]; exact e48⟩)) fun e => td_is (td_test (ed_neS (ed_var rfl) ed_str)) (by
        have hz := h0 (of_decide_eq_true e)
        rw [hz, itx_zero]
        simp)) (by simp)) ?_
      exact q_ret (ed_intS (ed_var rfl) hint (by omega)) rfl
/-! ### point_in -/
def f_point_in (ds : List D) (d : D) : Prop := ∃ p : Pt, ds = [.str (wd p)] ∧ Small p ∧ d = prD p
abbrev N_point_in : List Str := ["word", "numbers", "part"]
theorem sc_point_in : FnScope N_point_in ["word"] (defScope s_point_in) := ⟨rfl, rfl, rfl, by decide +kernel, rfl, by decide +kernel, by decide +kernel⟩
theorem cal_point_in (T : Tx K mg) : Cal P w K mg base 2 "point_in" ["word"] f_point_in := by
  obtain ⟨fd, F⟩ := T.fd_point_in
  refine calOf (N := N_point_in) T.gl_point_in F (fun _ _ _ _ _ _ us hl => match us, hl with | [_], _ => rfl) (okP F sc_point_in (fun ds d h => ?_) fun cdv A outer s H E hr ds d h => ⟨_, 
    (pss_cons (ps_setLc (i := 1) (own := [("part", 2)]) rfl sc_point_in.nd rfl rfl (sw_true rfl rfl rfl (by decide +kernel)) (pi_list (pe_split (pv 0) pe_str)) (blkOk_by (own := [("part", 2)]) (N := N_point_in) (sc := defScope s_point_in) (by decide +kernel)) (fun _ _ _ _ _ => (pg_name (i := 2) sc_point_in.nd rfl (Or.inl rfl))) (fun _ _ _ _ _ => pts_nil) (fun _ _ _ _ _ => (pe_callP (cal_number_in T) (hr.mono (by decide)) (by rfl) (pa_cons (pv 2) pa_nil))))
    (pss_cons (ps_if (PW.pt (pw_or (pt_cmpR op_ne (pe_callB call_len_seq (by rfl) (T.free_len) bb_len (pa_cons (pv 1) pa_nil)) pe_int (nomark _)) (pw_or1 (pt_cmpR (op_in_seqK (K := K) rfl) pe_non (pv 1) rfl)))) 
      (pss_cons (ps_ret pe_non) pss_nil) pss_nil)
    (pss_cons (ps_ret (pe_tup (pa_cons (pe_ix (ix_listK (K := K) rfl) (pv 1) pe_int (fun _ _ => rfl)) (pa_cons (pe_ix (ix_listK (K := K) rfl) (pv 1) pe_int (fun _ _ => rfl)) pa_nil)))) pss_nil))), ?_⟩)
  · unfold f_point_in at h
    repeat (first | (obtain ⟨e, _⟩ := h; rw [e]; rfl) | (obtain ⟨_, h⟩ := h))
  · obtain ⟨p, rfl, hp, rfl⟩ := h
    have hl := wd_len hp
    have hT := small_ten hp
    have hg : ∀ i ∈ [p.1, p.2], f_number_in [.str (itx i)] (.int i) := fun i hi => ⟨i, rfl, by
      unfold Ten
      simp only [List.mem_cons, List.not_mem_nil, or_false] at hi
      rcases hi with rfl | rfl <;> omega, rfl⟩
    refine q_asg (d := .lst [.int p.1, .int p.2]) (ex_d (ex_lcM [p.1, p.2] (fun i => .str (itx i)) D.int (n := 2) [2] (dw_listN (ds := [p.1, p.2].map fun i => .str (itx i)) (ed_is (ex_d (ex_split (ed_var rfl) ed_str (by decide +kernel) (by omega))) (by rw [wd_split]; rfl)) rfl) (fun i d _ h => y_map h) rfl (by decide) (by simp) fun i hi => ⟨_, tg_name, ed_call (ea_cons (ed_var rfl) ea_nil) (hg i hi)⟩)) ?_
    refine q_no (td_is (td_or (a := false) (b := false) (td_is (td_test (ed_neI (ed_lenL (ed_l (ed_var rfl))) ed_int)) rfl) fun _ => td_is (td_test (ed_inL ed_non (ed_l (ed_var rfl)) rfl rfl)) rfl) rfl) ?_
    exact q_ret (ed_tup (ea_cons (ed_ixL (ed_l (ed_var rfl)) ed_int at_zero) (ea_cons (ed_ixL (ed_l (ed_var rfl)) ed_int rfl) ea_nil)) (by simp)) rfl
/-! ### show_sheet -/
def f_show_sheet (ds : List D) (d : D) : Prop := ∃ ps : List Pt, ds = [shD ps] ∧ Sh ps ∧ d = .str (shTx ps)
theorem log_ok {i : Int} (h : Ten 40 i) : i.natAbs.log2 < 1920 := by
  unfold Ten at h
  by_cases e : i.natAbs = 0
  · rw [e]
    decide
  · refine (Nat.log2_lt e).mpr (Nat.lt_of_lt_of_le h ?_)
    exact Nat.le_trans (m := 2 ^ 200) (by decide +kernel) (Nat.pow_le_pow_right (by decide) (by decide))
theorem one_len : ∀ z ∈ [(" " : Str), ","], z.length = 1 := by decide +kernel
abbrev N_show_sheet : List Str := ["sheet", "x", "y"]
theorem sc_show_sheet : FnScope N_show_sheet ["sheet"] (defScope s_show_sheet) := ⟨rfl, rfl, rfl, by decide +kernel, rfl, by decide +kernel, by decide +kernel⟩
theorem cal_show_sheet (T : Tx K mg) : Cal P w K mg base 6 "show_sheet" ["sheet"] f_show_sheet := by
  obtain ⟨fd, F⟩ := T.fd_show_sheet
  refine calOf (N := N_show_sheet) T.gl_show_sheet F (fun _ _ _ _ _ _ us hl => match us, hl with | [_], _ => rfl) (okP F sc_show_sheet (fun ds d h => ?_) fun cdv A outer s H E hr ds d h => ⟨_, 
    (pss_cons (ps_expr (pe_callP (cal_need_sheet T) (hr.mono (by decide)) (by rfl) (pa_cons (pv 0) pa_nil)))
    (pss_cons (ps_ret (pe_join pe_str (pe_lc (own := [("x", 1), ("y", 2)]) rfl sc_show_sheet.nd (pi_tup (pv 0)) (blkOk_by (own := [("x", 1), ("y", 2)]) (N := N_show_sheet) (sc := defScope s_show_sheet) (by decide +kernel)) (fun _ _ _ _ _ => (pg_tupK (K := K) (n := 2) rfl rfl (pgs_cons (pg_name (i := 1) sc_show_sheet.nd rfl (Or.inl rfl)) (pgs_cons (pg_name (i := 2) sc_show_sheet.nd rfl (Or.inl rfl)) pgs_nil)))) (fun _ _ _ _ _ => pts_nil) (fun _ _ _ _ _ => (pe_op op_add_str (pe_op op_add_str (pe_callTy call_str_int (by rfl) (T.free_str) bb_str (pa_cons (pv 1) pa_nil)) pe_str) (pe_callTy call_str_int (by rfl) (T.free_str) bb_str (pa_cons (pv 2) pa_nil))))))) pss_nil)), ?_⟩)
  · unfold f_show_sheet at h
    repeat (first | (obtain ⟨e, _⟩ := h; rw [e]; rfl) | (obtain ⟨_, h⟩ := h))
  · obtain ⟨ps, rfl, hS, rfl⟩ := h
    have hle := hS.le
    have g1 : f_need_sheet [shD ps] .non := ⟨ps, rfl, hS, rfl⟩
    refine q_drop (ed_call (ea_cons (ed_var rfl) ea_nil) g1) (q_ret (ed_join (ys := ps.map wd) ed_str (ex_l ?_) ?_) rfl)
    · rw [List.map_map]
      refine ex_lcM ps prD (fun p => .str (wd p)) (n := ps.length) [1, 2] (dw_tupN (ed_var rfl) (List.length_map _)) (fun i d _ h => y_map h) rfl (by omega) (by simp) fun p hp => ⟨_, tg_tup [1, 2] rfl rfl, ?_⟩
      have hT := small_ten (hS.small p hp)
      have h1 := itx_len (i := p.1) (k := 19) (by decide) hT.1
      have h2 := itx_len (i := p.2) (k := 19) (by decide) hT.2
      have h3 := one_len "," (by simp)
      have hh1 : Ten 40 p.1 := by unfold Ten; omega
      have hh2 : Ten 40 p.2 := by unfold Ten; omega
      have e1 : (itx p.1 ++ ",").length = (itx p.1).length + 1 := by rw [TL.len_tl, TL.tl_append, List.length_append, ← TL.len_tl, ← TL.len_tl, h3]
      have hsz : 100000 ≤ sizeLine := by decide +kernel
      exact ed_addS (ed_addS (ed_strI (ed_var rfl) (log_ok hh1)) ed_str (by rw [h3]; split at h1 <;> omega)) (ed_strI (ed_var rfl) (log_ok hh2)) (by rw [e1]; split at h1 <;> split at h2 <;> omega)
    · have h3 := one_len " " (by simp)
      have := sum_le (xs := (ps.map wd).map (·.length)) (b := 50) fun x hx => by
        simp only [List.map_map, List.mem_map] at hx
        obtain ⟨p, hp, rfl⟩ := hx
        exact wd_len (hS.small p hp)
      simp only [List.length_map] at this ⊢
      rw [h3]
      omega
/-! ### read_sheet -/
def f_read_sheet (ds : List D) (d : D) : Prop := ∃ ps : List Pt, ds = [.str (shTx ps)] ∧ Sh ps ∧ d = shD ps
theorem eqv_nilD : ∀ s : List Pt, PyData.eqv (toP (.lst (s.map prD))) (toP (.lst [])) = decide (s = [])
  | [] => rfl
  | _ :: _ => rfl
abbrev N_read_sheet : List Str := ["text", "found", "at", "word", "point"]
theorem sc_read_sheet : FnScope N_read_sheet ["text"] (defScope s_read_sheet) := ⟨rfl, rfl, rfl, by decide +kernel, rfl, by decide +kernel, by decide +kernel⟩
theorem cal_read_sheet (T : Tx K mg) : Cal P w K mg base 3 "read_sheet" ["text"] f_read_sheet := by
  obtain ⟨fd, F⟩ := T.fd_read_sheet
  refine calOf (N := N_read_sheet) T.gl_read_sheet F (fun _ _ _ _ _ _ us hl => match us, hl with | [_], _ => rfl) (okP F sc_read_sheet (fun ds d h => ?_) fun cdv A outer s H E hr ds d h => ⟨_, 
    (pss_cons (ps_if (pt_not (pt_val (pe_callB call_isi (by rfl) (T.free_isinstance) bb_isinstance (pa_cons (pv 0) (pa_cons (pe_bltn (v := .ty "str") (by rfl) T.free_str bb_str rfl) pa_nil))))) 
      (pss_cons ps_never pss_nil) pss_nil)
    (pss_cons (ps_set (i := 1) sc_read_sheet.nd rfl (Or.inl rfl) (pe_lst pa_nil))
    (pss_cons (ps_for PassesOwn.never rfl (pi_enum (by rfl) T.free_enumerate (pa_cons (pe_split (pv 0) pe_str) pa_nil)) (pg_tupK (K := K) (n := 2) rfl rfl (pgs_cons (pg_name (i := 2) sc_read_sheet.nd rfl (Or.inl rfl)) (pgs_cons (pg_name (i := 3) sc_read_sheet.nd rfl (Or.inl rfl)) pgs_nil))) 
      (pss_cons (ps_set (i := 4) sc_read_sheet.nd rfl (Or.inl rfl) (pe_callP (cal_point_in T) (hr.mono (by decide)) (by rfl) (pa_cons (pv 3) pa_nil)))
      (pss_cons (ps_if (PW.pt (pw_or (pt_cmpR op_isN (pv 4) pe_non (nomark _)) (pw_or1 (PW.pt (pw_and (pt_cmpR (op_neD hr.units) (pv 1) (pe_lst pa_nil) (nomark _)) (pw_and1 (pt_cmpR op_le (pe_ix (ix_tupK (K := K) rfl) (pv 4) pe_int (fun _ _ => rfl)) (pe_ix (ix_tupK (K := K) rfl) (pe_ix (ix_listK (K := K) rfl) (pv 1) (pe_un un_neg pe_int) (fun _ _ => rfl)) pe_int (fun _ _ => rfl)) (nomark _)))))))) 
        (pss_cons ps_never pss_nil) pss_nil)
      (pss_cons (ps_expr (pe_bm PySem.F.plainAttrs_list PySem.F.slot_list_append PySem.F.type_list_append mt_append (pv 1) (pa_cons (pv 4) pa_nil))) pss_nil))))
    (pss_cons (ps_if (PW.pt (pw_or (pt_cmpR op_gt (pe_callB call_len_seq (by rfl) (T.free_len) bb_len (pa_cons (pv 1) pa_nil)) (pe_globI rfl T.glo_MOST_POINTS) (nomark _)) (pw_or1 (pt_cmpR op_notN (pe_callP (cal_first_three T) (hr.mono (by decide)) (by rfl) (pa_cons (pv 1) pa_nil)) pe_non (nomark _))))) 
      (pss_cons ps_never pss_nil) pss_nil)
    (pss_cons (ps_ret (pe_callTy call_tuple_of (by rfl) (T.free_tuple) bb_tuple (pa_cons (pv 1) pa_nil))) pss_nil))))), ?_⟩)
  · unfold f_read_sheet at h
    repeat (first | (obtain ⟨e, _⟩ := h; rw [e]; rfl) | (obtain ⟨_, h⟩ := h))
  · obtain ⟨ps, rfl, hS, rfl⟩ := h
    have hle := hS.le
    have hne : ps ≠ [] := by
      intro z
      have := hS.pos
      rw [z] at this
      simp at this
    have hl := shTx_len hS.small hle
    refine q_no (td_is (td_not (td_B (ed_isi (b := true) (kit_ty (by decide +kernel)) ty_str (ed_var rfl)))) rfl) (q_newL ?_)
    refine q_for (n := ps.length) (Y := fun t d => ∃ p, ps[t]? = some p ∧ d = .tup [natD t, .str (wd p)]) (by
      have := dw_enumL (K := K) (C := deskC K) (δ := [.dat (.str (shTx ps)), .ol [], .un, .un, .un]) (ds := ps.map fun p => .str (wd p)) (ed_is (ex_d (ex_split (z := shTx ps) (w := " ") (ed_var (i := 0) rfl) ed_str (by decide +kernel) (by omega))) (by rw [shTx_split hne, List.map_map]; rfl))
      rw [List.length_map] at this
      refine fun H0 F H σ x s R q => this H0 F H σ x s R fun J F1 H1 f1 W => q J F1 H1 f1 ⟨W.goes, W.stops, fun i F H x H' e1 e2 hi y => ?_⟩
      obtain ⟨F2, d, a, ⟨e, b, c⟩, d2⟩ := W.yields i F H x H' e1 e2 hi y
      obtain ⟨p, hp, rfl⟩ := y_map b
      exact ⟨F2, d, a, ⟨p, hp, c⟩, d2⟩) (fun t δ => δ = [.dat (.str (shTx ps)), .ol ((ps.take t).map prD), .un, .un, .un]) (fun _ => False) rfl Le.rfl ?_ ?_ (fun _ z => z.elim)
    · rintro t d δ1 ht ⟨p, hp, rfl⟩ rfl
      have hpm := List.mem_of_getElem? hp
      have g1 : f_point_in [.str (wd p)] (prD p) := ⟨p, rfl, hS.small p hpm, rfl⟩
      refine ⟨[2, 3], _, tg_tup [2, 3] rfl rfl, ?_⟩
      refine q_asg (d := prD p) (ed_call (ea_cons (ed_var rfl) ea_nil) g1) ?_
      have htk : ps.take (t + 1) = ps.take t ++ [p] := by rw [List.take_add_one, hp]; rfl
      have hlt : (ps.take t).length = t := by rw [List.length_take]; omega
      refine q_no (td_is (td_or (a := false) (b := false) (td_is (td_test (ed_isN (d := prD p) (ed_var rfl))) rfl) fun _ => td_is (td_and (a := decide (¬ ps.take t = [])) (b := false) (td_is (td_test (ed_neD (b := decide (ps.take t = [])) (el_h (el_own rfl)) (ed_h (ex_d (ex_lst ea_nil (by simp)))) (isPs_pts _) rfl (shaped_lst (canl_pts _) (Nat.le_trans (deep_pts _) (by decide))) rfl (eqv_nilD _))) (by simp)) fun e => ?_) (by simp)) rfl) ?_
      · have hne2 : ps.take t ≠ [] := of_decide_eq_true e
        have ht0 : 0 < t := by
          rcases Nat.eq_zero_or_pos t with z | z
          · subst z
            exact absurd rfl hne2
          · exact z
        have hat : atI ((ps.take t).map prD) (-1) = some (prD (ix ps (t - 1))) := at_neg (k := 1) (by decide) (by rw [List.length_map, hlt]; exact ht0) (by
          rw [List.length_map, hlt, List.getElem?_map, List.getElem?_take_of_lt (by omega), ix_get (by omega)]
          rfl)
        refine td_is (td_test (ed_le (ed_ixT (ed_var rfl) ed_int rfl) (ed_ixT (ed_ixL (el_own rfl) (ed_neg ed_int) hat) ed_int rfl))) (decide_eq_false ?_)
        have hi := List.pairwise_iff_getElem.mp hS.inc (t - 1) t (by omega) ht (by omega)
        have h1 : ps[t - 1]? = some (ix ps (t - 1)) := ix_get (by omega)
        rw [List.getElem?_eq_getElem (by omega : t - 1 < ps.length)] at h1
        rw [List.getElem?_eq_getElem ht] at hp
        rw [Option.some.inj h1, Option.some.inj hp] at hi
        show ¬ p.1 ≤ (ix ps (t - 1)).1
        omega
      · refine q_app (i := 1) (d := prD p) (ed_var rfl) rfl rfl (by rw [List.length_map, hlt]; omega) (sd_nx rfl ?_)
        rw [htk, List.map_append]
        exact .eq (.eq (.un (.un (.un .nil))))
    · rintro δ1 rfl
      have etk : ps.take ps.length = ps := List.take_length
      rw [etk]
      refine q_keepL (i := 1) rfl rfl ?_
      have g2 : f_first_three [.lst (ps.map prD)] .non := ⟨ps, true, rfl, ⟨Nat.le_trans hS.le (by decide), hS.small, hS.free⟩, rfl⟩
      refine q_no (td_is (td_or (a := false) (b := false) (td_is (td_test (ed_gt (ed_lenL (ed_l (ed_var rfl))) ed_int)) (decide_eq_false (by rw [List.length_map]; omega))) fun _ => td_is (td_test (ed_notN (ed_call (ea_cons (ed_var rfl) ea_nil) g2))) rfl) rfl) ?_
      exact q_ret (ed_tupL (ed_l (ed_var rfl))) rfl
/-! ### whole_in, figure_in, places_text -/
def f_whole_in (ds : List D) (d : D) : Prop := ∃ i : Int, ds = [.str (itx i)] ∧ Ten 30 i ∧ d = .int i
abbrev N_whole_in : List Str := ["word", "found"]
theorem sc_whole_in : FnScope N_whole_in ["word"] (defScope s_whole_in) := ⟨rfl, rfl, rfl, by decide +kernel, rfl, by decide +kernel, by decide +kernel⟩
theorem cal_whole_in (T : Tx K mg) : Cal P w K mg base 2 "whole_in" ["word"] f_whole_in := by
  obtain ⟨fd, F⟩ := T.fd_whole_in
  refine calOf (N := N_whole_in) T.gl_whole_in F (fun _ _ _ _ _ _ us hl => match us, hl with | [_], _ => rfl) (okP F sc_whole_in (fun ds d h => ?_) fun cdv A outer s H E hr ds d h => ⟨_, 
    (pss_cons (ps_set (i := 1) sc_whole_in.nd rfl (Or.inl rfl) (pe_callP (cal_number_in T) (hr.mono (by decide)) (by rfl) (pa_cons (pv 0) pa_nil)))
    (pss_cons (ps_if (PW.pt (pw_or (pt_cmpR op_isN (pv 1) pe_non (nomark _)) (pw_or1 (pt_cmpR op_gt (pe_callB call_len_str (by rfl) (T.free_len) bb_len (pa_cons (pv 0) pa_nil)) (pe_op op_add (pe_globI rfl T.glo_MOST_FIGURES) (pe_callTy call_int1 (by rfl) (T.free_int) bb_int (pa_cons (pe_cmpR op_lt (pv 1) pe_int (nomark _)) pa_nil))) (nomark _))))) 
      (pss_cons ps_never pss_nil) pss_nil)
    (pss_cons (ps_ret (pv 1)) pss_nil))), ?_⟩)
  · unfold f_whole_in at h
    repeat (first | (obtain ⟨e, _⟩ := h; rw [e]; rfl) | (obtain ⟨_, h⟩ := h))
  · obtain ⟨i, rfl, hi, rfl⟩ := h
    have hlen := itx_len (k := 30) (by decide) hi
    have hl2 : (itx i).length ≤ 31 := by split at hlen <;> omega
    have g : f_number_in [.str (itx i)] (.int i) := ⟨i, rfl, Nat.lt_trans hi (by decide +kernel), rfl⟩
    refine q_asg (d := .int i) (ed_call (ea_cons (ed_var rfl) ea_nil) g) ?_
    refine q_no (td_is (td_or (a := false) (b := false) (td_is (td_test (ed_isN (d := .int i) (ed_var rfl))) rfl) fun _ => td_is (td_test (ed_gt (ed_lenS (ed_var rfl) (by omega)) (ed_add ed_int (ed_intB (ed_lt (ed_var rfl) ed_int))))) (decide_eq_false ?_)) rfl) ?_
    · simp only [decide_eq_true_eq]
      split at hlen <;> split <;> omega
    · exact q_ret (ed_var rfl) rfl
def f_figure_in (ds : List D) (d : D) : Prop := ∃ k : Nat, ds = [.str ⟨#[48 + k]⟩] ∧ (k = 3 ∨ k = 4) ∧ d = natD k
abbrev N_figure_in : List Str := ["word"]
theorem sc_figure_in : FnScope N_figure_in ["word"] (defScope s_figure_in) := ⟨rfl, rfl, rfl, by decide +kernel, rfl, by decide +kernel, by decide +kernel⟩
theorem cal_figure_in (T : Tx K mg) : Cal P w K mg base 1 "figure_in" ["word"] f_figure_in := by
  obtain ⟨fd, F⟩ := T.fd_figure_in
  refine calOf (N := N_figure_in) T.gl_figure_in F (fun _ _ _ _ _ _ us hl => match us, hl with | [_], _ => rfl) (okP F sc_figure_in (fun ds d h => ?_) fun cdv A outer s H E hr ds d h => ⟨_, 
    (pss_cons (ps_if (PW.pt (pw_or (pt_cmpR op_ne (pe_callB call_len_str (by rfl) (T.free_len) bb_len (pa_cons (pv 0) pa_nil)) pe_int (nomark _)) (pw_or1 (pt_cmpR op_notIn_sign (pv 0) pe_str rfl)))) 
      (pss_cons ps_never pss_nil) pss_nil)
    (pss_cons (ps_ret (pe_callTy call_int_str (by rfl) (T.free_int) bb_int (pa_cons (pv 0) pa_nil))) pss_nil)), ?_⟩)
  · unfold f_figure_in at h
    repeat (first | (obtain ⟨e, _⟩ := h; rw [e]; rfl) | (obtain ⟨_, h⟩ := h))
  · obtain ⟨k, rfl, hk, rfl⟩ := h
    have hin : decide (48 + k ∈ ("23456789" : Str).cps.toList) = true := by rcases hk with rfl | rfl <;> decide +kernel
    have hit : PySem.intText? ⟨#[48 + k]⟩ = some (k : Int) := by rcases hk with rfl | rfl <;> decide +kernel
    refine q_no (td_is (td_or (a := false) (b := false) (td_is (td_test (ed_neI (ed_lenS (ed_var rfl) (by show 1 ≤ _; decide)) ed_int)) rfl) fun _ => td_is (td_test (ed_ninS (ed_var rfl) ed_str)) (by rw [hin]; rfl)) rfl) ?_
    exact q_ret (ed_intS (ed_var rfl) hit (by show 1 ≤ _; decide)) rfl
def f_places_text (ds : List D) (d : D) : Prop := ∃ o : Option (List Nat), ds = [optD o] ∧ (∀ r, o = some r → r.length ≤ 7 ∧ ∀ x ∈ r, x < 7) ∧ d = .str (optTx o)
abbrev N_places_text : List Str := ["places", "place"]
theorem sc_places_text : FnScope N_places_text ["places"] (defScope s_places_text) := ⟨rfl, rfl, rfl, by decide +kernel, rfl, by decide +kernel, by decide +kernel⟩
theorem cal_places_text (T : Tx K mg) : Cal P w K mg base 1 "places_text" ["places"] f_places_text := by
  obtain ⟨fd, F⟩ := T.fd_places_text
  refine calOf (N := N_places_text) T.gl_places_text F (fun _ _ _ _ _ _ us hl => match us, hl with | [_], _ => rfl) (okP F sc_places_text (fun ds d h => ?_) fun cdv A outer s H E hr ds d h => ⟨_, 
    (pss_cons (ps_ret (pe_ifExp (pt_cmpR op_isN (pv 0) pe_non (nomark _)) pe_str (pe_join pe_str (pe_lc (own := [("place", 1)]) rfl sc_places_text.nd (pi_tup (pv 0)) (blkOk_by (own := [("place", 1)]) (N := N_places_text) (sc := defScope s_places_text) (by decide +kernel)) (fun _ _ _ _ _ => (pg_name (i := 1) sc_places_text.nd rfl (Or.inl rfl))) (fun _ _ _ _ _ => pts_nil) (fun _ _ _ _ _ => (pe_callTy call_str_int (by rfl) (T.free_str) bb_str (pa_cons (pv 1) pa_nil))))))) pss_nil), ?_⟩)
  · unfold f_places_text at h
    repeat (first | (obtain ⟨e, _⟩ := h; rw [e]; rfl) | (obtain ⟨_, h⟩ := h))
  · obtain ⟨o, rfl, ho, rfl⟩ := h
    cases o with
    | none => exact q_ret (ed_ifE (b := true) (td_test (ed_isN (d := .non) (ed_var rfl))) (fun _ => ed_str) fun z => Bool.noConfusion z) rfl
    | some r =>
      obtain ⟨hl, hx⟩ := ho r rfl
      refine q_ret (d := .str (rowTx r)) (ed_ifE (b := false) (td_test (ed_isN (d := rowD r) (ed_var rfl))) (fun z => Bool.noConfusion z) fun _ => ed_join (ys := r.map fun n : Nat => itx (n : Int)) ed_str (ex_l ?_) ?_) rfl
      · rw [List.map_map]
        refine ex_lcM r natD (fun n => .str (itx (n : Int))) (n := r.length) [1] (dw_tupN (ed_var rfl) (List.length_map _)) (fun i d _ h => y_map h) rfl (by omega) (by simp) fun n hn => ⟨_, tg_name, ed_strI (ed_var rfl) (log_ok (by unfold Ten; have := hx n hn; omega))⟩
      · have h3 := one_len " " (by simp)
        have := sum_le (xs := (r.map fun n : Nat => itx (n : Int)).map (·.length)) (b := 3) fun x hx1 => by
          simp only [List.map_map, List.mem_map] at hx1
          obtain ⟨p, hp, rfl⟩ := hx1
          have := itx_len (i := (p : Int)) (k := 2) (by decide) (by have := hx p hp; omega)
          show (itx (p : Int)).length ≤ 3
          split at this <;> omega
        simp only [List.length_map] at this ⊢
        rw [h3]
        omega
end
end Bt

end BtH_part
section BtW_part
set_option Elab.async false
set_option linter.all false
set_option maxRecDepth 100000
set_option maxHeartbeats 4000000
namespace Bt
open PySem PySem.Spec PyProof.Rows L2 BtR
/-! ## heaps that change: a desk's two objects -/
mutual
def pureD : D → Bool
  | .non => true
  | .bl _ => true
  | .int _ => true
  | .str _ => true
  | .tup ds => pureDs ds
  | .lst _ => false
  | .dT _ => false
  | .dK _ => false
  | .desk _ => false
def pureDs : List D → Bool
  | [] => true
  | d :: ds => pureD d && pureDs ds
end
def TupKeep (H H' : Hp) : Prop := ∀ p xs, H p = some (.tup xs) → H' p = some (.tup xs)
section
variable {K : PySem.W.Frag} {C : Addr}
mutual
theorem Is.keep {F F' : Hp} (e : TupKeep F F') : ∀ {v : V} {d : D}, Is K C F v d → pureD d = true → Is K C F' v d
  | _, _, .non, _ => .non
  | _, _, .bl b, _ => .bl b
  | _, _, .int i, _ => .int i
  | _, _, .str x, _ => .str x
  | _, _, .tup h a, p => .tup (e _ _ h) (IsAll.keep e a p)
theorem IsAll.keep {F F' : Hp} (e : TupKeep F F') : ∀ {v : List V} {d : List D}, IsAll K C F v d → pureDs d = true → IsAll K C F' v d
  | _, _, .nil, _ => .nil
  | _, _, .cons a b, p => .cons (Is.keep e a (Bool.and_eq_true _ _ ▸ p).1) (IsAll.keep e b (Bool.and_eq_true _ _ ▸ p).2)
end
theorem pure_pts : ∀ ps : List Pt, pureDs (ps.map prD) = true
  | [] => rfl
  | p :: ps => by
    show (pureD (prD p) && pureDs (ps.map prD)) = true
    rw [pure_pts ps]
    rfl
theorem pure_sh (ps : List Pt) : pureD (shD ps) = true := pure_pts ps
theorem pure_shs : ∀ pst : List (List Pt), pureDs (pst.map shD) = true
  | [] => rfl
  | p :: ps => by
    show (pureD (shD p) && pureDs (ps.map shD)) = true
    rw [pure_shs ps, pure_sh]
    rfl
/-! ### frames at one heap -/
def plain : List Fr → Bool
  | [] => true
  | .un :: r => plain r
  | .dat _ :: r => plain r
  | _ :: _ => false
def pureF : List Fr → Bool
  | [] => true
  | .un :: r => pureF r
  | .dat d :: r => pureD d && pureF r
  | _ :: _ => false
abbrev At (K : PySem.W.Frag) (C : Addr) (H : Hp) (σ : L2.St) (δ : List Fr) : Prop := Sd K C H H H σ δ
theorem At.up {H0 F H : Hp} (e : Ex F H) : ∀ {σ : L2.St} {δ : List Fr}, plain δ = true → Sd K C H0 F H σ δ → At K C H σ δ
  | [], [], _, .nil => .nil
  | o :: σ, f :: δ, p, .cons a b => by
    cases f with
    | un => exact .cons True.intro (At.up e p b)
    | dat d =>
      obtain ⟨v, h1, h2⟩ := a
      exact .cons ⟨v, h1, h2.mono e⟩ (At.up e p b)
    | ol _ => cases p
    | oT _ => cases p
    | oK _ => cases p
theorem At.mono {H H' : Hp} {σ : L2.St} {δ : List Fr} (s : At K C H σ δ) (e : Ex H H') (p : plain δ = true) : At K C H' σ δ := by
  induction s with
  | nil => exact .nil
  | @cons o f σ δ a b ih =>
    cases f with
    | un => exact .cons True.intro (ih p)
    | dat d =>
      obtain ⟨v, h1, h2⟩ := a
      exact .cons ⟨v, h1, h2.mono e⟩ (ih p)
    | ol _ => cases p
    | oT _ => cases p
    | oK _ => cases p
theorem At.keep {H H' : Hp} (e : TupKeep H H') {σ : L2.St} {δ : List Fr} (p : pureF δ = true) (s : At K C H σ δ) : At K C H' σ δ := by
  induction s with
  | nil => exact .nil
  | @cons o f σ δ a b ih =>
    cases f with
    | un => exact .cons True.intro (ih p)
    | dat d =>
      obtain ⟨v, h1, h2⟩ := a
      have p' : (pureD d && pureF δ) = true := p
      rw [Bool.and_eq_true] at p'
      exact .cons ⟨v, h1, h2.keep e p'.1⟩ (ih p'.2)
    | ol _ => cases p
    | oT _ => cases p
    | oK _ => cases p
theorem At.set {H : Hp} {σ : L2.St} {δ : List Fr} {v : V} {d : D} (i : Nat) (s : At K C H σ δ) (h : Is K C H v d) : At K C H (σ.set i (some v)) (δ.set i (.dat d)) := Sd.set (en_dat h) i s
/-! ### runs -/
def mdP (δ' : List Fr) : Post := ⟨fun δ => δ = δ', fun _ => False, fun _ => False, fun _ => False⟩
section
variable {te ta tb : TE} {tr : TA} {t : TT} {δ δ' : List Fr} {d : D} {ds : List D} {u s1 s2 s3 s4 s5 s6 s7 : TS} {M : Post} {E : Ends} {σ : L2.St} {H : Hp}
theorem runE (h : SD K C u δ M) (s : At K C H σ δ) (hp : ∀ δ', M.N δ' → plain δ' = true) (nx : ∀ δ' σ' H', M.N δ' → Ex H H' → At K C H' σ' δ' → E.nx σ' H') (rt : ∀ d v H', M.R d → Ex H H' → Is K C H' v d → E.rt v H')
    (hb : ∀ δ, ¬ M.B δ) (hc : ∀ δ, ¬ M.Ct δ) : u E σ H :=
  h H H H H σ (Fut.rfl Ex.rfl) s E ⟨fun δ' σ' F' H' a _ f s => nx δ' σ' H' a f.h (At.up f.s (hp δ' a) s), fun δ' _ _ _ a => absurd a (hb δ'), fun δ' _ _ _ a => absurd a (hc δ'), fun d v F' H' a f p => rt d v H' a f.h (p.mono f.s)⟩
theorem runM (h : SD K C u δ (mdP δ')) (s : At K C H σ δ) (hp : plain δ' = true) (k : ∀ σ' H', Ex H H' → At K C H' σ' δ' → E.nx σ' H') : u E σ H :=
  runE h s (fun z e => by
    have e : z = δ' := e
    rw [e]
    exact hp) (fun z σ' H' e x a => by
    have e : z = δ' := e
    subst e
    exact k σ' H' x a) (fun _ _ _ z => z.elim) (fun _ z => z) fun _ z => z
theorem pre1 (δ' : List Fr) (h : SD K C (tSeq s1 tNext) δ (mdP δ')) (s : At K C H σ δ) (hp : plain δ' = true) (k : ∀ σ' H', Ex H H' → At K C H' σ' δ' → u E σ' H') : tSeq s1 u E σ H := runM (E := { E with nx := u E }) h s hp k
theorem pre2 (δ' : List Fr) (h : SD K C (tSeq s1 (tSeq s2 tNext)) δ (mdP δ')) (s : At K C H σ δ) (hp : plain δ' = true) (k : ∀ σ' H', Ex H H' → At K C H' σ' δ' → u E σ' H') : tSeq s1 (tSeq s2 u) E σ H := runM (E := { E with nx := u E }) h s hp k
theorem pre3 (δ' : List Fr) (h : SD K C (tSeq s1 (tSeq s2 (tSeq s3 tNext))) δ (mdP δ')) (s : At K C H σ δ) (hp : plain δ' = true) (k : ∀ σ' H', Ex H H' → At K C H' σ' δ' → u E σ' H') : tSeq s1 (tSeq s2 (tSeq s3 u)) E σ H := runM (E := { E with nx := u E }) h s hp k
theorem pre4 (δ' : List Fr) (h : SD K C (tSeq s1 (tSeq s2 (tSeq s3 (tSeq s4 tNext)))) δ (mdP δ')) (s : At K C H σ δ) (hp : plain δ' = true) (k : ∀ σ' H', Ex H H' → At K C H' σ' δ' → u E σ' H') : tSeq s1 (tSeq s2 (tSeq s3 (tSeq s4 u))) E σ H := runM (E := { E with nx := u E }) h s hp k
theorem pre6 (δ' : List Fr) (h : SD K C (tSeq s1 (tSeq s2 (tSeq s3 (tSeq s4 (tSeq s5 (tSeq s6 tNext)))))) δ (mdP δ')) (s : At K C H σ δ) (hp : plain δ' = true) (k : ∀ σ' H', Ex H H' → At K C H' σ' δ' → u E σ' H') : tSeq s1 (tSeq s2 (tSeq s3 (tSeq s4 (tSeq s5 (tSeq s6 u))))) E σ H := runM (E := { E with nx := u E }) h s hp k
theorem evE (h : ED K C te δ d) (s : At K C H σ δ) {Q : VK} (k : ∀ v H', Ex H H' → Is K C H' v d → Q v H') : te σ H Q := h H H H σ Ex.rfl s Q fun v F' H' f p => k v H' f.h (p.mono f.s)
theorem evA (h : EA K C tr δ ds) (s : At K C H σ δ) {Q : List V → Hp → Prop} (k : ∀ vs H', Ex H H' → IsAll K C H' vs ds → Q vs H') : tr σ H Q := h H H H σ Ex.rfl s Q fun v F' H' f p => k v H' f.h (p.mono f.s)
theorem evT {b : Bool} (h : TD K C t δ b) (s : At K C H σ δ) {Q : Bool → Hp → Prop} (k : ∀ H', Ex H H' → Q b H') : t σ H Q := h H H H σ Ex.rfl s Q fun F' H' f => k H' f.h
theorem raw_yes (h : TD K C t δ true) (s : At K C H σ δ) (k : ∀ H', Ex H H' → s1 { E with nx := u E } σ H') : tSeq (tIfS t s1 s2) u E σ H := by
  show t σ H fun b H1 => if b = true then s1 { E with nx := u E } σ H1 else s2 { E with nx := u E } σ H1
  exact evT h s fun H' x => by
    rw [if_pos rfl]
    exact k H' x
end
section
variable {te : TE} {t : TT} {δ : List Fr} {d : D} {u s1 s2 : TS} {E : Ends} {σ : L2.St} {H : Hp} {i : Nat}
theorem raw_no (h : TD K C t δ false) (s : At K C H σ δ) (p : plain δ = true) (k : ∀ H', Ex H H' → At K C H' σ δ → u E σ H') : tSeq (tIfS t s1 tNext) u E σ H := by
  show t σ H fun b H1 => if b = true then s1 { E with nx := u E } σ H1 else u E σ H1
  exact evT h s fun H' x => by
    rw [if_neg Bool.false_ne_true]
    exact k H' x (s.mono x p)
theorem raw_on (h : TD K C t δ true) (s : At K C H σ δ) (p : plain δ = true) (k : ∀ H', Ex H H' → At K C H' σ δ → s1 { E with nx := u E } σ H') : tSeq (tIfS t s1 s2) u E σ H := raw_yes h s fun H' x => k H' x (s.mono x p)
theorem raw_asg (h : ED K C te δ d) (s : At K C H σ δ) (p : plain δ = true) (k : ∀ v H', Ex H H' → Is K C H' v d → At K C H' (σ.set i (some v)) (δ.set i (.dat d)) → u E (σ.set i (some v)) H') : tSeq (tAsg te (gName i)) u E σ H :=
  evE h s fun v H' x q => k v H' x q (At.set i (s.mono x p) q)
theorem raw_drop (h : ED K C te δ d) (s : At K C H σ δ) (p : plain δ = true) (k : ∀ H', Ex H H' → At K C H' σ δ → u E σ H') : tSeq (tDrop te) u E σ H :=
  evE h s fun v H' x q => k H' x (s.mono x p)
end
/-! ### desks -/
structure DeskAt (K : PySem.W.Frag) (C : Addr) (H : Hp) (a q : Addr) (ps : List Pt) (pst : List (List Pt)) : Prop where
  obj : ∃ dx vp, H a = some (.ins C dx [(("points" : Str), vp), (("past" : Str), .ref q)]) ∧ Is K C H vp (shD ps)
  lst : ∃ xs, H q = some (.lst xs) ∧ IsAll K C H xs (pst.map shD)
theorem DeskAt.is {H : Hp} {a q : Addr} {ps : List Pt} {pst : List (List Pt)} (d : DeskAt K C H a q ps pst) : Is K C H (.ref a) (.desk (ps.map prD)) := by
  obtain ⟨dx, vp, h1, h2⟩ := d.obj
  exact .desk h1 h2
theorem DeskAt.mono {H H' : Hp} {a q : Addr} {ps : List Pt} {pst : List (List Pt)} (e : Ex H H') (d : DeskAt K C H a q ps pst) : DeskAt K C H' a q ps pst := by
  obtain ⟨⟨dx, vp, h1, h2⟩, xs, h3, h4⟩ := d
  exact ⟨⟨dx, vp, e _ _ h1, h2.mono e⟩, xs, e _ _ h3, h4.mono e⟩
def Cg (H H' : Hp) (a q : Addr) : Prop := ∀ p o, H p = some o → p ≠ a → p ≠ q → H' p = some o
theorem Cg.pre {H H1 H2 : Hp} {a q : Addr} (e : Ex H H1) (c : Cg H1 H2 a q) : Cg H H2 a q := fun p o h h1 h2 => c p o (e _ _ h) h1 h2
theorem Cg.suf {H H1 H2 : Hp} {a q : Addr} (c : Cg H H1 a q) (e : Ex H1 H2) : Cg H H2 a q := fun p o h h1 h2 => e _ _ (c p o h h1 h2)
theorem Cg.trans {H H1 H2 : Hp} {a q : Addr} (c : Cg H H1 a q) (e : Cg H1 H2 a q) : Cg H H2 a q := fun p o h h1 h2 => e p o (c p o h h1 h2) h1 h2
theorem Cg.ex {H H' : Hp} {a q : Addr} (e : Ex H H') : Cg H H' a q := fun p o h _ _ => e _ _ h
theorem DeskAt.tups {H H' : Hp} {a q : Addr} {ps : List Pt} {pst : List (List Pt)} (d : DeskAt K C H a q ps pst) (c : Cg H H' a q) : TupKeep H H' := fun p xs h => by
  obtain ⟨⟨dx, vp, h1, _⟩, ys, h3, _⟩ := d
  refine c p _ h (fun e => ?_) fun e => ?_
  · rw [e, h1] at h
    cases h
  · rw [e, h3] at h
    cases h
/-- another desk stays -/
theorem DeskAt.other {H H' : Hp} {a q b r : Addr} {ps qs : List Pt} {pst qst : List (List Pt)} (d : DeskAt K C H a q ps pst) (e : DeskAt K C H b r qs qst) (hab : b ≠ a) (hqr : r ≠ q) (c : Cg H H' a q) : DeskAt K C H' b r qs qst := by
  have hk := d.tups c
  obtain ⟨⟨dx, vp, h1, _⟩, ys, h3, _⟩ := d
  obtain ⟨⟨dy, wp, g1, g2⟩, zs, g3, g4⟩ := e
  refine ⟨⟨dy, wp, c _ _ g1 hab fun z => ?_, g2.keep hk (pure_sh _)⟩, zs, c _ _ g3 (fun z => ?_) hqr, g4.keep hk (pure_shs _)⟩
  · rw [z, h3] at g1
    cases g1
  · rw [z, h1] at g3
    cases g3
/-! ### what a method does to a desk -/
abbrev Gm := List Pt → List (List Pt) → List D → List Pt → List (List Pt) → D → Prop
def spM (K : PySem.W.Frag) (C : Addr) (g : Gm) : Sp := fun vs H Q _ => ∃ a q ps pst us ds ps' pst' d, vs = .ref a :: us ∧ DeskAt K C H a q ps pst ∧ IsAll K C H us ds ∧ g ps pst ds ps' pst' d ∧
  ∀ v H', Cg H H' a q → DeskAt K C H' a q ps' pst' → Is K C H' v d → Q v H'
theorem mut_meth {tr : TA} {δ : List Fr} {σ : L2.St} {H : Hp} {a q : Addr} {ps ps' : List Pt} {pst pst' : List (List Pt)} {ds : List D} {d : D} {g : Gm} {m : Str} {Q : VK} {i : Nat} {E : XK} (s : At K C H σ δ) (hd : DeskAt K C H a q ps pst) (hi : σ[i]? = some (some (.ref a)))
    (hm : ([(("points" : Str), V.non), (("past" : Str), V.non)].lookup m).isNone = true) (h : EA K C tr δ ds) (hg : g ps pst ds ps' pst' d)
    (k : ∀ v H', Cg H H' a q → DeskAt K C H' a q ps' pst' → Is K C H' v d → Q v H') : tMeth C m (spM K C g) [] E (tVar i) tr σ H Q := by
  have hl : ∀ (v w : V), [(("points" : Str), v), (("past" : Str), w)].lookup m = none := by
    intro v w
    simp only [List.lookup] at hm ⊢
    cases h1 : (m == ("points" : Str)) <;> simp only [h1] at hm ⊢
    · cases h2 : (m == ("past" : Str)) <;> simp only [h2] at hm ⊢
      exact absurd hm (by decide)
    · exact absurd hm (by decide)
  obtain ⟨dx, vp, h1, _⟩ := hd.obj
  refine ⟨.ref a, hi, a, dx, _, rfl, h1, hl _ _, ?_⟩
  refine evA h s fun vs H1 x1 p1 => ?_
  show spM K C g (V.ref a :: (vs ++ [])) H1 Q E
  rw [List.append_nil]
  exact ⟨a, q, ps, pst, vs, ds, ps', pst', d, rfl, hd.mono x1, p1, hg, fun v H2 c d2 p2 => k v H2 (c.pre x1) d2 p2⟩
/-! ### a def, a method, with any promise -/
def CalX (P : Program) (w : World) (K : PySem.W.Frag) (mg : Str → Option Value) (base : Heap) (k : Nat) (x : Str) (ps : List Str) (sp : Sp) : Prop :=
  ∃ f fd, FnOk P w K mg base CX0 k f fd ps sp ∧ mg x = some (.ref f) ∧ PySem.W.keepIn K (.ref f) = true ∧ Binds K fd ps []
def CalMX (P : Program) (w : World) (K : PySem.W.Frag) (mg : Str → Option Value) (base : Heap) (k : Nat) (m : Str) (ps : List Str) (sp : Sp) : Prop :=
  ∃ f fd, FnOk P w K mg base CX0 k f fd ps sp ∧ Meth K (deskC K) m f ∧ Binds K fd ps []
def CalI (P : Program) (w : World) (K : PySem.W.Frag) (mg : Str → Option Value) (base : Heap) (k : Nat) (ps : List Str) (sp : Sp) : Prop :=
  ∃ fd, FnOk P w K mg base CX0 k (He.ma K (deskC K) "__init__") fd ps sp ∧ Binds K fd ps []
end
section
variable {X : Cx} {k : Nat} {x m : Str} {ps : List Str} {sp : Sp} {e o : Expr} {es : List Expr} {p pos apos : Pos} {ta : TE} {t : TA}
theorem pe_callX {K : PySem.W.Frag} (c : CalX X.prog X.w K X.mg X.base k x ps sp) (hr : Room k X.A) (hg : Gl X x) (ha : PA X (e :: es) t) (hK : X.K = K := by rfl) (hdb : (x == ("__debug__" : Str)) = false := by decide) (he : starEach (e :: es) X.env = (false, eval e X.env) :: starEach es X.env := by rfl)
    (hpl : (backTo pos (starEach es X.env)).any (·.1) = false := by rfl) : PE X (.Call (.Name x p) (e :: es) [] pos) (tCall sp [] E0 t) := by
  subst hK
  obtain ⟨f, fd, F, hm, hk, hb⟩ := c
  exact pe_call F hr hg hm hk hb .nil pass0 ha hdb he hpl
theorem pe_methX {pl : Sem Bool} (c : CalMX X.prog X.w X.K X.mg X.base k m ps sp) (hr : Room k X.A) (he : PE X o ta) (cl : Cls X.K (deskC X.K)) (ha : PA X (e :: es) t)
    (hst : starEach (e :: es) X.env = (false, eval e X.env) :: starEach es X.env := by rfl) (hpl : (backTo pos (starEach es X.env)).any (·.1) = false := by rfl)
    (ht : eval (.Call (.Attribute o m apos) (e :: es) [] pos) X.env = (do
      let ov ← eval o X.env
      standAt apos.atName
      let (f, first) ← holding [ov] (getMethod ov m pl)
      callWith pos f first (backTo pos (starEach (e :: es) X.env)) (backToKw pos (keywordEach [] X.env))) := by rfl) : PE X (.Call (.Attribute o m apos) (e :: es) [] pos) (tMeth (deskC X.K) m sp [] E0 ta t) := by
  obtain ⟨f, fd, F, hm, hb⟩ := c
  exact pe_meth he cl hm F hr hb .nil pass0 ha hst hpl ht
theorem pe_methX0 {pl : Sem Bool} (c : CalMX X.prog X.w X.K X.mg X.base k m ps sp) (hr : Room k X.A) (he : PE X o ta) (cl : Cls X.K (deskC X.K))
    (ht : eval (.Call (.Attribute o m apos) [] [] pos) X.env = (do
      let ov ← eval o X.env
      standAt apos.atName
      let (f, first) ← holding [ov] (getMethod ov m pl)
      callWith pos f first (backTo pos (starEach [] X.env)) (backToKw pos (keywordEach [] X.env))) := by rfl) : PE X (.Call (.Attribute o m apos) [] [] pos) (tMeth (deskC X.K) m sp [] E0 ta tNil) := by
  obtain ⟨f, fd, F, hm, hb⟩ := c
  exact pe_meth0 he cl hm F hr hb .nil pass0 ht
theorem pe_makeX {K : PySem.W.Frag} (c : CalI X.prog X.w K X.mg X.base k ps sp) (M : Mk K (deskC K) (He.ma K (deskC K) "__init__")) (hr : Room (k + 1) X.A) (hg : Gl X x) (hm : X.mg x = some (.ref (deskC K))) (hK : X.K = K := by rfl) (hdb : (x == ("__debug__" : Str)) = false := by decide) : PE X (.Call (.Name x p) [] [] pos) (tMake (deskC K) sp [] E0 tNil) := by
  subst hK
  obtain ⟨fd, F, hb⟩ := c
  exact pe_make0 M F hr hg hm hb .nil pass0 hdb
end
section
variable {P : Program} {w : World} {K : PySem.W.Frag} {mg : Str → Option Value} {base : Heap} {x q : Str} {st : Stmt} {f : Addr} {fd : FuncData} {N ps : List Str} {k : Nat} {sp : Sp}
theorem okX (F : FnP K x q st f fd) (S : FnScope N ps (defScope st)) (len : ∀ vs H Q E, sp vs H Q E → vs.length = ps.length)
    (hbody : ∀ (cdv : Value) (A : Around) (outer : List Env) (s : Shared) (H : Hp) (vs : List V) (Q : VK) (E : XK), Room k (A.deeper (envOfC q (defScope st) s.heap.objs.size f cdv)) → sp vs H Q E →
      ∃ t, PSs (cxOf CX0 P w K mg base N q (defScope st) f cdv A outer s H E).nox (defBody st) t ∧ t { nx := fun _ H' => Q .non H', rt := Q } (L2.start N vs) H) : FnOk P w K mg base CX0 (k + 1) f fd ps sp :=
  F.ok S len fun cdv A outer s H vs Q E hr h => by
    obtain ⟨t, ht, hS⟩ := hbody cdv A outer s H vs Q E hr h
    exact ⟨t, PSs.nox ht, hS⟩
theorem calXOf (g : mg x = some (.ref f)) (F : FnP K x q st f fd) (hb : ∀ (kV doc pm : Value) (an : Option Addr) (cdv ct : Value) (us : List Value), us.length = ps.length → bindArgs (PySem.W.fnOf x q (defArgs st) (defBody st) (defScope st) .none kV doc pm an cdv ct) ⟨us, []⟩ = pure (ps.zip us))
    (ok : FnOk P w K mg base CX0 k f fd ps sp) : CalX P w K mg base k x ps sp := ⟨f, fd, ok, g, F.kp, FunD.bindsN F hb⟩
theorem calMXOf (g : Meth K (deskC K) x f) (F : FnP K x q st f fd) (hb : ∀ (kV doc pm : Value) (an : Option Addr) (cdv ct : Value) (us : List Value), us.length = ps.length → bindArgs (PySem.W.fnOf x q (defArgs st) (defBody st) (defScope st) .none kV doc pm an cdv ct) ⟨us, []⟩ = pure (ps.zip us))
    (ok : FnOk P w K mg base CX0 k f fd ps sp) : CalMX P w K mg base k x ps sp := ⟨f, fd, ok, g, FunD.bindsN F hb⟩
theorem calIOf {fd : FuncData} (F : FnP K x q st (He.ma K (deskC K) "__init__") fd) (hb : ∀ (kV doc pm : Value) (an : Option Addr) (cdv ct : Value) (us : List Value), us.length = ps.length → bindArgs (PySem.W.fnOf x q (defArgs st) (defBody st) (defScope st) .none kV doc pm an cdv ct) ⟨us, []⟩ = pure (ps.zip us))
    (ok : FnOk P w K mg base CX0 k (He.ma K (deskC K) "__init__") fd ps sp) : CalI P w K mg base k ps sp := ⟨fd, ok, FunD.bindsN F hb⟩
end
end Bt

end BtW_part
section BtI_part
set_option Elab.async false
set_option linter.all false
set_option maxRecDepth 100000
set_option maxHeartbeats 4000000
namespace Bt
open PySem PySem.Spec PyProof.Rows L2 BtR
/-! ## the desk, asked -/
abbrev dkD (ps : List Pt) : D := .desk (ps.map prD)
def optN : Option Nat → D
  | none => .non
  | some i => natD i
def placeL (ps : List Pt) (x : Int) : List Nat := (List.range ps.length).filter fun t => decide ((ix ps t).1 = x)
def placeP (ps : List Pt) (x : Int) : Option Nat := (placeL ps x).head?
theorem eqv_nilT : ∀ s : List Pt, PyData.eqv (toP (.tup (s.map prD))) (toP (.tup [])) = decide (s = [])
  | [] => rfl
  | _ :: _ => rfl
section
variable {P : Program} {w : World} {K : PySem.W.Frag} {mg : Str → Option Value} {base : Heap}
theorem dw_enumN {C : Addr} {te : TE} {δ : List Fr} {ps : List Pt} (h : ED K C te δ (shD ps)) : DW K C (iEnumT K (tCons te tNil)) δ ps.length fun t d => d = .tup [natD t, prD (ix ps t)] ∧ t < ps.length := fun H0 F H σ x s R q => by
  have := dw_enumT (ds := ps.map prD) h
  rw [List.length_map] at this
  refine this H0 F H σ x s R fun J F1 H1 f1 W => q J F1 H1 f1 ⟨W.goes, W.stops, fun i F H x H' e1 e2 hi y => ?_⟩
  obtain ⟨F2, d, a, ⟨e, b, c⟩, d2⟩ := W.yields i F H x H' e1 e2 hi y
  rw [List.getElem?_map, ix_get hi] at b
  cases b
  exact ⟨F2, d, a, ⟨c, hi⟩, d2⟩
/-! ### place_of -/
def f_Desk_place_of (ds : List D) (d : D) : Prop := ∃ (ps : List Pt) (x : Int), ds = [dkD ps, .int x] ∧ ps.length ≤ 7 ∧ d = optN (placeP ps x)
abbrev N_Desk_place_of : List Str := ["self", "x", "some", "place", "point"]
theorem sc_Desk_place_of : FnScope N_Desk_place_of ["self", "x"] (defScope s_Desk_place_of) := ⟨rfl, rfl, rfl, by decide +kernel, rfl, by decide +kernel, by decide +kernel⟩
theorem cal_Desk_place_of (T : Tx K mg) : CalM P w K mg base 1 "place_of" ["self", "x"] f_Desk_place_of := by
  obtain ⟨fd, F⟩ := T.fd_Desk_place_of
  refine calMOf (N := N_Desk_place_of) T.me_Desk_place_of F (fun _ _ _ _ _ _ us hl => match us, hl with | [_, _], _ => rfl) (okP F sc_Desk_place_of (fun ds d h => ?_) fun cdv A outer s H E hr ds d h => ⟨_, 
    (pss_cons (ps_setLc (i := 2) (own := [("place", 3), ("point", 4)]) rfl sc_Desk_place_of.nd rfl rfl (sw_true rfl rfl rfl (by decide +kernel)) (pi_enumT (by rfl) T.free_enumerate (pa_cons (pe_fld (pv 0) rfl) pa_nil)) (blkOk_by (own := [("place", 3), ("point", 4)]) (N := N_Desk_place_of) (sc := defScope s_Desk_place_of) (by decide +kernel)) (fun _ _ _ _ _ => (pg_tupK (K := K) (n := 2) rfl rfl (pgs_cons (pg_name (i := 3) sc_Desk_place_of.nd rfl (Or.inl rfl)) (pgs_cons (pg_name (i := 4) sc_Desk_place_of.nd rfl (Or.inl rfl)) pgs_nil)))) (fun _ _ _ _ _ => (pts_one (pt_cmpR op_eq (pe_ix (ix_tupK (K := K) rfl) (pv 4) pe_int (fun _ _ => rfl)) (pv 1) (nomark _)))) (fun _ _ _ _ _ => (pv 3)))
    (pss_cons (ps_ret (pe_ifExp (pt_cmpR (op_neD hr.units) (pv 2) (pe_lst pa_nil) (nomark _)) (pe_ix (ix_listK (K := K) rfl) (pv 2) pe_int (fun _ _ => rfl)) pe_non)) pss_nil)), ?_⟩)
  · unfold f_Desk_place_of at h
    repeat (first | (obtain ⟨e, _⟩ := h; rw [e]; rfl) | (obtain ⟨_, h⟩ := h))
  · obtain ⟨ps, x, rfl, hl, rfl⟩ := h
    have hpl : (placeL ps x).length ≤ ps.length := Nat.le_trans (List.length_filter_le _ _) (by simp)
    refine q_asg (d := .lst ((placeL ps x).map natD)) (ex_d (ex_lcF (List.range ps.length) (fun t => .tup [natD t, prD (ix ps t)]) natD (fun t => decide ((ix ps t).1 = x)) (n := ps.length) [3, 4] (dw_enumN (ed_points T.cls T.nPo (ed_var rfl))) (fun t d ht hd => ⟨t, by simp [ht], hd.1⟩) (by simp) (by omega) (by simp) fun t ht => ⟨_, tg_tup [3, 4] rfl rfl, td_test (ed_eqI (ed_ixT (ed_var rfl) ed_int at_zero) (ed_var rfl)), fun _ => ed_var rfl⟩)) ?_
    refine q_ret (d := optN (placeP ps x)) (ed_ifE (td_test (ed_neD (b := decide (placeL ps x = [])) (ed_h (ed_var rfl)) (ed_h (ex_d (ex_lst ea_nil (by simp)))) (isPs_row _) rfl (shaped_lst (canl_row _) (Nat.le_trans (deep_row _) (by decide))) rfl (eqv_nil _))) (fun e => ?_) fun e => ?_) rfl
    · have hne : placeL ps x ≠ [] := by simpa using e
      unfold placeP
      cases hp : placeL ps x with
      | nil => exact absurd hp hne
      | cons i r => exact ed_ixL (ds := natD i :: r.map natD) (ed_l (ed_var rfl)) ed_int at_zero
    · have he : placeL ps x = [] := by simpa using e
      unfold placeP
      rw [he]
      exact ed_non
/-! ### sound, needed, need_points -/
def f_Desk_sound (ds : List D) (d : D) : Prop := ∃ (qs ps : List Pt), ds = [dkD qs, shD ps] ∧ (ps.length ≤ 24 ∧ Smalls ps ∧ Free ps) ∧ d = shD ps
abbrev N_Desk_sound : List Str := ["self", "points", "three"]
theorem sc_Desk_sound : FnScope N_Desk_sound ["self", "points"] (defScope s_Desk_sound) := ⟨rfl, rfl, rfl, by decide +kernel, rfl, by decide +kernel, by decide +kernel⟩
theorem cal_Desk_sound (T : Tx K mg) : CalM P w K mg base 3 "sound" ["self", "points"] f_Desk_sound := by
  obtain ⟨fd, F⟩ := T.fd_Desk_sound
  refine calMOf (N := N_Desk_sound) T.me_Desk_sound F (fun _ _ _ _ _ _ us hl => match us, hl with | [_, _], _ => rfl) (okP F sc_Desk_sound (fun ds d h => ?_) fun cdv A outer s H E hr ds d h => ⟨_, 
    (pss_cons (ps_set (i := 2) sc_Desk_sound.nd rfl (Or.inl rfl) (pe_callP (cal_first_three T) (hr.mono (by decide)) (by rfl) (pa_cons (pv 1) pa_nil)))
    (pss_cons (ps_if (pt_cmpR op_notN (pv 2) pe_non (nomark _)) 
      (pss_cons ps_never pss_nil) pss_nil)
    (pss_cons (ps_ret (pv 1)) pss_nil))), ?_⟩)
  · unfold f_Desk_sound at h
    repeat (first | (obtain ⟨e, _⟩ := h; rw [e]; rfl) | (obtain ⟨_, h⟩ := h))
  · obtain ⟨qs, ps, rfl, ⟨h1, h2, h3⟩, rfl⟩ := h
    have g : f_first_three [shD ps] .non := ⟨ps, false, rfl, ⟨h1, h2, h3⟩, rfl⟩
    exact q_asg (d := .non) (ed_call (ea_cons (ed_var rfl) ea_nil) g) (q_no (td_is (td_test (ed_notN (ed_var rfl))) rfl) (q_ret (ed_var rfl) rfl))
def f_Desk_needed (ds : List D) (d : D) : Prop := ∃ (ps : List Pt) (x : Int) (i : Nat), ds = [dkD ps, .int x] ∧ (ps.length ≤ 7 ∧ placeP ps x = some i) ∧ d = natD i
abbrev N_Desk_needed : List Str := ["self", "x", "place"]
theorem sc_Desk_needed : FnScope N_Desk_needed ["self", "x"] (defScope s_Desk_needed) := ⟨rfl, rfl, rfl, by decide +kernel, rfl, by decide +kernel, by decide +kernel⟩
theorem cal_Desk_needed (T : Tx K mg) : CalM P w K mg base 2 "needed" ["self", "x"] f_Desk_needed := by
  obtain ⟨fd, F⟩ := T.fd_Desk_needed
  refine calMOf (N := N_Desk_needed) T.me_Desk_needed F (fun _ _ _ _ _ _ us hl => match us, hl with | [_, _], _ => rfl) (okP F sc_Desk_needed (fun ds d h => ?_) fun cdv A outer s H E hr ds d h => ⟨_, 
    (pss_cons (ps_set (i := 2) sc_Desk_needed.nd rfl (Or.inl rfl) (pe_methP (cal_Desk_place_of T) (hr.mono (by decide)) (pv 0) T.cls (pa_cons (pv 1) pa_nil)))
    (pss_cons (ps_if (pt_cmpR op_isN (pv 2) pe_non (nomark _)) 
      (pss_cons ps_never pss_nil) pss_nil)
    (pss_cons (ps_ret (pv 2)) pss_nil))), ?_⟩)
  · unfold f_Desk_needed at h
    repeat (first | (obtain ⟨e, _⟩ := h; rw [e]; rfl) | (obtain ⟨_, h⟩ := h))
  · obtain ⟨ps, x, i, rfl, ⟨h1, h2⟩, rfl⟩ := h
    have g : f_Desk_place_of [dkD ps, .int x] (natD i) := ⟨ps, x, rfl, h1, by rw [h2]; rfl⟩
    exact q_asg (d := natD i) (ed_meth (ed_var rfl) (by decide +kernel) (ea_cons (ed_var rfl) ea_nil) g) (q_no (td_is (td_test (ed_isN (d := natD i) (ed_var rfl))) rfl) (q_ret (ed_var rfl) rfl))
def f_Desk_need_points (ds : List D) (d : D) : Prop := ∃ (ps : List Pt), ds = [dkD ps] ∧ ps ≠ [] ∧ d = .non
theorem td_empty {C : Addr} {δ : List Fr} {i : Nat} {ps : List Pt} (T : Tx K mg) (h : δ[i]? = some (.dat (dkD ps))) (hp : ps ≠ []) : TD K (deskC K) (tTest (tOp (rEqD K) (tFld K (tVar i) "points") (tTup tNil))) δ false := td_is (td_test (ed_eqD (b := decide (ps = [])) (ed_h (ed_points T.cls T.nPo (ed_var h))) (ed_h (ed_tup ea_nil (by simp))) (isPs_pts _) rfl (shaped_tup (canl_pts _) (Nat.le_trans (deep_pts _) (by decide))) rfl (eqv_nilT _))) (by simp [hp])
abbrev N_Desk_need_points : List Str := ["self"]
theorem sc_Desk_need_points : FnScope N_Desk_need_points ["self"] (defScope s_Desk_need_points) := ⟨rfl, rfl, rfl, by decide +kernel, rfl, by decide +kernel, by decide +kernel⟩
theorem cal_Desk_need_points (T : Tx K mg) : CalM P w K mg base 1 "need_points" ["self"] f_Desk_need_points := by
  obtain ⟨fd, F⟩ := T.fd_Desk_need_points
  refine calMOf (N := N_Desk_need_points) T.me_Desk_need_points F (fun _ _ _ _ _ _ us hl => match us, hl with | [_], _ => rfl) (okP F sc_Desk_need_points (fun ds d h => ?_) fun cdv A outer s H E hr ds d h => ⟨_, 
    (pss_cons (ps_if (pt_cmpR (op_eqD hr.units) (pe_fld (pv 0) rfl) (pe_tup pa_nil) (nomark _)) 
      (pss_cons ps_never pss_nil) pss_nil) pss_nil), ?_⟩)
  · unfold f_Desk_need_points at h
    repeat (first | (obtain ⟨e, _⟩ := h; rw [e]; rfl) | (obtain ⟨_, h⟩ := h))
  · obtain ⟨ps, rfl, h1, rfl⟩ := h
    exact q_no (td_empty (C := deskC K) T rfl h1) (sd_nx rfl Le.rfl)
/-! ### asked -/
def wds : List Str := ["sheet", "cup", "cap", "ring", "outer", "peels", "cross", "halving"]
def noYes (b : Bool) : Str := if b then "yes" else "no"
def ansP (ps : List Pt) : Nat → Str
  | 0 => shTx ps
  | 1 => optTx (longP (uB ps true) ps.length)
  | 2 => optTx (longP (uB ps false) ps.length)
  | 3 => if ps.length < 3 then "none" else itx (((grP ps).getD []).length : Nat)
  | 4 => if ps.length < 3 then "none" else rowTx (outP ps)
  | 5 => itx ((peelsP ps).length : Nat)
  | 6 => itx ((crossesP ps).length : Nat)
  | 7 => itx ((halvP ps).length : Nat)
  | 8 => noYes (lacksB ps 3 4)
  | _ => noYes (lacksB ps 4 3)
theorem long_few {ps : List Pt} {b : Bool} (hS : Sh ps) : ∀ r, longP (uB ps b) ps.length = some r → r.length ≤ 7 ∧ ∀ x ∈ r, x < 7 := fun r h => by
  have hle := hS.le
  unfold longP at h
  split at h
  · cases h
  · have := firstP_ok (U := uB ps b) hS.pos h
    have hl := Ch_len this.1 this.2.1
    exact ⟨by omega, fun x hx => by have := this.2.1 x hx; omega⟩
theorem peel_few (ps : List Pt) : ∀ f left, (peelF ps f left).length ≤ f
  | 0, _ => Nat.le_refl _
  | f + 1, left => by
    show (if left = [] then [] else pkP ps left :: peelF ps f (left.filter fun x => decide (x ∉ pkP ps left))).length ≤ f + 1
    split
    · simp
    · rw [List.length_cons]
      have := peel_few ps f (left.filter fun x => decide (x ∉ pkP ps left))
      omega
theorem bst_few {ps : List Pt} (hl : ps.length ≤ 7) : ∀ {r b}, (∀ q, b = some q → q.length ≤ 7) → r.length ≤ 7 → ∀ q, bstep r b = some q → q.length ≤ 7 := fun {r b} hb hr q h => by
  unfold bstep at h
  split at h
  · cases h
    exact hr
  · exact hb q h
theorem bstIn_few {ps : List Pt} (hl : ps.length ≤ 7) {p : Nat} {b : Option (List Nat)} (hb : ∀ q, b = some q → q.length ≤ 7) : ∀ t q, bstIn ps p b t = some q → q.length ≤ 7
  | 0 => hb
  | t + 1 => bst_few hl (bstIn_few hl hb t) (rgP_len hl)
theorem bstTo_few {ps : List Pt} (hl : ps.length ≤ 7) : ∀ p q, bstTo ps p = some q → q.length ≤ 7
  | 0, _, h => by cases h
  | p + 1, q, h => bstIn_few hl (bstTo_few hl p) _ q h
theorem Ten_nat {n : Nat} (h : n ≤ 1000) : Ten 40 (n : Int) := by
  unfold Ten
  omega
def f_Desk_asked (ds : List D) (d : D) : Prop := ∃ (ps : List Pt) (k : Nat), ds = [dkD ps, .str (wds.getD k "")] ∧ (Sh ps ∧ k < 8) ∧ d = .str (ansP ps k)
abbrev N_Desk_asked : List Str := ["self", "word"]
theorem sc_Desk_asked : FnScope N_Desk_asked ["self", "word"] (defScope s_Desk_asked) := ⟨rfl, rfl, rfl, by decide +kernel, rfl, by decide +kernel, by decide +kernel⟩
theorem cal_Desk_asked (T : Tx K mg) : CalM P w K mg base 7 "asked" ["self", "word"] f_Desk_asked := by
  obtain ⟨fd, F⟩ := T.fd_Desk_asked
  refine calMOf (N := N_Desk_asked) T.me_Desk_asked F (fun _ _ _ _ _ _ us hl => match us, hl with | [_, _], _ => rfl) (okP F sc_Desk_asked (fun ds d h => ?_) fun cdv A outer s H E hr ds d h => ⟨_, 
    (pss_cons (ps_if (PW.pt (pw_and (pt_cmpR op_eq (pv 1) pe_str (nomark _)) (pw_and1 (pt_cmpR (op_eqD hr.units) (pe_fld (pv 0) rfl) (pe_tup pa_nil) (nomark _))))) 
      (pss_cons (ps_ret pe_str) pss_nil) pss_nil)
    (pss_cons (ps_expr (pe_methP0 (cal_Desk_need_points T) (hr.mono (by decide)) (pv 0) T.cls))
    (pss_cons (ps_if (pt_cmpR op_eq (pv 1) pe_str (nomark _)) 
      (pss_cons (ps_ret (pe_callP (cal_show_sheet T) (hr.mono (by decide)) (by rfl) (pa_cons (pe_fld (pv 0) rfl) pa_nil))) pss_nil) pss_nil)
    (pss_cons (ps_if (pt_cmpR op_eq (pv 1) pe_str (nomark _)) 
      (pss_cons (ps_ret (pe_callP (cal_places_text T) (hr.mono (by decide)) (by rfl) (pa_cons (pe_callP (cal_longest_cup T) (hr.mono (by decide)) (by rfl) (pa_cons (pe_fld (pv 0) rfl) pa_nil)) pa_nil))) pss_nil) pss_nil)
    (pss_cons (ps_if (pt_cmpR op_eq (pv 1) pe_str (nomark _)) 
      (pss_cons (ps_ret (pe_callP (cal_places_text T) (hr.mono (by decide)) (by rfl) (pa_cons (pe_callP (cal_longest_cap T) (hr.mono (by decide)) (by rfl) (pa_cons (pe_fld (pv 0) rfl) pa_nil)) pa_nil))) pss_nil) pss_nil)
    (pss_cons (ps_if (pt_cmpR op_eq (pv 1) pe_str (nomark _)) 
      (pss_cons (ps_ret (pe_callTy call_str_int (by rfl) (T.free_str) bb_str (pa_cons (pe_callB call_len_seq (by rfl) (T.free_len) bb_len (pa_cons (pe_callP (cal_peels T) (hr.mono (by decide)) (by rfl) (pa_cons (pe_fld (pv 0) rfl) pa_nil)) pa_nil)) pa_nil))) pss_nil) pss_nil)
    (pss_cons (ps_if (pt_cmpR op_eq (pv 1) pe_str (nomark _)) 
      (pss_cons (ps_ret (pe_callTy call_str_int (by rfl) (T.free_str) bb_str (pa_cons (pe_callB call_len_seq (by rfl) (T.free_len) bb_len (pa_cons (pe_callP (cal_crossings T) (hr.mono (by decide)) (by rfl) (pa_cons (pe_fld (pv 0) rfl) pa_nil)) pa_nil)) pa_nil))) pss_nil) pss_nil)
    (pss_cons (ps_if (pt_cmpR op_eq (pv 1) pe_str (nomark _)) 
      (pss_cons (ps_ret (pe_callTy call_str_int (by rfl) (T.free_str) bb_str (pa_cons (pe_callB call_len_seq (by rfl) (T.free_len) bb_len (pa_cons (pe_callP (cal_halving T) (hr.mono (by decide)) (by rfl) (pa_cons (pe_fld (pv 0) rfl) pa_nil)) pa_nil)) pa_nil))) pss_nil) pss_nil)
    (pss_cons (ps_if (pt_cmpR op_lt (pe_callB call_len_seq (by rfl) (T.free_len) bb_len (pa_cons (pe_fld (pv 0) rfl) pa_nil)) pe_int (nomark _)) 
      (pss_cons (ps_ret pe_str) pss_nil) pss_nil)
    (pss_cons (ps_if (pt_cmpR op_eq (pv 1) pe_str (nomark _)) 
      (pss_cons (ps_ret (pe_callP (cal_places_text T) (hr.mono (by decide)) (by rfl) (pa_cons (pe_callP (cal_outer_ring T) (hr.mono (by decide)) (by rfl) (pa_cons (pe_fld (pv 0) rfl) pa_nil)) pa_nil))) pss_nil) pss_nil)
    (pss_cons (ps_ret (pe_callTy call_str_int (by rfl) (T.free_str) bb_str (pa_cons (pe_callB call_len_seq (by rfl) (T.free_len) bb_len (pa_cons (pe_callP (cal_greatest_ring T) (hr.mono (by decide)) (by rfl) (pa_cons (pe_fld (pv 0) rfl) pa_nil)) pa_nil)) pa_nil))) pss_nil))))))))))), ?_⟩)
  · unfold f_Desk_asked at h
    repeat (first | (obtain ⟨e, _⟩ := h; rw [e]; rfl) | (obtain ⟨_, h⟩ := h))
  · obtain ⟨ps, k, rfl, ⟨hS, hk⟩, rfl⟩ := h
    have hle := hS.le
    have hpos := hS.pos
    have hne : ps ≠ [] := by
      intro z
      rw [z] at hpos
      simp at hpos
    have gn : f_Desk_need_points [dkD ps] .non := ⟨ps, rfl, hne, rfl⟩
    have hk8 : k = 0 ∨ k = 1 ∨ k = 2 ∨ k = 3 ∨ k = 4 ∨ k = 5 ∨ k = 6 ∨ k = 7 := by omega
    rcases hk8 with rfl | rfl | rfl | rfl | rfl | rfl | rfl | rfl
    · refine q_no (td_is (td_and (a := true) (b := false) (td_is (td_test (ed_eqS (ed_var rfl) ed_str)) (by decide +kernel)) fun _ => td_empty (C := deskC K) T rfl hne) rfl) ?_
      refine q_drop (ed_meth (ed_var rfl) (by decide +kernel) ea_nil gn) ?_
      have g : f_show_sheet [shD ps] (.str (shTx ps)) := ⟨ps, rfl, hS, rfl⟩
      refine q_yes (td_is (td_test (ed_eqS (ed_var rfl) ed_str)) (by decide +kernel)) ?_
      exact q_ret (ed_call (ea_cons (ed_points T.cls T.nPo (ed_var rfl)) ea_nil) g) rfl
    · refine q_no (td_is (td_and (a := false) (b := false) (td_is (td_test (ed_eqS (ed_var rfl) ed_str)) (by decide +kernel)) fun z => Bool.noConfusion z) rfl) ?_
      refine q_drop (ed_meth (ed_var rfl) (by decide +kernel) ea_nil gn) ?_
      refine q_no (td_is (td_test (ed_eqS (ed_var rfl) ed_str)) (by decide +kernel)) ?_
      have g : f_longest_cup [shD ps] (optD (longP (uB ps true) ps.length)) := ⟨ps, rfl, hS, rfl⟩
      have g2 : f_places_text [optD (longP (uB ps true) ps.length)] (.str (optTx (longP (uB ps true) ps.length))) := ⟨_, rfl, long_few hS, rfl⟩
      refine q_yes (td_is (td_test (ed_eqS (ed_var rfl) ed_str)) (by decide +kernel)) ?_
      exact q_ret (ed_call (ea_cons (ed_call (ea_cons (ed_points T.cls T.nPo (ed_var rfl)) ea_nil) g) ea_nil) g2) rfl
    · refine q_no (td_is (td_and (a := false) (b := false) (td_is (td_test (ed_eqS (ed_var rfl) ed_str)) (by decide +kernel)) fun z => Bool.noConfusion z) rfl) ?_
      refine q_drop (ed_meth (ed_var rfl) (by decide +kernel) ea_nil gn) ?_
      refine q_no (td_is (td_test (ed_eqS (ed_var rfl) ed_str)) (by decide +kernel)) ?_
      refine q_no (td_is (td_test (ed_eqS (ed_var rfl) ed_str)) (by decide +kernel)) ?_
      have g : f_longest_cap [shD ps] (optD (longP (uB ps false) ps.length)) := ⟨ps, rfl, hS, rfl⟩
      have g2 : f_places_text [optD (longP (uB ps false) ps.length)] (.str (optTx (longP (uB ps false) ps.length))) := ⟨_, rfl, long_few hS, rfl⟩
      refine q_yes (td_is (td_test (ed_eqS (ed_var rfl) ed_str)) (by decide +kernel)) ?_
      exact q_ret (ed_call (ea_cons (ed_call (ea_cons (ed_points T.cls T.nPo (ed_var rfl)) ea_nil) g) ea_nil) g2) rfl
    · refine q_no (td_is (td_and (a := false) (b := false) (td_is (td_test (ed_eqS (ed_var rfl) ed_str)) (by decide +kernel)) fun z => Bool.noConfusion z) rfl) ?_
      refine q_drop (ed_meth (ed_var rfl) (by decide +kernel) ea_nil gn) ?_
      refine q_no (td_is (td_test (ed_eqS (ed_var rfl) ed_str)) (by decide +kernel)) ?_
      refine q_no (td_is (td_test (ed_eqS (ed_var rfl) ed_str)) (by decide +kernel)) ?_
      refine q_no (td_is (td_test (ed_eqS (ed_var rfl) ed_str)) (by decide +kernel)) ?_
      refine q_no (td_is (td_test (ed_eqS (ed_var rfl) ed_str)) (by decide +kernel)) ?_
      refine q_no (td_is (td_test (ed_eqS (ed_var rfl) ed_str)) (by decide +kernel)) ?_
      refine q_no (td_is (td_test (ed_eqS (ed_var rfl) ed_str)) (by decide +kernel)) ?_
      by_cases h3 : ps.length < 3
      · refine q_yes (td_is (td_test (ed_lt (ed_lenSh (ed_points T.cls T.nPo (ed_var rfl))) ed_int)) (decide_eq_true (by omega))) (q_ret ed_str ?_)
        show _ = D.str (if _ then _ else _)
        rw [if_pos h3]
      · refine q_no (td_is (td_test (ed_lt (ed_lenSh (ed_points T.cls T.nPo (ed_var rfl))) ed_int)) (decide_eq_false (by omega))) ?_
        refine q_no (td_is (td_test (ed_eqS (ed_var rfl) ed_str)) (by decide +kernel)) ?_
        have hs := grP_some (ps := ps) (by omega)
        obtain ⟨r, hr1⟩ := Option.isSome_iff_exists.mp hs
        have hrl := bstTo_few hle ps.length r hr1
        have g : f_greatest_ring [shD ps] (rowD r) := ⟨ps, rfl, hS, by rw [hr1]; rfl⟩
        refine q_ret (ed_strI (ed_lenRow (ed_call (ea_cons (ed_points T.cls T.nPo (ed_var rfl)) ea_nil) g)) (log_ok (Ten_nat (by omega)))) ?_
        show _ = D.str (if _ then _ else _)
        rw [if_neg h3, hr1]
        rfl
    · refine q_no (td_is (td_and (a := false) (b := false) (td_is (td_test (ed_eqS (ed_var rfl) ed_str)) (by decide +kernel)) fun z => Bool.noConfusion z) rfl) ?_
      refine q_drop (ed_meth (ed_var rfl) (by decide +kernel) ea_nil gn) ?_
      refine q_no (td_is (td_test (ed_eqS (ed_var rfl) ed_str)) (by decide +kernel)) ?_
      refine q_no (td_is (td_test (ed_eqS (ed_var rfl) ed_str)) (by decide +kernel)) ?_
      refine q_no (td_is (td_test (ed_eqS (ed_var rfl) ed_str)) (by decide +kernel)) ?_
      refine q_no (td_is (td_test (ed_eqS (ed_var rfl) ed_str)) (by decide +kernel)) ?_
      refine q_no (td_is (td_test (ed_eqS (ed_var rfl) ed_str)) (by decide +kernel)) ?_
      refine q_no (td_is (td_test (ed_eqS (ed_var rfl) ed_str)) (by decide +kernel)) ?_
      by_cases h3 : ps.length < 3
      · refine q_yes (td_is (td_test (ed_lt (ed_lenSh (ed_points T.cls T.nPo (ed_var rfl))) ed_int)) (decide_eq_true (by omega))) (q_ret ed_str ?_)
        show _ = D.str (if _ then _ else _)
        rw [if_pos h3]
      · refine q_no (td_is (td_test (ed_lt (ed_lenSh (ed_points T.cls T.nPo (ed_var rfl))) ed_int)) (decide_eq_false (by omega))) ?_
        have g : f_outer_ring [shD ps] (optD (some (outP ps))) := ⟨ps, rfl, ⟨hS, by omega⟩, rfl⟩
        have hol : ∀ x ∈ outP ps, x < ps.length := fun x hx => (setP_mem.mp hx).1
        have hon := rise_len (k := 0) (n := ps.length) (setP_rise _ _) fun x (hx : x ∈ outP ps) => ⟨Nat.zero_le _, hol x hx⟩
        have g2 : f_places_text [optD (some (outP ps))] (.str (rowTx (outP ps))) := ⟨some (outP ps), rfl, fun r e => by
          cases e
          exact ⟨by unfold outP; omega, fun x hx => by have := hol x hx; omega⟩, rfl⟩
        refine q_yes (td_is (td_test (ed_eqS (ed_var rfl) ed_str)) (by decide +kernel)) ?_
        refine q_ret (ed_call (ea_cons (ed_call (ea_cons (ed_points T.cls T.nPo (ed_var rfl)) ea_nil) g) ea_nil) g2) ?_
        show _ = D.str (if _ then _ else _)
        rw [if_neg h3]
    · refine q_no (td_is (td_and (a := false) (b := false) (td_is (td_test (ed_eqS (ed_var rfl) ed_str)) (by decide +kernel)) fun z => Bool.noConfusion z) rfl) ?_
      refine q_drop (ed_meth (ed_var rfl) (by decide +kernel) ea_nil gn) ?_
      refine q_no (td_is (td_test (ed_eqS (ed_var rfl) ed_str)) (by decide +kernel)) ?_
      refine q_no (td_is (td_test (ed_eqS (ed_var rfl) ed_str)) (by decide +kernel)) ?_
      refine q_no (td_is (td_test (ed_eqS (ed_var rfl) ed_str)) (by decide +kernel)) ?_
      have hpf : (peelsP ps).length ≤ ps.length := peel_few ps _ _
      have g : f_peels [shD ps] (.lst ((peelsP ps).map rowD)) := ⟨ps, rfl, hS, rfl⟩
      refine q_yes (td_is (td_test (ed_eqS (ed_var rfl) ed_str)) (by decide +kernel)) ?_
      exact q_ret (ed_strI (i := ((peelsP ps).length : Nat)) (ed_is (ed_lenL (ed_l (ed_call (ea_cons (ed_points T.cls T.nPo (ed_var rfl)) ea_nil) g))) (by rw [List.length_map])) (log_ok (Ten_nat (by omega)))) rfl
    · refine q_no (td_is (td_and (a := false) (b := false) (td_is (td_test (ed_eqS (ed_var rfl) ed_str)) (by decide +kernel)) fun z => Bool.noConfusion z) rfl) ?_
      refine q_drop (ed_meth (ed_var rfl) (by decide +kernel) ea_nil gn) ?_
      refine q_no (td_is (td_test (ed_eqS (ed_var rfl) ed_str)) (by decide +kernel)) ?_
      refine q_no (td_is (td_test (ed_eqS (ed_var rfl) ed_str)) (by decide +kernel)) ?_
      refine q_no (td_is (td_test (ed_eqS (ed_var rfl) ed_str)) (by decide +kernel)) ?_
      refine q_no (td_is (td_test (ed_eqS (ed_var rfl) ed_str)) (by decide +kernel)) ?_
      have hcf : (crossesP ps).length ≤ 35 := by
        have h1 := (List.mergeSort_perm (((fouTo ps.length ps.length).filter (ringQ ps)).map (crossP ps)) fun p q => decide (cdQ p ≤ cdQ q)).length_eq
        have h2 := List.length_filter_le (ringQ ps) (fouTo ps.length ps.length)
        have h3 := fouTo_few ps.length (by omega) ps.length (by omega)
        unfold crossesP sortQ
        rw [h1, List.length_map]
        omega
      have g : f_crossings [shD ps] (.lst ((crossesP ps).map foN)) := ⟨ps, rfl, hS, rfl⟩
      refine q_yes (td_is (td_test (ed_eqS (ed_var rfl) ed_str)) (by decide +kernel)) ?_
      exact q_ret (ed_strI (i := ((crossesP ps).length : Nat)) (ed_is (ed_lenL (ed_l (ed_call (ea_cons (ed_points T.cls T.nPo (ed_var rfl)) ea_nil) g))) (by rw [List.length_map])) (log_ok (Ten_nat (by omega)))) rfl
    · refine q_no (td_is (td_and (a := false) (b := false) (td_is (td_test (ed_eqS (ed_var rfl) ed_str)) (by decide +kernel)) fun z => Bool.noConfusion z) rfl) ?_
      refine q_drop (ed_meth (ed_var rfl) (by decide +kernel) ea_nil gn) ?_
      refine q_no (td_is (td_test (ed_eqS (ed_var rfl) ed_str)) (by decide +kernel)) ?_
      refine q_no (td_is (td_test (ed_eqS (ed_var rfl) ed_str)) (by decide +kernel)) ?_
      refine q_no (td_is (td_test (ed_eqS (ed_var rfl) ed_str)) (by decide +kernel)) ?_
      refine q_no (td_is (td_test (ed_eqS (ed_var rfl) ed_str)) (by decide +kernel)) ?_
      refine q_no (td_is (td_test (ed_eqS (ed_var rfl) ed_str)) (by decide +kernel)) ?_
      have hcf : (halvP ps).length ≤ 100 := by
        have h2 := List.length_filter_le (fun p : Nat × Nat => halvB ps p.1 p.2) (pairsTo ps.length ps.length)
        have h3 := pairsTo_few ps.length (by omega) ps.length (by omega)
        unfold halvP
        omega
      have g : f_halving [shD ps] (.lst ((halvP ps).map prN)) := ⟨ps, rfl, hS, rfl⟩
      refine q_yes (td_is (td_test (ed_eqS (ed_var rfl) ed_str)) (by decide +kernel)) ?_
      exact q_ret (ed_strI (i := ((halvP ps).length : Nat)) (ed_is (ed_lenL (ed_l (ed_call (ea_cons (ed_points T.cls T.nPo (ed_var rfl)) ea_nil) g))) (by rw [List.length_map])) (log_ok (Ten_nat (by omega)))) rfl
end
end Bt

end BtI_part
section BtJ_part
set_option Elab.async false
set_option linter.all false
set_option maxRecDepth 100000
set_option maxHeartbeats 4000000
namespace Bt
open PySem PySem.Spec PyProof.Rows L2 BtR
/-! ## the desk, changed -/
theorem all1 {K : PySem.W.Frag} {C : Addr} {F : Hp} {vs : List V} {d : D} (h : IsAll K C F vs [d]) : ∃ v, vs = [v] ∧ Is K C F v d := by
  cases h with
  | cons a b => cases b with
    | nil => exact ⟨_, rfl, a⟩
theorem all2 {K : PySem.W.Frag} {C : Addr} {F : Hp} {vs : List V} {d e : D} (h : IsAll K C F vs [d, e]) : ∃ v w, vs = [v, w] ∧ Is K C F v d ∧ Is K C F w e := by
  cases h with
  | cons a b =>
    obtain ⟨w, rfl, h2⟩ := all1 b
    exact ⟨_, w, rfl, a, h2⟩
theorem is_strV {K : PySem.W.Frag} {C : Addr} {F : Hp} {v : V} {z : Str} (h : Is K C F v (.str z)) : v = .str z := by
  cases h
  rfl
theorem cut_to {ds : List D} {i : Nat} (h : i ≤ ds.length) : cutD ds none (some (i : Int)) = ds.take i := by
  unfold cutD
  rw [HT.sIx_nat, HT.sIx_none, Nat.min_eq_left h]
  simp
theorem cut_from {ds : List D} {i : Nat} (h : i ≤ ds.length) : cutD ds (some (i : Int)) none = ds.drop i := by
  unfold cutD
  rw [HT.sIx_nat, HT.sIx_none, Nat.min_eq_left h]
  exact List.take_of_length_le (by rw [List.length_drop]; exact Nat.le_refl _)
section
variable {P : Program} {w : World} {K : PySem.W.Frag} {mg : Str → Option Value} {base : Heap}
/-! ### __init__ -/
def spI (K : PySem.W.Frag) : Sp := fun vs H Q _ => ∃ a dx, vs = [.ref a] ∧ H a = some (.ins (deskC K) dx []) ∧ ∀ q H', H q = none → (∀ p o, H p = some o → p ≠ a → H' p = some o) → DeskAt K (deskC K) H' a q [] [] → Q .non H'
abbrev N_Desk_init : List Str := ["self"]
theorem sc_Desk_init : FnScope N_Desk_init ["self"] (defScope s_Desk_init) := ⟨rfl, rfl, rfl, by decide +kernel, rfl, by decide +kernel, by decide +kernel⟩
theorem calw_Desk_init (T : Tx K mg) : CalI P w K mg base 1 ["self"] (spI K) := by
  obtain ⟨fd, F⟩ := T.fd_Desk_init
  refine calIOf  F (fun _ _ _ _ _ _ us hl => match us, hl with | [_], _ => rfl) (okX F sc_Desk_init (fun vs H Q E h => ?_) fun cdv A outer s H vs Q E hr h => ⟨_, 
    (pss_cons (ps_fld (pv 0) (pe_tup pa_nil) rfl)
    (pss_cons (ps_fld (pv 0) (pe_lst pa_nil) rfl) pss_nil)), ?_⟩)
  · obtain ⟨a, dx, rfl, _⟩ := h
    rfl
  · obtain ⟨a, dx, rfl, ha, hQ⟩ := h
    refine ⟨by decide, fun t ht => ?_⟩
    have hat : t ≠ a := fun e => by rw [e, ha] at ht; cases ht
    have h1 : upd H t (.tup []) a = some (.ins (deskC K) dx []) := by rw [upd_ne (Ne.symm hat)]; exact ha
    refine ⟨.ref a, rfl, a, deskC K, dx, [], rfl, h1, T.cls, T.nPo, by decide, ?_⟩
    refine ⟨by decide, fun q hq => ?_⟩
    have hqa : q ≠ a := fun e => by
      rw [e, upd_same] at hq
      cases hq
    have hqt : q ≠ t := fun e => by
      rw [e, upd_ne hat, upd_same] at hq
      cases hq
    have hqH : H q = none := by
      rw [upd_ne hqa, upd_ne hqt] at hq
      exact hq
    have h2 : upd (upd (upd H t (.tup [])) a (.ins (deskC K) dx [("points", .ref t)])) q (.lst []) a = some (.ins (deskC K) dx [("points", .ref t)]) := by
      rw [upd_ne (Ne.symm hqa), upd_same]
    refine ⟨.ref a, rfl, a, deskC K, dx, _, rfl, h2, T.cls, T.nPa, by simp, ?_⟩
    refine hQ q _ hqH (fun p o hp hpa => ?_) ⟨⟨dx, .ref t, upd_same, ?_⟩, [], ?_, .nil⟩
    · have h3 : p ≠ q := fun e => by rw [e, hqH] at hp; cases hp
      have h4 : p ≠ t := fun e => by rw [e, ht] at hp; cases hp
      rw [upd_ne hpa, upd_ne h3, upd_ne hpa, upd_ne h4]
      exact hp
    · refine .tup (xs := []) ?_ .nil
      rw [upd_ne hat, upd_ne (Ne.symm hqt), upd_ne hat, upd_same]
    · rw [upd_ne hqa, upd_same]
/-! ### deed -/
def g_deed : Gm := fun ps pst ds ps' pst' d => ∃ (z : Str), ds = [shD ps', .str z] ∧ pst.length < 1000 ∧ pst' = pst ++ [ps] ∧ d = .str z
abbrev N_Desk_deed : List Str := ["self", "points", "answer"]
theorem sc_Desk_deed : FnScope N_Desk_deed ["self", "points", "answer"] (defScope s_Desk_deed) := ⟨rfl, rfl, rfl, by decide +kernel, rfl, by decide +kernel, by decide +kernel⟩
theorem calw_Desk_deed (T : Tx K mg) : CalMX P w K mg base 1 "deed" ["self", "points", "answer"] (spM K (deskC K) g_deed) := by
  obtain ⟨fd, F⟩ := T.fd_Desk_deed
  refine calMXOf T.me_Desk_deed F (fun _ _ _ _ _ _ us hl => match us, hl with | [_, _, _], _ => rfl) (okX F sc_Desk_deed (fun vs H Q E h => ?_) fun cdv A outer s H vs Q E hr h => ⟨_, 
    (pss_cons (ps_expr (pe_bm PySem.F.plainAttrs_list PySem.F.slot_list_append PySem.F.type_list_append mt_append (pe_fld (pv 0) rfl) (pa_cons (pe_fld (pv 0) rfl) pa_nil)))
    (pss_cons (ps_fld (pv 0) (pv 1) rfl)
    (pss_cons (ps_ret (pv 2)) pss_nil))), ?_⟩)
  · obtain ⟨a, q, ps, pst, us, ds, ps', pst', d, rfl, hd, hA, ⟨z, rfl, _⟩, _⟩ := h
    obtain ⟨v1, v2, rfl, _⟩ := all2 hA
    rfl
  · obtain ⟨a, q, ps, pst, us, ds, ps', pst', d, rfl, hd, hA, ⟨z, rfl, hz, rfl, rfl⟩, hQ⟩ := h
    obtain ⟨v1, v2, rfl, i1, i2⟩ := all2 hA
    obtain rfl := is_strV i2
    have hd0 := hd
    obtain ⟨⟨dx, vp, h1, h2⟩, xs, h3, h4⟩ := hd
    have haq : a ≠ q := fun e => by rw [e, h3] at h1; cases h1
    refine ⟨.ref a, rfl, a, deskC K, dx, _, .ref q, rfl, h1, T.cls, T.nPa, rfl, .inl ⟨rfl, xs, .inl (.inl h3)⟩, ?_⟩
    refine ⟨.ref a, rfl, a, deskC K, dx, _, vp, rfl, h1, T.cls, T.nPo, rfl, ?_⟩
    refine ⟨q, xs, vp, rfl, rfl, h3, Evl.sz_lt (by rw [h4.length, List.length_map]; omega), ?_⟩
    have g1 : upd H q (.lst (xs ++ [vp])) a = some (.ins (deskC K) dx [(("points" : Str), vp), (("past" : Str), .ref q)]) := by rw [upd_ne haq]; exact h1
    refine ⟨v1, rfl, .ref a, rfl, a, deskC K, dx, _, rfl, g1, T.cls, T.nPo, by simp, ?_⟩
    have c : Cg H (upd (upd H q (.lst (xs ++ [vp]))) a (.ins (deskC K) dx (putF "points" v1 [(("points" : Str), vp), (("past" : Str), .ref q)]))) a q := fun p o hp e1 e2 => by
      rw [upd_ne e1, upd_ne e2]
      exact hp
    have hk := hd0.tups c
    refine ⟨.str z, rfl, hQ _ _ c ⟨⟨dx, v1, upd_same, i1.keep hk (pure_sh _)⟩, xs ++ [vp], ?_, ?_⟩ (.str z)⟩
    · rw [upd_ne (Ne.symm haq), upd_same]
    · rw [List.map_append]
      exact (h4.keep hk (pure_shs _)).snoc (h2.keep hk (pure_sh _))
/-! ### put -/
def g_put : Gm := fun ps pst ds ps' pst' d => ∃ x y : Int, ds = [.int x, .int y] ∧ ps.length ≤ 6 ∧ placeP ps x = none ∧ pst.length < 1000 ∧ ps'.Perm (ps ++ [(x, y)]) ∧ ps'.Pairwise (fun p q => p.1 < q.1) ∧ Smalls ps' ∧ Free ps' ∧ pst' = pst ++ [ps] ∧ d = .str (itx (ps'.length : Nat))
abbrev N_Desk_put : List Str := ["self", "x", "y", "points"]
theorem sc_Desk_put : FnScope N_Desk_put ["self", "x", "y"] (defScope s_Desk_put) := ⟨rfl, rfl, rfl, by decide +kernel, rfl, by decide +kernel, by decide +kernel⟩
theorem calw_Desk_put (T : Tx K mg) : CalMX P w K mg base 4 "put" ["self", "x", "y"] (spM K (deskC K) g_put) := by
  obtain ⟨fd, F⟩ := T.fd_Desk_put
  refine calMXOf T.me_Desk_put F (fun _ _ _ _ _ _ us hl => match us, hl with | [_, _, _], _ => rfl) (okX F sc_Desk_put (fun vs H Q E h => ?_) fun cdv A outer s H vs Q E hr h => ⟨_, 
    (pss_cons (ps_if (pt_cmpR op_eq (pe_callB call_len_seq (by rfl) (T.free_len) bb_len (pa_cons (pe_fld (pv 0) rfl) pa_nil)) (pe_globI rfl T.glo_MOST_POINTS) (nomark _)) 
      (pss_cons ps_never pss_nil) pss_nil)
    (pss_cons (ps_if (pt_cmpR op_notN (pe_methP (cal_Desk_place_of T) (hr.mono (by decide)) (pv 0) T.cls (pa_cons (pv 1) pa_nil)) pe_non (nomark _)) 
      (pss_cons ps_never pss_nil) pss_nil)
    (pss_cons (ps_set (i := 3) sc_Desk_put.nd rfl (Or.inl rfl) (pe_methP (cal_Desk_sound T) (hr.mono (by decide)) (pv 0) T.cls (pa_cons (pe_callTy call_tuple_of (by rfl) (T.free_tuple) bb_tuple (pa_cons (pe_callB cr_sortedTP (by rfl) (T.free_sorted) bb_sorted (pa_cons (pe_op op_catA (pe_fld (pv 0) rfl) (pe_tup (pa_cons (pe_tup (pa_cons (pv 1) (pa_cons (pv 2) pa_nil))) pa_nil))) pa_nil)) pa_nil)) pa_nil)))
    (pss_cons (ps_ret (pe_methX (calw_Desk_deed T) (hr.mono (by decide)) (pv 0) T.cls (pa_cons (pv 3) (pa_cons (pe_callTy call_str_int (by rfl) (T.free_str) bb_str (pa_cons (pe_callB call_len_seq (by rfl) (T.free_len) bb_len (pa_cons (pv 3) pa_nil)) pa_nil)) pa_nil)))) pss_nil)))), ?_⟩)
  · obtain ⟨a, q, ps, pst, us, ds, ps', pst', d, rfl, hd, hA, ⟨x, y, rfl, _⟩, _⟩ := h
    obtain ⟨v1, v2, rfl, _⟩ := all2 hA
    rfl
  · obtain ⟨a, q, ps, pst, us, ds, ps', pst', d, rfl, hd, hA, ⟨x, y, rfl, hl, hpl, hz, hp, hi, hs, hf, rfl, rfl⟩, hQ⟩ := h
    have s0 : At K (deskC K) H (L2.start N_Desk_put (.ref a :: us)) (fr0 N_Desk_put [dkD ps, .int x, .int y]) := fr0_sd (.cons hd.is hA)
    obtain ⟨v1, v2, rfl, i1, i2⟩ := all2 hA
    have hl' : ps'.length = ps.length + 1 := by rw [hp.length_eq, List.length_append]; rfl
    refine raw_no (td_is (td_test (ed_eqI (ed_lenSh (ed_points T.cls T.nPo (ed_var rfl))) ed_int)) (decide_eq_false (by omega))) s0 rfl fun H1 x1 s1 => ?_
    have g1 : f_Desk_place_of [dkD ps, .int x] .non := ⟨ps, x, rfl, by omega, by rw [hpl]; rfl⟩
    refine raw_no (td_is (td_test (ed_notN (ed_meth (ed_var rfl) (by decide +kernel) (ea_cons (ed_var rfl) ea_nil) g1))) rfl) s1 rfl fun H2 x2 s2 => ?_
    have g2 : f_Desk_sound [dkD ps, shD ps'] (shD ps') := ⟨ps, ps', rfl, ⟨by omega, hs, hf⟩, rfl⟩
    refine raw_asg (d := shD ps') (ed_meth (ed_var rfl) (by decide +kernel) (ea_cons (ed_tupL (ex_l (ex_sortedTP (ps := ps ++ [(x, y)]) (out := ps') (ed_is (ed_catT (ed_points T.cls T.nPo (ed_var rfl)) (ed_tup (ea_cons (ed_tup (ea_cons (ed_var rfl) (ea_cons (ed_var rfl) ea_nil)) (by simp)) ea_nil) (by simp)) (by rw [List.length_map, List.length_singleton]; omega)) (by
      rw [List.map_append]
      rfl)) hp hi))) ea_nil) g2) s2 rfl fun v3 H3 x3 i3 s3 => ?_
    have hd3 := hd.mono ((x1.trans x2).trans x3)
    refine mut_meth (K := K) (C := deskC K) (ps' := ps') (pst' := pst ++ [ps]) (d := .str (itx (ps'.length : Nat))) s3 hd3 rfl (by decide +kernel) (ea_cons (ed_var rfl) (ea_cons (ed_strI (ed_lenSh (ed_var rfl)) (log_ok (Ten_nat (by omega)))) ea_nil)) ⟨_, rfl, hz, rfl, rfl⟩ fun v H4 c d4 i4 => ?_
    exact hQ v H4 (c.pre ((x1.trans x2).trans x3)) d4 i4
/-! ### take -/
def g_take : Gm := fun ps pst ds ps' pst' d => ∃ (x : Int) (i : Nat), ds = [.int x] ∧ ps.length ≤ 7 ∧ pst.length < 1000 ∧ placeP ps x = some i ∧ ps' = ps.take i ++ ps.drop (i + 1) ∧ pst' = pst ++ [ps] ∧ d = .str (itx ((ps.length : Nat) - 1))
theorem place_lt {ps : List Pt} {x : Int} {i : Nat} (h : placeP ps x = some i) : i < ps.length ∧ (ix ps i).1 = x := by
  have h1 := List.mem_of_mem_head? h
  have h2 := List.mem_filter.mp h1
  exact ⟨List.mem_range.mp h2.1, of_decide_eq_true h2.2⟩
abbrev N_Desk_take : List Str := ["self", "x", "place"]
theorem sc_Desk_take : FnScope N_Desk_take ["self", "x"] (defScope s_Desk_take) := ⟨rfl, rfl, rfl, by decide +kernel, rfl, by decide +kernel, by decide +kernel⟩
theorem calw_Desk_take (T : Tx K mg) : CalMX P w K mg base 3 "take" ["self", "x"] (spM K (deskC K) g_take) := by
  obtain ⟨fd, F⟩ := T.fd_Desk_take
  refine calMXOf T.me_Desk_take F (fun _ _ _ _ _ _ us hl => match us, hl with | [_, _], _ => rfl) (okX F sc_Desk_take (fun vs H Q E h => ?_) fun cdv A outer s H vs Q E hr h => ⟨_, 
    (pss_cons (ps_set (i := 2) sc_Desk_take.nd rfl (Or.inl rfl) (pe_methP (cal_Desk_needed T) (hr.mono (by decide)) (pv 0) T.cls (pa_cons (pv 1) pa_nil)))
    (pss_cons (ps_ret (pe_methX (calw_Desk_deed T) (hr.mono (by decide)) (pv 0) T.cls (pa_cons (pe_op op_catA (pe_slice sl_tupA (pe_fld (pv 0) rfl) po_none (po_some (pv 2))) (pe_slice sl_tupA (pe_fld (pv 0) rfl) (po_some (pe_op op_add (pv 2) pe_int)) po_none)) (pa_cons (pe_callTy call_str_int (by rfl) (T.free_str) bb_str (pa_cons (pe_op op_sub (pe_callB call_len_seq (by rfl) (T.free_len) bb_len (pa_cons (pe_fld (pv 0) rfl) pa_nil)) pe_int) pa_nil)) pa_nil)))) pss_nil)), ?_⟩)
  · obtain ⟨a, q, ps, pst, us, ds, ps', pst', d, rfl, hd, hA, ⟨x, i, rfl, _⟩, _⟩ := h
    obtain ⟨v1, rfl, _⟩ := all1 hA
    rfl
  · obtain ⟨a, q, ps, pst, us, ds, ps', pst', d, rfl, hd, hA, ⟨x, i, rfl, hl, hz, hpl, rfl, rfl, rfl⟩, hQ⟩ := h
    have s0 : At K (deskC K) H (L2.start N_Desk_take (.ref a :: us)) (fr0 N_Desk_take [dkD ps, .int x]) := fr0_sd (.cons hd.is hA)
    obtain ⟨v1, rfl, i1⟩ := all1 hA
    have hil := (place_lt hpl).1
    have g1 : f_Desk_needed [dkD ps, .int x] (natD i) := ⟨ps, x, i, rfl, ⟨hl, hpl⟩, rfl⟩
    refine raw_asg (d := natD i) (ed_meth (ed_var rfl) (by decide +kernel) (ea_cons (ed_var rfl) ea_nil) g1) s0 rfl fun v3 H3 x3 i3 s3 => ?_
    have hd3 := hd.mono x3
    have hml : (ps.map prD).length = ps.length := List.length_map _
    refine mut_meth (K := K) (C := deskC K) (ps' := ps.take i ++ ps.drop (i + 1)) (pst' := pst ++ [ps]) (ds := [shD (ps.take i ++ ps.drop (i + 1)), .str (itx ((ps.length : Nat) - 1))]) (d := .str (itx ((ps.length : Nat) - 1))) s3 hd3 rfl (by decide +kernel) (ea_cons (ed_is (ed_catT (ed_slT (ed_points T.cls T.nPo (ed_var rfl)) eo_none (eo_some (ed_var rfl))) (ed_slT (ed_points T.cls T.nPo (ed_var rfl)) (eo_some (ed_addN (k := 1) (ed_var rfl) ed_int)) eo_none) ?_) ?_) (ea_cons (ed_strI (ed_sub (ed_lenSh (ed_points T.cls T.nPo (ed_var rfl))) ed_int) (log_ok ?_)) ea_nil)) ⟨_, rfl, hz, rfl, rfl⟩ fun v H4 c d4 i4 => ?_
    · rw [cut_to (by omega), cut_from (by omega), List.length_take, List.length_drop]
      omega
    · rw [cut_to (by omega), cut_from (by omega), ← List.map_take, ← List.map_drop, ← List.map_append]
      rfl
    · unfold Ten
      omega
    · exact hQ v H4 (c.pre x3) d4 i4
/-! ### undone -/
def g_undone : Gm := fun ps pst ds ps' pst' d => ds = [] ∧ pst.length < 60 ∧ pst = pst' ++ [ps'] ∧ d = .str "ok"
theorem isPs_shs : ∀ pst : List (List Pt), isPs (pst.map shD) = true
  | [] => rfl
  | p :: ps => by
    show (isP (shD p) && isPs (ps.map shD)) = true
    rw [isPs_shs ps, Bool.and_true]
    exact isPs_pts p
theorem canl_shs : ∀ pst : List (List Pt), PyData.canLayAll0 (toPs (pst.map shD)) = true
  | [] => rfl
  | p :: ps => by
    show (PyData.canLayAll0 (toPs (p.map prD)) && PyData.canLayAll0 (toPs (ps.map shD))) = true
    rw [canl_shs ps, canl_pts]
    rfl
theorem deep_shs : ∀ pst : List (List Pt), PyData.depthAll (toPs (pst.map shD)) ≤ 2
  | [] => Nat.zero_le _
  | p :: ps => by
    show max (PyData.depthAll (toPs (p.map prD)) + 1) (PyData.depthAll (toPs (ps.map shD))) ≤ 2
    have h1 := deep_shs ps
    have h2 := deep_pts p
    omega
theorem all_last {K : PySem.W.Frag} {C : Addr} {F : Hp} {xs : List V} {ds : List D} {d : D} (h : IsAll K C F xs (ds ++ [d])) : ∃ ys v, xs = ys ++ [v] ∧ IsAll K C F ys ds ∧ Is K C F v d := by
  induction ds generalizing xs with
  | nil =>
    obtain ⟨v, rfl, hv⟩ := all1 h
    exact ⟨[], v, rfl, .nil, hv⟩
  | cons e ds ih =>
    cases h with
    | cons a b =>
      obtain ⟨ys, v, rfl, h1, h2⟩ := ih b
      exact ⟨_ :: ys, v, rfl, .cons a h1, h2⟩
abbrev N_Desk_undone : List Str := ["self"]
theorem sc_Desk_undone : FnScope N_Desk_undone ["self"] (defScope s_Desk_undone) := ⟨rfl, rfl, rfl, by decide +kernel, rfl, by decide +kernel, by decide +kernel⟩
theorem calw_Desk_undone (T : Tx K mg) : CalMX P w K mg base 1 "undone" ["self"] (spM K (deskC K) g_undone) := by
  obtain ⟨fd, F⟩ := T.fd_Desk_undone
  refine calMXOf T.me_Desk_undone F (fun _ _ _ _ _ _ us hl => match us, hl with | [_], _ => rfl) (okX F sc_Desk_undone (fun vs H Q E h => ?_) fun cdv A outer s H vs Q E hr h => ⟨_, 
    (pss_cons (ps_if (pt_cmpR (op_eqD hr.units) (pe_fld (pv 0) rfl) (pe_lst pa_nil) (nomark _)) 
      (pss_cons ps_never pss_nil) pss_nil)
    (pss_cons (ps_fld (pv 0) (pe_bm0 PySem.F.plainAttrs_list PySem.F.slot_list_pop PySem.F.type_list_pop mt_pop (pe_fld (pv 0) rfl)) rfl)
    (pss_cons (ps_ret pe_str) pss_nil))), ?_⟩)
  · obtain ⟨a, q, ps, pst, us, ds, ps', pst', d, rfl, hd, hA, ⟨rfl, _⟩, _⟩ := h
    cases hA
    rfl
  · obtain ⟨a, q, ps, pst, us, ds, ps', pst', d, rfl, hd, hA, ⟨rfl, hl, rfl, rfl⟩, hQ⟩ := h
    cases hA
    obtain ⟨⟨dx, vp, h1, h2⟩, xs, h3, h4⟩ := hd
    have haq : a ≠ q := fun e => by rw [e, h3] at h1; cases h1
    refine ⟨.ref a, rfl, a, deskC K, dx, _, .ref q, rfl, h1, T.cls, T.nPa, rfl, ?_⟩
    refine ⟨by decide, fun e he => ?_⟩
    have x1 : Ex H (upd H e (.lst [])) := Ex.new he
    have hL : Is K (deskC K) (upd H e (.lst [])) (.ref q) (.lst ((pst' ++ [ps']).map shD)) := (Is.lst h3 h4).mono x1
    have hE : Is K (deskC K) (upd H e (.lst [])) (.ref e) (.lst []) := .lst upd_same .nil
    refine ⟨_, _, dp_is hL (isPs_shs _), dp_is hE rfl, shaped_lst (canl_shs _) (Nat.le_trans (deep_shs _) (by decide)), rfl, ?_⟩
    have ev : PyData.eqv (toP (.lst ((pst' ++ [ps']).map shD))) (toP (.lst [])) = false := by
      cases pst' <;> rfl
    refine ⟨_, rfl, ?_⟩
    rw [ev]
    refine iteF ?_
    have haq2 := x1 _ _ h1
    have h3' := x1 _ _ h3
    have h4' := h4.mono x1
    rw [List.map_append] at h4'
    obtain ⟨ys, vl, rfl, h5, h6⟩ := all_last h4'
    refine ⟨.ref a, rfl, a, deskC K, dx, _, .ref q, rfl, haq2, T.cls, T.nPa, rfl, .inl ⟨rfl, _, .inl (.inl h3')⟩, ?_⟩
    refine ⟨q, _, vl, rfl, rfl, h3', by simp, ?_⟩
    rw [List.dropLast_concat]
    have g1 : upd (upd H e (.lst [])) q (.lst ys) a = some (.ins (deskC K) dx [(("points" : Str), vp), (("past" : Str), .ref q)]) := by rw [upd_ne haq]; exact haq2
    refine ⟨.ref a, rfl, a, deskC K, dx, _, rfl, g1, T.cls, T.nPo, by simp, ?_⟩
    have c : Cg H (upd (upd (upd H e (.lst [])) q (.lst ys)) a (.ins (deskC K) dx (putF "points" vl [(("points" : Str), vp), (("past" : Str), .ref q)]))) a q := fun p o hp e1 e2 => by
      rw [upd_ne e1, upd_ne e2]
      exact x1 _ _ hp
    have hk : TupKeep (upd H e (.lst [])) (upd (upd (upd H e (.lst [])) q (.lst ys)) a (.ins (deskC K) dx (putF "points" vl [(("points" : Str), vp), (("past" : Str), .ref q)]))) := fun p zs hp => by
      rw [upd_ne fun z => ?_, upd_ne fun z => ?_]
      · exact hp
      · rw [z, h3'] at hp
        cases hp
      · rw [z, haq2] at hp
        cases hp
    refine hQ _ _ c ⟨⟨dx, vl, upd_same, h6.keep hk (pure_sh _)⟩, ys, ?_, h5.keep hk (pure_shs _)⟩ (.str "ok")
    rw [upd_ne (Ne.symm haq), upd_same]
end
end Bt

end BtJ_part
section BtK_part
set_option Elab.async false
set_option linter.all false
set_option maxRecDepth 100000
set_option maxHeartbeats 4000000
namespace Bt
open PySem PySem.Spec PyProof.Rows L2 BtR
/-! ## lines -/
theorem tl_sp : TL.tl (" " : Str) = [32] := by decide +kernel
theorem split_of {z : Str} {parts : List Str} (hne : parts ≠ []) (hf : ∀ p ∈ parts, 32 ∉ TL.tl p) (hz : TL.tl z = TL.joinL [32] (parts.map TL.tl)) : Txt.split z " " = parts := by
  have e : z = Txt.join " " parts := TL.ext_tl (by rw [TL.join_eq, TL.tl_join, hz, tl_sp])
  rw [e]
  exact TL.split_join (s := 32) (S := []) tl_sp (by decide +kernel) hne hf
theorem split1 {z : Str} (h : 32 ∉ TL.tl z) : Txt.split z " " = [z] := split_of (by simp) (by simpa using h) rfl
def ptL (x y : Int) : Str := "point " ++ itx x ++ " " ++ itx y
def tkL (x : Int) : Str := "take " ++ itx x
theorem dig_no (i : Int) : 32 ∉ TL.tl (itx i) := by
  rw [tl_itx]
  exact dig_free (by decide)
theorem ptL_split (x y : Int) : Txt.split (ptL x y) " " = [("point" : Str), itx x, itx y] := split_of (by simp) (fun p hp => by
  simp only [List.mem_cons, List.not_mem_nil, or_false] at hp
  rcases hp with rfl | rfl | rfl
  · decide +kernel
  · exact dig_no x
  · exact dig_no y) (by
  have e : TL.tl ("point " : Str) = TL.tl ("point" : Str) ++ [32] := by decide +kernel
  unfold ptL
  rw [TL.tl_append, TL.tl_append, TL.tl_append, e, tl_sp]
  show _ = TL.tl ("point" : Str) ++ ([32] ++ (TL.tl (itx x) ++ ([32] ++ TL.tl (itx y))))
  simp only [List.append_assoc])
theorem tkL_split (x : Int) : Txt.split (tkL x) " " = [("take" : Str), itx x] := split_of (by simp) (fun p hp => by
  simp only [List.mem_cons, List.not_mem_nil, or_false] at hp
  rcases hp with rfl | rfl
  · decide +kernel
  · exact dig_no x) (by
  have e : TL.tl ("take " : Str) = TL.tl ("take" : Str) ++ [32] := by decide +kernel
  unfold tkL
  rw [TL.tl_append, e]
  show _ = TL.tl ("take" : Str) ++ ([32] ++ TL.tl (itx x))
  simp only [List.append_assoc])
theorem itx_len31 {i : Int} (h : Ten 30 i) : (itx i).length ≤ 31 := by
  have := itx_len (k := 30) (by decide) h
  split at this <;> omega
theorem ptL_len {x y : Int} (hx : Ten 30 x) (hy : Ten 30 y) : (ptL x y).length ≤ 1000 := by
  have h1 := itx_len31 hx
  have h2 := itx_len31 hy
  have e : (TL.tl ("point " : Str)).length = 6 := by decide +kernel
  rw [TL.len_tl] at h1 h2 ⊢
  unfold ptL
  rw [TL.tl_append, TL.tl_append, TL.tl_append, List.length_append, List.length_append, List.length_append, e, tl_sp, List.length_singleton]
  omega
theorem tkL_len {x : Int} (hx : Ten 30 x) : (tkL x).length ≤ 1000 := by
  have h1 := itx_len31 hx
  have e : (TL.tl ("take " : Str)).length = 5 := by decide +kernel
  rw [TL.len_tl] at h1 ⊢
  unfold tkL
  rw [TL.tl_append, List.length_append, e]
  omega
def wdA : List Str := ["sheet", "cup", "cap", "ring", "outer", "peels", "cross", "halving", "lacks 3 4", "lacks 4 3"]
theorem wdA_wds : ∀ k, k < 8 → wdA.getD k "" = wds.getD k "" := by decide +kernel
theorem wds_ok : ∀ k, k < 8 → decide (wds.getD k "" = "point") = false ∧ decide (wds.getD k "" = "take") = false ∧ decide (wds.getD k "" = "lift") = false ∧ decide (wds.getD k "" = "lacks") = false ∧ decide (wds.getD k "" = "back") = false ∧
    decide (wds.getD k "" ∈ wds) = true ∧ decide (32 ∉ TL.tl (wds.getD k "")) = true ∧ (wds.getD k "").length ≤ 10 := by decide +kernel
theorem lk34 : Txt.split "lacks 3 4" " " = [("lacks" : Str), ⟨#[48 + 3]⟩, ⟨#[48 + 4]⟩] := split_of (by simp) (by decide +kernel) (by decide +kernel)
theorem lk43 : Txt.split "lacks 4 3" " " = [("lacks" : Str), ⟨#[48 + 4]⟩, ⟨#[48 + 3]⟩] := split_of (by simp) (by decide +kernel) (by decide +kernel)
section
variable {P : Program} {w : World} {K : PySem.W.Frag} {mg : Str → Option Value} {base : Heap}
/-! ### say, asked -/
theorem td_word {C : Addr} {δ : List Fr} {z a : Str} {r : List D} {c : Int} {n : Nat} {u : TT} (h : δ[2]? = some (.dat (.lst (.str z :: r)))) (e : decide (z = a) = false) : TD K C (tAnd (tTest (tOp rEq (tOp (rIxL K) (tVar 2) (tC (.int 0))) (tC (.str a)))) u) δ false :=
  td_is (td_and (a := false) (b := false) (td_is (td_test (ed_eqS (ed_ixL (ed_l (ed_var h)) ed_int at_zero) ed_str)) e) fun z => Bool.noConfusion z) rfl
def f_Desk_say (ds : List D) (d : D) : Prop := ∃ (ps : List Pt) (k : Nat), ds = [dkD ps, .str (wdA.getD k "")] ∧ (Sh ps ∧ k < 10) ∧ d = .str (ansP ps k)
theorem sh_ne {ps : List Pt} (hS : Sh ps) : ps ≠ [] := by
  intro z
  have := hS.pos
  rw [z] at this
  simp at this
abbrev N_Desk_say : List Str := ["self", "line", "words", "k", "l"]
theorem sc_Desk_say : FnScope N_Desk_say ["self", "line"] (defScope s_Desk_say) := ⟨rfl, rfl, rfl, by decide +kernel, rfl, by decide +kernel, by decide +kernel⟩
theorem cal_Desk_say (T : Tx K mg) : CalM P w K mg base 8 "say" ["self", "line"] f_Desk_say := by
  obtain ⟨fd, F⟩ := T.fd_Desk_say
  refine calMOf (N := N_Desk_say) T.me_Desk_say F (fun _ _ _ _ _ _ us hl => match us, hl with | [_, _], _ => rfl) (okP F sc_Desk_say (fun ds d h => ?_) fun cdv A outer s H E hr ds d h => ⟨_, 
    (pss_cons (ps_if (pt_not (pt_val (pe_callB call_isi (by rfl) (T.free_isinstance) bb_isinstance (pa_cons (pv 1) (pa_cons (pe_bltn (v := .ty "str") (by rfl) T.free_str bb_str rfl) pa_nil))))) 
      (pss_cons ps_never pss_nil) pss_nil)
    (pss_cons (ps_set (i := 2) sc_Desk_say.nd rfl (Or.inl rfl) (pe_split (pv 1) pe_str))
    (pss_cons (ps_if (PW.pt (pw_and (pt_cmpR op_eq (pe_ix (ix_listK (K := K) rfl) (pv 2) pe_int (fun _ _ => rfl)) pe_str (nomark _)) (pw_and1 (pt_cmpR op_eq (pe_callB call_len_seq (by rfl) (T.free_len) bb_len (pa_cons (pv 2) pa_nil)) pe_int (nomark _))))) 
      (pss_cons ps_never pss_nil) pss_nil)
    (pss_cons (ps_if (PW.pt (pw_and (pt_cmpR op_eq (pe_ix (ix_listK (K := K) rfl) (pv 2) pe_int (fun _ _ => rfl)) pe_str (nomark _)) (pw_and1 (pt_cmpR op_eq (pe_callB call_len_seq (by rfl) (T.free_len) bb_len (pa_cons (pv 2) pa_nil)) pe_int (nomark _))))) 
      (pss_cons ps_never pss_nil) pss_nil)
    (pss_cons (ps_if (PW.pt (pw_and (pt_cmpR op_eq (pe_ix (ix_listK (K := K) rfl) (pv 2) pe_int (fun _ _ => rfl)) pe_str (nomark _)) (pw_and1 (pt_cmpR op_eq (pe_callB call_len_seq (by rfl) (T.free_len) bb_len (pa_cons (pv 2) pa_nil)) pe_int (nomark _))))) 
      (pss_cons ps_never pss_nil) pss_nil)
    (pss_cons (ps_if (PW.pt (pw_and (pt_cmpR op_eq (pe_ix (ix_listK (K := K) rfl) (pv 2) pe_int (fun _ _ => rfl)) pe_str (nomark _)) (pw_and1 (pt_cmpR op_eq (pe_callB call_len_seq (by rfl) (T.free_len) bb_len (pa_cons (pv 2) pa_nil)) pe_int (nomark _))))) 
      (pss_cons (ps_par (i := 3) (j := 4) (by rfl) sc_Desk_say.nd rfl rfl (by decide) rfl rfl (pa_cons (pe_callP (cal_figure_in T) (hr.mono (by decide)) (by rfl) (pa_cons (pe_ix (ix_listK (K := K) rfl) (pv 2) pe_int (fun _ _ => rfl)) pa_nil)) (pa_cons (pe_callP (cal_figure_in T) (hr.mono (by decide)) (by rfl) (pa_cons (pe_ix (ix_listK (K := K) rfl) (pv 2) pe_int (fun _ _ => rfl)) pa_nil)) pa_nil)) (by rfl))
      (pss_cons (ps_expr (pe_methP0 (cal_Desk_need_points T) (hr.mono (by decide)) (pv 0) T.cls))
      (pss_cons (ps_ret (pe_ix (ix_listK (K := K) rfl) (pe_lst (pa_cons pe_str (pa_cons pe_str pa_nil))) (pe_callTy call_int1 (by rfl) (T.free_int) bb_int (pa_cons (pe_callP (cal_lacks T) (hr.mono (by decide)) (by rfl) (pa_cons (pe_fld (pv 0) rfl) (pa_cons (pv 3) (pa_cons (pv 4) pa_nil)))) pa_nil)) (fun _ _ => rfl))) pss_nil))) pss_nil)
    (pss_cons (ps_if (pt_cmpR op_eq (pv 1) pe_str (nomark _)) 
      (pss_cons ps_never pss_nil) pss_nil)
    (pss_cons (ps_if (pt_cmpR (op_in_seqK (K := K) rfl) (pv 1) (pe_glob (v := .ref (He.ga K "ASKS")) rfl T.glo_ASKS rfl) rfl) 
      (pss_cons (ps_ret (pe_methP (cal_Desk_asked T) (hr.mono (by decide)) (pv 0) T.cls (pa_cons (pv 1) pa_nil))) pss_nil) pss_nil)
    (pss_cons ps_never pss_nil))))))))), ?_⟩)
  · unfold f_Desk_say at h
    repeat (first | (obtain ⟨e, _⟩ := h; rw [e]; rfl) | (obtain ⟨_, h⟩ := h))
  · obtain ⟨ps, k, rfl, ⟨hS, hk⟩, rfl⟩ := h
    have hne := sh_ne hS
    refine q_no (td_is (td_not (td_B (ed_isi (b := true) (kit_ty (by decide +kernel)) ty_str (ed_var rfl)))) rfl) ?_
    by_cases hk8 : k < 8
    · rw [wdA_wds k hk8]
      obtain ⟨h1, h2, h3, h4, h5, h6, h7, h8⟩ := wds_ok k hk8
      have hsp := split1 (of_decide_eq_true h7)
      refine q_asg (d := .lst [.str (wds.getD k "")]) (ed_is (ex_d (ex_split (ed_var rfl) ed_str (by decide +kernel) (by omega))) (by rw [hsp]; rfl)) ?_
      refine q_no (td_word (n := 0) (c := 0) rfl h1) (q_no (td_word (n := 0) (c := 0) rfl h2) (q_no (td_word (n := 0) (c := 0) rfl h3) (q_no (td_word (n := 0) (c := 0) rfl h4) ?_)))
      refine q_no (td_is (td_test (ed_eqS (ed_var rfl) ed_str)) h5) ?_
      have g : f_Desk_asked [dkD ps, .str (wds.getD k "")] (.str (ansP ps k)) := ⟨ps, k, rfl, ⟨hS, hk8⟩, rfl⟩
      refine q_yes (td_is (td_test (ed_inK (zs := wds) (ed_var rfl) fun H => T.asks H)) h6) ?_
      exact q_ret (ed_meth (ed_var rfl) (by decide +kernel) (ea_cons (ed_var rfl) ea_nil) g) rfl
    · have gn : f_Desk_need_points [dkD ps] .non := ⟨ps, rfl, hne, rfl⟩
      have hk2 : k = 8 ∨ k = 9 := by omega
      rcases hk2 with rfl | rfl
      · have f1 : f_figure_in [.str ⟨#[48 + 3]⟩] (natD 3) := ⟨3, rfl, .inl rfl, rfl⟩
        have f2 : f_figure_in [.str ⟨#[48 + 4]⟩] (natD 4) := ⟨4, rfl, .inr rfl, rfl⟩
        have g : f_lacks [shD ps, natD 3, natD 4] (.bl (lacksB ps 3 4)) := ⟨ps, 3, 4, rfl, ⟨hS, by decide, by decide, by decide, by decide⟩, rfl⟩
        refine q_asg (d := .lst [.str "lacks", .str ⟨#[48 + 3]⟩, .str ⟨#[48 + 4]⟩]) (ed_is (ex_d (ex_split (z := "lacks 3 4") (ed_var rfl) ed_str (by decide +kernel) (by decide +kernel))) (by rw [lk34]; rfl)) ?_
        refine q_no (td_word (n := 0) (c := 0) rfl (by decide +kernel)) (q_no (td_word (n := 0) (c := 0) rfl (by decide +kernel)) (q_no (td_word (n := 0) (c := 0) rfl (by decide +kernel)) ?_))
        refine q_yes (td_is (td_and (a := true) (b := true) (td_is (td_test (ed_eqS (ed_ixL (ed_l (ed_var rfl)) ed_int at_zero) ed_str)) (by decide +kernel)) fun _ => td_is (td_test (ed_eqI (ed_lenL (ed_l (ed_var rfl))) ed_int)) rfl) rfl) ?_
        refine q_assoc (q_par (d := natD 3) (e := natD 4) (ea_cons (ed_call (ea_cons (ed_ixL (ed_l (ed_var rfl)) ed_int rfl) ea_nil) f1) (ea_cons (ed_call (ea_cons (ed_ixL (ed_l (ed_var rfl)) ed_int rfl) ea_nil) f2) ea_nil)) (q_assoc (q_drop (ed_meth (ed_var rfl) (by decide +kernel) ea_nil gn) ?_)))
        refine q_assoc (q_ret (d := .str (noYes (lacksB ps 3 4))) (ed_ixL (ex_l (ex_lst (ea_cons ed_str (ea_cons ed_str ea_nil)) (by simp))) (ed_intB (ed_call (ea_cons (ed_points T.cls T.nPo (ed_var rfl)) (ea_cons (ed_var rfl) (ea_cons (ed_var rfl) ea_nil))) g)) ?_) rfl)
        cases lacksB ps 3 4 <;> rfl
      · have f1 : f_figure_in [.str ⟨#[48 + 3]⟩] (natD 3) := ⟨3, rfl, .inl rfl, rfl⟩
        have f2 : f_figure_in [.str ⟨#[48 + 4]⟩] (natD 4) := ⟨4, rfl, .inr rfl, rfl⟩
        have g : f_lacks [shD ps, natD 4, natD 3] (.bl (lacksB ps 4 3)) := ⟨ps, 4, 3, rfl, ⟨hS, by decide, by decide, by decide, by decide⟩, rfl⟩
        refine q_asg (d := .lst [.str "lacks", .str ⟨#[48 + 4]⟩, .str ⟨#[48 + 3]⟩]) (ed_is (ex_d (ex_split (z := "lacks 4 3") (ed_var rfl) ed_str (by decide +kernel) (by decide +kernel))) (by rw [lk43]; rfl)) ?_
        refine q_no (td_word (n := 0) (c := 0) rfl (by decide +kernel)) (q_no (td_word (n := 0) (c := 0) rfl (by decide +kernel)) (q_no (td_word (n := 0) (c := 0) rfl (by decide +kernel)) ?_))
        refine q_yes (td_is (td_and (a := true) (b := true) (td_is (td_test (ed_eqS (ed_ixL (ed_l (ed_var rfl)) ed_int at_zero) ed_str)) (by decide +kernel)) fun _ => td_is (td_test (ed_eqI (ed_lenL (ed_l (ed_var rfl))) ed_int)) rfl) rfl) ?_
        refine q_assoc (q_par (d := natD 4) (e := natD 3) (ea_cons (ed_call (ea_cons (ed_ixL (ed_l (ed_var rfl)) ed_int rfl) ea_nil) f2) (ea_cons (ed_call (ea_cons (ed_ixL (ed_l (ed_var rfl)) ed_int rfl) ea_nil) f1) ea_nil)) (q_assoc (q_drop (ed_meth (ed_var rfl) (by decide +kernel) ea_nil gn) ?_)))
        refine q_assoc (q_ret (d := .str (noYes (lacksB ps 4 3))) (ed_ixL (ex_l (ex_lst (ea_cons ed_str (ea_cons ed_str ea_nil)) (by simp))) (ed_intB (ed_call (ea_cons (ed_points T.cls T.nPo (ed_var rfl)) (ea_cons (ed_var rfl) (ea_cons (ed_var rfl) ea_nil))) g)) ?_) rfl)
        cases lacksB ps 4 3 <;> rfl
/-! ### say, told -/
def g_say : Gm := fun ps pst ds ps' pst' d => (∃ x y : Int, ds = [.str (ptL x y)] ∧ Ten 30 x ∧ Ten 30 y ∧ g_put ps pst [.int x, .int y] ps' pst' d) ∨ (∃ x : Int, ds = [.str (tkL x)] ∧ Ten 30 x ∧ g_take ps pst [.int x] ps' pst' d) ∨ (ds = [.str "back"] ∧ g_undone ps pst [] ps' pst' d)
theorem g_say_one {ps ps' : List Pt} {pst pst' : List (List Pt)} {ds : List D} {d : D} (h : g_say ps pst ds ps' pst' d) : ∃ z : Str, ds = [.str z] := by
  rcases h with ⟨x, y, rfl, _⟩ | ⟨x, rfl, _⟩ | ⟨rfl, _⟩
  · exact ⟨_, rfl⟩
  · exact ⟨_, rfl⟩
  · exact ⟨_, rfl⟩
theorem calw_Desk_say (T : Tx K mg) : CalMX P w K mg base 8 "say" ["self", "line"] (spM K (deskC K) g_say) := by
  obtain ⟨fd, F⟩ := T.fd_Desk_say
  refine calMXOf T.me_Desk_say F (fun _ _ _ _ _ _ us hl => match us, hl with | [_, _], _ => rfl) (okX F sc_Desk_say (fun vs H Q E h => ?_) fun cdv A outer s H vs Q E hr h => ⟨_, 
    (pss_cons (ps_if (pt_not (pt_val (pe_callB call_isi (by rfl) (T.free_isinstance) bb_isinstance (pa_cons (pv 1) (pa_cons (pe_bltn (v := .ty "str") (by rfl) T.free_str bb_str rfl) pa_nil))))) 
      (pss_cons ps_never pss_nil) pss_nil)
    (pss_cons (ps_set (i := 2) sc_Desk_say.nd rfl (Or.inl rfl) (pe_split (pv 1) pe_str))
    (pss_cons (ps_if (PW.pt (pw_and (pt_cmpR op_eq (pe_ix (ix_listK (K := K) rfl) (pv 2) pe_int (fun _ _ => rfl)) pe_str (nomark _)) (pw_and1 (pt_cmpR op_eq (pe_callB call_len_seq (by rfl) (T.free_len) bb_len (pa_cons (pv 2) pa_nil)) pe_int (nomark _))))) 
      (pss_cons (ps_ret (pe_methX (calw_Desk_put T) (hr.mono (by decide)) (pv 0) T.cls (pa_cons (pe_callP (cal_whole_in T) (hr.mono (by decide)) (by rfl) (pa_cons (pe_ix (ix_listK (K := K) rfl) (pv 2) pe_int (fun _ _ => rfl)) pa_nil)) (pa_cons (pe_callP (cal_whole_in T) (hr.mono (by decide)) (by rfl) (pa_cons (pe_ix (ix_listK (K := K) rfl) (pv 2) pe_int (fun _ _ => rfl)) pa_nil)) pa_nil)))) pss_nil) pss_nil)
    (pss_cons (ps_if (PW.pt (pw_and (pt_cmpR op_eq (pe_ix (ix_listK (K := K) rfl) (pv 2) pe_int (fun _ _ => rfl)) pe_str (nomark _)) (pw_and1 (pt_cmpR op_eq (pe_callB call_len_seq (by rfl) (T.free_len) bb_len (pa_cons (pv 2) pa_nil)) pe_int (nomark _))))) 
      (pss_cons (ps_ret (pe_methX (calw_Desk_take T) (hr.mono (by decide)) (pv 0) T.cls (pa_cons (pe_callP (cal_whole_in T) (hr.mono (by decide)) (by rfl) (pa_cons (pe_ix (ix_listK (K := K) rfl) (pv 2) pe_int (fun _ _ => rfl)) pa_nil)) pa_nil))) pss_nil) pss_nil)
    (pss_cons (ps_if (PW.pt (pw_and (pt_cmpR op_eq (pe_ix (ix_listK (K := K) rfl) (pv 2) pe_int (fun _ _ => rfl)) pe_str (nomark _)) (pw_and1 (pt_cmpR op_eq (pe_callB call_len_seq (by rfl) (T.free_len) bb_len (pa_cons (pv 2) pa_nil)) pe_int (nomark _))))) 
      (pss_cons ps_never pss_nil) pss_nil)
    (pss_cons (ps_if (PW.pt (pw_and (pt_cmpR op_eq (pe_ix (ix_listK (K := K) rfl) (pv 2) pe_int (fun _ _ => rfl)) pe_str (nomark _)) (pw_and1 (pt_cmpR op_eq (pe_callB call_len_seq (by rfl) (T.free_len) bb_len (pa_cons (pv 2) pa_nil)) pe_int (nomark _))))) 
      (pss_cons (ps_par (i := 3) (j := 4) (by rfl) sc_Desk_say.nd rfl rfl (by decide) rfl rfl (pa_cons (pe_callP (cal_figure_in T) (hr.mono (by decide)) (by rfl) (pa_cons (pe_ix (ix_listK (K := K) rfl) (pv 2) pe_int (fun _ _ => rfl)) pa_nil)) (pa_cons (pe_callP (cal_figure_in T) (hr.mono (by decide)) (by rfl) (pa_cons (pe_ix (ix_listK (K := K) rfl) (pv 2) pe_int (fun _ _ => rfl)) pa_nil)) pa_nil)) (by rfl))
      (pss_cons (ps_expr (pe_methP0 (cal_Desk_need_points T) (hr.mono (by decide)) (pv 0) T.cls))
      (pss_cons (ps_ret (pe_ix (ix_listK (K := K) rfl) (pe_lst (pa_cons pe_str (pa_cons pe_str pa_nil))) (pe_callTy call_int1 (by rfl) (T.free_int) bb_int (pa_cons (pe_callP (cal_lacks T) (hr.mono (by decide)) (by rfl) (pa_cons (pe_fld (pv 0) rfl) (pa_cons (pv 3) (pa_cons (pv 4) pa_nil)))) pa_nil)) (fun _ _ => rfl))) pss_nil))) pss_nil)
    (pss_cons (ps_if (pt_cmpR op_eq (pv 1) pe_str (nomark _)) 
      (pss_cons (ps_ret (pe_methX0 (calw_Desk_undone T) (hr.mono (by decide)) (pv 0) T.cls)) pss_nil) pss_nil)
    (pss_cons (ps_if (pt_cmpR (op_in_seqK (K := K) rfl) (pv 1) (pe_glob (v := .ref (He.ga K "ASKS")) rfl T.glo_ASKS rfl) rfl) 
      (pss_cons (ps_ret (pe_methP (cal_Desk_asked T) (hr.mono (by decide)) (pv 0) T.cls (pa_cons (pv 1) pa_nil))) pss_nil) pss_nil)
    (pss_cons ps_never pss_nil))))))))), ?_⟩)
  · obtain ⟨a, q, ps, pst, us, ds, ps', pst', d, rfl, hd, hA, hg, _⟩ := h
    obtain ⟨z, rfl⟩ := g_say_one hg
    obtain ⟨v1, rfl, _⟩ := all1 hA
    rfl
  · obtain ⟨a, q, ps, pst, us, ds, ps', pst', d, rfl, hd, hA, hg, hQ⟩ := h
    obtain ⟨z, rfl⟩ := g_say_one hg
    have s0 : At K (deskC K) H (L2.start N_Desk_say (.ref a :: us)) (fr0 N_Desk_say [dkD ps, .str z]) := fr0_sd (.cons hd.is hA)
    obtain ⟨v1, rfl, i1⟩ := all1 hA
    refine raw_no (td_is (td_not (td_B (ed_isi (b := true) (kit_ty (by decide +kernel)) ty_str (ed_var rfl)))) rfl) s0 rfl fun H1 x1 s1 => ?_
    rcases hg with ⟨x, y, ez, hx, hy, hg⟩ | ⟨x, ez, hx, hg⟩ | ⟨ez, hg⟩
    · obtain rfl : z = ptL x y := by
        cases ez
        rfl
      have hl := ptL_len hx hy
      refine raw_asg (d := .lst [.str "point", .str (itx x), .str (itx y)]) (ed_is (ex_d (ex_split (z := ptL x y) (ed_var rfl) ed_str (by decide +kernel) (by omega))) (by rw [ptL_split]; rfl)) s1 rfl fun v2 H2 x2 i2 s2 => ?_
      refine raw_on (td_is (td_and (a := true) (b := true) (td_is (td_test (ed_eqS (ed_ixL (ed_l (ed_var rfl)) ed_int at_zero) ed_str)) (by decide +kernel)) fun _ => td_is (td_test (ed_eqI (ed_lenL (ed_l (ed_var rfl))) ed_int)) rfl) rfl) s2 rfl fun H3 x3 s3 => ?_
      have w1 : f_whole_in [.str (itx x)] (.int x) := ⟨x, rfl, hx, rfl⟩
      have w2 : f_whole_in [.str (itx y)] (.int y) := ⟨y, rfl, hy, rfl⟩
      have xx := (x1.trans x2).trans x3
      refine mut_meth (K := K) (C := deskC K) s3 (hd.mono xx) rfl (by decide +kernel) (ea_cons (ed_call (ea_cons (ed_ixL (ed_l (ed_var rfl)) ed_int rfl) ea_nil) w1) (ea_cons (ed_call (ea_cons (ed_ixL (ed_l (ed_var rfl)) ed_int rfl) ea_nil) w2) ea_nil)) hg fun v H4 c d4 i4 => ?_
      exact hQ v H4 (c.pre xx) d4 i4
    · obtain rfl : z = tkL x := by
        cases ez
        rfl
      have hl := tkL_len hx
      refine raw_asg (d := .lst [.str "take", .str (itx x)]) (ed_is (ex_d (ex_split (z := tkL x) (ed_var rfl) ed_str (by decide +kernel) (by omega))) (by rw [tkL_split]; rfl)) s1 rfl fun v2 H2 x2 i2 s2 => ?_
      refine raw_no (td_word (n := 0) (c := 0) rfl (by decide +kernel)) s2 rfl fun H3 x3 s3 => ?_
      refine raw_on (td_is (td_and (a := true) (b := true) (td_is (td_test (ed_eqS (ed_ixL (ed_l (ed_var rfl)) ed_int at_zero) ed_str)) (by decide +kernel)) fun _ => td_is (td_test (ed_eqI (ed_lenL (ed_l (ed_var rfl))) ed_int)) rfl) rfl) s3 rfl fun H4 x4 s4 => ?_
      have w1 : f_whole_in [.str (itx x)] (.int x) := ⟨x, rfl, hx, rfl⟩
      have xx := ((x1.trans x2).trans x3).trans x4
      refine mut_meth (K := K) (C := deskC K) s4 (hd.mono xx) rfl (by decide +kernel) (ea_cons (ed_call (ea_cons (ed_ixL (ed_l (ed_var rfl)) ed_int rfl) ea_nil) w1) ea_nil) hg fun v H5 c d5 i5 => ?_
      exact hQ v H5 (c.pre xx) d5 i5
    · obtain rfl : z = "back" := by
        cases ez
        rfl
      refine raw_asg (d := .lst [.str "back"]) (ed_is (ex_d (ex_split (z := "back") (ed_var rfl) ed_str (by decide +kernel) (by decide +kernel))) (by rw [split1 (by decide +kernel)]; rfl)) s1 rfl fun v2 H2 x2 i2 s2 => ?_
      refine raw_no (td_word (n := 0) (c := 0) rfl (by decide +kernel)) s2 rfl fun H3 x3 s3 => ?_
      refine raw_no (td_word (n := 0) (c := 0) rfl (by decide +kernel)) s3 rfl fun H4 x4 s4 => ?_
      refine raw_no (td_word (n := 0) (c := 0) rfl (by decide +kernel)) s4 rfl fun H5 x5 s5 => ?_
      refine raw_no (td_word (n := 0) (c := 0) rfl (by decide +kernel)) s5 rfl fun H6 x6 s6 => ?_
      refine raw_on (td_is (td_test (ed_eqS (ed_var rfl) ed_str)) (by decide +kernel)) s6 rfl fun H7 x7 s7 => ?_
      have xx := ((((((x1.trans x2).trans x3).trans x4).trans x5).trans x6).trans x7)
      refine mut_meth (K := K) (C := deskC K) s7 (hd.mono xx) rfl (by decide +kernel) ea_nil hg fun v H8 c d8 i8 => ?_
      exact hQ v H8 (c.pre xx) d8 i8
end
end Bt

end BtK_part
section BtL_part
set_option Elab.async false
set_option linter.all false
set_option maxRecDepth 100000
set_option maxHeartbeats 4000000
namespace Bt
open PySem PySem.Spec PyProof.Rows L2 BtR
section
variable {P : Program} {w : World} {K : PySem.W.Frag} {mg : Str → Option Value} {base : Heap}
/-! ## the law's helpers that look at desks -/
/-! ### said, answers -/
def f_law_said (ds : List D) (d : D) : Prop := ∃ (ps : List Pt) (k : Nat), ds = [dkD ps, .str (wdA.getD k "")] ∧ (Sh ps ∧ k < 10) ∧ d = .str (ansP ps k)
abbrev N_law_said : List Str := ["_law_desk", "_law_line", "_law_e", "_law_place"]
theorem sc_law_said : FnScope N_law_said ["_law_desk", "_law_line"] (defScope s_law_said) := ⟨rfl, rfl, rfl, by decide +kernel, rfl, by decide +kernel, by decide +kernel⟩
theorem cal_law_said (T : Tx K mg) : Cal P w K mg base 9 "_law_said" ["_law_desk", "_law_line"] f_law_said := by
  obtain ⟨fd, F⟩ := T.fd_law_said
  refine calOf (N := N_law_said) T.gl_law_said F (fun _ _ _ _ _ _ us hl => match us, hl with | [_, _], _ => rfl) (okP F sc_law_said (fun ds d h => ?_) fun cdv A outer s H E hr ds d h => ⟨_, 
    (pss_cons (ps_try_thru0 
      (pss_cons (ps_ret (pe_methP (cal_Desk_say T) (hr.mono (by decide)) (pv 0) T.cls (pa_cons (pv 1) pa_nil))) pss_nil)) pss_nil), ?_⟩)
  · unfold f_law_said at h
    repeat (first | (obtain ⟨e, _⟩ := h; rw [e]; rfl) | (obtain ⟨_, h⟩ := h))
  · obtain ⟨ps, k, rfl, hk, rfl⟩ := h
    have g : f_Desk_say [dkD ps, .str (wdA.getD k "")] (.str (ansP ps k)) := ⟨ps, k, rfl, hk, rfl⟩
    exact q_assoc (q_ret (ed_meth (ed_var rfl) (by decide +kernel) (ea_cons (ed_var rfl) ea_nil) g) rfl)
theorem calw_law_said (T : Tx K mg) : CalX P w K mg base 9 "_law_said" ["_law_desk", "_law_line"] (spM K (deskC K) g_say) := by
  obtain ⟨fd, F⟩ := T.fd_law_said
  refine calXOf T.gl_law_said F (fun _ _ _ _ _ _ us hl => match us, hl with | [_, _], _ => rfl) (okX F sc_law_said (fun vs H Q E h => ?_) fun cdv A outer s H vs Q E hr h => ⟨_, 
    (pss_cons (ps_try_thru0 
      (pss_cons (ps_ret (pe_methX (calw_Desk_say T) (hr.mono (by decide)) (pv 0) T.cls (pa_cons (pv 1) pa_nil))) pss_nil)) pss_nil), ?_⟩)
  · obtain ⟨a, q, ps, pst, us, ds, ps', pst', d, rfl, hd, hA, hg, _⟩ := h
    obtain ⟨z, rfl⟩ := g_say_one hg
    obtain ⟨v1, rfl, _⟩ := all1 hA
    rfl
  · obtain ⟨a, q, ps, pst, us, ds, ps', pst', d, rfl, hd, hA, hg, hQ⟩ := h
    obtain ⟨z, rfl⟩ := g_say_one hg
    have s0 : At K (deskC K) H (L2.start N_law_said (.ref a :: us)) (fr0 N_law_said [dkD ps, .str z]) := fr0_sd (.cons hd.is hA)
    obtain ⟨v1, rfl, i1⟩ := all1 hA
    exact mut_meth (K := K) (C := deskC K) s0 hd rfl (by decide +kernel) (ea_cons (ed_var rfl) ea_nil) hg fun v H8 c d8 i8 => hQ v H8 c d8 i8
def ansL (ps : List Pt) : List Str := (List.range 10).map (ansP ps)
def f_law_answers (ds : List D) (d : D) : Prop := ∃ (ps : List Pt), ds = [dkD ps] ∧ Sh ps ∧ d = .lst ((ansL ps).map D.str)
abbrev N_law_answers : List Str := ["_law_desk", "_law_words", "_law_word"]
theorem sc_law_answers : FnScope N_law_answers ["_law_desk"] (defScope s_law_answers) := ⟨rfl, rfl, rfl, by decide +kernel, rfl, by decide +kernel, by decide +kernel⟩
theorem cal_law_answers (T : Tx K mg) : Cal P w K mg base 10 "_law_answers" ["_law_desk"] f_law_answers := by
  obtain ⟨fd, F⟩ := T.fd_law_answers
  refine calOf (N := N_law_answers) T.gl_law_answers F (fun _ _ _ _ _ _ us hl => match us, hl with | [_], _ => rfl) (okP F sc_law_answers (fun ds d h => ?_) fun cdv A outer s H E hr ds d h => ⟨_, 
    (pss_cons (ps_set (i := 1) sc_law_answers.nd rfl (Or.inl rfl) (pe_lst (pa_cons pe_str (pa_cons pe_str (pa_cons pe_str (pa_cons pe_str (pa_cons pe_str (pa_cons pe_str (pa_cons pe_str (pa_cons pe_str (pa_cons pe_str (pa_cons pe_str pa_nil))))))))))))
    (pss_cons (ps_ret (pe_lc (own := [("_law_word", 2)]) rfl sc_law_answers.nd (pi_list (pv 1)) (blkOk_by (own := [("_law_word", 2)]) (N := N_law_answers) (sc := defScope s_law_answers) (by decide +kernel)) (fun _ _ _ _ _ => (pg_name (i := 2) sc_law_answers.nd rfl (Or.inl rfl))) (fun _ _ _ _ _ => pts_nil) (fun _ _ _ _ _ => (pe_callP (cal_law_said T) (hr.mono (by decide)) (by rfl) (pa_cons (pv 0) (pa_cons (pv 2) pa_nil)))))) pss_nil)), ?_⟩)
  · unfold f_law_answers at h
    repeat (first | (obtain ⟨e, _⟩ := h; rw [e]; rfl) | (obtain ⟨_, h⟩ := h))
  · obtain ⟨ps, rfl, hS, rfl⟩ := h
    refine q_asg (d := .lst ((List.range 10).map fun k => .str (wdA.getD k ""))) (ex_d (ex_lst (ea_cons ed_str (ea_cons ed_str (ea_cons ed_str (ea_cons ed_str (ea_cons ed_str (ea_cons ed_str (ea_cons ed_str (ea_cons ed_str (ea_cons ed_str (ea_cons ed_str ea_nil)))))))))) (by simp))) ?_
    refine q_ret (d := .lst ((ansL ps).map D.str)) (ex_d ?_) rfl
    unfold ansL
    rw [List.map_map]
    exact ex_lcM (List.range 10) (fun k => .str (wdA.getD k "")) (fun k => .str (ansP ps k)) (n := 10) [2] (dw_listN (ed_var rfl) (by simp)) (fun i d _ h => y_map h) rfl (by decide) (by simp) fun k hk => ⟨_, tg_name, ed_call (ea_cons (ed_var rfl) (ea_cons (ed_var rfl) ea_nil)) ⟨ps, k, rfl, ⟨hS, List.mem_range.mp hk⟩, rfl⟩⟩
/-! ### row -/
def f_law_row (ds : List D) (d : D) : Prop := ∃ (r : List Nat), ds = [.str (rowTx r)] ∧ (r ≠ [] ∧ r.length ≤ 7 ∧ ∀ x ∈ r, x < 7) ∧ d = rowD r
abbrev N_law_row : List Str := ["_law_text", "_law_word"]
theorem sc_law_row : FnScope N_law_row ["_law_text"] (defScope s_law_row) := ⟨rfl, rfl, rfl, by decide +kernel, rfl, by decide +kernel, by decide +kernel⟩
theorem cal_law_row (T : Tx K mg) : Cal P w K mg base 1 "_law_row" ["_law_text"] f_law_row := by
  obtain ⟨fd, F⟩ := T.fd_law_row
  refine calOf (N := N_law_row) T.gl_law_row F (fun _ _ _ _ _ _ us hl => match us, hl with | [_], _ => rfl) (okP F sc_law_row (fun ds d h => ?_) fun cdv A outer s H E hr ds d h => ⟨_, 
    (pss_cons (ps_ret (pe_callTy call_tuple_of (by rfl) (T.free_tuple) bb_tuple (pa_cons (pe_lc (own := [("_law_word", 1)]) rfl sc_law_row.nd (pi_list (pe_split (pv 0) pe_str)) (blkOk_by (own := [("_law_word", 1)]) (N := N_law_row) (sc := defScope s_law_row) (by decide +kernel)) (fun _ _ _ _ _ => (pg_name (i := 1) sc_law_row.nd rfl (Or.inl rfl))) (fun _ _ _ _ _ => pts_nil) (fun _ _ _ _ _ => (pe_callTy call_int_str (by rfl) (T.free_int) bb_int (pa_cons (pv 1) pa_nil)))) pa_nil))) pss_nil), ?_⟩)
  · unfold f_law_row at h
    repeat (first | (obtain ⟨e, _⟩ := h; rw [e]; rfl) | (obtain ⟨_, h⟩ := h))
  · obtain ⟨r, rfl, ⟨hne, hl, hx⟩, rfl⟩ := h
    have hlen := rowTx_len (r := r) (fun x h => by have := hx x h; omega) (by omega)
    refine q_ret (d := .tup (r.map natD)) (ed_tupL (ex_l (ex_lcM r (fun n => .str (itx (n : Int))) natD (n := r.length) [1] (dw_listN (ds := r.map fun n : Nat => .str (itx (n : Int))) (ed_is (ex_d (ex_split (ed_var rfl) ed_str (by decide +kernel) (by omega))) (by rw [rowTx_split hne, List.map_map]; rfl)) (List.length_map _)) (fun i d _ h => y_map h) rfl (by omega) (by simp) fun n hn => ⟨_, tg_name, ?_⟩))) rfl
    have hT : Ten 2 (n : Int) := by
      have := hx n hn
      unfold Ten
      omega
    have h1 := itx_len (k := 2) (by decide) hT
    exact ed_intS (ed_var rfl) (int_itx (k := 2) (by decide) (by decide) hT) (by split at h1 <;> omega)
/-! ### all points put -/
structure Steps (pts : List Pt) (st : Nat → List Pt) : Prop where
  zero : st 0 = []
  step : ∀ k p, pts[k]? = some p → (st k).length ≤ 6 ∧ placeP (st k) p.1 = none ∧ (st (k + 1)).Perm (st k ++ [p]) ∧ (st (k + 1)).Pairwise (fun p q => p.1 < q.1) ∧ Smalls (st (k + 1)) ∧ Free (st (k + 1)) ∧ Small p
def spPA (K : PySem.W.Frag) : Sp := fun vs H Q _ => ∃ a q pts vp st, vs = [.ref a, vp] ∧ DeskAt K (deskC K) H a q [] [] ∧ Is K (deskC K) H vp (shD pts) ∧ pts.length ≤ 7 ∧ Steps pts st ∧ ∀ v H' pst, Cg H H' a q → pst.length = pts.length → DeskAt K (deskC K) H' a q (st pts.length) pst → Q v H'
theorem small_thirty {p : Pt} (h : Small p) : Ten 30 p.1 ∧ Ten 30 p.2 := by
  have := small_ten h
  unfold Ten
  omega
abbrev N_law_put_all : List Str := ["_law_desk", "_law_points", "_law_x", "_law_y"]
theorem sc_law_put_all : FnScope N_law_put_all ["_law_desk", "_law_points"] (defScope s_law_put_all) := ⟨rfl, rfl, rfl, by decide +kernel, rfl, by decide +kernel, by decide +kernel⟩
theorem calw_law_put_all (T : Tx K mg) : CalX P w K mg base 9 "_law_put_all" ["_law_desk", "_law_points"] (spPA K) := by
  obtain ⟨fd, F⟩ := T.fd_law_put_all
  refine calXOf T.gl_law_put_all F (fun _ _ _ _ _ _ us hl => match us, hl with | [_, _], _ => rfl) (okX F sc_law_put_all (fun vs H Q E h => ?_) fun cdv A outer s H vs Q E hr h => ⟨_, 
    (pss_cons (ps_for PassesOwn.never rfl (pi_tup (pv 1)) (pg_tupK (K := K) (n := 2) rfl rfl (pgs_cons (pg_name (i := 2) sc_law_put_all.nd rfl (Or.inl rfl)) (pgs_cons (pg_name (i := 3) sc_law_put_all.nd rfl (Or.inl rfl)) pgs_nil))) 
      (pss_cons (ps_expr (pe_methX (calw_Desk_say T) (hr.mono (by decide)) (pv 0) T.cls (pa_cons (pe_op op_add_str (pe_op op_add_str (pe_op op_add_str pe_str (pe_callTy call_str_int (by rfl) (T.free_str) bb_str (pa_cons (pv 2) pa_nil))) pe_str) (pe_callTy call_str_int (by rfl) (T.free_str) bb_str (pa_cons (pv 3) pa_nil))) pa_nil))) pss_nil)) pss_nil), ?_⟩)
  · obtain ⟨a, q, pts, vp, st, rfl, _⟩ := h
    rfl
  · obtain ⟨a, q, pts, vp, st, rfl, hd, hp, hl, hst, hQ⟩ := h
    have hp0 := hp
    cases hp0 with
    | @tup p xs _ h1 h2 =>
      have hxl : xs.length = pts.length := by rw [h2.length, List.length_map]
      refine ⟨.ref p, rfl, p, rfl, ⟨xs, .inl (.inl h1)⟩, ?_⟩
      refine ⟨fun i m σ H1 => m = pts.length - i ∧ i ≤ pts.length ∧ σ.length = 4 ∧ σ[0]? = some (some (.ref a)) ∧ σ[1]? = some (some (.ref p)) ∧ Cg H H1 a q ∧ DeskAt K (deskC K) H1 a q (st i) ((List.range i).map st), ⟨pts.length, by simp, Nat.zero_le _, rfl, rfl, rfl, Cg.ex Ex.rfl, by rw [hst.zero]; exact hd⟩, ?_⟩
      rintro i m σ H1 ⟨rfl, hi, hsl, h0, h1s, c1, d1⟩
      have hk1 := hd.tups c1
      have hp1 := hp.keep hk1 (pure_sh _)
      have g1 := hk1 _ _ h1
      by_cases hlt : i < pts.length
      · refine .inr ⟨⟨xs, xs[i]'(by omega), .inl (.inl g1), List.getElem?_eq_getElem (by omega)⟩, fun σ' H' => (σ'.length = 4 ∧ σ'[0]? = some (some (.ref a)) ∧ σ'[1]? = some (some (.ref p)) ∧ Cg H H' a q ∧ DeskAt K (deskC K) H' a q (st (i + 1)) ((List.range (i + 1)).map st)), fun σ' H' h => ⟨pts.length - (i + 1), by omega, rfl, hlt, h⟩, fun x H' y => ?_⟩
        obtain ⟨eH, y⟩ := y
        rw [eH]
        have gx := y xs (.inl (.inl g1))
        obtain ⟨d, hdx, hix⟩ := (h2.keep hk1 (pure_pts _)).get gx
        rw [List.getElem?_map, ix_get hlt] at hdx
        cases hdx
        have hpt : pts[i]? = some (ix pts i) := ix_get hlt
        obtain ⟨k1, k2, k3, k4, k5, k6, k7⟩ := hst.step i _ hpt
        have hz : ∀ σ : L2.St, σ.length = 4 → At K (deskC K) H1 σ [.un, .un, .un, .un] := fun σ hσ => by
          match σ, hσ with
          | [_, _, _, _], _ => exact .cons True.intro (.cons True.intro (.cons True.intro (.cons True.intro .nil)))
        refine tg_tup [2, 3] (ds := [.int (ix pts i).1, .int (ix pts i).2]) rfl rfl H1 H1 H1 σ x Ex.rfl hix (hz σ hsl) _ fun σ2 e1 e2 s2 => ?_
        have b0 : σ2[0]? = some (some (.ref a)) := by rw [e2 0 (by decide)]; exact h0
        have b1 : σ2[1]? = some (some (.ref p)) := by rw [e2 1 (by decide)]; exact h1s
        have hT := small_thirty k7
        have l1 := itx_len31 hT.1
        have l2 := itx_len31 hT.2
        have e6 : ("point " : Str).length = 6 := by decide +kernel
        have e11 := one_len " " (by simp)
        have ea : ∀ x y : Str, (x ++ y).length = x.length + y.length := fun x y => by rw [TL.len_tl, TL.tl_append, List.length_append, ← TL.len_tl, ← TL.len_tl]
        have hsz : 100000 ≤ sizeLine := by decide +kernel
        have t1 : Ten 40 (ix pts i).1 := Nat.lt_trans hT.1 (by decide +kernel)
        have t2 : Ten 40 (ix pts i).2 := Nat.lt_trans hT.2 (by decide +kernel)
        refine mut_meth (K := K) (C := deskC K) (ds := [.str (ptL (ix pts i).1 (ix pts i).2)]) (ps' := st (i + 1)) (pst' := (List.range i).map st ++ [st i]) (d := .str (itx ((st (i + 1)).length : Nat))) s2 d1 b0 (by decide +kernel) (ea_cons (ed_addS (ed_addS (ed_addS ed_str (ed_strI (ed_var rfl) (log_ok t1)) (by rw [e6]; omega)) ed_str (by rw [ea, e6, e11]; omega)) (ed_strI (ed_var rfl) (log_ok t2)) (by rw [ea, ea, e6, e11]; omega)) ea_nil) (.inl ⟨_, _, rfl, hT.1, hT.2, _, _, rfl, k1, k2, by rw [List.length_map, List.length_range]; omega, k3, k4, k5, k6, rfl, rfl⟩) fun v H2 c2 d2 i2 => ?_
        refine ⟨by rw [e1]; exact hsl, b0, b1, c1.trans c2, ?_⟩
        rw [List.range_succ, List.map_append]
        exact d2
      · have e : i = pts.length := by omega
        subst e
        exact .inl ⟨⟨xs, .inl (.inl g1), by rw [hxl]; exact Nat.le_refl _⟩, hQ .non H1 ((List.range pts.length).map st) c1 (by simp) d1⟩
end
end Bt

end BtL_part
section BtN_part
set_option Elab.async false
set_option linter.all false
set_option maxRecDepth 100000
set_option maxHeartbeats 4000000
namespace Bt
open PySem PySem.Spec PyProof.Rows L2 BtR
section
variable {P : Program} {w : World} {K : PySem.W.Frag} {mg : Str → Option Value} {base : Heap}
/-! ### the law's own bend, free -/
def f_law_bend (ds : List D) (d : D) : Prop := ∃ a b c : Pt, ds = [prD a, prD b, prD c] ∧ (Small a ∧ Small b ∧ Small c) ∧ d = .int (bndP a b c)
abbrev N_law_bend : List Str := ["_law_one", "_law_two", "_law_three", "_law_across"]
theorem sc_law_bend : FnScope N_law_bend ["_law_one", "_law_two", "_law_three"] (defScope s_law_bend) := ⟨rfl, rfl, rfl, by decide +kernel, rfl, by decide +kernel, by decide +kernel⟩
theorem cal_law_bend (T : Tx K mg) : Cal P w K mg base 1 "_law_bend" ["_law_one", "_law_two", "_law_three"] f_law_bend := by
  obtain ⟨fd, F⟩ := T.fd_law_bend
  refine calOf (N := N_law_bend) T.gl_law_bend F (fun _ _ _ _ _ _ us hl => match us, hl with | [_, _, _], _ => rfl) (okP F sc_law_bend (fun ds d h => ?_) fun cdv A outer s H E hr ds d h => ⟨_, 
    (pss_cons (ps_set (i := 3) sc_law_bend.nd rfl (Or.inl rfl) (pe_op op_mul (pe_op op_sub (pe_ix (ix_tupK (K := K) rfl) (pv 1) pe_int (fun _ _ => rfl)) (pe_ix (ix_tupK (K := K) rfl) (pv 0) pe_int (fun _ _ => rfl))) (pe_op op_sub (pe_ix (ix_tupK (K := K) rfl) (pv 2) pe_int (fun _ _ => rfl)) (pe_ix (ix_tupK (K := K) rfl) (pv 0) pe_int (fun _ _ => rfl)))))
    (pss_cons (ps_ret (pe_op op_sub (pv 3) (pe_op op_mul (pe_op op_sub (pe_ix (ix_tupK (K := K) rfl) (pv 1) pe_int (fun _ _ => rfl)) (pe_ix (ix_tupK (K := K) rfl) (pv 0) pe_int (fun _ _ => rfl))) (pe_op op_sub (pe_ix (ix_tupK (K := K) rfl) (pv 2) pe_int (fun _ _ => rfl)) (pe_ix (ix_tupK (K := K) rfl) (pv 0) pe_int (fun _ _ => rfl)))))) pss_nil)), ?_⟩)
  · unfold f_law_bend at h
    repeat (first | (obtain ⟨e, _⟩ := h; rw [e]; rfl) | (obtain ⟨_, h⟩ := h))
  · obtain ⟨a, b, c, rfl, ⟨ha, hb, hc⟩, rfl⟩ := h
    refine q_asg (d := .int ((b.1 - a.1) * (c.2 - a.2))) (ed_mul (ed_sub (ed_ixT (ed_var rfl) ed_int rfl) (ed_ixT (ed_var rfl) ed_int rfl)) (ed_sub (ed_ixT (ed_var rfl) ed_int rfl) (ed_ixT (ed_var rfl) ed_int rfl)) ?_)
      (q_ret (ed_sub (ed_var rfl) (ed_mul (ed_sub (ed_ixT (ed_var rfl) ed_int rfl) (ed_ixT (ed_var rfl) ed_int rfl)) (ed_sub (ed_ixT (ed_var rfl) ed_int rfl) (ed_ixT (ed_var rfl) ed_int rfl)) ?_)) rfl)
    · unfold Small at ha hb hc
      exact .inl ⟨by omega, by omega⟩
    · unfold Small at ha hb hc
      exact .inl ⟨by omega, by omega⟩
def freeB (ps : List Pt) (p : Pt) : Bool := decide (∀ k, k < ps.length → ∀ j, j < k → bndP (ix ps j) (ix ps k) p ≠ 0)
def f_law_free (ds : List D) (d : D) : Prop := ∃ (ps : List Pt) (p : Pt), ds = [.lst (ps.map prD), prD p] ∧ (Smalls ps ∧ Small p ∧ ps.length ≤ 7) ∧ d = .bl (freeB ps p)
abbrev N_law_free : List Str := ["_law_found", "_law_point", "_law_k", "_law_j"]
theorem sc_law_free : FnScope N_law_free ["_law_found", "_law_point"] (defScope s_law_free) := ⟨rfl, rfl, rfl, by decide +kernel, rfl, by decide +kernel, by decide +kernel⟩
theorem cal_law_free (T : Tx K mg) : Cal P w K mg base 2 "_law_free" ["_law_found", "_law_point"] f_law_free := by
  obtain ⟨fd, F⟩ := T.fd_law_free
  refine calOf (N := N_law_free) T.gl_law_free F (fun _ _ _ _ _ _ us hl => match us, hl with | [_, _], _ => rfl) (okP F sc_law_free (fun ds d h => ?_) fun cdv A outer s H E hr ds d h => ⟨_, 
    (pss_cons (ps_for PassesOwn.never rfl (pi_range1 (by rfl) T.free_range (pa_cons (pe_callB call_len_seq (by rfl) (T.free_len) bb_len (pa_cons (pv 0) pa_nil)) pa_nil)) (pg_name (i := 2) sc_law_free.nd rfl (Or.inl rfl)) 
      (pss_cons (ps_for PassesOwn.never rfl (pi_range1 (by rfl) T.free_range (pa_cons (pv 2) pa_nil)) (pg_name (i := 3) sc_law_free.nd rfl (Or.inl rfl)) 
        (pss_cons (ps_if (pt_cmpR op_eq (pe_callP (cal_law_bend T) (hr.mono (by decide)) (by rfl) (pa_cons (pe_ix (ix_listK (K := K) rfl) (pv 0) (pv 3) (fun _ _ => rfl)) (pa_cons (pe_ix (ix_listK (K := K) rfl) (pv 0) (pv 2) (fun _ _ => rfl)) (pa_cons (pv 1) pa_nil)))) pe_int (nomark _)) 
          (pss_cons (ps_ret pe_bl) pss_nil) pss_nil) pss_nil)) pss_nil))
    (pss_cons (ps_ret pe_bl) pss_nil)), ?_⟩)
  · unfold f_law_free at h
    repeat (first | (obtain ⟨e, _⟩ := h; rw [e]; rfl) | (obtain ⟨_, h⟩ := h))
  · obtain ⟨ps, p, rfl, ⟨hs, hp, hl⟩, rfl⟩ := h
    refine q_for (n := ps.length) (dw_r1 (ed_is (ed_lenL (ed_l (ed_var rfl))) (by rw [List.length_map])) (by omega)) (fun i δ => δ = [.dat (.lst (ps.map prD)), .dat (prD p), .un, .un] ∧ ∀ k, k < i → ∀ j, j < k → bndP (ix ps j) (ix ps k) p ≠ 0) (fun _ => False) ⟨rfl, fun _ z => absurd z (Nat.not_lt_zero _)⟩ Le.rfl ?_ ?_ (fun _ z => z.elim)
    · rintro k d δ1 hk rfl ⟨rfl, hno⟩
      refine ⟨[2], _, tg_name, ?_⟩
      refine q_for (n := k) (dw_r1 (ed_var rfl) (by omega)) (fun i δ => δ = [.dat (.lst (ps.map prD)), .dat (prD p), .dat (natD k), .un] ∧ ∀ j, j < i → bndP (ix ps j) (ix ps k) p ≠ 0) (fun _ => False) ⟨rfl, fun _ z => absurd z (Nat.not_lt_zero _)⟩ Le.rfl ?_ ?_ (fun _ z => z.elim)
      · rintro j d δ1 hj rfl ⟨rfl, hno2⟩
        refine ⟨[3], _, tg_name, ?_⟩
        have g : f_law_bend [prD (ix ps j), prD (ix ps k), prD p] (.int (bndP (ix ps j) (ix ps k) p)) := ⟨_, _, _, rfl, ⟨hs _ (ix_mem (by omega)), hs _ (ix_mem hk), hp⟩, rfl⟩
        refine q_when (td_test (ed_eqI (ed_call (ea_cons (ed_ixL (ed_l (ed_var rfl)) (ed_var rfl) (at_sh (by omega))) (ea_cons (ed_ixL (ed_l (ed_var rfl)) (ed_var rfl) (at_sh hk)) (ea_cons (ed_var rfl) ea_nil))) g) ed_int)) (fun e => ?_) fun e => ?_
        · refine q_ret ed_bl ?_
          have : freeB ps p = false := decide_eq_false fun h => h k hk j hj (of_decide_eq_true e)
          rw [this]
          rfl
        · refine sd_nx ⟨rfl, fun t ht => ?_⟩ (.eq (.eq (.eq (.un .nil))))
          by_cases et : t = j
          · subst et
            exact of_decide_eq_false e
          · exact hno2 t (by omega)
      · rintro δ1 ⟨rfl, hno2⟩
        refine sd_nx ⟨rfl, fun t ht => ?_⟩ (.eq (.eq (.un (.eq .nil))))
        by_cases et : t = k
        · subst et
          exact hno2
        · exact hno t (by omega)
    · rintro δ1 ⟨rfl, hno⟩
      refine q_ret ed_bl ?_
      have : freeB ps p = true := decide_eq_true hno
      rw [this]
      rfl
/-! ### the box -/
def Cb (H H' : Hp) (b : Addr) : Prop := ∀ p o, H p = some o → p ≠ b → H' p = some o
theorem Cb.ex {H H' : Hp} {b : Addr} (e : Ex H H') : Cb H H' b := fun p o h _ => e _ _ h
theorem Cb.trans {H H1 H2 : Hp} {b : Addr} (c : Cb H H1 b) (e : Cb H1 H2 b) : Cb H H2 b := fun p o h h1 => e p o (c p o h h1) h1
def spTk (K : PySem.W.Frag) : Sp := fun vs H Q _ => ∃ b n m, vs = [.ref b, .int m] ∧ H b = some (.lst [.int n]) ∧ 1 ≤ m ∧ m < 1000 ∧ ∀ d n' H', 0 ≤ d → d < m → Cb H H' b → H' b = some (.lst [.int n']) → Q (.int d) H'
abbrev N_law_take : List Str := ["_law_box_here", "_law_many", "_law_left", "_law_digit"]
theorem sc_law_take : FnScope N_law_take ["_law_box_here", "_law_many"] (defScope s_law_take) := ⟨rfl, rfl, rfl, by decide +kernel, rfl, by decide +kernel, by decide +kernel⟩
theorem calw_law_take (T : Tx K mg) : CalX P w K mg base 1 "_law_take" ["_law_box_here", "_law_many"] (spTk K) := by
  obtain ⟨fd, F⟩ := T.fd_law_take
  refine calXOf T.gl_law_take F (fun _ _ _ _ _ _ us hl => match us, hl with | [_, _], _ => rfl) (okX F sc_law_take (fun vs H Q E h => ?_) fun cdv A outer s H vs Q E hr h => ⟨_, 
    (pss_cons (ps_asg (pe_callB call_divmod (by rfl) (T.free_divmod) bb_divmod (pa_cons (pe_ix (ix_listK (K := K) rfl) (pv 0) pe_int (fun _ _ => rfl)) (pa_cons (pv 1) pa_nil))) (pg_tupK (K := K) (n := 2) rfl rfl (pgs_cons (pg_name (i := 2) sc_law_take.nd rfl (Or.inl rfl)) (pgs_cons (pg_name (i := 3) sc_law_take.nd rfl (Or.inl rfl)) pgs_nil))))
    (pss_cons (ps_asg (pv 2) (pg_sub (pv 0) pe_int set_list))
    (pss_cons (ps_ret (pv 3)) pss_nil))), ?_⟩)
  · obtain ⟨b, n, m, rfl, _⟩ := h
    rfl
  · obtain ⟨b, n, m, rfl, hb, h1, h2, hQ⟩ := h
    refine ⟨.ref b, rfl, ⟨b, [.int n], 0, .int n, rfl, rfl, .inl (.inl hb), rfl, ?_⟩⟩
    refine ⟨.int m, rfl, n, m, rfl, ⟨by omega, by omega⟩, fun p hp => ?_⟩
    have hpb : b ≠ p := fun e => by rw [← e, hb] at hp; cases hp
    refine ⟨p, _, rfl, .inl (.inl upd_same), rfl, _, _, rfl, _, _, rfl, rfl, ?_⟩
    have hb1 : upd H p (.tup [.int (n / m), .int (n % m)]) b = some (.lst [.int n]) := by rw [upd_ne hpb]; exact hb
    refine ⟨_, rfl, .ref b, rfl, b, [.int n], 0, 0, rfl, rfl, hb1, rfl, ?_⟩
    refine ⟨_, rfl, hQ (n % m) (n / m) _ (Int.emod_nonneg _ (by omega)) (Int.emod_lt_of_pos _ (by omega)) (fun q o hq hne => ?_) upd_same⟩
    have hqp : q ≠ p := fun e => by rw [e, hp] at hq; cases hq
    rw [upd_ne hne, upd_ne hqp]
    exact hq
theorem ev_take {te : TE} {σ : L2.St} {H : Hp} {b : Addr} {n m : Int} {Q : VK} (h0 : σ[0]? = some (some (.ref b))) (hb : H b = some (.lst [.int n])) (h1 : 1 ≤ m) (h2 : m < 1000) (he : ∀ Q' : VK, Q' (.int m) H → te σ H Q')
    (k : ∀ d n' H', 0 ≤ d → d < m → Cb H H' b → H' b = some (.lst [.int n']) → Q (.int d) H') : tCall (spTk K) [] E0 (tCons (tVar 0) (tCons te tNil)) σ H Q :=
  ⟨.ref b, h0, he _ ⟨b, n, m, rfl, hb, h1, h2, k⟩⟩
end
end Bt

end BtN_part
section BtO_part
set_option Elab.async false
set_option linter.all false
set_option maxRecDepth 100000
set_option maxHeartbeats 4000000
namespace Bt
open PySem PySem.Spec PyProof.Rows L2 BtR
/-! ## the law's sheet: the plain law -/
theorem ix_app1 {ps : List Pt} {p : Pt} {i : Nat} (h : i < ps.length) : ix (ps ++ [p]) i = ix ps i := by
  have h1 := ix_get (ps := ps ++ [p]) (i := i) (by rw [List.length_append]; omega)
  rw [List.getElem?_append_left h, ix_get h] at h1
  exact (Option.some.inj h1).symm
theorem ix_app2 {ps : List Pt} {p : Pt} : ix (ps ++ [p]) ps.length = p := by
  have h1 := ix_get (ps := ps ++ [p]) (i := ps.length) (by rw [List.length_append]; exact Nat.lt_succ_self _)
  rw [List.getElem?_append_right (Nat.le_refl _), Nat.sub_self] at h1
  exact (Option.some.inj h1).symm
theorem free_app {ps : List Pt} {p : Pt} (hf : Free ps) (h : freeB ps p = true) : Free (ps ++ [p]) := by
  have h' := of_decide_eq_true h
  intro i j k hij hjk hk
  rw [List.length_append, List.length_singleton] at hk
  by_cases e : k < ps.length
  · rw [ix_app1 (by omega), ix_app1 (by omega), ix_app1 e]
    exact hf i j k hij hjk e
  · have : k = ps.length := by omega
    subst this
    rw [ix_app1 (by omega), ix_app1 (by omega), ix_app2]
    exact h' j (by omega) i hij
theorem filt_lt {α : Type} {p q : α → Bool} : ∀ {l : List α}, (∀ x ∈ l, q x = true → p x = true) → (∃ x ∈ l, p x = true ∧ q x = false) → (l.filter q).length < (l.filter p).length
  | [], _, h => by
    obtain ⟨x, hx, _⟩ := h
    cases hx
  | a :: l, h1, h2 => by
    have hle : ∀ l : List α, (∀ x ∈ l, q x = true → p x = true) → (l.filter q).length ≤ (l.filter p).length := by
      intro l
      induction l with
      | nil => intro _; exact Nat.le_refl _
      | cons b l ih =>
        intro h
        have ih' := ih fun x hx => h x (List.mem_cons_of_mem _ hx)
        have hb := h b List.mem_cons_self
        cases e1 : q b <;> cases e2 : p b <;> simp [List.filter_cons, e1, e2] <;> first | omega | (rw [e1, e2] at hb; simp at hb)
    obtain ⟨x, hx, h3, h4⟩ := h2
    have ha := h1 a List.mem_cons_self
    rcases List.mem_cons.mp hx with rfl | hx
    · have := hle l fun y hy => h1 y (List.mem_cons_of_mem _ hy)
      simp [List.filter_cons, h3, h4]
      omega
    · have ih := filt_lt (l := l) (fun y hy => h1 y (List.mem_cons_of_mem _ hy)) ⟨x, hx, h3, h4⟩
      cases e1 : q a <;> cases e2 : p a <;> simp [List.filter_cons, e1, e2] <;> first | omega | (rw [e1, e2] at ha; simp at ha)
def cntP (ps : List Pt) (p : Pt) : Nat := ((pairsTo ps.length ps.length).filter fun q => decide (bndP (ix ps q.1) (ix ps q.2) p ≤ 0)).length
theorem bnd_up (a b : Pt) (x y : Int) : bndP a b (x, y + 1) = bndP a b (x, y) + (b.1 - a.1) := by
  unfold bndP
  grind
theorem inc_ix {ps : List Pt} (h : ps.Pairwise fun p q => p.1 < q.1) {i j : Nat} (hij : i < j) (hj : j < ps.length) : (ix ps i).1 < (ix ps j).1 := by
  have := List.pairwise_iff_getElem.mp h i j (by omega) hj hij
  have h1 := ix_get (ps := ps) (i := i) (by omega)
  have h2 := ix_get hj
  rw [List.getElem?_eq_getElem (by omega : i < ps.length)] at h1
  rw [List.getElem?_eq_getElem hj] at h2
  rw [Option.some.inj h1, Option.some.inj h2] at this
  exact this
theorem cnt_less {ps : List Pt} {x y : Int} (hi : ps.Pairwise fun p q => p.1 < q.1) (h : freeB ps (x, y) = false) : cntP ps (x, y + 1) < cntP ps (x, y) := by
  have h' := of_decide_eq_false h
  obtain ⟨k, h1⟩ := Classical.not_forall.mp h'
  obtain ⟨hk, h2⟩ := Classical.not_imp.mp h1
  obtain ⟨j, h3⟩ := Classical.not_forall.mp h2
  obtain ⟨hj, h4⟩ := Classical.not_imp.mp h3
  have h5 : bndP (ix ps j) (ix ps k) (x, y) = 0 := Classical.not_not.mp h4
  refine filt_lt (fun q hq hd => ?_) ⟨(j, k), pairs_mem.mpr ⟨by dsimp only; omega, hj, hk⟩, ?_, ?_⟩
  · have hm := pairs_mem.mp hq
    have := inc_ix hi hm.2.1 hm.2.2
    rw [bnd_up, decide_eq_true_iff] at hd
    exact decide_eq_true (by omega)
  · exact decide_eq_true (by dsimp only; omega)
  · have := inc_ix hi hj hk
    dsimp only
    rw [bnd_up, h5]
    exact decide_eq_false (by omega)
theorem cnt_few {ps : List Pt} (hl : ps.length ≤ 7) (p : Pt) : cntP ps p ≤ 100 := by
  unfold cntP
  exact Nat.le_trans (List.length_filter_le _ _) (pairsTo_few ps.length (by omega) ps.length (by omega))
def scl (p : Pt) : Pt := (p.1 * 1000000000000, p.2 * 1000000000000000 + 7)
theorem bnd_scl (a b c : Pt) : bndP (scl a) (scl b) (scl c) = bndP a b c * 1000000000000000000000000000 := by
  unfold bndP scl
  grind
theorem ix_map {ps : List Pt} {f : Pt → Pt} {i : Nat} (h : i < ps.length) : ix (ps.map f) i = f (ix ps i) := by
  have h1 := ix_get (ps := ps.map f) (i := i) (by rw [List.length_map]; exact h)
  rw [List.getElem?_map, ix_get h] at h1
  exact (Option.some.inj h1).symm
/-- what the law's sheet is like -/
structure Low (ps : List Pt) (x : Int) : Prop where
  pts : ∀ p ∈ ps, p.1 ≤ x ∧ -8 ≤ p.1 ∧ -2000 ≤ p.2 ∧ p.2 ≤ 2000
  inc : ps.Pairwise fun p q => p.1 < q.1
  free : Free ps
theorem Low.sh {ps : List Pt} {x : Int} (h : Low ps x) (hx : x ≤ 30) (h1 : 1 ≤ ps.length) (h7 : ps.length ≤ 7) : Sh ps := ⟨h1, h7, fun p hp => by
  have := h.pts p hp
  unfold Small
  omega, h.inc, h.free⟩
theorem Low.scale {ps : List Pt} {x : Int} (h : Low ps x) (hx : x ≤ 30) (h1 : 1 ≤ ps.length) (h7 : ps.length ≤ 7) : Sh (ps.map scl) := ⟨by rw [List.length_map]; exact h1, by rw [List.length_map]; exact h7, fun p hp => by
  obtain ⟨q, hq, rfl⟩ := List.mem_map.mp hp
  have := h.pts q hq
  unfold Small scl
  dsimp only
  omega, by
  rw [List.pairwise_map]
  refine h.inc.imp fun h => ?_
  unfold scl
  dsimp only
  omega, fun i j k hij hjk hk => by
  rw [List.length_map] at hk
  rw [ix_map (by omega), ix_map (by omega), ix_map hk, bnd_scl]
  have := h.free i j k hij hjk hk
  omega⟩
theorem Low.app {ps : List Pt} {x d y : Int} (h : Low ps x) (hd : 1 ≤ d) (hx : -9 ≤ x) (h1 : -2000 ≤ y) (h2 : y ≤ 2000) (hf : freeB ps (x + d, y) = true) : Low (ps ++ [(x + d, y)]) (x + d) := ⟨fun p hp => by
  rcases List.mem_append.mp hp with hp | hp
  · have := h.pts p hp
    omega
  · rw [List.mem_singleton.mp hp]
    dsimp only
    omega, by
  refine List.pairwise_append.mpr ⟨h.inc, List.pairwise_singleton _ _, fun a ha b hb => ?_⟩
  rw [List.mem_singleton.mp hb]
  have := h.pts a ha
  dsimp only
  omega, free_app h.free hf⟩
theorem sq_bd {x : Int} (h1 : -9 ≤ x) (h2 : x ≤ 24) : 0 ≤ x * x ∧ x * x ≤ 576 := by
  obtain ⟨n, hn, rfl⟩ : ∃ n : Nat, n < 34 ∧ x = (n : Int) - 9 := ⟨(x + 9).toNat, by omega, by omega⟩
  have : ∀ n : Nat, n < 34 → 0 ≤ ((n : Int) - 9) * ((n : Int) - 9) ∧ ((n : Int) - 9) * ((n : Int) - 9) ≤ 576 := by decide +kernel
  exact this n hn
/-! ## the walk -/
section
variable {P : Program} {w : World} {K : PySem.W.Frag} {mg : Str → Option Value} {base : Heap}
structure ShI (K : PySem.W.Frag) (H0 H : Hp) (b f : Addr) (n x : Int) (i : Nat) (ps : List Pt) : Prop where
  cb : Cb H0 H b
  hb : H b = some (.lst [.int n])
  hf : ∃ xs, H f = some (.lst xs) ∧ IsAll K (deskC K) H xs (ps.map prD)
  f0 : H0 f = none
  fb : f ≠ b
  len : ps.length = i
  xlo : -8 ≤ x + 1 ∧ x ≤ 3 * (i : Int)
  low : Low ps x
theorem ShI.keeps {H0 H H' : Hp} {b f : Addr} {n n' x : Int} {i : Nat} {ps : List Pt} (I : ShI K H0 H b f n x i ps) (c : Cb H H' b) (hb : H' b = some (.lst [.int n'])) : ShI K H0 H' b f n' x i ps := by
  have hk : TupKeep H H' := fun p xs h => c p _ h fun e => by
    rw [e, I.hb] at h
    cases h
  obtain ⟨xs, h1, h2⟩ := I.hf
  exact ⟨I.cb.trans c, hb, ⟨xs, c _ _ h1 I.fb, h2.keep hk (pure_pts _)⟩, I.f0, I.fb, I.len, I.xlo, I.low⟩
theorem ShI.ex {H0 H H' : Hp} {b f : Addr} {n x : Int} {i : Nat} {ps : List Pt} (I : ShI K H0 H b f n x i ps) (e : Ex H H') : ShI K H0 H' b f n x i ps := I.keeps (Cb.ex e) (e _ _ I.hb)
abbrev sg (b : Addr) (many kind x : Int) (f : Addr) (o6 o7 o8 : Option V) : L2.St := [some (.ref b), some (.int 7), some (.int many), some (.int kind), some (.int x), some (.ref f), o6, o7, o8]
theorem ShI.at7 {H0 H : Hp} {b f : Addr} {n x many kind k : Int} {i : Nat} {ps : List Pt} {o7 o8 : Option V} (I : ShI K H0 H b f n x i ps) (z : Int) : At K (deskC K) H (sg b many kind z f (some (.int k)) o7 o8) [.un, .dat (.int 7), .dat (.int many), .dat (.int kind), .dat (.int z), .dat (.lst (ps.map prD)), .dat (.int k), .un, .un] := by
  obtain ⟨xs, h1, h2⟩ := I.hf
  exact .cons True.intro (.cons ⟨_, rfl, .int _⟩ (.cons ⟨_, rfl, .int _⟩ (.cons ⟨_, rfl, .int _⟩ (.cons ⟨_, rfl, .int _⟩ (.cons ⟨_, rfl, .lst h1 h2⟩ (.cons ⟨_, rfl, .int _⟩ (.cons True.intro (.cons True.intro .nil))))))))
theorem ShI.at8 {H0 H : Hp} {b f : Addr} {n x many kind y : Int} {i : Nat} {ps : List Pt} {o6 o7 : Option V} (I : ShI K H0 H b f n x i ps) (z : Int) : At K (deskC K) H (sg b many kind z f o6 o7 (some (.int y))) [.un, .dat (.int 7), .dat (.int many), .dat (.int kind), .dat (.int z), .dat (.lst (ps.map prD)), .un, .un, .dat (.int y)] := by
  obtain ⟨xs, h1, h2⟩ := I.hf
  exact .cons True.intro (.cons ⟨_, rfl, .int _⟩ (.cons ⟨_, rfl, .int _⟩ (.cons ⟨_, rfl, .int _⟩ (.cons ⟨_, rfl, .int _⟩ (.cons ⟨_, rfl, .lst h1 h2⟩ (.cons True.intro (.cons True.intro (.cons ⟨_, rfl, .int _⟩ .nil))))))))
theorem ShI.at0 {H0 H : Hp} {b f : Addr} {n x many kind z : Int} {i : Nat} {ps : List Pt} {o6 o7 o8 : Option V} (I : ShI K H0 H b f n x i ps) : At K (deskC K) H (sg b many kind z f o6 o7 o8) [.un, .un, .un, .un, .un, .dat (.lst (ps.map prD)), .un, .un, .un] := by
  obtain ⟨xs, h1, h2⟩ := I.hf
  exact .cons True.intro (.cons True.intro (.cons True.intro (.cons True.intro (.cons True.intro (.cons ⟨_, rfl, .lst h1 h2⟩ (.cons True.intro (.cons True.intro (.cons True.intro .nil))))))))
def spSh (K : PySem.W.Frag) : Sp := fun vs H Q _ => ∃ b n, vs = [.ref b, .int 7] ∧ H b = some (.lst [.int n]) ∧ ∀ v H' ps m, Cb H H' b → H' b = some (.lst [.int m]) → Sh ps → Is K (deskC K) H' v (shD ps) → Q v H'
abbrev N_law_sheet : List Str := ["_law_box_here", "_law_most", "_law_many", "_law_kind", "_law_x", "_law_found", "_law_k", "_law_bent", "_law_y"]
theorem sc_law_sheet : FnScope N_law_sheet ["_law_box_here", "_law_most"] (defScope s_law_sheet) := ⟨rfl, rfl, rfl, by decide +kernel, rfl, by decide +kernel, by decide +kernel⟩
theorem calw_law_sheet (T : Tx K mg) : CalX P w K mg base 3 "_law_sheet" ["_law_box_here", "_law_most"] (spSh K) := by
  obtain ⟨fd, F⟩ := T.fd_law_sheet
  refine calXOf T.gl_law_sheet F (fun _ _ _ _ _ _ us hl => match us, hl with | [_, _], _ => rfl) (okX F sc_law_sheet (fun vs H Q E h => ?_) fun cdv A outer s H vs Q E hr h => ⟨_, 
    (pss_cons (ps_set (i := 2) sc_law_sheet.nd rfl (Or.inl rfl) (pe_op op_add pe_int (pe_callX (calw_law_take T) (hr.mono (by decide)) (by rfl) (pa_cons (pv 0) (pa_cons (pv 1) pa_nil)))))
    (pss_cons (ps_set (i := 3) sc_law_sheet.nd rfl (Or.inl rfl) (pe_callX (calw_law_take T) (hr.mono (by decide)) (by rfl) (pa_cons (pv 0) (pa_cons pe_int pa_nil))))
    (pss_cons (ps_set (i := 4) sc_law_sheet.nd rfl (Or.inl rfl) (pe_op op_sub pe_int (pe_callX (calw_law_take T) (hr.mono (by decide)) (by rfl) (pa_cons (pv 0) (pa_cons pe_int pa_nil)))))
    (pss_cons (ps_set (i := 5) sc_law_sheet.nd rfl (Or.inl rfl) (pe_lst pa_nil))
    (pss_cons (ps_for PassesOwn.never rfl (pi_range1 (by rfl) T.free_range (pa_cons (pv 2) pa_nil)) (pg_name (i := 6) sc_law_sheet.nd rfl (Or.inl rfl)) 
      (pss_cons (ps_set (i := 4) sc_law_sheet.nd rfl (Or.inl rfl) (pe_op op_add (pe_op op_add (pv 4) pe_int) (pe_callX (calw_law_take T) (hr.mono (by decide)) (by rfl) (pa_cons (pv 0) (pa_cons pe_int pa_nil)))))
      (pss_cons (ps_set (i := 7) sc_law_sheet.nd rfl (Or.inl rfl) (pe_ix (ix_listK (K := K) rfl) (pe_lst (pa_cons (pe_op op_mul (pv 4) (pv 4)) (pa_cons (pe_op op_sub pe_int (pe_op op_mul (pv 4) (pv 4))) pa_nil))) (pe_op op_mod (pv 6) pe_int) (fun _ _ => rfl)))
      (pss_cons (ps_set (i := 8) sc_law_sheet.nd rfl (Or.inl rfl) (pe_ix (ix_listK (K := K) rfl) (pe_lst (pa_cons (pe_callX (calw_law_take T) (hr.mono (by decide)) (by rfl) (pa_cons (pv 0) (pa_cons pe_int pa_nil))) (pa_cons (pe_op op_mul (pv 4) (pv 4)) (pa_cons (pe_op op_sub pe_int (pe_op op_mul (pv 4) (pv 4))) (pa_cons (pv 7) (pa_cons (pe_callX (calw_law_take T) (hr.mono (by decide)) (by rfl) (pa_cons (pv 0) (pa_cons pe_int pa_nil))) pa_nil)))))) (pv 3) (fun _ _ => rfl)))
      (pss_cons (ps_while PassesOwn.never (pt_not (pt_val (pe_callP (cal_law_free T) (hr.mono (by decide)) (by rfl) (pa_cons (pv 5) (pa_cons (pe_tup (pa_cons (pv 4) (pa_cons (pv 8) pa_nil))) pa_nil))))) 
        (pss_cons (ps_set (i := 8) sc_law_sheet.nd rfl (Or.inl rfl) (pe_op op_add (pv 8) pe_int)) pss_nil))
      (pss_cons (ps_expr (pe_bm PySem.F.plainAttrs_list PySem.F.slot_list_append PySem.F.type_list_append mt_append (pv 5) (pa_cons (pe_tup (pa_cons (pv 4) (pa_cons (pv 8) pa_nil))) pa_nil))) pss_nil))))))
    (pss_cons (ps_if (pt_cmpR op_eq (pe_callX (calw_law_take T) (hr.mono (by decide)) (by rfl) (pa_cons (pv 0) (pa_cons pe_int pa_nil))) pe_int (nomark _)) 
      (pss_cons (ps_setLc (i := 5) (own := [("_law_x", 4), ("_law_y", 8)]) rfl sc_law_sheet.nd rfl rfl (sw_true rfl rfl rfl (by decide +kernel)) (pi_list (pv 5)) (blkOk_by (own := [("_law_x", 4), ("_law_y", 8)]) (N := N_law_sheet) (sc := defScope s_law_sheet) (by decide +kernel)) (fun _ _ _ _ _ => (pg_tupK (K := K) (n := 2) rfl rfl (pgs_cons (pg_name (i := 4) sc_law_sheet.nd rfl (Or.inl rfl)) (pgs_cons (pg_name (i := 8) sc_law_sheet.nd rfl (Or.inl rfl)) pgs_nil)))) (fun _ _ _ _ _ => pts_nil) (fun _ _ _ _ _ => (pe_tup (pa_cons (pe_op op_mul (pv 4) (pe_op op_pow pe_int pe_int)) (pa_cons (pe_op op_add (pe_op op_mul (pv 8) (pe_op op_pow pe_int pe_int)) pe_int) pa_nil))))) pss_nil) pss_nil)
    (pss_cons (ps_ret (pe_callTy call_tuple_of (by rfl) (T.free_tuple) bb_tuple (pa_cons (pv 5) pa_nil))) pss_nil))))))), ?_⟩)
  · obtain ⟨b, n, rfl, _⟩ := h
    rfl
  · obtain ⟨b, n, rfl, hb, hQ⟩ := h
    refine ev_take (m := 7) rfl hb (by decide) (by decide) (fun Q' q => ⟨_, rfl, q⟩) fun dm n1 H1 m1 m2 c1 hb1 => ?_
    refine ⟨1, dm, rfl, rfl, ?_⟩
    refine ev_take (m := 5) rfl hb1 (by decide) (by decide) (fun Q' q => q) fun kind n2 H2 k1 k2 c2 hb2 => ?_
    refine ev_take (m := 9) rfl hb2 (by decide) (by decide) (fun Q' q => q) fun dx n3 H3 dx1 dx2 c3 hb3 => ?_
    refine ⟨0, dx, rfl, rfl, ?_⟩
    refine ⟨by decide, fun f hf => ?_⟩
    have cc := (c1.trans c2).trans c3
    have hfb : f ≠ b := fun e => by rw [e, hb3] at hf; cases hf
    have hf0 : H f = none := by
      cases e : H f with
      | none => rfl
      | some o =>
        rw [cc f o e hfb] at hf
        cases hf
    have cb0 : Cb H (upd H3 f (.lst [])) b := fun p o hp hne => by
      rw [upd_ne fun e => ?_]
      · exact cc p o hp hne
      · rw [e, hf0] at hp
        cases hp
    have I0 : ShI K H (upd H3 f (.lst [])) b f n3 (0 - dx) 0 [] := ⟨cb0, by rw [upd_ne (Ne.symm hfb)]; exact hb3, ⟨[], upd_same, .nil⟩, hf0, hfb, rfl, by omega, ⟨fun p hp => absurd hp List.not_mem_nil, .nil, fun i j k _ _ hk => absurd hk (Nat.not_lt_zero _)⟩⟩
    refine ⟨.int (1 + dm), rfl, 1 + dm, rfl, by omega, by omega, ?_⟩
    refine ⟨fun i m σ H1 => m = (1 + dm).toNat - i ∧ i ≤ (1 + dm).toNat ∧ ∃ x o6 o7 o8 ps n, σ = sg b (1 + dm) kind x f o6 o7 o8 ∧ ShI K H H1 b f n x i ps, ⟨_, rfl, Nat.zero_le _, 0 - dx, none, none, none, [], n3, rfl, I0⟩, ?_⟩
    rintro i m σ G ⟨rfl, hi, x, o6, o7, o8, ps, nn, rfl, I⟩
    by_cases hlt : i < (1 + dm).toNat
    · refine .inr ⟨hlt, fun σ' H' => ∃ x o6 o7 o8 ps n, σ' = sg b (1 + dm) kind x f o6 o7 o8 ∧ ShI K H H' b f n x (i + 1) ps, fun σ' H' h => ⟨_, by omega, rfl, hlt, h⟩, fun v H' y => ?_⟩
      obtain ⟨eH, ev⟩ := y
      rw [eH, ev]
      have hpl : ps.length ≤ 6 := by have := I.len; omega
      refine ⟨.int x, rfl, x, 1, rfl, rfl, ?_⟩
      refine ev_take (m := 3) rfl I.hb (by decide) (by decide) (fun Q' q => q) fun d1 n1 G1 a1 a2 c1 hb1 => ?_
      refine ⟨x + 1, d1, rfl, rfl, ?_⟩
      have I1 := I.keeps c1 hb1
      have hxl := I.xlo
      obtain ⟨q1, q2⟩ := sq_bd (x := x + 1 + d1) (by omega) (by omega)
      have hmul : CMul (x + 1 + d1) (x + 1 + d1) := .inl ⟨by omega, by omega⟩
      obtain ⟨bent, hbent, bb1, bb2⟩ : ∃ bent, atI [D.int ((x + 1 + d1) * (x + 1 + d1)), .int (0 - (x + 1 + d1) * (x + 1 + d1))] ((0 + (i : Int)) % 2) = some (.int bent) ∧ -600 ≤ bent ∧ bent ≤ 600 := by
        have hm : (0 + (i : Int)) % 2 = 0 ∨ (0 + (i : Int)) % 2 = 1 := by omega
        rcases hm with hm | hm
        · rw [hm]
          exact ⟨_, rfl, by omega, by omega⟩
        · rw [hm]
          exact ⟨_, rfl, by omega, by omega⟩
      refine raw_asg (i := 7) (d := .int bent) (ed_ixL (ex_l (ex_lst (ea_cons (ed_mul (ed_var rfl) (ed_var rfl) hmul) (ea_cons (ed_sub ed_int (ed_mul (ed_var rfl) (ed_var rfl) hmul)) ea_nil)) (by simp))) (ed_mod (ed_var rfl) ed_int (by decide)) hbent) (I1.at7 (k := 0 + (i : Int)) (x + 1 + d1)) rfl fun vb G2 x2 ib s2 => ?_
      have evb : vb = .int bent := by cases ib; rfl
      subst evb
      have I2 := I1.ex x2
      refine ev_take (m := 40) rfl I2.hb (by decide) (by decide) (fun Q' q => q) fun d2 n2 G3 a3 a4 c3 hb3 => ?_
      refine ⟨_, rfl, _, rfl, x + 1 + d1, x + 1 + d1, rfl, rfl, hmul, ?_⟩
      refine ⟨_, rfl, _, rfl, x + 1 + d1, x + 1 + d1, rfl, rfl, hmul, ?_⟩
      refine ⟨9, (x + 1 + d1) * (x + 1 + d1), rfl, rfl, ?_⟩
      refine ⟨_, rfl, ?_⟩
      have I3 := I2.keeps c3 hb3
      refine ev_take (m := 6) rfl I3.hb (by decide) (by decide) (fun Q' q => q) fun d3 n3 G4 a5 a6 c4 hb4 => ?_
      have I4 := I3.keeps c4 hb4
      refine ⟨Evl.sz_of (by simp), fun t ht => ?_⟩
      obtain ⟨y0, hy0, yb1, yb2⟩ : ∃ y0, atI [V.int d2, .int ((x + 1 + d1) * (x + 1 + d1)), .int (9 - (x + 1 + d1) * (x + 1 + d1)), .int bent, .int d3] kind = some (.int y0) ∧ -600 ≤ y0 ∧ y0 ≤ 600 := by
        have hk : kind = 0 ∨ kind = 1 ∨ kind = 2 ∨ kind = 3 ∨ kind = 4 := by omega
        rcases hk with rfl | rfl | rfl | rfl | rfl
        · exact ⟨_, rfl, by omega, by omega⟩
        · exact ⟨_, rfl, by omega, by omega⟩
        · exact ⟨_, rfl, by omega, by omega⟩
        · exact ⟨_, rfl, by omega, by omega⟩
        · exact ⟨_, rfl, by omega, by omega⟩
      refine ⟨.int kind, rfl, t, _, kind, .int y0, rfl, rfl, SqL.of upd_same, hy0, ?_⟩
      have I5 := I4.ex (Ex.new (o := .lst [V.int d2, .int ((x + 1 + d1) * (x + 1 + d1)), .int (9 - (x + 1 + d1) * (x + 1 + d1)), .int bent, .int d3]) ht)
      refine ⟨fun m σ H' => ∃ y, m = cntP ps (x + 1 + d1, y) ∧ y0 ≤ y ∧ y + (m : Int) ≤ y0 + 100 ∧ σ = sg b (1 + dm) kind (x + 1 + d1) f (some (.int (0 + (i : Int)))) (some (.int bent)) (some (.int y)) ∧ ShI K H H' b f n3 x i ps, ⟨_, y0, rfl, Int.le_refl _, by have := cnt_few (ps := ps) (by omega) (x + 1 + d1, y0); omega, rfl, I5⟩, ?_⟩
      rintro m σ G6 ⟨y, rfl, hy1, hy2, rfl, I6⟩
      have hps : Smalls ps := fun p hp => by
        have := I6.low.pts p hp
        unfold Small
        omega
      have hsm : Small (x + 1 + d1, y) := by
        unfold Small
        dsimp only
        omega
      have g : f_law_free [.lst (ps.map prD), prD (x + 1 + d1, y)] (.bl (freeB ps (x + 1 + d1, y))) := ⟨ps, _, rfl, ⟨hps, hsm, by omega⟩, rfl⟩
      refine evT (td_not (td_B (ed_call (ea_cons (ed_var rfl) (ea_cons (ed_tup (ea_cons (ed_var rfl) (ea_cons (ed_var rfl) ea_nil)) (by simp)) ea_nil)) g))) (I6.at8 (x + 1 + d1)) fun G7 x7 => ?_
      have I7 := I6.ex x7
      cases hfb : freeB ps (x + 1 + d1, y) with
      | false =>
        have hless := cnt_less I7.low.inc hfb
        refine iteT ⟨fun σ' H' => ∃ m', m' < cntP ps (x + 1 + d1, y) ∧ ∃ y, m' = cntP ps (x + 1 + d1, y) ∧ y0 ≤ y ∧ y + (m' : Int) ≤ y0 + 100 ∧ σ' = sg b (1 + dm) kind (x + 1 + d1) f (some (.int (0 + (i : Int)))) (some (.int bent)) (some (.int y)) ∧ ShI K H H' b f n3 x i ps, fun σ' H' h => h, ?_⟩
        refine ⟨.int y, rfl, y, 1, rfl, rfl, ?_⟩
        exact ⟨_, hless, y + 1, rfl, by omega, by omega, rfl, I7⟩
      | true =>
        refine iteF ?_
        obtain ⟨xs, hf1, hf2⟩ := I7.hf
        refine ⟨.ref f, rfl, .inl ⟨rfl, xs, SqL.of hf1⟩, ?_⟩
        refine ⟨_, rfl, _, rfl, Evl.sz_of (by simp), fun t' ht' => ?_⟩
        have htf : t' ≠ f := fun e => by rw [e, hf1] at ht'; cases ht'
        have htb : t' ≠ b := fun e => by rw [e, I7.hb] at ht'; cases ht'
        refine ⟨f, xs, .ref t', rfl, rfl, by rw [upd_ne (Ne.symm htf)]; exact hf1, Evl.sz_lt (by rw [hf2.length, List.length_map]; omega), ?_⟩
        have hk : TupKeep G7 (upd (upd G7 t' (.tup [.int (x + 1 + d1), .int y])) f (.lst (xs ++ [.ref t']))) := fun p zs hp => by
          rw [upd_ne fun e => ?_, upd_ne fun e => ?_]
          · exact hp
          · rw [e, ht'] at hp
            cases hp
          · rw [e, hf1] at hp
            cases hp
        refine ⟨x + 1 + d1, _, _, _, ps ++ [(x + 1 + d1, y)], n3, rfl, ⟨fun p o hp hne => ?_, ?_, ⟨xs ++ [.ref t'], upd_same, ?_⟩, I7.f0, I7.fb, ?_, ?_, ?_⟩⟩
        · rw [upd_ne fun e => ?_, upd_ne fun e => ?_]
          · exact I7.cb p o hp hne
          · have := I7.cb p o hp hne
            rw [e, ht'] at this
            cases this
          · rw [e, I7.f0] at hp
            cases hp
        · rw [upd_ne (Ne.symm I7.fb), upd_ne (Ne.symm htb)]
          exact I7.hb
        · rw [List.map_append]
          refine (hf2.keep hk (pure_pts _)).snoc (.tup ?_ (.cons (.int _) (.cons (.int _) .nil)))
          rw [upd_ne htf, upd_same]
        · rw [List.length_append, List.length_singleton, I7.len]
        · omega
        · have := I7.low.app (d := 1 + d1) (y := y) (by omega) (by omega) (by omega) (by omega) (by rw [← Int.add_assoc]; exact hfb)
          rw [← Int.add_assoc] at this
          exact this
    · have ei : i = (1 + dm).toNat := by omega
      refine .inl ⟨by show (1 + dm).toNat ≤ i; omega, ?_⟩
      refine ev_take (m := 6) rfl I.hb (by decide) (by decide) (fun Q' q => q) fun d n4 G1 a1 a2 c1 hb1 => ?_
      refine ⟨rfl, ?_⟩
      have I1 := I.keeps c1 hb1
      have hln := I1.len
      have hxl := I1.xlo
      by_cases e5 : d = 5
      · subst e5
        refine ⟨_, rfl, ?_⟩
        rw [show decide (V.int 5 = V.int 5) = true from decide_eq_true rfl]
        refine iteT ?_
        have e12 : (10 : Int) ^ (12 : Int).toNat = 1000000000000 := by decide +kernel
        have e15 : (10 : Int) ^ (15 : Int).toNat = 1000000000000000 := by decide +kernel
        refine raw_asg (i := 5) (d := .lst ((ps.map scl).map prD)) (ex_d ?_) (I1.at0) rfl fun v2 G2 x2 i2 s2 => ?_
        · rw [List.map_map]
          refine ex_lcM ps prD (fun p => prD (scl p)) (n := ps.length) [4, 8] (dw_listN (ed_var rfl) (List.length_map _)) (fun i d _ h => y_map h) rfl (by omega) (by simp) fun p hp => ⟨_, tg_tup [4, 8] rfl rfl, ?_⟩
          have hp1 := I1.low.pts p hp
          refine ed_tup (ea_cons (ed_is (ed_mul (ed_var rfl) (ed_pow (i := 10) (j := 12) ed_int ed_int ⟨by decide, by decide, by decide⟩) (.inl ⟨by omega, by omega⟩)) (by rw [e12]; rfl)) (ea_cons (ed_is (ed_add (ed_mul (ed_var rfl) (ed_pow (i := 10) (j := 15) ed_int ed_int ⟨by decide, by decide, by decide⟩) (.inl ⟨by omega, by omega⟩)) ed_int) (by rw [e15]; rfl)) ea_nil)) (by simp)
        · refine evE (d := shD (ps.map scl)) (ed_tupL (ed_l (ed_var rfl))) s2 fun v3 G3 x3 i3 => ?_
          exact hQ v3 G3 (ps.map scl) n4 (I1.cb.trans (Cb.ex (x2.trans x3))) ((x2.trans x3) _ _ I1.hb) (I1.low.scale (by omega) (by omega) (by omega)) i3
      · refine ⟨_, rfl, ?_⟩
        rw [show decide (V.int d = V.int 5) = false from decide_eq_false fun e => e5 (by cases e; rfl)]
        refine iteF ?_
        refine evE (d := shD ps) (ed_tupL (ed_l (ed_var rfl))) (I1.at0) fun v3 G3 x3 i3 => ?_
        exact hQ v3 G3 ps n4 (I1.cb.trans (Cb.ex x3)) (x3 _ _ I1.hb) (I1.low.sh (by omega) (by omega) (by omega)) i3
end
end Bt

end BtO_part
section BtP_part
set_option Elab.async false
set_option linter.all false
set_option maxRecDepth 100000
set_option maxHeartbeats 4000000
namespace Bt
open PySem PySem.Spec PyProof.Rows L2 BtR
theorem sqL_ex {K : PySem.W.Frag} {H H' : Hp} {a : Addr} {xs : List V} (h : SqL K H a xs) (e : Ex H H') : SqL K H' a xs := by
  rcases h with (h | ⟨o, h⟩) | h
  · exact .inl (.inl (e _ _ h))
  · exact .inl (.inr ⟨o, e _ _ h⟩)
  · exact .inr h
theorem pre1E {K : PySem.W.Frag} {C : Addr} {s1 u : TS} {δ : List Fr} {E : Ends} {σ : L2.St} {H : Hp} {N : List Fr → Prop} (h : SD K C (tSeq s1 tNext) δ ⟨N, fun _ => False, fun _ => False, fun _ => False⟩) (s : At K C H σ δ) (hp : ∀ δ', N δ' → plain δ' = true)
    (k : ∀ δ' σ' H', N δ' → Ex H H' → At K C H' σ' δ' → u E σ' H') : tSeq s1 u E σ H := runE (E := { E with nx := u E }) h s hp k (fun _ _ _ z => z.elim) (fun _ z => z) fun _ z => z
section
variable {P : Program} {w : World} {K : PySem.W.Frag} {mg : Str → Option Value} {base : Heap}
def spBx (K : PySem.W.Frag) : Sp := fun vs H Q _ => ∃ (a : Addr) (ns : List Int) (k : Int), vs = [.ref a, .int k] ∧ SqL K H a (ns.map V.int) ∧ 0 ≤ k ∧ k ≤ 2 ∧ ∀ (n : Int) (p : Addr) (H' : Hp), Ex H H' → H p = none → H' p = some (.lst [.int n]) → Q (.ref p) H'
abbrev N_law_box : List Str := ["_law_script", "_law_k", "_law_here", "_law_number", "_law_j", "_law_part"]
theorem sc_law_box : FnScope N_law_box ["_law_script", "_law_k"] (defScope s_law_box) := ⟨rfl, rfl, rfl, by decide +kernel, rfl, by decide +kernel, by decide +kernel⟩
theorem calw_law_box (T : Tx K mg) : CalX P w K mg base 1 "_law_box" ["_law_script", "_law_k"] (spBx K) := by
  obtain ⟨fd, F⟩ := T.fd_law_box
  refine calXOf T.gl_law_box F (fun _ _ _ _ _ _ us hl => match us, hl with | [_, _], _ => rfl) (okX F sc_law_box (fun vs H Q E h => ?_) fun cdv A outer s H vs Q E hr h => ⟨_, 
    (pss_cons (ps_set (i := 2) sc_law_box.nd rfl (Or.inl rfl) (pe_op op_add (pe_op op_mul pe_int (pv 1)) pe_int))
    (pss_cons (ps_if (pt_cmpR op_lt (pv 1) (pe_callB call_len_seq (by rfl) (T.free_len) bb_len (pa_cons (pv 0) pa_nil)) (nomark _)) 
      (pss_cons (ps_set (i := 2) sc_law_box.nd rfl (Or.inl rfl) (pe_ix (ix_listK (K := K) rfl) (pv 0) (pv 1) (fun _ _ => rfl))) pss_nil) pss_nil)
    (pss_cons (ps_if (pt_cmpR op_eq (pe_op op_mod (pv 2) pe_int) pe_int (nomark _)) 
      (pss_cons (ps_ret (pe_lst (pa_cons (pe_op op_fdiv (pv 2) pe_int) pa_nil))) pss_nil) pss_nil)
    (pss_cons (ps_set (i := 3) sc_law_box.nd rfl (Or.inl rfl) pe_int)
    (pss_cons (ps_for PassesOwn.never rfl (pi_range1 (by rfl) T.free_range (pa_cons pe_int pa_nil)) (pg_name (i := 4) sc_law_box.nd rfl (Or.inl rfl)) 
      (pss_cons (ps_set (i := 5) sc_law_box.nd rfl (Or.inl rfl) (pe_op op_mod (pe_op op_add (pe_op op_add (pe_op op_mul (pe_op op_mod (pv 2) pe_int) pe_int) (pe_op op_mul pe_int (pv 4))) pe_int) pe_int))
      (pss_cons (ps_set (i := 5) sc_law_box.nd rfl (Or.inl rfl) (pe_op op_mod (pe_op op_mul (pv 5) (pv 5)) pe_int))
      (pss_cons (ps_set (i := 3) sc_law_box.nd rfl (Or.inl rfl) (pe_op op_add (pe_op op_mul (pv 3) pe_int) (pe_op op_mod (pe_op op_mul (pv 5) (pe_op op_add (pv 5) pe_int)) pe_int))) pss_nil))))
    (pss_cons (ps_ret (pe_lst (pa_cons (pv 3) pa_nil))) pss_nil)))))), ?_⟩)
  · obtain ⟨a, ns, k, rfl, _⟩ := h
    rfl
  · obtain ⟨a, ns, k, rfl, hS, hk1, hk2, hQ⟩ := h
    have s0 : At K (deskC K) H (L2.start N_law_box [.ref a, .int k]) [.un, .dat (.int k), .un, .un, .un, .un] := .cons True.intro (.cons ⟨_, rfl, .int _⟩ (.cons True.intro (.cons True.intro (.cons True.intro (.cons True.intro .nil)))))
    refine raw_asg (i := 2) (d := .int (7919 * k + 13)) (ed_add (ed_mul ed_int (ed_var rfl) (.inl ⟨by decide, by decide⟩)) ed_int) s0 rfl fun v1 H1 x1 i1 s1 => ?_
    obtain rfl : v1 = .int (7919 * k + 13) := by cases i1; rfl
    have hS1 := sqL_ex hS x1
    have fin : ∀ (te : TE) (n : Int) (σ : L2.St) (δ : List Fr) (H2 : Hp), Ex H H2 → At K (deskC K) H2 σ δ → ED K (deskC K) te δ (.int n) → tLst (tCons te tNil) σ H2 Q := fun te n σ δ H2 x2 s2 h => by
      refine evE h s2 fun v H3 x3 i3 => ⟨Evl.sz_of (by simp), fun p hp => ?_⟩
      obtain rfl : v = .int n := by cases i3; rfl
      have x23 := x2.trans x3
      exact hQ n p _ (x23.trans (Ex.new hp)) (x23.back hp) upd_same
    refine ⟨.int k, rfl, .ref a, rfl, a, ns.map V.int, rfl, .inl hS1, k, _, rfl, rfl, _, rfl, ?_⟩
    by_cases hlt : k < ((ns.map V.int).length : Int)
    · rw [decide_eq_true hlt]
      refine iteT ?_
      obtain ⟨kn, rfl⟩ : ∃ kn : Nat, k = (kn : Int) := ⟨k.toNat, by omega⟩
      have hlt2 : kn < ns.length := by
        rw [List.length_map] at hlt
        omega
      refine ⟨.ref a, rfl, .int kn, rfl, a, ns.map V.int, kn, .int ns[kn], rfl, rfl, hS1, atI_nat' (by rw [List.getElem?_map, List.getElem?_eq_getElem hlt2]; rfl), ?_⟩
      have sA : At K (deskC K) H1 [some (.ref a), some (.int kn), some (.int ns[kn]), none, none, none] [.un, .dat (.int kn), .dat (.int ns[kn]), .un, .un, .un] := .cons True.intro (.cons ⟨_, rfl, .int _⟩ (.cons ⟨_, rfl, .int _⟩ (.cons True.intro (.cons True.intro (.cons True.intro .nil)))))
      generalize ns[kn] = here at sA
      by_cases h2 : here % 2 = 0
      · refine raw_on (td_is (td_test (ed_eqI (ed_mod (ed_var rfl) ed_int (by decide)) ed_int)) (decide_eq_true h2)) sA rfl fun H2 x2 s2 => ?_
        exact fin _ (here / 2) _ _ H2 (x1.trans x2) s2 (ed_fdiv (ed_var rfl) ed_int ⟨by decide, by decide⟩)
      · refine raw_no (td_is (td_test (ed_eqI (ed_mod (ed_var rfl) ed_int (by decide)) ed_int)) (decide_eq_false h2)) sA rfl fun H2 x2 s2 => ?_
        refine raw_asg (i := 3) (d := .int 0) ed_int s2 rfl fun v3 H3 x3 i3 s3 => ?_
        refine pre1E (N := fun δ => ∃ n : Int, δ = [.un, .un, .dat (.int here), .dat (.int n), .un, .un]) ?_ s3 ?_ ?_
        · refine q_for (n := 16) (dw_r1 (n := 16) ed_int (by decide)) (fun i δ => ∃ n : Int, δ = [.un, .un, .dat (.int here), .dat (.int n), .un, .un]) (fun _ => False) ⟨0, rfl⟩ (.un (.un (.eq (.eq (.un (.un .nil)))))) ?_ ?_ (fun _ z => z.elim)
          · rintro i d δ1 hi rfl ⟨n, rfl⟩
            refine ⟨[4], _, tg_name, ?_⟩
            have b1 := Int.emod_nonneg here (show (2147483647 : Int) ≠ 0 by decide)
            have b2 := Int.emod_lt_of_pos here (show (0 : Int) < 2147483647 by decide)
            obtain ⟨p1, e1⟩ : ∃ p1, p1 = (here % 2147483647 * 48271 + 7919 * ((i : Nat) : Int) + 1) % 2147483647 := ⟨_, rfl⟩
            have b3 : 0 ≤ p1 := by rw [e1]; exact Int.emod_nonneg _ (by decide)
            have b4 : p1 < 2147483647 := by rw [e1]; exact Int.emod_lt_of_pos _ (by decide)
            refine q_asg (d := .int p1) (ed_is (ed_mod (ed_add (ed_add (ed_mul (ed_mod (ed_var rfl) ed_int (by decide)) ed_int (.inr ⟨by decide, by decide⟩)) (ed_mul ed_int (ed_var rfl) (.inl ⟨by decide, by decide⟩))) ed_int) ed_int (by decide)) (by rw [e1])) ?_
            obtain ⟨p2, e2⟩ : ∃ p2, p2 = p1 * p1 % 2147483629 := ⟨_, rfl⟩
            have b5 : 0 ≤ p2 := by rw [e2]; exact Int.emod_nonneg _ (by decide)
            have b6 : p2 < 2147483629 := by rw [e2]; exact Int.emod_lt_of_pos _ (by decide)
            refine q_asg (d := .int p2) (ed_is (ed_mod (ed_mul (ed_var rfl) (ed_var rfl) (.inl ⟨by omega, by omega⟩)) ed_int (by decide)) (by rw [e2])) ?_
            refine q_asg (ed_add (ed_mul (ed_var rfl) ed_int (.inr ⟨by decide, by decide⟩)) (ed_mod (ed_mul (ed_var rfl) (ed_add (ed_var rfl) ed_int) (.inl ⟨by omega, by omega⟩)) ed_int (by decide))) ?_
            exact sd_nx ⟨_, rfl⟩ (.eq (.eq (.eq (.eq (.un (.un .nil))))))
          · rintro δ1 ⟨n, rfl⟩
            exact sd_nx ⟨n, rfl⟩ Le.rfl
        · rintro δ' ⟨n, rfl⟩
          rfl
        · rintro δ' σ' H4 ⟨n, rfl⟩ x4 s4
          exact fin _ n _ _ H4 (((x1.trans x2).trans x3).trans x4) s4 (ed_var rfl)
    · rw [decide_eq_false hlt]
      refine iteF ?_
      have sA : At K (deskC K) H1 [some (.ref a), some (.int k), some (.int (7919 * k + 13)), none, none, none] [.un, .dat (.int k), .dat (.int (7919 * k + 13)), .un, .un, .un] := s1
      generalize 7919 * k + 13 = here at sA
      by_cases h2 : here % 2 = 0
      · refine raw_on (td_is (td_test (ed_eqI (ed_mod (ed_var rfl) ed_int (by decide)) ed_int)) (decide_eq_true h2)) sA rfl fun H2 x2 s2 => ?_
        exact fin _ (here / 2) _ _ H2 (x1.trans x2) s2 (ed_fdiv (ed_var rfl) ed_int ⟨by decide, by decide⟩)
      · refine raw_no (td_is (td_test (ed_eqI (ed_mod (ed_var rfl) ed_int (by decide)) ed_int)) (decide_eq_false h2)) sA rfl fun H2 x2 s2 => ?_
        refine raw_asg (i := 3) (d := .int 0) ed_int s2 rfl fun v3 H3 x3 i3 s3 => ?_
        refine pre1E (N := fun δ => ∃ n : Int, δ = [.un, .un, .dat (.int here), .dat (.int n), .un, .un]) ?_ s3 ?_ ?_
        · refine q_for (n := 16) (dw_r1 (n := 16) ed_int (by decide)) (fun i δ => ∃ n : Int, δ = [.un, .un, .dat (.int here), .dat (.int n), .un, .un]) (fun _ => False) ⟨0, rfl⟩ (.un (.un (.eq (.eq (.un (.un .nil)))))) ?_ ?_ (fun _ z => z.elim)
          · rintro i d δ1 hi rfl ⟨n, rfl⟩
            refine ⟨[4], _, tg_name, ?_⟩
            have b1 := Int.emod_nonneg here (show (2147483647 : Int) ≠ 0 by decide)
            have b2 := Int.emod_lt_of_pos here (show (0 : Int) < 2147483647 by decide)
            obtain ⟨p1, e1⟩ : ∃ p1, p1 = (here % 2147483647 * 48271 + 7919 * ((i : Nat) : Int) + 1) % 2147483647 := ⟨_, rfl⟩
            have b3 : 0 ≤ p1 := by rw [e1]; exact Int.emod_nonneg _ (by decide)
            have b4 : p1 < 2147483647 := by rw [e1]; exact Int.emod_lt_of_pos _ (by decide)
            refine q_asg (d := .int p1) (ed_is (ed_mod (ed_add (ed_add (ed_mul (ed_mod (ed_var rfl) ed_int (by decide)) ed_int (.inr ⟨by decide, by decide⟩)) (ed_mul ed_int (ed_var rfl) (.inl ⟨by decide, by decide⟩))) ed_int) ed_int (by decide)) (by rw [e1])) ?_
            obtain ⟨p2, e2⟩ : ∃ p2, p2 = p1 * p1 % 2147483629 := ⟨_, rfl⟩
            have b5 : 0 ≤ p2 := by rw [e2]; exact Int.emod_nonneg _ (by decide)
            have b6 : p2 < 2147483629 := by rw [e2]; exact Int.emod_lt_of_pos _ (by decide)
            refine q_asg (d := .int p2) (ed_is (ed_mod (ed_mul (ed_var rfl) (ed_var rfl) (.inl ⟨by omega, by omega⟩)) ed_int (by decide)) (by rw [e2])) ?_
            refine q_asg (ed_add (ed_mul (ed_var rfl) ed_int (.inr ⟨by decide, by decide⟩)) (ed_mod (ed_mul (ed_var rfl) (ed_add (ed_var rfl) ed_int) (.inl ⟨by omega, by omega⟩)) ed_int (by decide))) ?_
            exact sd_nx ⟨_, rfl⟩ (.eq (.eq (.eq (.eq (.un (.un .nil))))))
          · rintro δ1 ⟨n, rfl⟩
            exact sd_nx ⟨n, rfl⟩ Le.rfl
        · rintro δ' ⟨n, rfl⟩
          rfl
        · rintro δ' σ' H4 ⟨n, rfl⟩ x4 s4
          exact fin _ n _ _ H4 (((x1.trans x2).trans x3).trans x4) s4 (ed_var rfl)
end
end Bt

end BtP_part
section BtQ_part
set_option Elab.async false
set_option linter.all false
set_option maxRecDepth 100000
set_option maxHeartbeats 4000000
namespace Bt
/-! ## the outer ring is a ring: the plain law -/
theorem key_pos {X1 X2 X3 P R S : Int} (h1 : 0 < X1) (h2 : 0 < X2) (h3 : 0 < X3) (h : X2 * S = X1 * R + X3 * P) (hP : 0 < P) (hR : 0 < R) : 0 < S := by
  have a := Int.mul_pos h1 hR
  have b := Int.mul_pos h3 hP
  rcases Int.lt_or_le 0 S with z | z
  · exact z
  · have := Int.mul_nonpos_of_nonneg_of_nonpos (Int.le_of_lt h2) z
    omega
theorem key_neg {X1 X2 X3 P R S : Int} (h1 : 0 < X1) (h2 : 0 < X2) (h3 : 0 < X3) (h : X2 * S = X1 * R + X3 * P) (hP : P < 0) (hR : R < 0) : S < 0 := by
  have := key_pos (X1 := X1) (X2 := X2) (X3 := X3) (P := -P) (R := -R) (S := -S) h1 h2 h3 (by grind) (by omega) (by omega)
  omega
section
variable {ps : List Pt}
theorem up_cases (hS : Sh ps) {i j k : Nat} (hij : i < j) (hjk : j < k) (hk : k < ps.length) : (up ps i j k = true ∧ 0 < bndP (ix ps i) (ix ps j) (ix ps k)) ∨ (up ps i j k = false ∧ bndP (ix ps i) (ix ps j) (ix ps k) < 0) := by
  have h := hS.free i j k hij hjk hk
  by_cases e : 0 < bndP (ix ps i) (ix ps j) (ix ps k)
  · exact .inl ⟨decide_eq_true e, e⟩
  · exact .inr ⟨decide_eq_false e, by omega⟩
theorem four {a b c d : Pt} : ∃ X1 X2 X3 P R S : Int, X1 = b.1 - a.1 ∧ X2 = c.1 - b.1 ∧ X3 = d.1 - c.1 ∧ X2 * S = X1 * R + X3 * P ∧ bndP a b c = P ∧ bndP b c d = R ∧ bndP a b d = P + S ∧ bndP a c d = R + S := by
  refine ⟨b.1 - a.1, c.1 - b.1, d.1 - c.1, bndP a b c, bndP b c d, bndP a b d - bndP a b c, rfl, rfl, rfl, ?_, rfl, rfl, ?_, ?_⟩
  · unfold bndP
    grind
  · omega
  · unfold bndP
    grind
/-- a bend twice the same way -/
theorem sig1 (hS : Sh ps) {b : Bool} {i j k l : Nat} (hij : i < j) (hjk : j < k) (hkl : k < l) (hl : l < ps.length) (h1 : uB ps b i j k = true) (h2 : uB ps b j k l = true) : uB ps b i j l = true ∧ uB ps b i k l = true := by
  have h1 := of_decide_eq_true h1
  have h2 := of_decide_eq_true h2
  have x1 := inc_ix hS.inc hij (by omega)
  have x2 := inc_ix hS.inc hjk (by omega)
  have x3 := inc_ix hS.inc hkl hl
  obtain ⟨X1, X2, X3, P, R, S, e1, e2, e3, hk, b1, b2, b3, b4⟩ := four (a := ix ps i) (b := ix ps j) (c := ix ps k) (d := ix ps l)
  unfold uB
  rcases up_cases hS hij hjk (by omega) with ⟨u1, p1⟩ | ⟨u1, p1⟩
  · rcases up_cases hS hjk hkl hl with ⟨u2, p2⟩ | ⟨u2, p2⟩
    · have := key_pos (by omega) (by omega) (by omega) hk (by omega) (by omega)
      have hb : b = true := by rw [← h1, u1]
      subst hb
      exact ⟨decide_eq_true (decide_eq_true (by omega)), decide_eq_true (decide_eq_true (by omega))⟩
    · rw [u1] at h1
      rw [u2, ← h1] at h2
      cases h2
  · rcases up_cases hS hjk hkl hl with ⟨u2, p2⟩ | ⟨u2, p2⟩
    · rw [u1] at h1
      rw [u2, ← h1] at h2
      cases h2
    · have := key_neg (by omega) (by omega) (by omega) hk (by omega) (by omega)
      have hb : b = false := by rw [← h1, u1]
      subst hb
      exact ⟨decide_eq_true (decide_eq_false (by omega)), decide_eq_true (decide_eq_false (by omega))⟩
theorem sig2 (hS : Sh ps) {b : Bool} {i j k l : Nat} (hij : i < j) (hjk : j < k) (hkl : k < l) (hl : l < ps.length) (h1 : uB ps b i j k = false) (h2 : uB ps b i k l = false) : uB ps b i j l = false := by
  have h1 := of_decide_eq_false h1
  have h2 := of_decide_eq_false h2
  have x1 := inc_ix hS.inc hij (by omega)
  have x2 := inc_ix hS.inc hjk (by omega)
  have x3 := inc_ix hS.inc hkl hl
  obtain ⟨X1, X2, X3, P, R, S, e1, e2, e3, hk, b1, b2, b3, b4⟩ := four (a := ix ps i) (b := ix ps j) (c := ix ps k) (d := ix ps l)
  have hk2 : (X1 + X2) * S = X1 * (R + S) + X3 * P := by grind
  unfold uB
  rcases up_cases hS hij hjk (by omega) with ⟨u1, p1⟩ | ⟨u1, p1⟩
  · rcases up_cases hS (Nat.lt_trans hij hjk) hkl hl with ⟨u2, p2⟩ | ⟨u2, p2⟩
    · have := key_pos (X1 := X1) (X2 := X1 + X2) (X3 := X3) (by omega) (by omega) (by omega) hk2 (by omega) (by omega)
      refine decide_eq_false fun e => h1 ?_
      have : up ps i j l = true := decide_eq_true (by omega)
      rw [u1, ← e, this]
    · exact absurd (by cases b with
        | true => exact .inl u1
        | false => exact .inr u2) (show ¬ (up ps i j k = b ∨ up ps i k l = b) from fun z => z.elim h1 h2)
  · rcases up_cases hS (Nat.lt_trans hij hjk) hkl hl with ⟨u2, p2⟩ | ⟨u2, p2⟩
    · exact absurd (by cases b with
        | true => exact .inr u2
        | false => exact .inl u1) (show ¬ (up ps i j k = b ∨ up ps i k l = b) from fun z => z.elim h1 h2)
    · have := key_neg (X1 := X1) (X2 := X1 + X2) (X3 := X3) (by omega) (by omega) (by omega) hk2 (by omega) (by omega)
      refine decide_eq_false fun e => h1 ?_
      have : up ps i j l = false := decide_eq_false (by omega)
      rw [u1, ← e, this]
/-- chains bend all along -/
theorem ch_first (hS : Sh ps) {b : Bool} : ∀ (l : List Nat) (a c : Nat), Ch (uB ps b) (a :: c :: l) → (∀ x ∈ a :: c :: l, x < ps.length) → ∀ x ∈ l, uB ps b a c x = true
  | [], _, _, _, _, x, hx => by cases hx
  | d :: l, a, c, h, hm, x, hx => by
    have hr := Ch_rise h
    have hr1 := List.pairwise_cons.mp hr
    have hr2 := List.pairwise_cons.mp hr1.2
    rcases List.mem_cons.mp hx with rfl | hx
    · exact h.2.1
    · have ih := ch_first hS l c d h.2.2 (fun y hy => hm y (List.mem_cons_of_mem _ hy)) x hx
      have hr3 := List.pairwise_cons.mp hr2.2
      exact (sig1 hS (hr1.1 c (by simp)) (hr2.1 d (by simp)) (hr3.1 x hx) (hm x (by simp [hx])) h.2.1 ih).1
theorem ch_all (hS : Sh ps) {b : Bool} : ∀ (l : List Nat) (a c : Nat), Ch (uB ps b) (a :: c :: l) → (∀ x ∈ a :: c :: l, x < ps.length) → (c :: l).Pairwise fun x y => uB ps b a x y = true
  | [], _, _, _, _ => List.pairwise_singleton _ _
  | d :: l, a, c, h, hm => by
    have hr := Ch_rise h
    have hr1 := List.pairwise_cons.mp hr
    have hr2 := List.pairwise_cons.mp hr1.2
    have hf := ch_first hS (d :: l) a c h hm
    have ih := ch_all hS l c d h.2.2 fun y hy => hm y (List.mem_cons_of_mem _ hy)
    refine List.pairwise_cons.mpr ⟨hf, ?_⟩
    refine (ih.and hr2.2).imp_of_mem fun {x y} hx hy hxy => ?_
    exact (sig1 hS (hr1.1 c (by simp)) (hr2.1 x hx) hxy.2 (hm y (List.mem_cons_of_mem _ (List.mem_cons_of_mem _ hy))) (hf x hx) hxy.1).2
theorem ch_ends (hS : Sh ps) {b : Bool} {a z : Nat} {mid : List Nat} (h : Ch (uB ps b) (a :: (mid ++ [z]))) (hm : ∀ x ∈ a :: (mid ++ [z]), x < ps.length) : ∀ x ∈ mid, uB ps b a x z = true := fun x hx => by
  match mid, hx with
  | c :: l, hx =>
    have := ch_all hS (l ++ [z]) a c h hm
    have h2 : ((c :: l) ++ [z]).Pairwise fun x y => uB ps b a x y = true := this
    exact (List.pairwise_append.mp h2).2.2 x hx z (by simp)
end
/-! ### the stack -/
section
variable {U : Nat → Nat → Nat → Bool}
theorem Ch_init : ∀ {pre : List Nat} {x : Nat}, Ch U (pre ++ [x]) → Ch U pre
  | [], _, _ => trivial
  | [a], _, _ => trivial
  | [a, b], x, h => h.1
  | a :: b :: c :: r, x, h => ⟨h.1, h.2.1, Ch_init (pre := b :: c :: r) h.2.2⟩
theorem popR_ch {k : Nat} : ∀ {s : List Nat}, Ch U s.reverse → Ch U (popR U k s).reverse
  | [], h => h
  | [x], h => h
  | l :: m :: r, h => by
    show Ch U (if U m l k = true then l :: m :: r else popR U k (m :: r)).reverse
    split
    · exact h
    · rw [List.reverse_cons] at h
      exact popR_ch (Ch_init h)
theorem popR_top {k : Nat} : ∀ {s : List Nat} {l m : Nat} {r : List Nat}, popR U k s = l :: m :: r → U m l k = true
  | [], _, _, _, h => by cases h
  | [x], _, _, _, h => by cases h
  | a :: b :: t, l, m, r, h => by
    have e : popR U k (a :: b :: t) = if U b a k = true then a :: b :: t else popR U k (b :: t) := rfl
    rw [e] at h
    split at h
    · rename_i hu
      cases h
      exact hu
    · exact popR_top h
theorem stk_ch : ∀ k, Ch U (stk U k).reverse
  | 0 => trivial
  | k + 1 => by
    have ih := popR_ch (k := k) (stk_ch k)
    have hlt : ∀ x ∈ popR U k (stk U k), x < k := fun x hx => stk_lt U k x ((popR_sub U k _).subset hx)
    show Ch U (k :: popR U k (stk U k)).reverse
    rcases hp : popR U k (stk U k) with _ | ⟨l, _ | ⟨m, r⟩⟩
    · trivial
    · rw [hp] at hlt
      exact hlt l (by simp)
    · rw [hp] at ih hlt
      have e1 : (l :: m :: r).reverse = r.reverse ++ [m, l] := by simp
      have e2 : (k :: l :: m :: r).reverse = r.reverse ++ [m, l, k] := by simp
      rw [e2]
      rw [e1] at ih
      exact Ch_snoc (popR_top hp) (hlt l (by simp)) ih
theorem popR_form {k s : Nat} : ∀ q : List Nat, (popR U k (q ++ [s, 0]) = [0] ∧ U 0 s k = false) ∨ ∃ q', popR U k (q ++ [s, 0]) = q' ++ [s, 0]
  | [] => by
    have e : popR U k ([] ++ [s, 0]) = if U 0 s k = true then [s, 0] else popR U k [0] := rfl
    rw [e]
    split
    · exact .inr ⟨[], rfl⟩
    · rename_i h
      exact .inl ⟨rfl, by simpa using h⟩
  | l :: q => by
    have ih := popR_form (k := k) (s := s) q
    obtain ⟨m, r, hmr⟩ : ∃ m r, q ++ [s, 0] = m :: r := by
      cases q with
      | nil => exact ⟨s, [0], rfl⟩
      | cons a t => exact ⟨a, t ++ [s, 0], rfl⟩
    have e : popR U k (l :: q ++ [s, 0]) = if U m l k = true then l :: q ++ [s, 0] else popR U k (q ++ [s, 0]) := by
      rw [List.cons_append, hmr]
      rfl
    rw [e]
    split
    · exact .inr ⟨l :: q, rfl⟩
    · exact ih
end
section
variable {ps : List Pt}
/-- the second place of an outer row -/
theorem stk_second (hS : Sh ps) (b : Bool) : ∀ k, 2 ≤ k → k ≤ ps.length → ∃ q s, stk (uB ps b) k = q ++ [s, 0] ∧ s < k ∧ (s = 1 ∨ (1 < s ∧ uB ps b 0 1 s = false))
  | 0, h, _ => by omega
  | 1, h, _ => by omega
  | 2, _, _ => ⟨[], 1, rfl, by decide, .inl rfl⟩
  | k + 3, _, hk => by
    obtain ⟨q, s, e, h1, h2⟩ := stk_second hS b (k + 2) (by omega) (by omega)
    have e2 : stk (uB ps b) (k + 3) = (k + 2) :: popR (uB ps b) (k + 2) (stk (uB ps b) (k + 2)) := rfl
    rw [e2, e]
    rcases popR_form (U := uB ps b) (k := k + 2) (s := s) q with ⟨h3, h4⟩ | ⟨q', h3⟩
    · rw [h3]
      refine ⟨[], k + 2, rfl, by omega, .inr ⟨by omega, ?_⟩⟩
      rcases h2 with rfl | ⟨h5, h6⟩
      · exact h4
      · exact sig2 hS (by omega) h5 (by omega) (by omega) h6 h4
    · rw [h3]
      exact ⟨(k + 2) :: q', s, rfl, by omega, h2⟩
/-- an outer row -/
theorem out_form (hS : Sh ps) (h3 : 3 ≤ ps.length) (b : Bool) : ∃ mid, outR ps b = 0 :: (mid ++ [ps.length - 1]) ∧ Ch (uB ps b) (0 :: (mid ++ [ps.length - 1])) ∧ (∀ x ∈ 0 :: (mid ++ [ps.length - 1]), x < ps.length) ∧ (mid = [] → uB ps b 0 1 (ps.length - 1) = false) := by
  obtain ⟨n, hn⟩ : ∃ n, ps.length = n + 1 := ⟨ps.length - 1, by omega⟩
  obtain ⟨q, s, e, h1, h2⟩ := stk_second hS b (n + 1) (by omega) (by omega)
  have e2 : stk (uB ps b) (n + 1) = n :: popR (uB ps b) n (stk (uB ps b) n) := rfl
  have hc := stk_ch (U := uB ps b) (n + 1)
  have hlt : ∀ x ∈ outR ps b, x < ps.length := fun x hx => outR_lt hx
  have eo : outR ps b = (stk (uB ps b) (n + 1)).reverse := by rw [outR, hn]
  have en : ps.length - 1 = n := by omega
  rw [en]
  cases q with
  | nil =>
    have es : s = n := by
      rw [e2] at e
      have := congrArg List.head? e
      simpa using this.symm
    subst es
    refine ⟨[], ?_, ?_, ?_, fun _ => ?_⟩
    · rw [eo, e]
      rfl
    · rw [e] at hc
      exact hc
    · rw [eo, e] at hlt
      exact hlt
    · rcases h2 with h2 | h2
      · omega
      · exact h2.2
  | cons t q =>
    have et : t = n := by
      rw [e2] at e
      have := congrArg List.head? e
      simpa using this.symm
    subst et
    have er : (stk (uB ps b) (t + 1)).reverse = 0 :: ((s :: q.reverse) ++ [t]) := by
      rw [e]
      simp
    refine ⟨s :: q.reverse, ?_, ?_, ?_, fun z => by cases z⟩
    · rw [eo, er]
    · rw [er] at hc
      exact hc
    · rw [eo, er] at hlt
      exact hlt
theorem rise_eq : ∀ {a b : List Nat}, a.Pairwise (· < ·) → b.Pairwise (· < ·) → (∀ k, k ∈ a ↔ k ∈ b) → a = b := fun ha hb h => by
  have hnd : ∀ {l : List Nat}, l.Pairwise (· < ·) → l.Nodup := fun hl => hl.imp fun h => Nat.ne_of_lt h
  have hp := (List.perm_ext_iff_of_nodup (hnd ha) (hnd hb)).mpr h
  exact List.Perm.eq_of_pairwise (fun a b _ _ h1 h2 => absurd (Nat.lt_trans h1 h2) (Nat.lt_irrefl _)) ha hb hp
/-- the outer ring -/
theorem out_ring (hS : Sh ps) (h3 : 3 ≤ ps.length) : ∃ mid, outP ps = 0 :: (mid ++ [ps.length - 1]) ∧ mid ≠ [] ∧ Rise ps.length (0 :: (mid ++ [ps.length - 1])) ∧ ringB ps 0 mid (ps.length - 1) = true := by
  obtain ⟨ma, ea, ca, la, fa⟩ := out_form hS h3 true
  obtain ⟨mb, eb, cb, lb, fb⟩ := out_form hS h3 false
  have ra := Ch_rise ca
  have rb := Ch_rise cb
  have pa := List.pairwise_cons.mp ra
  have pb := List.pairwise_cons.mp rb
  have qa := List.pairwise_append.mp pa.2
  have qb := List.pairwise_append.mp pb.2
  have ia : ∀ x ∈ ma, 0 < x ∧ x < ps.length - 1 := fun x hx => ⟨pa.1 x (by simp [hx]), qa.2.2 x hx _ (by simp)⟩
  have ib : ∀ x ∈ mb, 0 < x ∧ x < ps.length - 1 := fun x hx => ⟨pb.1 x (by simp [hx]), qb.2.2 x hx _ (by simp)⟩
  have ua := ch_ends hS ca la
  have ub := ch_ends hS cb lb
  have h7 := hS.le
  let mid := (List.range ps.length).filter fun x => decide (x ∈ ma ∨ x ∈ mb)
  have hmid : ∀ x, x ∈ mid ↔ x ∈ ma ∨ x ∈ mb := fun x => by
    simp only [mid, List.mem_filter, List.mem_range, decide_eq_true_eq]
    refine ⟨fun h => h.2, fun h => ⟨?_, h⟩⟩
    rcases h with h | h
    · have := ia x h
      omega
    · have := ib x h
      omega
  have rmid : mid.Pairwise (· < ·) := List.Pairwise.filter _ List.pairwise_lt_range
  have imid : ∀ x ∈ mid, 0 < x ∧ x < ps.length - 1 := fun x hx => by
    rcases (hmid x).mp hx with h | h
    · exact ia x h
    · exact ib x h
  have rall : (0 :: (mid ++ [ps.length - 1])).Pairwise (· < ·) := by
    refine List.pairwise_cons.mpr ⟨fun x hx => ?_, List.pairwise_append.mpr ⟨rmid, List.pairwise_singleton _ _, fun x hx y hy => ?_⟩⟩
    · rcases List.mem_append.mp hx with hx | hx
      · exact (imid x hx).1
      · rw [List.mem_singleton.mp hx]
        omega
    · rw [List.mem_singleton.mp hy]
      exact (imid x hx).2
  have eo : outP ps = 0 :: (mid ++ [ps.length - 1]) := by
    refine rise_eq (setP_rise _ _) rall fun k => ?_
    unfold outP
    rw [setP_mem, ea, eb]
    simp only [List.mem_append, List.mem_cons, List.not_mem_nil, or_false, hmid]
    constructor
    · rintro ⟨_, (h | h | h) | (h | h | h)⟩
      · exact .inl h
      · exact .inr (.inl (.inl h))
      · exact .inr (.inr h)
      · exact .inl h
      · exact .inr (.inl (.inr h))
      · exact .inr (.inr h)
    · rintro (h | (h | h) | h)
      · exact ⟨by omega, .inl (.inl h)⟩
      · exact ⟨by have := ia k h; omega, .inl (.inr (.inl h))⟩
      · exact ⟨by have := ib k h; omega, .inr (.inr (.inl h))⟩
      · exact ⟨by omega, .inl (.inr (.inr h))⟩
  have sd : ∀ (b : Bool) (m m' : List Nat), (∀ x ∈ m, uB ps b 0 x (ps.length - 1) = true) → (∀ x ∈ m', uB ps (!b) 0 x (ps.length - 1) = true) → (∀ x, x ∈ mid ↔ x ∈ m ∨ x ∈ m') → m.Pairwise (· < ·) → sideL ps 0 mid (ps.length - 1) b = 0 :: (m ++ [ps.length - 1]) := fun b m m' h1 h2 h4 h5 => by
    unfold sideL
    congr 2
    refine rise_eq (rmid.filter _) h5 fun k => ?_
    rw [List.mem_filter, h4]
    refine ⟨fun h => ?_, fun h => ⟨.inl h, h1 k h⟩⟩
    rcases h.1 with z | z
    · exact z
    · have e1 := of_decide_eq_true (h2 k z)
      have e2 := of_decide_eq_true h.2
      rw [e2] at e1
      cases b <;> cases e1
  refine ⟨mid, eo, fun z => ?_, ⟨rall, fun x hx => ?_, ?_⟩, ?_⟩
  · have za : ma = [] := by
      cases hma : ma with
      | nil => rfl
      | cons c r =>
        have : c ∈ mid := (hmid c).mpr (.inl (by rw [hma]; simp))
        rw [z] at this
        cases this
    have zb : mb = [] := by
      cases hma : mb with
      | nil => rfl
      | cons c r =>
        have : c ∈ mid := (hmid c).mpr (.inr (by rw [hma]; simp))
        rw [z] at this
        cases this
    have f1 := of_decide_eq_false (fa za)
    have f2 := of_decide_eq_false (fb zb)
    cases hu : up ps 0 1 (ps.length - 1)
    · exact f2 hu
    · exact f1 hu
  · rw [← eo] at hx
    exact (setP_mem.mp hx).1
  · have := rise_len (k := 0) (n := ps.length) rall fun x hx => ⟨Nat.zero_le _, by
      rw [← eo] at hx
      exact (setP_mem.mp hx).1⟩
    omega
  · unfold ringB
    rw [sd true ma mb ua ub hmid qa.1, sd false mb ma ub ua (fun x => by rw [hmid]; exact or_comm) qb.1, Ch_bends ca, Ch_bends cb]
    rfl
end
/-! ### parts of a sheet, told one behind another -/
theorem ix_take {ps : List Pt} {m i : Nat} (h : i < m) (h2 : i < ps.length) : ix (ps.take m) i = ix ps i := by
  have h1 := ix_get (ps := ps.take m) (i := i) (by rw [List.length_take]; omega)
  rw [List.getElem?_take_of_lt h, ix_get h2] at h1
  exact (Option.some.inj h1).symm
theorem ix_drop {ps : List Pt} {m i : Nat} (h : m + i < ps.length) : ix (ps.drop m) i = ix ps (m + i) := by
  have h1 := ix_get (ps := ps.drop m) (i := i) (by rw [List.length_drop]; omega)
  rw [List.getElem?_drop, ix_get h] at h1
  exact (Option.some.inj h1).symm
theorem place_none {ps : List Pt} {x : Int} (h : ∀ p ∈ ps, p.1 ≠ x) : placeP ps x = none := by
  have : placeL ps x = [] := List.filter_eq_nil_iff.mpr fun i hi => by
    have := h _ (ix_mem (List.mem_range.mp hi))
    simpa using this
  unfold placeP
  rw [this]
  rfl
theorem place_some {ps : List Pt} (hi : ps.Pairwise fun p q => p.1 < q.1) {k : Nat} (hk : k < ps.length) : placeP ps (ix ps k).1 = some k := by
  have hm : k ∈ placeL ps (ix ps k).1 := List.mem_filter.mpr ⟨List.mem_range.mpr hk, decide_eq_true rfl⟩
  unfold placeP
  cases hp : placeL ps (ix ps k).1 with
  | nil => rw [hp] at hm; cases hm
  | cons j r =>
    have hj : j ∈ placeL ps (ix ps k).1 := by rw [hp]; exact List.mem_cons_self
    have h2 := List.mem_filter.mp hj
    have h3 := List.mem_range.mp h2.1
    have h4 := of_decide_eq_true h2.2
    have : j = k := by
      rcases Nat.lt_trichotomy j k with z | z | z
      · have := inc_ix hi z hk
        omega
      · exact z
      · have := inc_ix hi z h3
        omega
    rw [this]
    rfl
theorem steps_on {ps : List Pt} (hS : Sh ps) : Steps ps fun k => ps.take k := by
  have hle := hS.le
  refine ⟨rfl, fun k p hp => ?_⟩
  have hk : k < ps.length := (List.getElem?_eq_some_iff.mp hp).1
  have htk : ps.take (k + 1) = ps.take k ++ [p] := by rw [List.take_add_one, hp]; rfl
  have hi : (ps.take (k + 1)).Pairwise fun p q => p.1 < q.1 := hS.inc.sublist (List.take_sublist _ _)
  refine ⟨by rw [List.length_take]; omega, place_none fun q hq => ?_, by rw [htk], hi, fun q hq => hS.small q ((List.take_sublist _ _).subset hq), fun a b c hab hbc hc => ?_, hS.small p (List.mem_of_getElem? hp)⟩
  · rw [htk] at hi
    have := (List.pairwise_append.mp hi).2.2 q hq p (by simp)
    omega
  · rw [List.length_take] at hc
    rw [ix_take (by omega) (by omega), ix_take (by omega) (by omega), ix_take (by omega) (by omega)]
    exact hS.free a b c hab hbc (by omega)
theorem steps_back {ps : List Pt} (hS : Sh ps) : Steps ps.reverse fun k => ps.drop (ps.length - k) := by
  have hle := hS.le
  refine ⟨by simp, fun k p hp => ?_⟩
  have hk : k < ps.length := by
    have := (List.getElem?_eq_some_iff.mp hp).1
    rwa [List.length_reverse] at this
  rw [List.getElem?_reverse hk] at hp
  have hd : ps.drop (ps.length - (k + 1)) = p :: ps.drop (ps.length - k) := by
    have e : ps.length - 1 - k = ps.length - (k + 1) := by omega
    rw [e] at hp
    rw [List.drop_eq_getElem_cons (by omega : ps.length - (k + 1) < ps.length)]
    rw [List.getElem?_eq_getElem (by omega : ps.length - (k + 1) < ps.length)] at hp
    rw [Option.some.inj hp]
    congr 2
    omega
  have hi : (ps.drop (ps.length - (k + 1))).Pairwise fun p q => p.1 < q.1 := hS.inc.sublist (List.drop_sublist _ _)
  refine ⟨by rw [List.length_drop]; omega, place_none fun q hq => ?_, ?_, hi, fun q hq => hS.small q ((List.drop_sublist _ _).subset hq), fun a b c hab hbc hc => ?_, hS.small p (List.mem_of_getElem? hp)⟩
  · rw [hd] at hi
    have := (List.pairwise_cons.mp hi).1 q hq
    omega
  · rw [hd]
    exact (List.perm_append_singleton p _).symm
  · rw [List.length_drop] at hc
    rw [ix_drop (by omega), ix_drop (by omega), ix_drop (by omega)]
    exact hS.free _ _ _ (by omega) (by omega) (by omega)
end Bt

end BtQ_part
section BtZ_part
set_option Elab.async false
set_option linter.all false
set_option maxRecDepth 100000
set_option maxHeartbeats 4000000
namespace Bt
open PySem PySem.Spec PyProof.Rows L2 BtR
/-! ### answers are texts of points -/
def Lo (z : Str) : Prop := ∀ c ∈ TL.tl z, c < 128
theorem Lo.ok {z : Str} (h : Lo z) : PyData.strOk z = true := by
  unfold PyData.strOk
  rw [← Array.all_toList, List.all_eq_true]
  intro c hc
  have := h c hc
  exact decide_eq_true (by omega)
theorem lo_itx (i : Int) : Lo (itx i) := fun c hc => by
  rw [tl_itx] at hc
  unfold dig at hc
  split at hc
  · rcases List.mem_cons.mp hc with rfl | hc
    · decide
    · have := TL.numL_digits _ c hc
      omega
  · have := TL.numL_digits _ c hc
    omega
theorem lo_app {a b : Str} (ha : Lo a) (hb : Lo b) : Lo (a ++ b) := fun c hc => by
  rw [TL.tl_append] at hc
  rcases List.mem_append.mp hc with hc | hc
  · exact ha c hc
  · exact hb c hc
theorem lo_joinL {s : List Nat} (hs : ∀ c ∈ s, c < 128) : ∀ {ys : List (List Nat)}, (∀ y ∈ ys, ∀ c ∈ y, c < 128) → ∀ c ∈ TL.joinL s ys, c < 128
  | [], _, c, hc => by simp [TL.joinL] at hc
  | [y], h, c, hc => h y (by simp) c hc
  | y :: z :: r, h, c, hc => by
    have hc : c ∈ y ++ (s ++ TL.joinL s (z :: r)) := hc
    rcases List.mem_append.mp hc with hc | hc
    · exact h y (by simp) c hc
    · rcases List.mem_append.mp hc with hc | hc
      · exact hs c hc
      · exact lo_joinL hs (fun x hx => h x (List.mem_cons_of_mem _ hx)) c hc
theorem lo_join {ys : List Str} (h : ∀ y ∈ ys, Lo y) : Lo (Txt.join " " ys) := fun c hc => by
  rw [TL.join_eq, TL.tl_join, tl_sp] at hc
  refine lo_joinL (by decide) (fun y hy => ?_) c hc
  obtain ⟨q, hq, rfl⟩ := List.mem_map.mp hy
  exact h q hq
theorem lo_lit : Lo "none" ∧ Lo "," ∧ Lo "yes" ∧ Lo "no" := by
  refine ⟨?_, ?_, ?_, ?_⟩ <;> (unfold Lo; decide +kernel)
theorem lo_opt : ∀ o : Option (List Nat), Lo (optTx o)
  | none => lo_lit.1
  | some r => lo_join fun y hy => by
    obtain ⟨n, _, rfl⟩ := List.mem_map.mp hy
    exact lo_itx _
theorem lo_row (r : List Nat) : Lo (rowTx r) := lo_opt (some r)
theorem lo_sh (ps : List Pt) : Lo (shTx ps) := lo_join fun y hy => by
  obtain ⟨p, _, rfl⟩ := List.mem_map.mp hy
  exact lo_app (lo_app (lo_itx _) lo_lit.2.1) (lo_itx _)
theorem lo_noYes (b : Bool) : Lo (noYes b) := by
  cases b
  · exact lo_lit.2.2.2
  · exact lo_lit.2.2.1
theorem lo_ans (ps : List Pt) : ∀ k, Lo (ansP ps k)
  | 0 => lo_sh ps
  | 1 => lo_opt _
  | 2 => lo_opt _
  | 3 => by
    show Lo (if _ then _ else _)
    split
    · exact lo_lit.1
    · exact lo_itx _
  | 4 => by
    show Lo (if _ then _ else _)
    split
    · exact lo_lit.1
    · exact lo_row _
  | 5 => lo_itx _
  | 6 => lo_itx _
  | 7 => lo_itx _
  | 8 => lo_noYes _
  | _ + 9 => lo_noYes _
theorem ok_ans (ps : List Pt) : ∀ z ∈ ansL ps, PyData.strOk z = true := fun z hz => by
  obtain ⟨k, _, rfl⟩ := List.mem_map.mp hz
  exact (lo_ans ps k).ok
theorem ans_at {ps : List Pt} {k : Nat} (h : k < 10) : atI ((ansL ps).map D.str) (k : Int) = some (.str (ansP ps k)) := atI_nat' (by
  unfold ansL
  rw [List.getElem?_map, List.getElem?_map, List.getElem?_range h]
  rfl)
theorem ans_len (ps : List Pt) : ((ansL ps).map D.str).length = 10 := by simp [ansL]
/-! ### heaps of the law -/
section
variable {P : Program} {w : World} {K : PySem.W.Frag} {mg : Str → Option Value} {base : Heap}
theorem ev_make {σ : L2.St} {H : Hp} {Q : VK} {E : XK} (k : ∀ a q H', Ex H H' → H a = none → H q = none → DeskAt K (deskC K) H' a q [] [] → Q (.ref a) H') : tMake (deskC K) (spI K) [] E tNil σ H Q := fun a dx h1 h2 h3 => by
  refine ⟨a, dx, rfl, upd_same, fun q H' hq c d => ⟨rfl, k a q H' (fun p o hp => ?_) h1 ?_ d⟩⟩
  · have e1 : p ≠ a := fun e => by rw [e, h1] at hp; cases hp
    have e2 : p ≠ dx := fun e => by rw [e, h2] at hp; cases hp
    exact c p o (by rw [upd_ne e1, upd_ne e2]; exact hp) e1
  · have e1 : q ≠ a := fun e => by rw [e, upd_same] at hq; cases hq
    have e2 : q ≠ dx := fun e => by
      rw [e, upd_ne h3, upd_same] at hq
      cases hq
    rw [upd_ne e1, upd_ne e2] at hq
    exact hq
theorem par_make {i j : Nat} {D : Ends} {σ : L2.St} {H : Hp} (k : ∀ a1 q1 G3, Ex H G3 → H a1 = none → H q1 = none → DeskAt K (deskC K) G3 a1 q1 [] [] → ∀ a2 q2 G4, Ex G3 G4 → G3 a2 = none → G3 q2 = none → DeskAt K (deskC K) G4 a2 q2 [] [] → D.nx ((σ.set i (some (.ref a1))).set j (some (.ref a2))) G4) :
    tPar i j (tCons (tMake (deskC K) (spI K) [] E0 tNil) (tCons (tMake (deskC K) (spI K) [] E0 tNil) tNil)) D σ H := by
  show tMake (deskC K) (spI K) [] E0 tNil σ H fun x H1 => tMake (deskC K) (spI K) [] E0 tNil σ H1 fun y H2 => ∃ v w, [x, y] = [v, w] ∧ D.nx ((σ.set i (some v)).set j (some w)) H2
  exact ev_make fun a1 q1 G3 x3 ha1 hq1 d1 => ev_make fun a2 q2 G4 x4 ha2 hq2 d2 => ⟨_, _, rfl, k a1 q1 G3 x3 ha1 hq1 d1 a2 q2 G4 x4 ha2 hq2 d2⟩
theorem mut_call {tr : TA} {δ : List Fr} {σ : L2.St} {H : Hp} {a q : Addr} {ps ps' : List Pt} {pst pst' : List (List Pt)} {ds : List D} {d : D} {g : Gm} {Q : VK} {i : Nat} {E : XK} {C : Addr} (s : At K C H σ δ) (hd : DeskAt K C H a q ps pst) (hi : σ[i]? = some (some (.ref a)))
    (h : EA K C tr δ ds) (hg : g ps pst ds ps' pst' d) (k : ∀ v H', Cg H H' a q → DeskAt K C H' a q ps' pst' → Is K C H' v d → Q v H') : tCall (spM K C g) [] E (tCons (tVar i) tr) σ H Q := by
  refine ⟨.ref a, hi, evA h s fun vs H1 x1 p1 => ?_⟩
  show spM K C g ((V.ref a :: vs) ++ []) H1 Q E
  rw [List.append_nil]
  exact ⟨a, q, ps, pst, vs, ds, ps', pst', d, rfl, hd.mono x1, p1, hg, fun v H2 c d2 p2 => k v H2 (c.pre x1) d2 p2⟩
theorem ex_cb {H G G' : Hp} {b : Addr} (x : Ex H G) (h : H b = none) (c : Cb G G' b) : Ex H G' := fun p o hp => c p o (x _ _ hp) fun e => by
  rw [e, h] at hp
  cases hp
theorem ex_cg {H G G' : Hp} {a q : Addr} (x : Ex H G) (ha : H a = none) (hq : H q = none) (c : Cg G G' a q) : Ex H G' := fun p o hp => c p o (x _ _ hp) (fun e => by
  rw [e, ha] at hp
  cases hp) fun e => by
  rw [e, hq] at hp
  cases hp
/-- a box is no desk's -/
theorem DeskAt.box {H G : Hp} {a q b : Addr} {ps : List Pt} {pst : List (List Pt)} {m : Int} (d : DeskAt K (deskC K) H a q ps pst) (hb : H b = some (.lst [.int m])) (c : Cb H G b) : DeskAt K (deskC K) G a q ps pst := by
  have hk : TupKeep H G := fun p xs h => c p _ h fun e => by
    rw [e, hb] at h
    cases h
  obtain ⟨⟨dx, vp, h1, h2⟩, xs, h3, h4⟩ := d
  refine ⟨⟨dx, vp, c _ _ h1 fun e => ?_, h2.keep hk (pure_sh _)⟩, xs, c _ _ h3 fun e => ?_, h4.keep hk (pure_shs _)⟩
  · rw [e, hb] at h1
    cases h1
  · rw [e, hb] at h3
    cases h3
    cases pst with
    | nil => cases h4
    | cons p r =>
      cases h4 with
      | cons a b => cases a
/-- a list of texts is no box, no desk's -/
theorem seen_box {H G : Hp} {b : Addr} {v : V} {zs : List Str} {m : Int} (hz : zs ≠ []) (h : Is K (deskC K) H v (.lst (zs.map D.str))) (hb : H b = some (.lst [.int m])) (c : Cb H G b) : Is K (deskC K) G v (.lst (zs.map D.str)) := by
  cases h with
  | @lst p xs _ h1 h2 =>
    have e := h2.strs
    subst e
    refine .lst (c _ _ h1 fun e => ?_) (IsAll.ofStrs _)
    rw [e, hb] at h1
    match zs, hz with
    | z :: r, _ => cases h1
theorem seen_desk {H G : Hp} {a q : Addr} {v : V} {zs : List Str} {ps : List Pt} {pst : List (List Pt)} (hz : zs ≠ []) (h : Is K (deskC K) H v (.lst (zs.map D.str))) (d : DeskAt K (deskC K) H a q ps pst) (c : Cg H G a q) : Is K (deskC K) G v (.lst (zs.map D.str)) := by
  obtain ⟨⟨dx, vp, g1, _⟩, ys, g3, g4⟩ := d
  cases h with
  | @lst p xs _ h1 h2 =>
    have e := h2.strs
    subst e
    refine .lst (c _ _ h1 (fun e => ?_) fun e => ?_) (IsAll.ofStrs _)
    · rw [e, g1] at h1
      cases h1
    · rw [e, g3] at h1
      match zs, hz with
      | z :: r, _ =>
        cases h1
        cases pst with
        | nil => cases g4
        | cons p r =>
          cases g4 with
          | cons a b => cases a
theorem td_same {C : Addr} {ta tb : TE} {δ : List Fr} {zs : List Str} (ha : ED K C ta δ (.lst (zs.map D.str))) (hb : ED K C tb δ (.lst (zs.map D.str))) (hz : ∀ z ∈ zs, PyData.strOk z = true) : TD K C (tTest (tOp (rNeD K) ta tb)) δ false :=
  td_is (td_test (ed_neD (b := true) (ed_h ha) (ed_h hb) (isPs_strs _) (isPs_strs _) (shaped_lst (canl_strs _ hz) (Nat.le_trans (deep_strs _) (by decide))) (shaped_lst (canl_strs _ hz) (Nat.le_trans (deep_strs _) (by decide))) (SeqAt.eqv_refl _ (canl_strs _ hz)))) rfl
def spLaw (K : PySem.W.Frag) : Sp := fun vs H Q _ => ∃ (a : Addr) (ns : List Int), vs = [.ref a] ∧ SqL K H a (ns.map V.int) ∧ ∀ H', Q (.bl true) H'
abbrev N_law : List Str := ["_law_script", "_law_k", "_law_box_here", "_law_sheet_here", "_law_desk", "_law_other", "_law_seen", "_law_x", "_law_y"]
theorem sc_law : FnScope N_law ["_law_script"] (defScope s_law) := ⟨rfl, rfl, rfl, by decide +kernel, rfl, by decide +kernel, by decide +kernel⟩
theorem okw_law (T : Tx K mg) {fd : FuncData} (F : FnP K "law" "law" s_law (He.ga K "law") fd) : FnOk P w K mg base CX0 11 (He.ga K "law") fd ["_law_script"] (spLaw K) := by
  refine okX F sc_law (fun vs H Q E h => ?_) fun cdv A outer s H vs Q E hr h => ⟨_, 
    (pss_cons (ps_for PassesOwn.never rfl (pi_range1 (by rfl) T.free_range (pa_cons (pe_callB (call_max2 rfl) (by rfl) (T.free_max) bb_max (pa_cons pe_int (pa_cons (pe_callB (call_min2 rfl) (by rfl) (T.free_min) bb_min (pa_cons (pe_callB call_len_seq (by rfl) (T.free_len) bb_len (pa_cons (pv 0) pa_nil)) (pa_cons pe_int pa_nil))) pa_nil))) pa_nil)) (pg_name (i := 1) sc_law.nd rfl (Or.inl rfl)) 
      (pss_cons (ps_set (i := 2) sc_law.nd rfl (Or.inl rfl) (pe_callX (calw_law_box T) (hr.mono (by decide)) (by rfl) (pa_cons (pv 0) (pa_cons (pv 1) pa_nil))))
      (pss_cons (ps_set (i := 3) sc_law.nd rfl (Or.inl rfl) (pe_callX (calw_law_sheet T) (hr.mono (by decide)) (by rfl) (pa_cons (pv 2) (pa_cons pe_int pa_nil))))
      (pss_cons (ps_par (i := 4) (j := 5) (by rfl) sc_law.nd rfl rfl (by decide) rfl rfl (pa_cons (pe_makeX (calw_Desk_init T) T.mkr (hr.mono (by decide)) (by rfl) T.mgC) (pa_cons (pe_makeX (calw_Desk_init T) T.mkr (hr.mono (by decide)) (by rfl) T.mgC) pa_nil)) (by rfl))
      (pss_cons (ps_expr (pe_callX (calw_law_put_all T) (hr.mono (by decide)) (by rfl) (pa_cons (pv 4) (pa_cons (pv 3) pa_nil))))
      (pss_cons (ps_expr (pe_callX (calw_law_put_all T) (hr.mono (by decide)) (by rfl) (pa_cons (pv 5) (pa_cons (pe_revT (pv 3)) pa_nil))))
      (pss_cons (ps_set (i := 6) sc_law.nd rfl (Or.inl rfl) (pe_callP (cal_law_answers T) (hr.mono (by decide)) (by rfl) (pa_cons (pv 4) pa_nil)))
      (pss_cons (ps_if (PW.pt (pw_or (pt_cmpR (op_neD hr.units) (pe_callP (cal_law_answers T) (hr.mono (by decide)) (by rfl) (pa_cons (pv 5) pa_nil)) (pv 6) (nomark _)) (pw_or1 (pt_cmpR (op_neD hr.units) (pe_callP (cal_read_sheet T) (hr.mono (by decide)) (by rfl) (pa_cons (pe_ix (ix_listK (K := K) rfl) (pv 6) pe_int (fun _ _ => rfl)) pa_nil)) (pv 3) (nomark _))))) 
        (pss_cons (ps_ret pe_bl) pss_nil) pss_nil)
      (pss_cons (ps_asg (pe_ix (ix_tupK (K := K) rfl) (pv 3) (pe_callX (calw_law_take T) (hr.mono (by decide)) (by rfl) (pa_cons (pv 2) (pa_cons (pe_callB call_len_seq (by rfl) (T.free_len) bb_len (pa_cons (pv 3) pa_nil)) pa_nil))) (fun _ _ => rfl)) (pg_tupK (K := K) (n := 2) rfl rfl (pgs_cons (pg_name (i := 7) sc_law.nd rfl (Or.inl rfl)) (pgs_cons (pg_name (i := 8) sc_law.nd rfl (Or.inl rfl)) pgs_nil))))
      (pss_cons (ps_if (PW.pt (pw_or (pt_cmpR op_ne (pe_callX (calw_law_said T) (hr.mono (by decide)) (by rfl) (pa_cons (pv 4) (pa_cons (pe_op op_add_str pe_str (pe_callTy call_str_int (by rfl) (T.free_str) bb_str (pa_cons (pv 7) pa_nil))) pa_nil))) (pe_callTy call_str_int (by rfl) (T.free_str) bb_str (pa_cons (pe_op op_sub (pe_callB call_len_seq (by rfl) (T.free_len) bb_len (pa_cons (pv 3) pa_nil)) pe_int) pa_nil)) (nomark _)) (pw_or1 (pt_cmpR op_ne (pe_callX (calw_law_said T) (hr.mono (by decide)) (by rfl) (pa_cons (pv 4) (pa_cons pe_str pa_nil))) pe_str (nomark _))))) 
        (pss_cons (ps_ret pe_bl) pss_nil) pss_nil)
      (pss_cons (ps_if (pt_cmpR (op_neD hr.units) (pe_callP (cal_law_answers T) (hr.mono (by decide)) (by rfl) (pa_cons (pv 4) pa_nil)) (pv 6) (nomark _)) 
        (pss_cons (ps_ret pe_bl) pss_nil) pss_nil)
      (pss_cons (ps_if (PW.pt (pw_and (pt_cmpR op_gt (pe_callB call_len_seq (by rfl) (T.free_len) bb_len (pa_cons (pv 3) pa_nil)) pe_int (nomark _)) (pw_and1 (pt_not (pt_val (pe_callP (cal_is_cup T) (hr.mono (by decide)) (by rfl) (pa_cons (pe_callP (cal_law_row T) (hr.mono (by decide)) (by rfl) (pa_cons (pe_ix (ix_listK (K := K) rfl) (pv 6) pe_int (fun _ _ => rfl)) pa_nil)) (pa_cons (pv 3) pa_nil)))))))) 
        (pss_cons (ps_ret pe_bl) pss_nil) pss_nil)
      (pss_cons (ps_if (PW.pt (pw_and (pt_cmpR op_gt (pe_callB call_len_seq (by rfl) (T.free_len) bb_len (pa_cons (pv 3) pa_nil)) pe_int (nomark _)) (pw_and1 (pt_not (pt_val (pe_callP (cal_is_cap T) (hr.mono (by decide)) (by rfl) (pa_cons (pe_callP (cal_law_row T) (hr.mono (by decide)) (by rfl) (pa_cons (pe_ix (ix_listK (K := K) rfl) (pv 6) pe_int (fun _ _ => rfl)) pa_nil)) (pa_cons (pv 3) pa_nil)))))))) 
        (pss_cons (ps_ret pe_bl) pss_nil) pss_nil)
      (pss_cons (ps_if (PW.pt (pw_and (pt_cmpR op_gt (pe_callB call_len_seq (by rfl) (T.free_len) bb_len (pa_cons (pv 3) pa_nil)) pe_int (nomark _)) (pw_and1 (pt_not (pt_val (pe_callP (cal_is_ring T) (hr.mono (by decide)) (by rfl) (pa_cons (pe_callP (cal_law_row T) (hr.mono (by decide)) (by rfl) (pa_cons (pe_ix (ix_listK (K := K) rfl) (pv 6) pe_int (fun _ _ => rfl)) pa_nil)) (pa_cons (pv 3) pa_nil)))))))) 
        (pss_cons (ps_ret pe_bl) pss_nil) pss_nil) pss_nil))))))))))))))
    (pss_cons (ps_ret pe_bl) pss_nil)), ?_⟩
  · obtain ⟨a, ns, rfl, _⟩ := h
    rfl
  · obtain ⟨a, ns, rfl, hS, hQ⟩ := h
    refine ⟨.ref a, rfl, a, _, rfl, .inl hS, _, _, rfl, _, _, rfl, ?_⟩
    have hJ : ∀ l : Int, 0 ≤ l → 1 ≤ (if (if (2 : Int) < l then 2 else l) > 1 then (if (2 : Int) < l then 2 else l) else 1) ∧ (if (if (2 : Int) < l then 2 else l) > 1 then (if (2 : Int) < l then 2 else l) else 1) ≤ 2 := fun l hl => by
      split <;> split <;> first | omega | (constructor <;> omega)
    have hJ1 := hJ ((ns.map V.int).length : Nat) (by omega)
    generalize (if (if (2 : Int) < (((ns.map V.int).length : Nat) : Int) then (2 : Int) else (((ns.map V.int).length : Nat) : Int)) > 1 then (if (2 : Int) < (((ns.map V.int).length : Nat) : Int) then (2 : Int) else (((ns.map V.int).length : Nat) : Int)) else 1) = J at hJ1
    obtain ⟨j1, j2⟩ := hJ1
    refine ⟨J, rfl, by omega, by omega, ?_⟩
    refine ⟨fun i m σ G => m = J.toNat - i ∧ i ≤ J.toNat ∧ (∃ o1 o2 o3 o4 o5 o6 o7 o8, σ = [some (.ref a), o1, o2, o3, o4, o5, o6, o7, o8]) ∧ Ex H G, ⟨_, rfl, Nat.zero_le _, ⟨_, _, _, _, _, _, _, _, rfl⟩, Ex.rfl⟩, ?_⟩
    rintro i m σ G ⟨rfl, hi, ⟨o1, o2, o3, o4, o5, o6, o7, o8, rfl⟩, xG⟩
    by_cases hlt : i < J.toNat
    · refine .inr ⟨hlt, fun σ' G' => (∃ o1 o2 o3 o4 o5 o6 o7 o8, σ' = [some (.ref a), o1, o2, o3, o4, o5, o6, o7, o8]) ∧ Ex H G', fun σ' G' h => ⟨_, by omega, rfl, hlt, h.1, h.2⟩, fun v G' y => ?_⟩
      obtain ⟨eH, ev⟩ := y
      rw [eH, ev]
      -- the box
      refine ⟨.ref a, rfl, .int (0 + (i : Int)), rfl, a, ns, 0 + (i : Int), rfl, sqL_ex hS xG, by omega, by omega, fun n b G1 x1 hbn hb1 => ?_⟩
      have bH : H b = none := xG.back hbn
      have y1 := xG.trans x1
      -- the sheet
      refine ⟨.ref b, rfl, b, n, rfl, hb1, fun vS G2 ps m c2 hb2 hSh hv2 => ?_⟩
      have y2 := ex_cb y1 bH c2
      have hle := hSh.le
      have hpos := hSh.pos
      have hps := sh_ne hSh
      -- two desks
      show tPar 4 5 (tCons (tMake (deskC K) (spI K) [] E0 tNil) (tCons (tMake (deskC K) (spI K) [] E0 tNil) tNil)) _ _ _
      refine par_make fun a1 q1 G3 x3 ha1 hq1 d1 a2 q2 G4 x4 ha2 hq2 d2 => ?_
      have a1H : H a1 = none := y2.back ha1
      have q1H : H q1 = none := y2.back hq1
      have y3 := y2.trans x3
      have a2H : H a2 = none := y3.back ha2
      have q2H : H q2 = none := y3.back hq2
      have y4 := y3.trans x4
      have hb4 := x4 _ _ (x3 _ _ hb2)
      have hv4 := hv2.mono (x3.trans x4)
      have d1 := d1.mono x4
      have na : a2 ≠ a1 := fun e => by
        obtain ⟨dx, vp, h1, _⟩ := d1.obj
        have : G3 a1 = none := e ▸ ha2
        have hx : ∃ o, G3 a1 = some o := by
          obtain ⟨dx, vp, h1, _⟩ := (show DeskAt K (deskC K) G3 a1 q1 [] [] from ‹_›).obj
          exact ⟨_, h1⟩
        obtain ⟨o, ho⟩ := hx
        rw [this] at ho
        cases ho
      have nq : q2 ≠ q1 := fun e => by
        have : G3 q1 = none := e ▸ hq2
        obtain ⟨xs, h1, _⟩ := (show DeskAt K (deskC K) G3 a1 q1 [] [] from ‹_›).lst
        rw [this] at h1
        cases h1
      have na1 : b ≠ a1 := fun e => by rw [← e, hb2] at ha1; cases ha1
      have nq1 : b ≠ q1 := fun e => by rw [← e, hb2] at hq1; cases hq1
      have na2 : b ≠ a2 := fun e => by rw [← e, x3 _ _ hb2] at ha2; cases ha2
      have nq2 : b ≠ q2 := fun e => by rw [← e, x3 _ _ hb2] at hq2; cases hq2
      -- all points put, in order
      refine ⟨.ref a1, rfl, vS, rfl, a1, q1, ps, vS, _, rfl, d1, hv4, hle, steps_on hSh, fun _ G5 pst1 c5 hp1 e1 => ?_⟩
      have y5 := ex_cg y4 a1H q1H c5
      have d2 := d1.other d2 na nq c5
      have hv5 := hv4.keep (d1.tups c5) (pure_sh ps)
      have hb5 := c5 _ _ hb4 na1 nq1
      rw [List.take_length] at e1
      -- .. and in another order
      have s5 : At K (deskC K) G5 [some (.ref a), some (.int (0 + (i : Int))), some (.ref b), some vS, some (.ref a1), some (.ref a2), o6, o7, o8] [.un, .un, .un, .dat (shD ps), .un, .un, .un, .un, .un] := .cons True.intro (.cons True.intro (.cons True.intro (.cons ⟨_, rfl, hv5⟩ (.cons True.intro (.cons True.intro (.cons True.intro (.cons True.intro (.cons True.intro .nil))))))))
      refine ⟨.ref a2, rfl, evE (d := shD ps.reverse) (ed_is (ed_revT (ed_var rfl) (by simpa using hps)) (by
        rw [← List.map_reverse]
        rfl)) s5 fun v6 G6 x6 i6 => ?_⟩
      refine ⟨a2, q2, ps.reverse, v6, _, rfl, d2.mono x6, i6, by rw [List.length_reverse]; exact hle, steps_back hSh, fun _ G7 pst2 c7 hp2 e2 => ?_⟩
      have y7 := ex_cg (y5.trans x6) a2H q2H c7
      have e1 := (d2.mono x6).other (e1.mono x6) (Ne.symm na) (Ne.symm nq) c7
      have hv7 := (hv5.mono x6).keep ((d2.mono x6).tups c7) (pure_sh ps)
      have hb7 := c7 _ _ (x6 _ _ hb5) na2 nq2
      rw [List.length_reverse, Nat.sub_self, List.drop_zero] at e2
      -- what is seen
      have ga : f_law_answers [dkD ps] (.lst ((ansL ps).map D.str)) := ⟨ps, rfl, hSh, rfl⟩
      have s7 : At K (deskC K) G7 [some (.ref a), some (.int (0 + (i : Int))), some (.ref b), some vS, some (.ref a1), some (.ref a2), o6, o7, o8] [.un, .un, .un, .dat (shD ps), .dat (dkD ps), .dat (dkD ps), .un, .un, .un] := .cons True.intro (.cons True.intro (.cons True.intro (.cons ⟨_, rfl, hv7⟩ (.cons ⟨_, rfl, e1.is⟩ (.cons ⟨_, rfl, e2.is⟩ (.cons True.intro (.cons True.intro (.cons True.intro .nil))))))))
      refine raw_asg (i := 6) (d := .lst ((ansL ps).map D.str)) (ed_call (ea_cons (ed_var rfl) ea_nil) ga) s7 rfl fun vN G8 x8 i8 s8 => ?_
      have gr : f_read_sheet [.str (ansP ps 0)] (shD ps) := ⟨ps, rfl, hSh, rfl⟩
      refine raw_no (td_is (td_or (a := false) (b := false) (td_same (ed_call (ea_cons (ed_var rfl) ea_nil) ga) (ed_var rfl) (ok_ans ps)) fun _ => td_is (td_test (ed_neD (d := shD ps) (e := shD ps) (b := true) (ed_h (ed_call (ea_cons (ed_ixL (ed_l (ed_var rfl)) ed_int (ans_at (k := 0) (by decide))) ea_nil) gr)) (ed_h (ed_var rfl)) (isPs_pts _) (isPs_pts _) (shaped_tup (canl_pts _) (Nat.le_trans (deep_pts _) (by decide))) (shaped_tup (canl_pts _) (Nat.le_trans (deep_pts _) (by decide))) (SeqAt.eqv_refl _ (canl_pts ps)))) rfl) rfl) s8 rfl fun G9 x9 s9 => ?_
      have y9 := (y7.trans x8).trans x9
      have x79 := x8.trans x9
      have e1 := e1.mono x79
      have hv9 := hv7.mono x79
      have hb9 := x79 _ _ hb7
      have hn9 := i8.mono x9
      -- a point of the sheet
      have hv9' := hv9
      cases hv9' with
      | @tup t xs _ ht hxs =>
        have hxl : xs.length = ps.length := by rw [hxs.length, List.length_map]
        refine ⟨_, rfl, .ref b, rfl, _, rfl, t, xs, rfl, .inr (SqT.of ht), b, m, _, rfl, hb9, by omega, by omega, fun d n' G10 dd1 dd2 c10 hb10 => ?_⟩
        have y10 := ex_cb y9 bH c10
        have hk10 : TupKeep G9 G10 := fun p zs h => c10 p _ h fun e => by
          rw [e, hb9] at h
          cases h
        have e10 := e1.box hb9 c10
        have hv10 := hv9.keep hk10 (pure_sh ps)
        have hn10 := seen_box (zs := ansL ps) (by simp [ansL]) hn9 hb9 c10
        obtain ⟨kd, rfl⟩ : ∃ kd : Nat, d = (kd : Int) := ⟨d.toNat, by omega⟩
        have hkd : kd < ps.length := by omega
        have hx1 : xs[kd]? = some (xs[kd]'(by omega)) := List.getElem?_eq_getElem (by omega)
        obtain ⟨dp, hdp, hip⟩ := (hxs.keep hk10 (pure_pts ps)).get hx1
        rw [List.getElem?_map, ix_get hkd] at hdp
        cases hdp
        obtain ⟨tp, etp, htp⟩ := isPr hip
        refine ⟨t, xs, (kd : Int), .ref tp, rfl, rfl, SqT.of (hk10 _ _ ht), atI_nat' (by rw [hx1, etp]), ?_⟩
        refine ⟨tp, _, rfl, SqT.of htp, rfl, _, _, rfl, _, _, rfl, rfl, ?_⟩
        -- taken, and back
        have hT := (small_thirty (hSh.small _ (ix_mem hkd))).1
        have hT40 : Ten 40 (ix ps kd).1 := Nat.lt_trans hT (by decide +kernel)
        have l1 := itx_len31 hT
        have e5 : ("take " : Str).length = 5 := by decide +kernel
        have hsz : 100000 ≤ sizeLine := by decide +kernel
        have s10 : At K (deskC K) G10 [some (.ref a), some (.int (0 + (i : Int))), some (.ref b), some (.ref t), some (.ref a1), some (.ref a2), some vN, some (.int (ix ps kd).1), some (.int (ix ps kd).2)] [.un, .un, .un, .dat (shD ps), .un, .un, .un, .dat (.int (ix ps kd).1), .un] := .cons True.intro (.cons True.intro (.cons True.intro (.cons ⟨_, rfl, hv10⟩ (.cons True.intro (.cons True.intro (.cons True.intro (.cons ⟨_, rfl, .int _⟩ (.cons True.intro .nil))))))))
        refine mut_call (ds := [.str (tkL (ix ps kd).1)]) (ps' := ps.take kd ++ ps.drop (kd + 1)) (pst' := pst1 ++ [ps]) (d := .str (itx ((ps.length : Nat) - 1))) s10 e10 rfl (ea_cons (ed_addS ed_str (ed_strI (ed_var rfl) (log_ok hT40)) (by rw [e5]; omega)) ea_nil) (.inr (.inl ⟨_, rfl, hT, _, kd, rfl, hle, by omega, place_some hSh.inc hkd, rfl, rfl, rfl⟩)) fun v11 G11 c11 e11 i11 => ?_
        have y11 := ex_cg y10 a1H q1H c11
        have hv11 := hv10.keep (e10.tups c11) (pure_sh ps)
        have hn11 := seen_desk (zs := ansL ps) (by simp [ansL]) hn10 e10 c11
        obtain rfl := is_strV i11
        have s11 : At K (deskC K) G11 [some (.ref a), some (.int (0 + (i : Int))), some (.ref b), some (.ref t), some (.ref a1), some (.ref a2), some vN, some (.int (ix ps kd).1), some (.int (ix ps kd).2)] [.un, .un, .un, .dat (shD ps), .un, .un, .un, .un, .un] := .cons True.intro (.cons True.intro (.cons True.intro (.cons ⟨_, rfl, hv11⟩ (.cons True.intro (.cons True.intro (.cons True.intro (.cons True.intro (.cons True.intro .nil))))))))
        refine evE (d := .str (itx ((ps.length : Nat) - 1))) (ed_strI (ed_sub (ed_lenSh (ed_var rfl)) ed_int) (log_ok (by unfold Ten; omega))) s11 fun v12 G12 x12 i12 => ?_
        obtain rfl := is_strV i12
        refine ⟨rfl, _, rfl, ?_⟩
        rw [show (!decide (V.str (itx ((ps.length : Nat) - 1)) = V.str (itx ((ps.length : Nat) - 1)))) = false by rw [decide_eq_true rfl]; rfl]
        refine iteF ?_
        have s12 := s11.mono x12 rfl
        refine mut_call (ds := [.str "back"]) (ps' := ps) (pst' := pst1) (d := .str "ok") s12 (e11.mono x12) rfl (ea_cons ed_str ea_nil) (.inr (.inr ⟨rfl, rfl, by rw [List.length_append, List.length_singleton]; omega, rfl, rfl⟩)) fun v13 G13 c13 e13 i13 => ?_
        have y13 := ex_cg (y11.trans x12) a1H q1H c13
        have hv13 := (hv11.mono x12).keep ((e11.mono x12).tups c13) (pure_sh ps)
        have hn13 := seen_desk (zs := ansL ps) (by simp [ansL]) (hn11.mono x12) (e11.mono x12) c13
        obtain rfl := is_strV i13
        refine ⟨rfl, _, rfl, ?_⟩
        rw [show (!decide (V.str "ok" = V.str "ok")) = false by rw [decide_eq_true rfl]; rfl]
        refine iteF ?_
        -- all is told again
        have s13 : At K (deskC K) G13 [some (.ref a), some (.int (0 + (i : Int))), some (.ref b), some (.ref t), some (.ref a1), some (.ref a2), some vN, some (.int (ix ps kd).1), some (.int (ix ps kd).2)] [.un, .un, .un, .dat (shD ps), .dat (dkD ps), .un, .dat (.lst ((ansL ps).map D.str)), .un, .un] := .cons True.intro (.cons True.intro (.cons True.intro (.cons ⟨_, rfl, hv13⟩ (.cons ⟨_, rfl, e13.is⟩ (.cons True.intro (.cons ⟨_, rfl, hn13⟩ (.cons True.intro (.cons True.intro .nil))))))))
        refine raw_no (td_same (ed_call (ea_cons (ed_var rfl) ea_nil) ga) (ed_var rfl) (ok_ans ps)) s13 rfl fun G14 x14 s14 => ?_
        have hrow : ∀ (b : Bool), 1 < ps.length → ∃ r, longP (uB ps b) ps.length = some r ∧ f_law_row [.str (optTx (longP (uB ps b) ps.length))] (rowD r) ∧ Rise ps.length r ∧ 2 ≤ r.length ∧ bendsB ps r b = true := fun b h => by
          obtain ⟨r, h1, h2, h3, h4⟩ := longP_ok (U := uB ps b) (n := ps.length) h
          have hR := Ch_Rise h2 h3 (by omega)
          have hl := Ch_len h2 h3
          exact ⟨r, h1, ⟨r, by rw [h1]; rfl, ⟨fun z => by rw [z] at h4; simp at h4, by omega, fun x hx => by have := h3 x hx; omega⟩, rfl⟩, hR, h4, Ch_bends h2⟩
        have cup : TD K (deskC K) _ [.un, .un, .un, .dat (shD ps), .dat (dkD ps), .un, .dat (.lst ((ansL ps).map D.str)), .un, .un] false := td_is (td_and (t := tTest (tOp (rI0 fun i j => .bl (decide (j < i))) (tCB (rLenQ K) (tCons (tVar 3) tNil)) (tC (.int 1)))) (u := tNot (tB (tCall (spP K (deskC K) f_is_cup) [] E0 (tCons (tCall (spP K (deskC K) f_law_row) [] E0 (tCons (tOp (rIxL K) (tVar 6) (tC (.int 1))) tNil)) (tCons (tVar 3) tNil))))) (a := decide (1 < ps.length)) (b := false) (td_is (td_test (ed_gt (ed_lenSh (ed_var rfl)) ed_int)) (decide_eq_decide.mpr (by omega))) fun e => by
          obtain ⟨r, h1, h2, h3, h4, h5⟩ := hrow true (of_decide_eq_true e)
          have g : f_is_cup [rowD r, shD ps] (.bl true) := ⟨ps, r, rfl, ⟨hSh, h3, h4⟩, by rw [h5]⟩
          exact td_is (td_not (td_B (ed_call (ea_cons (ed_call (ea_cons (ed_ixL (ed_l (ed_var rfl)) ed_int (ans_at (k := 1) (by decide))) ea_nil) h2) (ea_cons (ed_var rfl) ea_nil)) g))) rfl) (by simp)
        have cap : TD K (deskC K) _ [.un, .un, .un, .dat (shD ps), .dat (dkD ps), .un, .dat (.lst ((ansL ps).map D.str)), .un, .un] false := td_is (td_and (t := tTest (tOp (rI0 fun i j => .bl (decide (j < i))) (tCB (rLenQ K) (tCons (tVar 3) tNil)) (tC (.int 1)))) (u := tNot (tB (tCall (spP K (deskC K) f_is_cap) [] E0 (tCons (tCall (spP K (deskC K) f_law_row) [] E0 (tCons (tOp (rIxL K) (tVar 6) (tC (.int 2))) tNil)) (tCons (tVar 3) tNil))))) (a := decide (1 < ps.length)) (b := false) (td_is (td_test (ed_gt (ed_lenSh (ed_var rfl)) ed_int)) (decide_eq_decide.mpr (by omega))) fun e => by
          obtain ⟨r, h1, h2, h3, h4, h5⟩ := hrow false (of_decide_eq_true e)
          have g : f_is_cap [rowD r, shD ps] (.bl true) := ⟨ps, r, rfl, ⟨hSh, h3, h4⟩, by rw [h5]⟩
          exact td_is (td_not (td_B (ed_call (ea_cons (ed_call (ea_cons (ed_ixL (ed_l (ed_var rfl)) ed_int (ans_at (k := 2) (by decide))) ea_nil) h2) (ea_cons (ed_var rfl) ea_nil)) g))) rfl) (by simp)
        have ring : TD K (deskC K) _ [.un, .un, .un, .dat (shD ps), .dat (dkD ps), .un, .dat (.lst ((ansL ps).map D.str)), .un, .un] false := td_is (td_and (t := tTest (tOp (rI0 fun i j => .bl (decide (j < i))) (tCB (rLenQ K) (tCons (tVar 3) tNil)) (tC (.int 2)))) (u := tNot (tB (tCall (spP K (deskC K) f_is_ring) [] E0 (tCons (tCall (spP K (deskC K) f_law_row) [] E0 (tCons (tOp (rIxL K) (tVar 6) (tC (.int 4))) tNil)) (tCons (tVar 3) tNil))))) (a := decide (2 < ps.length)) (b := false) (td_is (td_test (ed_gt (ed_lenSh (ed_var rfl)) ed_int)) (decide_eq_decide.mpr (by omega))) fun e => by
          have h3 := of_decide_eq_true e
          obtain ⟨mid, h4, h5, h6, h7⟩ := out_ring hSh (by omega)
          have hl := rise_len (k := 0) (n := ps.length) h6.inc fun x hx => ⟨Nat.zero_le _, h6.lt x hx⟩
          have h8 : f_law_row [.str (ansP ps 4)] (rowD (0 :: (mid ++ [ps.length - 1]))) := ⟨_, by
            show [D.str (if _ then _ else _)] = _
            rw [if_neg (by omega), h4], ⟨by simp, by omega, fun x hx => by have := h6.lt x hx; omega⟩, rfl⟩
          have g : f_is_ring [rowD (0 :: (mid ++ [ps.length - 1])), shD ps] (.bl true) := ⟨ps, 0, mid, ps.length - 1, rfl, ⟨hSh, h6, h5⟩, by rw [h7]⟩
          exact td_is (td_not (td_B (ed_call (ea_cons (ed_call (ea_cons (ed_ixL (ed_l (ed_var rfl)) ed_int (ans_at (k := 4) (by decide))) ea_nil) h8) (ea_cons (ed_var rfl) ea_nil)) g))) rfl) (by simp)
        refine raw_no cup s14 rfl fun G15 x15 s15 => ?_
        refine raw_no cap s15 rfl fun G16 x16 s16 => ?_
        refine raw_no ring s16 rfl fun G17 x17 s17 => ?_
        exact ⟨⟨_, _, _, _, _, _, _, _, rfl⟩, (((y13.trans x14).trans x15).trans x16).trans x17⟩
    · exact .inl ⟨by show J.toNat ≤ i; omega, hQ G⟩
end
end Bt

end BtZ_part
set_option Elab.async false
set_option linter.all false
set_option maxRecDepth 100000
set_option maxHeartbeats 0
namespace Bt
open PySem PySem.Spec PyProof.Rows L2 BtR
theorem facts {w : World} {K : PySem.W.Frag} {h : Heap} {mg : Str → Option Value} {f : Addr} (X : K.In h) (G : h.Ns mainGlobals mg) (hfa : mg ("law" : Str) = some (.ref f)) (c : SaysA K) :
    ∃ fd : FuncData, (∀ (s : Shared) (v : Value), BindsTo s fd ⟨[v], []⟩ [("_law_script", v)]) ∧ ∀ base : Heap, K.In base → base.Ns mainGlobals mg → FnOk (PySem.Challenge.rw_bentrows_k86_whole_desk_and_sheet).prog w K mg base CX0 11 f fd ["_law_script"] (spLaw K) := by
  have T : Tx K mg := ⟨⟨h, X, G⟩, c⟩
  obtain ⟨fd, F⟩ := T.fd_law
  have e := hfa.symm.trans T.gl_law
  cases e
  have b := FunD.bindsA (ps := ["_law_script"]) F fun _ _ _ _ _ _ us hl => match us, hl with | [_], _ => rfl
  exact ⟨fd, fun s v => b s [v] rfl, fun base _ _ => okw_law T F⟩
end Bt
open PySem PySem.W PySem.Calls PyProof.Rows
theorem PySem.Challenge.cw_bentrows_k86_whole_desk_and_sheet_holds : PySem.Challenge.rw_bentrows_k86_whole_desk_and_sheet.Holds := by
  w_on; o_law
  refine HandSHeadRun.head_any (r := OpenLaw.row PySem.Challenge.rw_bentrows_k86_whole_desk_and_sheet) (q := view (OpenLaw.row PySem.Challenge.rw_bentrows_k86_whole_desk_and_sheet).prog [86]) (H := Bt.hk) (ob := Bt.ob) (M := 6000) (loose := Bt.nms) (d := HandSHeadRun.topDef (OpenLaw.row PySem.Challenge.rw_bentrows_k86_whole_desk_and_sheet).prog 86) (kwd := []) Bt.ob_eq
    (by kernel_rfl) (fun s => by kernel_rfl) Bt.run (by kernel_rfl) (by kernel_rfl) (by kernel_rfl) (by rfl) (by first | assumption | decide +kernel) (by decide +kernel) ⟨rfl, rfl, rfl, rfl, rfl, by decide +kernel⟩ ?hw ?hc
  case hw => w_witness2
  case hc =>
    refine L2.walk_ofE (l := PySem.Challenge.rw_bentrows_k86_whole_desk_and_sheet) (n := 63) (k := 11) (x := "_law_script") (CX := L2.CX0) rfl (by decide) (by kernel_rfl) ⟨rfl, by decide, by decide⟩ ?F (fun _ _ _ _ z => z)
    intro w mg fa h Y G hmg0
    obtain ⟨K, KX, c⟩ := Y
    have hmg : mg ("law" : PySem.Str) = some (.ref fa) := by
      have e : (HandSHeadRun.topDef (OpenLaw.row PySem.Challenge.rw_bentrows_k86_whole_desk_and_sheet).prog 86).name = ("law" : PySem.Str) := by kernel_rfl
      rw [← e]
      exact hmg0
    obtain ⟨fd, hb, hF⟩ := Bt.facts (w := w) KX G hmg c
    exact ⟨K, fd, Bt.spLaw K, KX, hb, fun H a ns hl _ hS => ⟨a, ns, rfl, hS, fun _ => rfl⟩, hF⟩
