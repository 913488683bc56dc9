import PyProof.Rows.All
import Wide.All
import OpenK.AllK
import Wide.FinOn
import KE.KStateDown
import HandS.ForMost
import HandS.More
import HandS.Words
import HandS.WordsExc
import HandS.Defaults
import HandS.Head0
import HandS.Head1
import HandS.Head2
import HandS.HeadEnd
import HandS.HeadHook1
import HandS.HeadHook2
import HandS.HeadHook3
import HandS.HeadHook4
import HandS.Flow
import HandS.Deep
import HandS.TupAny
import HandS.MakeKwOnly
import HandS.IsInst
import HandS.DictComp
import HandS.TupLen
import HandS.NoneIn
import HandS.ListItems
import HandS.Zip
import HandS.Star
import HandS.Style
import HandS.Codes
import HandS.RaiseMore
import KE.KSortedM
import PyProof.DictCompW
import KE.OsArith
import KE.KDictZip
import HandS.WideBits
import HandS.Small
import PySem.Challenge.RW_refundtrees_k46_whole_builds_carried_ove
set_option Elab.async false
set_option linter.all false
set_option maxRecDepth 100000
set_option maxHeartbeats 0
namespace Rt
open PySem PySem.Spec PyProof.Rows L2
def top (i : Nat) : Stmt := PySem.Challenge.pw_refundtrees_k46_whole_builds_carried_ove.main.body.getD i (.Pass ⟨0, 0, 0, 0⟩)
abbrev s_is_whole : Stmt := top 10
abbrev s_is_number : Stmt := top 11
abbrev s_is_word : Stmt := top 12
abbrev s_is_row : Stmt := top 13
abbrev s_are_unlike : Stmt := top 14
abbrev s_are_tuples : Stmt := top 15
abbrev s_are_skills_of : Stmt := top 17
abbrev s_in_order : Stmt := top 18
abbrev s_is_build : Stmt := top 19
abbrev s_look_at_build : Stmt := top 20
abbrev s_mask_of : Stmt := top 21
abbrev s_build_by : Stmt := top 22
abbrev s_size_of : Stmt := top 23
abbrev s_is_let : Stmt := top 24
abbrev s_points_let : Stmt := top 25
abbrev s_does_hold : Stmt := top 26
abbrev s_holds : Stmt := top 28
abbrev s_look_at_good : Stmt := top 29
abbrev s_are_skills : Stmt := top 39
abbrev s_are_needs : Stmt := top 40
abbrev s_is_want : Stmt := top 41
abbrev s_are_bars : Stmt := top 42
abbrev s_are_numbered : Stmt := top 43
abbrev s_look_at_parts : Stmt := top 44
abbrev s_Book_init : Stmt := inClass (top 45) 0
abbrev s_Book_asked_by : Stmt := inClass (top 45) 1
abbrev s_Growth_init : Stmt := inClass (top 47) 0
abbrev s_Growth_order : Stmt := inClass (top 47) 1
abbrev s_growth : Stmt := top 48
abbrev s_is_grown : Stmt := top 49
abbrev s_look_at_kind : Stmt := top 52
abbrev s_names_in : Stmt := top 53
abbrev s_fallen_once : Stmt := top 54
abbrev s_fallen : Stmt := top 55
abbrev s_regrown : Stmt := top 56
abbrev s_carried_mask : Stmt := top 57
abbrev s_carried : Stmt := top 58
abbrev s_lost : Stmt := top 59
abbrev s_law_pool : Stmt := top 61
abbrev s_law_take : Stmt := top 62
abbrev s_law_one : Stmt := top 63
abbrev s_law_turned : Stmt := top 64
abbrev s_law_tree : Stmt := top 65
abbrev s_law_rows : Stmt := top 66
abbrev s_law_book : Stmt := top 67
abbrev s_law_made : Stmt := top 68
abbrev s_law_names : Stmt := top 69
abbrev s_law_tier : Stmt := top 70
abbrev s_law_need : Stmt := top 71
abbrev s_law_order : Stmt := top 72
abbrev s_law_is_row_met : Stmt := top 73
abbrev s_law_below : Stmt := top 74
abbrev s_law_is_met : Stmt := top 75
abbrev s_law_size_let : Stmt := top 76
abbrev s_law_holds : Stmt := top 77
abbrev s_law_subsets : Stmt := top 78
abbrev s_law_all : Stmt := top 79
abbrev s_law_small : Stmt := top 80
abbrev s_law_any_sort : Stmt := top 81
abbrev s_law_fallen : Stmt := top 82
abbrev s_law_regrown : Stmt := top 83
abbrev s_law_carried : Stmt := top 84
abbrev s_law_other_book : Stmt := top 85
abbrev s_law : Stmt := top 86
def d_is_whole : He.DefD := ⟨("is_whole", none), "is_whole", "is_whole", defArgs s_is_whole, defBody s_is_whole, defScope s_is_whole, [], []⟩
def d_is_number : He.DefD := ⟨("is_number", none), "is_number", "is_number", defArgs s_is_number, defBody s_is_number, defScope s_is_number, [], []⟩
def d_is_word : He.DefD := ⟨("is_word", none), "is_word", "is_word", defArgs s_is_word, defBody s_is_word, defScope s_is_word, [], []⟩
def d_is_row : He.DefD := ⟨("is_row", none), "is_row", "is_row", defArgs s_is_row, defBody s_is_row, defScope s_is_row, [], []⟩
def d_are_unlike : He.DefD := ⟨("are_unlike", none), "are_unlike", "are_unlike", defArgs s_are_unlike, defBody s_are_unlike, defScope s_are_unlike, [], []⟩
def d_are_tuples : He.DefD := ⟨("are_tuples", none), "are_tuples", "are_tuples", defArgs s_are_tuples, defBody s_are_tuples, defScope s_are_tuples, [], []⟩
def d_are_skills_of : He.DefD := ⟨("are_skills_of", none), "are_skills_of", "are_skills_of", defArgs s_are_skills_of, defBody s_are_skills_of, defScope s_are_skills_of, [], []⟩
def d_in_order : He.DefD := ⟨("in_order", none), "in_order", "in_order", defArgs s_in_order, defBody s_in_order, defScope s_in_order, [], []⟩
def d_is_build : He.DefD := ⟨("is_build", none), "is_build", "is_build", defArgs s_is_build, defBody s_is_build, defScope s_is_build, [], []⟩
def d_look_at_build : He.DefD := ⟨("look_at_build", none), "look_at_build", "look_at_build", defArgs s_look_at_build, defBody s_look_at_build, defScope s_look_at_build, [], []⟩
def d_mask_of : He.DefD := ⟨("mask_of", none), "mask_of", "mask_of", defArgs s_mask_of, defBody s_mask_of, defScope s_mask_of, [], []⟩
def d_build_by : He.DefD := ⟨("build_by", none), "build_by", "build_by", defArgs s_build_by, defBody s_build_by, defScope s_build_by, [], []⟩
def d_size_of : He.DefD := ⟨("size_of", none), "size_of", "size_of", defArgs s_size_of, defBody s_size_of, defScope s_size_of, [], []⟩
def d_is_let : He.DefD := ⟨("is_let", none), "is_let", "is_let", defArgs s_is_let, defBody s_is_let, defScope s_is_let, [], []⟩
def d_points_let : He.DefD := ⟨("points_let", none), "points_let", "points_let", defArgs s_points_let, defBody s_points_let, defScope s_points_let, [], []⟩
def d_does_hold : He.DefD := ⟨("does_hold", none), "does_hold", "does_hold", defArgs s_does_hold, defBody s_does_hold, defScope s_does_hold, [], []⟩
def d_holds : He.DefD := ⟨("holds", none), "holds", "holds", defArgs s_holds, defBody s_holds, defScope s_holds, [], []⟩
def d_look_at_good : He.DefD := ⟨("look_at_good", none), "look_at_good", "look_at_good", defArgs s_look_at_good, defBody s_look_at_good, defScope s_look_at_good, [], []⟩
def d_are_skills : He.DefD := ⟨("are_skills", none), "are_skills", "are_skills", defArgs s_are_skills, defBody s_are_skills, defScope s_are_skills, [], []⟩
def d_are_needs : He.DefD := ⟨("are_needs", none), "are_needs", "are_needs", defArgs s_are_needs, defBody s_are_needs, defScope s_are_needs, [], []⟩
def d_is_want : He.DefD := ⟨("is_want", none), "is_want", "is_want", defArgs s_is_want, defBody s_is_want, defScope s_is_want, [], []⟩
def d_are_bars : He.DefD := ⟨("are_bars", none), "are_bars", "are_bars", defArgs s_are_bars, defBody s_are_bars, defScope s_are_bars, [], []⟩
def d_are_numbered : He.DefD := ⟨("are_numbered", none), "are_numbered", "are_numbered", defArgs s_are_numbered, defBody s_are_numbered, defScope s_are_numbered, [], []⟩
def d_look_at_parts : He.DefD := ⟨("look_at_parts", none), "look_at_parts", "look_at_parts", defArgs s_look_at_parts, defBody s_look_at_parts, defScope s_look_at_parts, [], []⟩
def d_Book_init : He.DefD := ⟨("Book", some "__init__"), "__init__", "Book.__init__", defArgs s_Book_init, defBody s_Book_init, defScope s_Book_init, [], [("reset", .non)]⟩
def d_Book_asked_by : He.DefD := ⟨("Book", some "asked_by"), "asked_by", "Book.asked_by", defArgs s_Book_asked_by, defBody s_Book_asked_by, defScope s_Book_asked_by, [], []⟩
def d_Growth_init : He.DefD := ⟨("Growth", some "__init__"), "__init__", "Growth.__init__", defArgs s_Growth_init, defBody s_Growth_init, defScope s_Growth_init, [], []⟩
def d_Growth_order : He.DefD := ⟨("Growth", some "order"), "order", "Growth.order", defArgs s_Growth_order, defBody s_Growth_order, defScope s_Growth_order, [], []⟩
def d_growth : He.DefD := ⟨("growth", none), "growth", "growth", defArgs s_growth, defBody s_growth, defScope s_growth, [], []⟩
def d_is_grown : He.DefD := ⟨("is_grown", none), "is_grown", "is_grown", defArgs s_is_grown, defBody s_is_grown, defScope s_is_grown, [], []⟩
def d_look_at_kind : He.DefD := ⟨("look_at_kind", none), "look_at_kind", "look_at_kind", defArgs s_look_at_kind, defBody s_look_at_kind, defScope s_look_at_kind, [], []⟩
def d_names_in : He.DefD := ⟨("names_in", none), "names_in", "names_in", defArgs s_names_in, defBody s_names_in, defScope s_names_in, [], []⟩
def d_fallen_once : He.DefD := ⟨("fallen_once", none), "fallen_once", "fallen_once", defArgs s_fallen_once, defBody s_fallen_once, defScope s_fallen_once, [], []⟩
def d_fallen : He.DefD := ⟨("fallen", none), "fallen", "fallen", defArgs s_fallen, defBody s_fallen, defScope s_fallen, [], []⟩
def d_regrown : He.DefD := ⟨("regrown", none), "regrown", "regrown", defArgs s_regrown, defBody s_regrown, defScope s_regrown, [], []⟩
def d_carried_mask : He.DefD := ⟨("carried_mask", none), "carried_mask", "carried_mask", defArgs s_carried_mask, defBody s_carried_mask, defScope s_carried_mask, [], []⟩
def d_carried : He.DefD := ⟨("carried", none), "carried", "carried", defArgs s_carried, defBody s_carried, defScope s_carried, [], []⟩
def d_lost : He.DefD := ⟨("lost", none), "lost", "lost", defArgs s_lost, defBody s_lost, defScope s_lost, [], []⟩
def d_law_pool : He.DefD := ⟨("_law_pool", none), "_law_pool", "_law_pool", defArgs s_law_pool, defBody s_law_pool, defScope s_law_pool, [], []⟩
def d_law_take : He.DefD := ⟨("_law_take", none), "_law_take", "_law_take", defArgs s_law_take, defBody s_law_take, defScope s_law_take, [], []⟩
def d_law_one : He.DefD := ⟨("_law_one", none), "_law_one", "_law_one", defArgs s_law_one, defBody s_law_one, defScope s_law_one, [], []⟩
def d_law_turned : He.DefD := ⟨("_law_turned", none), "_law_turned", "_law_turned", defArgs s_law_turned, defBody s_law_turned, defScope s_law_turned, [], []⟩
def d_law_tree : He.DefD := ⟨("_law_tree", none), "_law_tree", "_law_tree", defArgs s_law_tree, defBody s_law_tree, defScope s_law_tree, [], []⟩
def d_law_rows : He.DefD := ⟨("_law_rows", none), "_law_rows", "_law_rows", defArgs s_law_rows, defBody s_law_rows, defScope s_law_rows, [], []⟩
def d_law_book : He.DefD := ⟨("_law_book", none), "_law_book", "_law_book", defArgs s_law_book, defBody s_law_book, defScope s_law_book, [], []⟩
def d_law_made : He.DefD := ⟨("_law_made", none), "_law_made", "_law_made", defArgs s_law_made, defBody s_law_made, defScope s_law_made, [], []⟩
def d_law_names : He.DefD := ⟨("_law_names", none), "_law_names", "_law_names", defArgs s_law_names, defBody s_law_names, defScope s_law_names, [], []⟩
def d_law_tier : He.DefD := ⟨("_law_tier", none), "_law_tier", "_law_tier", defArgs s_law_tier, defBody s_law_tier, defScope s_law_tier, [], []⟩
def d_law_need : He.DefD := ⟨("_law_need", none), "_law_need", "_law_need", defArgs s_law_need, defBody s_law_need, defScope s_law_need, [], []⟩
def d_law_order : He.DefD := ⟨("_law_order", none), "_law_order", "_law_order", defArgs s_law_order, defBody s_law_order, defScope s_law_order, [], []⟩
def d_law_is_row_met : He.DefD := ⟨("_law_is_row_met", none), "_law_is_row_met", "_law_is_row_met", defArgs s_law_is_row_met, defBody s_law_is_row_met, defScope s_law_is_row_met, [], []⟩
def d_law_below : He.DefD := ⟨("_law_below", none), "_law_below", "_law_below", defArgs s_law_below, defBody s_law_below, defScope s_law_below, [], []⟩
def d_law_is_met : He.DefD := ⟨("_law_is_met", none), "_law_is_met", "_law_is_met", defArgs s_law_is_met, defBody s_law_is_met, defScope s_law_is_met, [], []⟩
def d_law_size_let : He.DefD := ⟨("_law_size_let", none), "_law_size_let", "_law_size_let", defArgs s_law_size_let, defBody s_law_size_let, defScope s_law_size_let, [], []⟩
def d_law_holds : He.DefD := ⟨("_law_holds", none), "_law_holds", "_law_holds", defArgs s_law_holds, defBody s_law_holds, defScope s_law_holds, [], []⟩
def d_law_subsets : He.DefD := ⟨("_law_subsets", none), "_law_subsets", "_law_subsets", defArgs s_law_subsets, defBody s_law_subsets, defScope s_law_subsets, [], []⟩
def d_law_all : He.DefD := ⟨("_law_all", none), "_law_all", "_law_all", defArgs s_law_all, defBody s_law_all, defScope s_law_all, [], []⟩
def d_law_small : He.DefD := ⟨("_law_small", none), "_law_small", "_law_small", defArgs s_law_small, defBody s_law_small, defScope s_law_small, [], []⟩
def d_law_any_sort : He.DefD := ⟨("_law_any_sort", none), "_law_any_sort", "_law_any_sort", defArgs s_law_any_sort, defBody s_law_any_sort, defScope s_law_any_sort, [], []⟩
def d_law_fallen : He.DefD := ⟨("_law_fallen", none), "_law_fallen", "_law_fallen", defArgs s_law_fallen, defBody s_law_fallen, defScope s_law_fallen, [], []⟩
def d_law_regrown : He.DefD := ⟨("_law_regrown", none), "_law_regrown", "_law_regrown", defArgs s_law_regrown, defBody s_law_regrown, defScope s_law_regrown, [], []⟩
def d_law_carried : He.DefD := ⟨("_law_carried", none), "_law_carried", "_law_carried", defArgs s_law_carried, defBody s_law_carried, defScope s_law_carried, [], []⟩
def d_law_other_book : He.DefD := ⟨("_law_other_book", none), "_law_other_book", "_law_other_book", defArgs s_law_other_book, defBody s_law_other_book, defScope s_law_other_book, [], []⟩
def d_law : He.DefD := ⟨("law", none), "law", "law", defArgs s_law, defBody s_law, defScope s_law, [], []⟩
def fnl0 : List He.DefD := [d_is_whole, d_is_number, d_is_word, d_is_row, d_are_unlike, d_are_tuples, d_are_skills_of, d_in_order, d_is_build, d_look_at_build, d_mask_of, d_build_by, d_size_of, d_is_let, d_points_let, d_does_hold, d_holds, d_look_at_good, d_are_skills, d_are_needs, d_is_want, d_are_bars, d_are_numbered, d_look_at_parts, d_Book_init, d_Book_asked_by, d_Growth_init, d_Growth_order, d_growth, d_is_grown]
def fnl1 : List He.DefD := [d_look_at_kind, d_names_in, d_fallen_once, d_fallen, d_regrown, d_carried_mask, d_carried, d_lost, d_law_pool, d_law_take, d_law_one, d_law_turned, d_law_tree, d_law_rows, d_law_book, d_law_made, d_law_names, d_law_tier, d_law_need, d_law_order, d_law_is_row_met, d_law_below, d_law_is_met, d_law_size_let, d_law_holds, d_law_subsets, d_law_all, d_law_small, d_law_any_sort, d_law_fallen]
def fnl2 : List He.DefD := [d_law_regrown, d_law_carried, d_law_other_book, d_law]
def fnl : List He.DefD := fnl0 ++ fnl1 ++ fnl2
def fal0 : List He.Fa := [.glo "is_whole", .glo "is_number", .glo "is_word", .glo "is_row", .glo "are_unlike", .glo "are_tuples", .glo "are_skills_of", .glo "in_order", .glo "is_build", .glo "look_at_build", .glo "mask_of", .glo "build_by", .glo "size_of", .glo "is_let", .glo "points_let", .glo "does_hold", .glo "holds", .glo "look_at_good", .glo "are_skills", .glo "are_needs", .glo "is_want", .glo "are_bars", .glo "are_numbered", .glo "look_at_parts", .glo "growth", .glo "is_grown", .glo "look_at_kind", .glo "names_in", .glo "fallen_once", .glo "fallen"]
def fal1 : List He.Fa := [.glo "regrown", .glo "carried_mask", .glo "carried", .glo "lost", .glo "_law_pool", .glo "_law_take", .glo "_law_one", .glo "_law_turned", .glo "_law_tree", .glo "_law_rows", .glo "_law_book", .glo "_law_made", .glo "_law_names", .glo "_law_tier", .glo "_law_need", .glo "_law_order", .glo "_law_is_row_met", .glo "_law_below", .glo "_law_is_met", .glo "_law_size_let", .glo "_law_holds", .glo "_law_subsets", .glo "_law_all", .glo "_law_small", .glo "_law_any_sort", .glo "_law_fallen", .glo "_law_regrown", .glo "_law_carried", .glo "_law_other_book", .glo "law"]
def fal2 : List He.Fa := [.glo "Book", .glo "Growth", .glo "PARTS", .glo "KINDS", .free "isinstance", .free "len", .free "all", .free "any", .free "sum", .free "int", .free "bool", .free "str", .free "list", .free "tuple", .free "dict", .free "zip", .free "sorted", .free "range", .free "max", .free "min", .int "MOST_LETTERS" 8, .int "MOST_SKILLS" 12, .int "MOST_TIERS" 4, .int "MOST_POINTS" 12, .int "MOST_WANTS" 12, .int "MOST_BARS" 6, .int "MOST_GIVEN" 3, .int "MOST_PRICE" 99, .str "LETTERS" "abcdefghijklmnopqrstuvwxyz", .cls "Book"]
def fal3 : List He.Fa := [.cls "Growth", .noat "Book" "record", .noat "Book" "own_points", .noat "Book" "own_reset", .noat "Book" "own_names", .noat "Book" "own_tiers", .noat "Book" "tier_by", .noat "Book" "spots", .noat "Book" "bits", .noat "Book" "own_needs", .noat "Book" "own_prices", .noat "Book" "own_given", .noat "Book" "barred", .noat "Book" "asked", .noat "Growth" "book", .noat "Growth" "goal", .noat "Growth" "dead", .meth "Book" "asked_by", .meth "Growth" "order", .mkr "Book", .mkr "Growth"]
def fal : List He.Fa := fal0 ++ fal1 ++ fal2 ++ fal3
def nml0 : List PySem.Str := ["_wall", "__name__", "TreeError", "NoBook", "NoSkill", "NoBuild", "NoKind", "LETTERS", "MOST_LETTERS", "is_whole", "is_number", "is_word", "is_row", "are_unlike", "are_tuples", "are_skills_of", "in_order", "is_build", "look_at_build", "mask_of", "build_by", "size_of", "is_let", "points_let", "does_hold", "holds", "look_at_good", "PARTS", "MOST_SKILLS", "MOST_TIERS"]
def nml1 : List PySem.Str := ["MOST_POINTS", "MOST_WANTS", "MOST_BARS", "MOST_GIVEN", "MOST_PRICE", "are_skills", "are_needs", "is_want", "are_bars", "are_numbered", "look_at_parts", "Book", "Growth", "growth", "is_grown", "KINDS", "look_at_kind", "names_in", "fallen_once", "fallen", "regrown", "carried_mask", "carried", "lost", "_law_pool", "_law_take", "_law_one", "_law_turned", "_law_tree", "_law_rows"]
def nml2 : List PySem.Str := ["_law_book", "_law_made", "_law_names", "_law_tier", "_law_need", "_law_order", "_law_is_row_met", "_law_below", "_law_is_met", "_law_size_let", "_law_holds", "_law_subsets", "_law_all", "_law_small", "_law_any_sort", "_law_fallen", "_law_regrown", "_law_carried", "_law_other_book"]
def nml : List PySem.Str := nml0 ++ nml1 ++ nml2
def tupK (K : PySem.W.Frag) : Bool := He.tupB K "PARTS" [.str "skills", .str "points", .str "needs", .str "wants", .str "bars", .str "gives", .str "prices", .str "reset"] && He.tupB K "KINDS" [.str "fall", .str "grown", .str "keep"]
abbrev R : PySem.W.OpenRow := PySem.W.OpenLaw.row PySem.Challenge.rw_refundtrees_k46_whole_builds_carried_ove
abbrev hk : PySem.W.Hook := He.hookX 5 fal fnl [] [] tupK
def ob (s : PySem.W.SharedT) : He.AlX := He.obsX 5 fal fnl [] [] tupK (HandSHeadRun.getT s)
theorem ob_eq (s : PySem.W.SharedT) : ob s = hk.obs s.abs := He.obsX_eq (HandSHeadRun.getT_eq s)
theorem run (w : World) : HandSHeadRun.RunEq R (PySem.W.view R.prog [86]) hk ob 6000 nml w := by
  intro os
  kernel_rfl
end Rt
open PySem PySem.W PySem.Calls PyProof.Rows in
theorem Rt.head_first (F : ∀ (w : World) (mg : Str → Option Value) (fa : Addr) (h : Heap), (∃ K : PySem.W.Frag, K.In h ∧ He.SaysX Rt.fal Rt.fnl [] [] Rt.tupK w h K) → h.Ns mainGlobals mg → mg ("law" : PySem.Str) = some (.ref fa) →
      ∃ (K : PySem.W.Frag) (fd : FuncData) (sp : L2.Sp), K.In h ∧ (∀ (s : Shared) (u : Value), BindsTo s fd ⟨[u], []⟩ [("_law_script", u)]) ∧
        (∀ (H : L2.Hp) (a : Addr) (ns : List Int), ns.length ≤ 63 → L2.Only H → L2.SqL K H a (ns.map L2.V.int) → sp [.ref a] H (fun v _ => v = .bl true) fun _ _ _ => False) ∧
        ∀ base : Heap, K.In base → base.Ns mainGlobals mg → L2.FnOk (PySem.Challenge.rw_refundtrees_k46_whole_builds_carried_ove).prog w K mg base L2.CX0 15 fa fd ["_law_script"] sp) : PySem.Challenge.rw_refundtrees_k46_whole_builds_carried_ove.Holds := by
  w_on; o_law
  refine HandSHeadRun.head_any (r := OpenLaw.row PySem.Challenge.rw_refundtrees_k46_whole_builds_carried_ove) (q := view (OpenLaw.row PySem.Challenge.rw_refundtrees_k46_whole_builds_carried_ove).prog [86]) (H := Rt.hk) (ob := Rt.ob) (M := 6000) (loose := Rt.nml) (d := HandSHeadRun.topDef (OpenLaw.row PySem.Challenge.rw_refundtrees_k46_whole_builds_carried_ove).prog 86) (kwd := []) Rt.ob_eq
    (by kernel_rfl) (fun s => by kernel_rfl) Rt.run (by kernel_rfl) (by kernel_rfl) (by kernel_rfl) (by rfl) (by first | assumption | decide +kernel) (by decide +kernel) ⟨rfl, rfl, rfl, rfl, rfl, by decide +kernel⟩ ?hw ?hc
  case hw => w_witness2
  case hc =>
    refine L2.walk_ofE (l := PySem.Challenge.rw_refundtrees_k46_whole_builds_carried_ove) (n := 63) (k := 15) (x := "_law_script") (CX := L2.CX0) rfl (by decide) (by kernel_rfl) ⟨rfl, by decide, by decide⟩ ?F (fun _ _ _ _ z => z)
    intro w mg fa h Y G hmg0
    refine F w mg fa h Y G ?_
    have e : (HandSHeadRun.topDef (OpenLaw.row PySem.Challenge.rw_refundtrees_k46_whole_builds_carried_ove).prog 86).name = ("law" : PySem.Str) := by kernel_rfl
    rw [← e]
    exact hmg0
/-! What an expression, a statement comes to, told by data: a small layer of words over the readings. -/
namespace Rt
open PySem PySem.Spec PyProof.Rows L2
/-! ### data -/
structure Tx where
  K : PySem.W.Frag
  C : Addr
  CG : Addr
inductive Fl where
  | py (d : PyData)
  | dic (kvs : List (Key × PyData))
inductive Dd where
  | fl (x : Fl)
  | ins (fs : List (Str × Fl))
  | gro (fs : List (Str × Fl)) (goal : Int)
  | own (k : Nat)
  | cls (n : String)
  | ktup (xs : List Str)
  | klst (xs : List Int)
abbrev Dd.py (d : PyData) : Dd := .fl (.py d)
abbrev Dd.dic (kvs : List (Key × PyData)) : Dd := .fl (.dic kvs)
inductive Ow where
  | pool
  | lst (ds : List PyData)
  | dic (kvs : List (Key × PyData))
  | ins (fs : List (Str × Fl))
abbrev En := List (Option Dd)
def Dd.free : Dd → Bool
  | .fl _ => true
  | .ins _ => true
  | .cls _ => true
  | .ktup _ => true
  | .klst _ => true
  | _ => false
theorem seqL_up {K : PySem.W.Frag} {H H' : Hp} {a : Addr} {xs : List V} (e : Same H H') (h : SqL K H a xs) : SqL K H' a xs := by
  rcases h with (h | ⟨o, h⟩) | h
  · exact .inl (.inl (e _ _ h))
  · exact .inl (.inr ⟨o, e _ _ h⟩)
  · exact .inr h
theorem seqT_up {K : PySem.W.Frag} {H H' : Hp} {a : Addr} {xs : List V} (e : Same H H') (h : SqT K H a xs) : SqT K H' a xs := by
  rcases h with (h | ⟨o, h⟩) | h
  · exact .inl (.inl (e _ _ h))
  · exact .inl (.inr ⟨o, e _ _ h⟩)
  · exact .inr h
mutual
/-- what a value is; lists are objects that are tracked -/
inductive Dq (K : PySem.W.Frag) (H : Hp) : V → PyData → Prop
  | non : Dq K H .non .none
  | bl (b : Bool) : Dq K H (.bl b) (.bool b)
  | int (i : Int) : Dq K H (.int i) (.int i)
  | str (x : Str) : Dq K H (.str x) (.str x)
  | lst {a : Addr} {xs : List V} {ds : List PyData} : H a = some (.lst xs) → DqA K H xs ds → Dq K H (.ref a) (.list ds)
  | tup {a : Addr} {xs : List V} {ds : List PyData} : H a = some (.tup xs) → DqA K H xs ds → Dq K H (.ref a) (.tuple ds)
inductive DqA (K : PySem.W.Frag) (H : Hp) : List V → List PyData → Prop
  | nil : DqA K H [] []
  | cons {v : V} {vs : List V} {d : PyData} {ds : List PyData} : Dq K H v d → DqA K H vs ds → DqA K H (v :: vs) (d :: ds)
end
mutual
theorem Dq.up {K : PySem.W.Frag} {H H' : Hp} (e : Same H H') : ∀ {v : V} {d : PyData}, Dq K H v d → Dq K H' v d
  | _, _, .non => .non
  | _, _, .bl b => .bl b
  | _, _, .int i => .int i
  | _, _, .str x => .str x
  | _, _, .lst h t => .lst (e _ _ h) (DqA.up e t)
  | _, _, .tup h t => .tup (e _ _ h) (DqA.up e t)
theorem DqA.up {K : PySem.W.Frag} {H H' : Hp} (e : Same H H') : ∀ {vs : List V} {ds : List PyData}, DqA K H vs ds → DqA K H' vs ds
  | _, _, .nil => .nil
  | _, _, .cons h t => .cons (Dq.up e h) (DqA.up e t)
end
mutual
theorem Dq.dp {K : PySem.W.Frag} {H : Hp} : ∀ {v : V} {d : PyData}, Dq K H v d → Dp K H v d
  | _, _, .non => .non
  | _, _, .bl b => .bl b
  | _, _, .int i => .int i
  | _, _, .str x => .str x
  | _, _, .lst h t => .lst (.of h) (DqA.dp t)
  | _, _, .tup h t => .tup (.of h) (DqA.dp t)
theorem DqA.dp {K : PySem.W.Frag} {H : Hp} : ∀ {vs : List V} {ds : List PyData}, DqA K H vs ds → DpAll K H vs ds
  | _, _, .nil => .nil
  | _, _, .cons h t => .cons (Dq.dp h) (DqA.dp t)
end
section
variable {K : PySem.W.Frag} {H : Hp} {v : V}
theorem dq_int {i : Int} (h : Dq K H v (.int i)) : v = .int i := by cases h; rfl
theorem dq_str {x : Str} (h : Dq K H v (.str x)) : v = .str x := by cases h; rfl
theorem dq_bl {b : Bool} (h : Dq K H v (.bool b)) : v = .bl b := by cases h; rfl
theorem dq_non (h : Dq K H v .none) : v = .non := by cases h; rfl
theorem dq_lst {ds : List PyData} (h : Dq K H v (.list ds)) : ∃ a xs, v = .ref a ∧ H a = some (.lst xs) ∧ DqA K H xs ds := by
  cases h with
  | lst h t => exact ⟨_, _, rfl, h, t⟩
theorem dq_tup {ds : List PyData} (h : Dq K H v (.tuple ds)) : ∃ a xs, v = .ref a ∧ SqT K H a xs ∧ DqA K H xs ds := by
  cases h with
  | tup h t => exact ⟨_, _, rfl, .of h, t⟩
theorem dq_tupT {ds : List PyData} (h : Dq K H v (.tuple ds)) : ∃ a xs, v = .ref a ∧ H a = some (.tup xs) ∧ DqA K H xs ds := by
  cases h with
  | tup h t => exact ⟨_, _, rfl, h, t⟩
theorem dqA_len : ∀ {vs : List V} {ds : List PyData}, DqA K H vs ds → vs.length = ds.length
  | _, _, .nil => rfl
  | _, _, .cons _ t => congrArg Nat.succ (dqA_len t)
theorem dqA_get : ∀ {vs : List V} {ds : List PyData} {i : Nat} {d : PyData}, DqA K H vs ds → ds[i]? = some d → ∃ v, vs[i]? = some v ∧ Dq K H v d
  | _, _, _, _, .nil, e => by simp at e
  | _, _, 0, _, .cons h _, e => by
    cases Option.some.inj e
    exact ⟨_, rfl, h⟩
  | _, _, i + 1, _, .cons _ t, e => dqA_get (i := i) t e
theorem dqA_app : ∀ {vs ws : List V} {ds es : List PyData}, DqA K H vs ds → DqA K H ws es → DqA K H (vs ++ ws) (ds ++ es)
  | _, _, _, _, .nil, s => s
  | _, _, _, _, .cons h t, s => .cons h (dqA_app t s)
theorem dqA_drop : ∀ {vs : List V} {ds : List PyData} (n : Nat), DqA K H vs ds → DqA K H (vs.drop n) (ds.drop n)
  | _, _, 0, r => r
  | _, _, _ + 1, .nil => .nil
  | _, _, n + 1, .cons _ t => dqA_drop n t
theorem dqA_take : ∀ {vs : List V} {ds : List PyData} (n : Nat), DqA K H vs ds → DqA K H (vs.take n) (ds.take n)
  | _, _, 0, _ => .nil
  | _, _, _ + 1, .nil => .nil
  | _, _, n + 1, .cons h t => .cons h (dqA_take n t)
theorem dqA_erase : ∀ {vs : List V} {ds : List PyData} (n : Nat), DqA K H vs ds → DqA K H (vs.eraseIdx n) (ds.eraseIdx n)
  | _, _, 0, .nil => .nil
  | _, _, _ + 1, .nil => .nil
  | _, _, 0, .cons _ t => t
  | _, _, n + 1, .cons h t => .cons h (dqA_erase n t)
theorem dqA_rev : ∀ {vs : List V} {ds : List PyData}, DqA K H vs ds → DqA K H vs.reverse ds.reverse
  | _, _, .nil => .nil
  | _, _, .cons h t => by
    rw [List.reverse_cons, List.reverse_cons]
    exact dqA_app (dqA_rev t) (.cons h .nil)
theorem dqA_ints : ∀ {vs : List V} {ns : List Int}, DqA K H vs (ns.map PyData.int) → vs = ns.map V.int
  | _, [], .nil => rfl
  | _, n :: ns, .cons h t => by
    rw [dq_int h, dqA_ints t]
    rfl
theorem dqA_bls : ∀ {vs : List V} {ns : List Bool}, DqA K H vs (ns.map PyData.bool) → vs = ns.map V.bl
  | _, [], .nil => rfl
  | _, n :: ns, .cons h t => by
    rw [dq_bl h, dqA_bls t]
    rfl
theorem dqA_strs : ∀ {vs : List V} {ns : List Str}, DqA K H vs (ns.map PyData.str) → vs = ns.map V.str
  | _, [], .nil => rfl
  | _, n :: ns, .cons h t => by
    rw [dq_str h, dqA_strs t]
    rfl
theorem dqA_of_ints : ∀ ns : List Int, DqA K H (ns.map V.int) (ns.map PyData.int)
  | [] => .nil
  | n :: ns => .cons (.int n) (dqA_of_ints ns)
theorem dqA_of_strs : ∀ ns : List Str, DqA K H (ns.map V.str) (ns.map PyData.str)
  | [] => .nil
  | n :: ns => .cons (.str n) (dqA_of_strs ns)
end
abbrev KvR (K : PySem.W.Frag) (H : Hp) : List (Key × V) → List (Key × PyData) → Prop := Paired fun (p : Key × V) (q : Key × PyData) => p.1 = q.1 ∧ Dq K H p.2 q.2
def RepF (K : PySem.W.Frag) (H : Hp) : Fl → V → Prop
  | .py d, v => Dq K H v d
  | .dic kvs, v => ∃ a vs, v = .ref a ∧ H a = some (.dK vs) ∧ KvR K H vs kvs
abbrev FsR (K : PySem.W.Frag) (H : Hp) : List (Str × V) → List (Str × Fl) → Prop := Paired fun (p : Str × V) (q : Str × Fl) => p.1 = q.1 ∧ RepF K H q.2 p.2
def InsR (T : Tx) (H : Hp) (fs : List (Str × Fl)) (v : V) : Prop := ∃ a dx vs, v = .ref a ∧ H a = some (.ins T.C dx vs) ∧ FsR T.K H vs fs
def Rep (T : Tx) (as : List Addr) (H : Hp) : Dd → V → Prop
  | .fl x, v => RepF T.K H x v
  | .ins fs, v => InsR T H fs v
  | .gro fs goal, v => ∃ a dx b d, v = .ref a ∧ H a = some (.ins T.CG dx [("book", b), ("goal", .int goal), ("dead", .ref d)]) ∧ as[0]? = some d ∧ InsR T H fs b
  | .own k, v => ∃ a, as[k]? = some a ∧ v = .ref a
  | .cls n, v => v = .ty n
  | .ktup xs, v => ∃ a, v = .ref a ∧ ∀ H', SqT T.K H' a (xs.map V.str)
  | .klst xs, v => ∃ a, v = .ref a ∧ SqL T.K H a (xs.map V.int)
theorem paired_up {α β : Type} {F G : α → β → Prop} (h : ∀ a b, F a b → G a b) {l : List α} {m : List β} (r : Paired F l m) : Paired G l m := Paired.mapP r h
theorem KvR.up {K : PySem.W.Frag} {H H' : Hp} (e : Same H H') {vs : List (Key × V)} {ks : List (Key × PyData)} (h : KvR K H vs ks) : KvR K H' vs ks := paired_up (fun _ _ q => ⟨q.1, q.2.up e⟩) h
theorem RepF.up {K : PySem.W.Frag} {H H' : Hp} (e : Same H H') {x : Fl} {v : V} (h : RepF K H x v) : RepF K H' x v := by
  cases x with
  | py d => exact Dq.up e h
  | dic kvs =>
    obtain ⟨a, vs, e1, e2, r⟩ := h
    exact ⟨a, vs, e1, e _ _ e2, KvR.up e r⟩
theorem FsR.up {K : PySem.W.Frag} {H H' : Hp} (e : Same H H') {vs : List (Str × V)} {ks : List (Str × Fl)} (h : FsR K H vs ks) : FsR K H' vs ks := paired_up (fun _ _ q => ⟨q.1, q.2.up e⟩) h
theorem InsR.up {T : Tx} {H H' : Hp} (e : Same H H') {fs : List (Str × Fl)} {v : V} (h : InsR T H fs v) : InsR T H' fs v := by
  obtain ⟨a, dx, vs, e1, e2, r⟩ := h
  exact ⟨a, dx, vs, e1, e _ _ e2, FsR.up e r⟩
theorem Rep.up {T : Tx} {as : List Addr} {H H' : Hp} (e : Same H H') {d : Dd} {v : V} (h : Rep T as H d v) : Rep T as H' d v := by
  cases d with
  | fl x => exact RepF.up e h
  | ins fs => exact InsR.up e h
  | gro fs g =>
    obtain ⟨a, dx, b, d, e1, e2, e3, r⟩ := h
    exact ⟨a, dx, b, d, e1, e _ _ e2, e3, r.up e⟩
  | own k => exact h
  | cls n => exact h
  | ktup xs => exact h
  | klst xs =>
    obtain ⟨a, e1, e2⟩ := h
    exact ⟨a, e1, seqL_up e e2⟩
theorem Rep.move {T : Tx} {as bs : List Addr} {H : Hp} {d : Dd} {v : V} (f : d.free = true) (h : Rep T as H d v) : Rep T bs H d v := by
  cases d with
  | fl x => exact h
  | ins fs => exact h
  | cls n => exact h
  | ktup xs => exact h
  | klst xs => exact h
  | gro fs g => cases f
  | own k => cases f
abbrev RepL (T : Tx) (as : List Addr) (H : Hp) : List Dd → List V → Prop := Paired fun d v => Rep T as H d v
theorem RepL.up {T : Tx} {as : List Addr} {H H' : Hp} (e : Same H H') {ds : List Dd} {vs : List V} (h : RepL T as H ds vs) : RepL T as H' ds vs := paired_up (fun _ _ q => q.up e) h
theorem RepL.move {T : Tx} {as bs : List Addr} {H : Hp} : ∀ {ds : List Dd} {vs : List V}, ds.all Dd.free = true → RepL T as H ds vs → RepL T bs H ds vs
  | _, _, _, .nil => .nil
  | d :: ds, _, f, .cons h t => by
    rw [List.all_cons, Bool.and_eq_true] at f
    exact .cons (h.move f.1) (RepL.move f.2 t)
/-! ### a name's values -/
structure RepE (T : Tx) (as : List Addr) (G : Hp) (ρ : En) (σ : L2.St) : Prop where
  len : σ.length = ρ.length
  at_ : ∀ (i : Nat) (d : Dd), ρ[i]? = some (some d) → ∃ v, σ[i]? = some (some v) ∧ Rep T as G d v
section
variable {T : Tx} {as : List Addr} {G G' : Hp} {ρ : En} {σ : L2.St}
theorem RepE.up (e : Same G G') (h : RepE T as G ρ σ) : RepE T as G' ρ σ := ⟨h.len, fun i d q => let ⟨v, a, b⟩ := h.at_ i d q; ⟨v, a, b.up e⟩⟩
theorem RepE.set {d : Dd} {v : V} (h : RepE T as G ρ σ) (i : Nat) (r : Rep T as G d v) : RepE T as G (ρ.set i (some d)) (σ.set i (some v)) := by
  refine ⟨by rw [List.length_set, List.length_set]; exact h.len, fun j e q => ?_⟩
  by_cases hj : i = j
  · subst hj
    have hl : i < ρ.length := by
      have := (List.getElem?_eq_some_iff.mp q).1
      rwa [List.length_set] at this
    rw [List.getElem?_set_self hl] at q
    cases Option.some.inj (Option.some.inj q)
    exact ⟨v, List.getElem?_set_self (by rw [h.len]; exact hl), r⟩
  · rw [List.getElem?_set_ne hj] at q ⊢
    exact h.at_ j e q
theorem RepE.unset (h : RepE T as G ρ σ) (i : Nat) : RepE T as G (ρ.set i none) (σ.set i none) := by
  refine ⟨by rw [List.length_set, List.length_set]; exact h.len, fun j e q => ?_⟩
  by_cases hj : i = j
  · subst hj
    have hl : i < ρ.length := by
      have := (List.getElem?_eq_some_iff.mp q).1
      rwa [List.length_set] at this
    rw [List.getElem?_set_self hl] at q
    cases Option.some.inj q
  · rw [List.getElem?_set_ne hj] at q ⊢
    exact h.at_ j e q
def wipeD (ρ : En) : List Nat → En
  | [] => ρ
  | v :: vs => (wipeD ρ vs).set v none
theorem RepE.wipe (h : RepE T as G ρ σ) : ∀ vs : List Nat, RepE T as G (wipeD ρ vs) (wipe σ vs)
  | [] => h
  | v :: vs => (h.wipe vs).unset v
theorem wipe_at (σ : L2.St) : ∀ (vs : List Nat) (i : Nat), i ∉ vs → (wipe σ vs)[i]? = σ[i]?
  | [], _, _ => rfl
  | v :: vs, i, hi => by
    show ((wipe σ vs).set v none)[i]? = σ[i]?
    rw [List.getElem?_set_ne (fun e : v = i => hi (by rw [← e]; exact List.mem_cons_self))]
    exact wipe_at σ vs i fun z => hi (List.mem_cons_of_mem _ z)
theorem wipe_in (σ : L2.St) : ∀ (vs : List Nat) (i : Nat), i ∈ vs → i < σ.length → (wipe σ vs)[i]? = some none
  | [], _, h, _ => by cases h
  | v :: vs, i, h, hl => by
    show ((wipe σ vs).set v none)[i]? = some none
    by_cases e : v = i
    · subst e
      exact List.getElem?_set_self (by rw [wipe_length]; exact hl)
    · rw [List.getElem?_set_ne e]
      rcases List.mem_cons.mp h with z | z
      · exact absurd z.symm e
      · exact wipe_in σ vs i z hl
/-- what differs at the wiped places alone is wiped alike -/
theorem wipe_eq {σ σ' : L2.St} {vs : List Nat} (hl : σ'.length = σ.length) (h : ∀ i, i ∉ vs → σ'[i]? = σ[i]?) : wipe σ' vs = wipe σ vs := by
  refine List.ext_getElem? fun i => ?_
  by_cases hi : i ∈ vs
  · by_cases hb : i < σ.length
    · rw [wipe_in σ vs i hi hb, wipe_in σ' vs i hi (by omega)]
    · rw [List.getElem?_eq_none (by rw [wipe_length]; omega), List.getElem?_eq_none (by rw [wipe_length]; omega)]
  · rw [wipe_at σ vs i hi, wipe_at σ' vs i hi, h i hi]
end
theorem same_new {G : Hp} {p : Addr} {o : HO} (h : G p = none) : Same G (upd G p o) := fun a u e => by
  rw [upd_ne (ne_of_none e h)]
  exact e
/-! ### what a step leaves: G what is known, H all that is tracked, as what may be changed -/
structure Stp (as as' : List Addr) (G H G2 H2 : Hp) : Prop where
  gg : Same G G2
  gh : Same G2 H2
  hh : ∀ a o, a ∉ as → H a = some o → H2 a = some o
  ha : ∀ a, H a ≠ none → H2 a ≠ none
  fr : ∀ a, a ∉ as → G a = none → H a ≠ none → G2 a = none
  nw : ∀ a, a ∈ as' → a ∉ as → H a = none
abbrev Stq (G H G2 H2 : Hp) : Prop := Stp [] [] G H G2 H2
section
variable {as as' as'' : List Addr} {G H G2 H2 G3 H3 : Hp}
theorem Stp.refl (s : Same G H) : Stp as as G H G H := ⟨Same.refl G, s, fun _ _ _ h => h, fun _ h => h, fun _ _ h _ => h, fun _ h n => absurd h n⟩
theorem Stp.trans (s1 : Stp as as' G H G2 H2) (s2 : Stp as' as'' G2 H2 G3 H3) : Stp as as'' G H G3 H3 := by
  refine ⟨s1.gg.trans s2.gg, s2.gh, fun a o n h => ?_, fun a h => s2.ha a (s1.ha a h), fun a n g h => ?_, fun a h n => ?_⟩
  · refine s2.hh a o (fun z => ?_) (s1.hh a o n h)
    have := s1.nw a z n
    rw [h] at this
    cases this
  · refine s2.fr a (fun z => h (s1.nw a z n)) (s1.fr a n g h) (s1.ha a h)
  · by_cases z : a ∈ as'
    · exact s1.nw a z n
    · have q := s2.nw a h z
      cases e : H a with
      | none => rfl
      | some o => exact absurd q (s1.ha a (by rw [e]; intro y; cases y))
theorem Stq.any (s : Stq G H G2 H2) : Stp as as G H G2 H2 := ⟨s.gg, s.gh, fun a o _ h => s.hh a o (List.not_mem_nil) h, s.ha, fun a _ g h => s.fr a (List.not_mem_nil) g h, fun _ h n => absurd h n⟩
theorem Stq.hs (s : Stq G H G2 H2) : Same H H2 := fun a o h => s.hh a o (List.not_mem_nil) h
theorem Stp.new {p : Addr} {o : HO} (s : Stp as as' G H G2 H2) (hp : H2 p = none) : Stp as as' G H (upd G2 p o) (upd H2 p o) := by
  have gp : G2 p = none := s.gh.free hp
  refine ⟨fun a u h => ?_, fun a u h => ?_, fun a u n h => ?_, fun a h => ?_, fun a n g h => ?_, s.nw⟩
  · have q := s.gg a u h
    rw [upd_ne (ne_of_none q gp)]
    exact q
  · by_cases e : a = p
    · subst e
      rw [upd_same] at h ⊢
      exact h
    · rw [upd_ne e] at h ⊢
      exact s.gh a u h
  · have q := s.hh a u n h
    rw [upd_ne (ne_of_none q hp)]
    exact q
  · by_cases e : a = p
    · subst e
      rw [upd_same]
      intro z
      cases z
    · rw [upd_ne e]
      exact s.ha a h
  · have e : a ≠ p := fun e => by
      subst e
      exact s.ha a h hp
    rw [upd_ne e]
    exact s.fr a n g h
/-- a new object that is not made known -/
theorem Stp.hid {p : Addr} {o : HO} (s : Stp as as' G H G2 H2) (hp : H2 p = none) : Stp as as' G H G2 (upd H2 p o) := by
  refine ⟨s.gg, fun a u h => ?_, fun a u n h => ?_, fun a h => ?_, fun a n g h => s.fr a n g h, s.nw⟩
  · have q := s.gh a u h
    rw [upd_ne (ne_of_none q hp)]
    exact q
  · have q := s.hh a u n h
    rw [upd_ne (ne_of_none q hp)]
    exact q
  · by_cases e : a = p
    · subst e
      rw [upd_same]
      intro z
      cases z
    · rw [upd_ne e]
      exact s.ha a h
end
/-! ### what is owned: changed in place, not known -/
def OwR (T : Tx) (G H : Hp) (a : Addr) : Ow → Prop
  | .pool => ∃ i j, H a = some (.lst [.int i, .int j]) ∧ 0 ≤ i ∧ 0 ≤ j ∧ j < 2147483647
  | .lst ds => ∃ xs, H a = some (.lst xs) ∧ DqA T.K G xs ds
  | .dic kvs => ∃ vs, H a = some (.dK vs) ∧ KvR T.K G vs kvs
  | .ins fs => ∃ dx vs, H a = some (.ins T.C dx vs) ∧ FsR T.K G vs fs
theorem OwR.up {T : Tx} {G H G2 H2 : Hp} {a : Addr} {o : Ow} (h : OwR T G H a o) (g : Same G G2) (k : ∀ u, H a = some u → H2 a = some u) : OwR T G2 H2 a o := by
  cases o with
  | pool =>
    obtain ⟨i, j, e, r⟩ := h
    exact ⟨i, j, k _ e, r⟩
  | lst ds =>
    obtain ⟨xs, e, r⟩ := h
    exact ⟨xs, k _ e, DqA.up g r⟩
  | dic kvs =>
    obtain ⟨xs, e, r⟩ := h
    exact ⟨xs, k _ e, KvR.up g r⟩
  | ins fs =>
    obtain ⟨dx, xs, e, r⟩ := h
    exact ⟨dx, xs, k _ e, FsR.up g r⟩
theorem OwR.there {T : Tx} {G H : Hp} {a : Addr} {o : Ow} (h : OwR T G H a o) : H a ≠ none := by
  intro z
  cases o with
  | pool => obtain ⟨i, j, e, r⟩ := h; rw [z] at e; cases e
  | lst ds => obtain ⟨xs, e, r⟩ := h; rw [z] at e; cases e
  | dic kvs => obtain ⟨xs, e, r⟩ := h; rw [z] at e; cases e
  | ins fs => obtain ⟨dx, xs, e, r⟩ := h; rw [z] at e; cases e
structure Own (T : Tx) (as : List Addr) (ω : List Ow) (G H : Hp) : Prop where
  nd : as.Nodup
  len : as.length = ω.length
  ow : ∀ (k : Nat) a o, as[k]? = some a → ω[k]? = some o → G a = none ∧ OwR T G H a o
theorem Own.nil {T : Tx} {G H : Hp} : Own T [] [] G H := ⟨List.nodup_nil, rfl, fun k a o e => by simp at e⟩
theorem Own.step {T : Tx} {as : List Addr} {ω : List Ow} {G H G2 H2 : Hp} (w : Own T as ω G H) (s : Stq G H G2 H2) : Own T as ω G2 H2 :=
  ⟨w.nd, w.len, fun k a o e1 e2 => let ⟨g, r⟩ := w.ow k a o e1 e2; ⟨s.fr a List.not_mem_nil g r.there, r.up s.gg fun u h => s.hs a u h⟩⟩
/-! ### judgements -/
def Ev (T : Tx) (te : TE) (ρ : En) (d : Dd) : Prop := ∀ as σ G H, RepE T as G ρ σ → Same G H → ∀ Q : VK, (∀ v G2 H2, Stq G H G2 H2 → Rep T as G2 d v → Q v H2) → te σ H Q
def EvT (T : Tx) (tt : TT) (ρ : En) (b : Bool) : Prop := ∀ as σ G H, RepE T as G ρ σ → Same G H → ∀ Q : Bool → Hp → Prop, (∀ G2 H2, Stq G H G2 H2 → Q b H2) → tt σ H Q
def EvA (T : Tx) (ta : TA) (ρ : En) (ds : List Dd) : Prop := ∀ as σ G H, RepE T as G ρ σ → Same G H → ∀ Q : List V → Hp → Prop, (∀ vs G2 H2, Stq G H G2 H2 → RepL T as G2 ds vs → Q vs H2) → ta σ H Q
/-- a new list -/
def EvN (T : Tx) (te : TE) (ρ : En) (ds : List PyData) : Prop := ∀ as σ G H, RepE T as G ρ σ → Same G H → ∀ Q : VK, (∀ p xs G2 H2, Stq G H G2 H2 → H2 p = none → DqA T.K G2 xs ds → Q (.ref p) (upd H2 p (.lst xs))) → te σ H Q
def EvR (T : Tx) (r : R2) (x y z : Dd) : Prop := ∀ as G H v w, Rep T as G x v → Rep T as G y w → Same G H → ∀ Q : VK, (∀ u G2 H2, Stq G H G2 H2 → Rep T as G2 z u → Q u H2) → r v w H Q
def EvC (T : Tx) (r : List V → Hp → VK → Prop) (ds : List Dd) (z : Dd) : Prop := ∀ as G H vs, RepL T as G ds vs → Same G H → ∀ Q : VK, (∀ u G2 H2, Stq G H G2 H2 → Rep T as G2 z u → Q u H2) → r vs H Q
/-- a call that makes a new list -/
def EvCN (T : Tx) (r : List V → Hp → VK → Prop) (ds : List Dd) (zs : List PyData) : Prop := ∀ as G H vs, RepL T as G ds vs → Same G H → ∀ Q : VK, (∀ p xs G2 H2, Stq G H G2 H2 → H2 p = none → DqA T.K G2 xs zs → Q (.ref p) (upd H2 p (.lst xs))) → r vs H Q
/-- with what is owned -/
def EvW (T : Tx) (te : TE) (ρ : En) (ω : List Ow) (S : Dd → List Ow → Prop) : Prop := ∀ as σ G H, RepE T as G ρ σ → Same G H → Own T as ω G H → ∀ Q : VK, (∀ v d ω' G2 H2, S d ω' → Rep T as G2 d v → Own T as ω' G2 H2 → Stp as as G H G2 H2 → Q v H2) → te σ H Q
def EvWT (T : Tx) (tt : TT) (ρ : En) (ω : List Ow) (S : Bool → List Ow → Prop) : Prop := ∀ as σ G H, RepE T as G ρ σ → Same G H → Own T as ω G H → ∀ Q : Bool → Hp → Prop, (∀ b ω' G2 H2, S b ω' → Own T as ω' G2 H2 → Stp as as G H G2 H2 → Q b H2) → tt σ H Q
def EvWA (T : Tx) (ta : TA) (ρ : En) (ω : List Ow) (S : List Dd → List Ow → Prop) : Prop := ∀ as σ G H, RepE T as G ρ σ → Same G H → Own T as ω G H → ∀ Q : List V → Hp → Prop, (∀ vs ds ω' G2 H2, S ds ω' → RepL T as G2 ds vs → Own T as ω' G2 H2 → Stp as as G H G2 H2 → Q vs H2) → ta σ H Q
def EvWN (T : Tx) (te : TE) (ρ : En) (ω : List Ow) (S : List PyData → List Ow → Prop) : Prop := ∀ as σ G H, RepE T as G ρ σ → Same G H → Own T as ω G H → ∀ Q : VK, (∀ p xs ds ω' G2 H2, S ds ω' → Own T as ω' G2 H2 → Stp as as G H G2 H2 → H2 p = none → DqA T.K G2 xs ds → Q (.ref p) (upd H2 p (.lst xs))) → te σ H Q
/-- a statement: N how it goes on, R what it hands back; the first b owned things are the caller's -/
def Go (T : Tx) (ts : TS) (ρ : En) (b : Nat) (ω : List Ow) (N : En → List Ow → Prop) (R : Dd → List Ow → Prop) : Prop := ∀ as σ G H, RepE T as G ρ σ → Same G H → Own T as ω G H → ∀ D : Ends,
  (∀ as' ρ' ω' σ' G2 H2, N ρ' ω' → RepE T as' G2 ρ' σ' → Own T as' ω' G2 H2 → as'.take b = as.take b → Stp as as' G H G2 H2 → D.nx σ' H2) →
  (∀ as' d ω' v G2 H2, R d ω' → Rep T as' G2 d v → Own T as' ω' G2 H2 → as'.take b = as.take b → Stp as as' G H G2 H2 → D.rt v H2) → ts D σ H
section
variable {T : Tx} {te ta tb : TE} {tt tu : TT} {ρ : En} {ω : List Ow} {d x y z : Dd} {r : R2} {S : Dd → List Ow → Prop} {b : Nat} {N N1 : En → List Ow → Prop} {R : Dd → List Ow → Prop} {t1 t2 : TS}
theorem Ev.w (h : Ev T te ρ d) (s : S d ω) : EvW T te ρ ω S := fun as σ G H e g w Q q => h as σ G H e g Q fun v G2 H2 st rv => q v d ω G2 H2 s rv (w.step st) st.any
theorem EvN.ev {ds : List PyData} (h : EvN T te ρ ds) : Ev T te ρ (.py (.list ds)) := fun as σ G H e g Q q => h as σ G H e g Q fun p xs G2 H2 st hp r => q _ _ _ (st.new (o := .lst xs) hp) (by
  have s : Same G2 (upd G2 p (.lst xs)) := same_new (st.gh.free hp)
  exact Dq.lst upd_same (DqA.up s r))
theorem ev_var {i : Nat} (h : ρ[i]? = some (some d)) : Ev T (tVar i) ρ d := fun as σ G H e g Q q =>
  let ⟨v, h1, h2⟩ := e.at_ i d h
  ⟨v, h1, q v G H (.refl g) h2⟩
theorem ev_int {i : Int} : Ev T (tC (.int i)) ρ (.py (.int i)) := fun as σ G H e g Q q => q _ G H (.refl g) (.int i)
theorem ev_str {i : Str} : Ev T (tC (.str i)) ρ (.py (.str i)) := fun as σ G H e g Q q => q _ G H (.refl g) (.str i)
theorem ev_bl {i : Bool} : Ev T (tC (.bl i)) ρ (.py (.bool i)) := fun as σ G H e g Q q => q _ G H (.refl g) (.bl i)
theorem ev_non : Ev T (tC .non) ρ (.py .none) := fun as σ G H e g Q q => q _ G H (.refl g) .non
/-- what the module holds -/
theorem ev_con {v : V} (h : ∀ as G, Rep T as G d v) : Ev T (tC v) ρ d := fun as σ G H e g Q q => q _ G H (.refl g) (h as G)
theorem ev_op (ha : Ev T ta ρ x) (hb : Ev T tb ρ y) (hr : EvR T r x y z) : Ev T (tOp r ta tb) ρ z := fun as σ G H e g Q q =>
  ha as σ G H e g _ fun v G1 H1 s1 r1 => hb as σ G1 H1 (e.up s1.gg) s1.gh _ fun w G2 H2 s2 r2 => hr as G2 H2 v w (r1.up s2.gg) r2 s2.gh Q fun u G3 H3 s3 r3 => q u G3 H3 (s1.trans (s2.trans s3)) r3
theorem ew_op {S1 : Dd → List Ow → Prop} (ha : EvW T ta ρ ω S1) (hb : ∀ x ω1, S1 x ω1 → EvW T tb ρ ω1 fun y ω2 => ∃ z, EvR T r x y z ∧ S z ω2) : EvW T (tOp r ta tb) ρ ω S := fun as σ G H e g w Q q =>
  ha as σ G H e g w _ fun v x ω1 G1 H1 h1 r1 w1 s1 => hb x ω1 h1 as σ G1 H1 (e.up s1.gg) s1.gh w1 _ fun u y ω2 G2 H2 ⟨z, hz, h2⟩ r2 w2 s2 => hz as G2 H2 v u (r1.up s2.gg) r2 s2.gh Q fun o G3 H3 s3 r3 => q o z ω2 G3 H3 h2 r3 (w2.step s3) ((s1.trans s2).trans s3.any)
theorem ew_is (h : EvW T te ρ ω S) {S' : Dd → List Ow → Prop} (k : ∀ d o, S d o → S' d o) : EvW T te ρ ω S' := fun as σ G H e g w Q q => h as σ G H e g w Q fun v d o G2 H2 s => q v d o G2 H2 (k d o s)
/-! ### arguments -/
theorem ea_nil : EvA T tNil ρ [] := fun as σ G H e g Q q => q [] G H (.refl g) .nil
theorem ea_cons {tr : TA} {ds : List Dd} (h : Ev T te ρ d) (k : EvA T tr ρ ds) : EvA T (tCons te tr) ρ (d :: ds) := fun as σ G H e g Q q =>
  h as σ G H e g _ fun v G1 H1 s1 r1 => k as σ G1 H1 (e.up s1.gg) s1.gh _ fun vs G2 H2 s2 r2 => q _ G2 H2 (s1.trans s2) (.cons (r1.up s2.gg) r2)
theorem EvA.w {ta : TA} {ds : List Dd} {S : List Dd → List Ow → Prop} (h : EvA T ta ρ ds) (s : S ds ω) : EvWA T ta ρ ω S := fun as σ G H e g w Q q => h as σ G H e g Q fun v G2 H2 st rv => q v ds ω G2 H2 s rv (w.step st) st.any
theorem ewa_cons {tr : TA} {S1 : Dd → List Ow → Prop} {S : List Dd → List Ow → Prop} (h : EvW T te ρ ω S1) (k : ∀ d ω1, S1 d ω1 → EvWA T tr ρ ω1 fun ds ω2 => S (d :: ds) ω2) : EvWA T (tCons te tr) ρ ω S := fun as σ G H e g w Q q =>
  h as σ G H e g w _ fun v d ω1 G1 H1 h1 r1 w1 s1 => k d ω1 h1 as σ G1 H1 (e.up s1.gg) s1.gh w1 _ fun vs ds ω2 G2 H2 h2 r2 w2 s2 => q _ _ ω2 G2 H2 h2 (.cons (r1.up s2.gg) r2) w2 (s1.trans s2)
theorem ev_cb {c : List V → Hp → VK → Prop} {ta : TA} {ds : List Dd} (h : EvA T ta ρ ds) (k : EvC T c ds z) : Ev T (tCB c ta) ρ z := fun as σ G H e g Q q =>
  h as σ G H e g _ fun vs G1 H1 s1 r1 => k as G1 H1 vs r1 s1.gh Q fun u G2 H2 s2 r2 => q u G2 H2 (s1.trans s2) r2
theorem en_cb {c : List V → Hp → VK → Prop} {ta : TA} {ds : List Dd} {zs : List PyData} (h : EvA T ta ρ ds) (k : EvCN T c ds zs) : EvN T (tCB c ta) ρ zs := fun as σ G H e g Q q =>
  h as σ G H e g _ fun vs G1 H1 s1 r1 => k as G1 H1 vs r1 s1.gh Q fun p xs G2 H2 s2 hp r2 => q p xs G2 H2 (s1.trans s2) hp r2
theorem ew_cb {c : List V → Hp → VK → Prop} {ta : TA} {S1 : List Dd → List Ow → Prop} (h : EvWA T ta ρ ω S1) (k : ∀ ds ω1, S1 ds ω1 → ∃ z, EvC T c ds z ∧ S z ω1) : EvW T (tCB c ta) ρ ω S := fun as σ G H e g w Q q =>
  h as σ G H e g w _ fun vs ds ω1 G1 H1 h1 r1 w1 s1 => let ⟨z, kz, sz⟩ := k ds ω1 h1; kz as G1 H1 vs r1 s1.gh Q fun u G2 H2 s2 r2 => q u z ω1 G2 H2 sz r2 (w1.step s2) (s1.trans s2.any)
theorem EvCN.c {c : List V → Hp → VK → Prop} {ds : List Dd} {zs : List PyData} (k : EvCN T c ds zs) : EvC T c ds (.py (.list zs)) := fun as G H vs r g Q q => k as G H vs r g Q fun p xs G2 H2 s hp r2 => q _ _ _ (s.new (o := .lst xs) hp) (by
  have s' : Same G2 (upd G2 p (.lst xs)) := same_new (s.gh.free hp)
  exact Dq.lst upd_same (DqA.up s' r2))
/-! ### displays -/
theorem reps_dqA {as : List Addr} {G : Hp} : ∀ {ds : List PyData} {vs : List V}, RepL T as G (ds.map Dd.py) vs → DqA T.K G vs ds
  | [], _, .nil => .nil
  | d :: ds, _, .cons h t => .cons h (reps_dqA t)
theorem dqA_reps {as : List Addr} {G : Hp} : ∀ {ds : List PyData} {vs : List V}, DqA T.K G vs ds → RepL T as G (ds.map Dd.py) vs
  | [], _, .nil => .nil
  | d :: ds, _, .cons h t => .cons h (dqA_reps t)
theorem ev_tup {ta : TA} {ds : List PyData} (h : EvA T ta ρ (ds.map Dd.py)) (hl : ds.length ≤ 1000) : Ev T (tTup ta) ρ (.py (.tuple ds)) := fun as σ G H e g Q q =>
  h as σ G H e g _ fun vs G1 H1 s1 r1 => by
    have rr := reps_dqA r1
    refine ⟨by rw [dqA_len rr]; exact Nat.le_trans hl (by decide), fun p hp => q _ _ _ (s1.new (o := .tup vs) hp) ?_⟩
    exact Dq.tup upd_same (DqA.up (same_new (s1.gh.free hp)) rr)
theorem en_lst {ta : TA} {ds : List PyData} (h : EvA T ta ρ (ds.map Dd.py)) (hl : ds.length ≤ 1000) : EvN T (tLst ta) ρ ds := fun as σ G H e g Q q =>
  h as σ G H e g _ fun vs G1 H1 s1 r1 => by
    have rr := reps_dqA r1
    exact ⟨by rw [dqA_len rr]; exact Nat.le_trans hl (by decide), fun p hp => q p vs G1 H1 s1 hp rr⟩
theorem ew_tup {ta : TA} {S1 : List Dd → List Ow → Prop} (h : EvWA T ta ρ ω S1) (k : ∀ ds ω1, S1 ds ω1 → ∃ es : List PyData, ds = es.map Dd.py ∧ es.length ≤ 1000 ∧ S (.py (.tuple es)) ω1) : EvW T (tTup ta) ρ ω S := fun as σ G H e g w Q q =>
  h as σ G H e g w _ fun vs ds ω1 G1 H1 h1 r1 w1 s1 => by
    obtain ⟨es, rfl, hl, hs⟩ := k ds ω1 h1
    have rr := reps_dqA r1
    refine ⟨by rw [dqA_len rr]; exact Nat.le_trans hl (by decide), fun p hp => ?_⟩
    have s2 := (Stp.refl (as := []) s1.gh).new (o := .tup vs) hp
    exact q _ _ ω1 _ _ hs (Dq.tup upd_same (DqA.up (same_new (s1.gh.free hp)) rr)) (w1.step s2) (s1.trans (Stq.any s2))
theorem ewn_lst {ta : TA} {S1 : List Dd → List Ow → Prop} {S : List PyData → List Ow → Prop} (h : EvWA T ta ρ ω S1) (k : ∀ ds ω1, S1 ds ω1 → ∃ es : List PyData, ds = es.map Dd.py ∧ es.length ≤ 1000 ∧ S es ω1) : EvWN T (tLst ta) ρ ω S := fun as σ G H e g w Q q =>
  h as σ G H e g w _ fun vs ds ω1 G1 H1 h1 r1 w1 s1 => by
    obtain ⟨es, rfl, hl, hs⟩ := k ds ω1 h1
    have rr := reps_dqA r1
    exact ⟨by rw [dqA_len rr]; exact Nat.le_trans hl (by decide), fun p hp => q p vs es ω1 G1 H1 hs w1 s1 hp rr⟩
theorem EvN.w {ds : List PyData} {S : List PyData → List Ow → Prop} (h : EvN T te ρ ds) (s : S ds ω) : EvWN T te ρ ω S := fun as σ G H e g w Q q => h as σ G H e g Q fun p xs G2 H2 st hp r => q p xs ds ω G2 H2 s (w.step st) st.any hp r
theorem EvWN.w {S1 : List PyData → List Ow → Prop} (h : EvWN T te ρ ω S1) (k : ∀ ds ω1, S1 ds ω1 → S (.py (.list ds)) ω1) : EvW T te ρ ω S := fun as σ G H e g w Q q => h as σ G H e g w Q fun p xs ds ω1 G2 H2 h1 w1 s1 hp r => by
  have s2 := (Stp.refl (as := []) s1.gh).new (o := .lst xs) hp
  exact q _ _ ω1 _ _ (k ds ω1 h1) (Dq.lst upd_same (DqA.up (same_new (s1.gh.free hp)) r)) (w1.step s2) (s1.trans (Stq.any s2))
/-! ### tests -/
theorem et_test {c : Bool} (h : Ev T te ρ (.py (.bool c))) : EvT T (tTest te) ρ c := fun as σ G H e g Q q => h as σ G H e g _ fun v G2 H2 s r => ⟨c, dq_bl r, q G2 H2 s⟩
theorem et_b {c : Bool} (h : Ev T te ρ (.py (.bool c))) : EvT T (tB te) ρ c := fun as σ G H e g Q q => h as σ G H e g _ fun v G2 H2 s r => ⟨c, dq_bl r, q G2 H2 s⟩
theorem et_not {c : Bool} (h : EvT T tt ρ c) : EvT T (tNot tt) ρ (!c) := fun as σ G H e g Q q => h as σ G H e g _ fun G2 H2 s => q G2 H2 s
theorem et_and {a c : Bool} (h1 : EvT T tt ρ a) (h2 : a = true → EvT T tu ρ c) : EvT T (tAnd tt tu) ρ (a && c) := fun as σ G H e g Q q => h1 as σ G H e g _ fun G1 H1 s1 => by
  cases a with
  | true => exact h2 rfl as σ G1 H1 (e.up s1.gg) s1.gh Q fun G2 H2 s2 => q G2 H2 (s1.trans s2)
  | false => exact q G1 H1 s1
theorem et_or {a c : Bool} (h1 : EvT T tt ρ a) (h2 : a = false → EvT T tu ρ c) : EvT T (tOr tt tu) ρ (a || c) := fun as σ G H e g Q q => h1 as σ G H e g _ fun G1 H1 s1 => by
  cases a with
  | false => exact h2 rfl as σ G1 H1 (e.up s1.gg) s1.gh Q fun G2 H2 s2 => q G2 H2 (s1.trans s2)
  | true => exact q G1 H1 s1
theorem et_is {a c : Bool} (h : EvT T tt ρ a) (e : a = c) : EvT T tt ρ c := e ▸ h
theorem ev_is (h : Ev T te ρ x) (e : x = y) : Ev T te ρ y := e ▸ h
theorem en_is {ds es : List PyData} (h : EvN T te ρ ds) (e : ds = es) : EvN T te ρ es := e ▸ h
/-- truth of an int, a bool -/
theorem et_tru {K : PySem.W.Frag} {i : Int} {c : Bool} (h : Ev T te ρ (.py (.int i))) (k : (i != 0) = c) : EvT T (fun σ H Q => te σ H fun x H' => ∃ k, TruV K x H' k ∧ Q k H') ρ c := fun as σ G H e g Q q => h as σ G H e g _ fun v G2 H2 s r => ⟨c, by
  rw [dq_int r]
  exact k.symm, q G2 H2 s⟩
theorem et_trub {K : PySem.W.Frag} {c : Bool} (h : Ev T te ρ (.py (.bool c))) : EvT T (fun σ H Q => te σ H fun x H' => ∃ k, TruV K x H' k ∧ Q k H') ρ c := fun as σ G H e g Q q => h as σ G H e g _ fun v G2 H2 s r => ⟨c, by
  rw [dq_bl r]
  exact rfl, q G2 H2 s⟩
theorem ev_if {c : Bool} (h : EvT T tt ρ c) (h1 : c = true → Ev T ta ρ z) (h2 : c = false → Ev T tb ρ z) : Ev T (tIf tt ta tb) ρ z := fun as σ G H e g Q q => h as σ G H e g _ fun G1 H1 s1 => by
  cases c with
  | true => exact h1 rfl as σ G1 H1 (e.up s1.gg) s1.gh Q fun v G2 H2 s2 => q v G2 H2 (s1.trans s2)
  | false => exact h2 rfl as σ G1 H1 (e.up s1.gg) s1.gh Q fun v G2 H2 s2 => q v G2 H2 (s1.trans s2)
theorem ew_if {S1 : Bool → List Ow → Prop} (h : EvWT T tt ρ ω S1) (h1 : ∀ ω1, S1 true ω1 → EvW T ta ρ ω1 S) (h2 : ∀ ω1, S1 false ω1 → EvW T tb ρ ω1 S) : EvW T (tIf tt ta tb) ρ ω S := fun as σ G H e g w Q q => h as σ G H e g w _ fun c ω1 G1 H1 hc w1 s1 => by
  cases c with
  | true => exact h1 ω1 hc as σ G1 H1 (e.up s1.gg) s1.gh w1 Q fun v d ω2 G2 H2 s r w2 s2 => q v d ω2 G2 H2 s r w2 (s1.trans s2)
  | false => exact h2 ω1 hc as σ G1 H1 (e.up s1.gg) s1.gh w1 Q fun v d ω2 G2 H2 s r w2 s2 => q v d ω2 G2 H2 s r w2 (s1.trans s2)
theorem EvT.w {c : Bool} {S1 : Bool → List Ow → Prop} (h : EvT T tt ρ c) (s : S1 c ω) : EvWT T tt ρ ω S1 := fun as σ G H e g w Q q => h as σ G H e g Q fun G2 H2 st => q c ω G2 H2 s (w.step st) st.any
theorem ewt_test {S1 : Bool → List Ow → Prop} (h : EvW T te ρ ω S) (k : ∀ d o, S d o → ∃ c, d = .py (.bool c) ∧ S1 c o) : EvWT T (tTest te) ρ ω S1 := fun as σ G H e g w Q q => h as σ G H e g w _ fun v d o G2 H2 s r w2 s2 => by
  obtain ⟨c, rfl, hc⟩ := k d o s
  exact ⟨c, dq_bl r, q c o G2 H2 hc w2 s2⟩
theorem ev_andV {a c : Bool} (h1 : Ev T ta ρ (.py (.bool a))) (h2 : a = true → Ev T tb ρ (.py (.bool c))) : Ev T (tAndV ta tb) ρ (.py (.bool (a && c))) := fun as σ G H e g Q q => h1 as σ G H e g _ fun v G1 H1 s1 r1 => ⟨a, dq_bl r1, by
  cases a with
  | true => exact h2 rfl as σ G1 H1 (e.up s1.gg) s1.gh Q fun v G2 H2 s2 r2 => q v G2 H2 (s1.trans s2) r2
  | false => exact q _ G1 H1 s1 (.bl false)⟩
theorem ev_orV {a c : Bool} (h1 : Ev T ta ρ (.py (.bool a))) (h2 : a = false → Ev T tb ρ (.py (.bool c))) : Ev T (tOrV ta tb) ρ (.py (.bool (a || c))) := fun as σ G H e g Q q => h1 as σ G H e g _ fun v G1 H1 s1 r1 => ⟨a, dq_bl r1, by
  cases a with
  | false => exact h2 rfl as σ G1 H1 (e.up s1.gg) s1.gh Q fun v G2 H2 s2 r2 => q v G2 H2 (s1.trans s2) r2
  | true => exact q _ G1 H1 s1 (.bl true)⟩
theorem ev_notV {a : Bool} (h1 : Ev T ta ρ (.py (.bool a))) : Ev T (tNotV ta) ρ (.py (.bool (!a))) := fun as σ G H e g Q q => h1 as σ G H e g _ fun v G1 H1 s1 r1 => ⟨a, dq_bl r1, q _ G1 H1 s1 (.bl _)⟩
/-! ### statements -/
theorem go_ret (h : EvW T te ρ ω R) : Go T (tRet te) ρ b ω N R := fun as σ G H e g w D _ q => h as σ G H e g w _ fun v d o G2 H2 s r w2 s2 => q as d o v G2 H2 s r w2 rfl s2
theorem go_retp (h : Ev T te ρ d) (s : R d ω) : Go T (tRet te) ρ b ω N R := go_ret (h.w s)
theorem go_asg {i : Nat} (h : EvW T te ρ ω S) (k : ∀ d o, S d o → N (ρ.set i (some d)) o) : Go T (tAsg te (gName i)) ρ b ω N R := fun as σ G H e g w D q _ => h as σ G H e g w _ fun v d o G2 H2 s r w2 s2 => q as _ o _ G2 H2 (k d o s) ((e.up s2.gg).set i r) w2 rfl s2
theorem go_seq (h1 : Go T t1 ρ b ω N1 R) (h2 : ∀ ρ' o, N1 ρ' o → Go T t2 ρ' b o N R) : Go T (tSeq t1 t2) ρ b ω N R := fun as σ G H e g w D q q2 => h1 as σ G H e g w _ (fun as' ρ' o σ' G2 H2 n e2 w2 tk s2 => h2 ρ' o n as' σ' G2 H2 e2 s2.gh w2 D (fun as3 ρ3 o3 σ3 G3 H3 n3 e3 w3 tk3 s3 => q as3 ρ3 o3 σ3 G3 H3 n3 e3 w3 (tk3.trans tk) (s2.trans s3)) (fun as3 d o3 v G3 H3 n3 r3 w3 tk3 s3 => q2 as3 d o3 v G3 H3 n3 r3 w3 (tk3.trans tk) (s2.trans s3)))
  (fun as' d o v G2 H2 n r w2 tk s2 => q2 as' d o v G2 H2 n r w2 tk s2)
theorem go_let {i : Nat} (h : EvW T te ρ ω S) (k : ∀ d o, S d o → Go T t2 (ρ.set i (some d)) b o N R) : Go T (tSeq (tAsg te (gName i)) t2) ρ b ω N R :=
  go_seq (N1 := fun ρ' o => ∃ d, ρ' = ρ.set i (some d) ∧ S d o) (go_asg h fun d o s => ⟨d, rfl, s⟩) fun ρ' o ⟨d, e, s⟩ => e ▸ k d o s
theorem go_letp {i : Nat} (h : Ev T te ρ d) (k : Go T t2 (ρ.set i (some d)) b ω N R) : Go T (tSeq (tAsg te (gName i)) t2) ρ b ω N R :=
  go_let (S := fun d' o => d' = d ∧ o = ω) (h.w ⟨rfl, rfl⟩) fun d' o ⟨e1, e2⟩ => by
    subst e1 e2
    exact k
theorem go_drop (h : EvW T te ρ ω S) (k : ∀ d o, S d o → N ρ o) : Go T (tDrop te) ρ b ω N R := fun as σ G H e g w D q _ => h as σ G H e g w _ fun v d o G2 H2 s r w2 s2 => q as _ o _ G2 H2 (k d o s) (e.up s2.gg) w2 rfl s2
theorem go_dropp (h : Ev T te ρ d) (k : N ρ ω) : Go T (tDrop te) ρ b ω N R := go_drop (S := fun _ o => o = ω) (h.w rfl) fun _ o e => e ▸ k
theorem go_ifw {S1 : Bool → List Ow → Prop} (h : EvWT T tt ρ ω S1) (h1 : ∀ o, S1 true o → Go T t1 ρ b o N R) (h2 : ∀ o, S1 false o → Go T t2 ρ b o N R) : Go T (tIfS tt t1 t2) ρ b ω N R := fun as σ G H e g w D q q2 => h as σ G H e g w _ fun c o G2 H2 s w2 s2 => by
  cases c with
  | true => exact h1 o s as σ G2 H2 (e.up s2.gg) s2.gh w2 D (fun as3 ρ3 o3 σ3 G3 H3 n3 e3 w3 tk3 s3 => q as3 ρ3 o3 σ3 G3 H3 n3 e3 w3 tk3 (s2.trans s3)) (fun as3 d o3 v G3 H3 n3 r3 w3 tk3 s3 => q2 as3 d o3 v G3 H3 n3 r3 w3 tk3 (s2.trans s3))
  | false => exact h2 o s as σ G2 H2 (e.up s2.gg) s2.gh w2 D (fun as3 ρ3 o3 σ3 G3 H3 n3 e3 w3 tk3 s3 => q as3 ρ3 o3 σ3 G3 H3 n3 e3 w3 tk3 (s2.trans s3)) (fun as3 d o3 v G3 H3 n3 r3 w3 tk3 s3 => q2 as3 d o3 v G3 H3 n3 r3 w3 tk3 (s2.trans s3))
theorem go_if {c : Bool} (h : EvT T tt ρ c) (h1 : c = true → Go T t1 ρ b ω N R) (h2 : c = false → Go T t2 ρ b ω N R) : Go T (tIfS tt t1 t2) ρ b ω N R :=
  go_ifw (S1 := fun c' o => c' = c ∧ o = ω) (h.w ⟨rfl, rfl⟩) (fun o ⟨e1, e2⟩ => by subst e2; exact h1 e1.symm) fun o ⟨e1, e2⟩ => by subst e2; exact h2 e1.symm
theorem go_next (k : N ρ ω) : Go T tNext ρ b ω N R := fun as σ G H e g w D q _ => q as ρ ω σ G H k e w rfl (.refl g)
/-- if c: return .. ; then the rest -/
theorem go_ifret {c : Bool} (h : EvT T tt ρ c) (h1 : c = true → Go T t1 ρ b ω (fun _ _ => False) R) (h2 : c = false → Go T t2 ρ b ω N R) : Go T (tSeq (tIfS tt t1 tNext) t2) ρ b ω N R :=
  go_seq (N1 := fun ρ' o => ρ' = ρ ∧ o = ω ∧ c = false) (go_if h (fun e => fun as σ G H e' g w D q q2 => h1 e as σ G H e' g w D (fun _ _ _ _ _ _ n => n.elim) q2) fun e => go_next ⟨rfl, rfl, e⟩) fun ρ' o ⟨e1, e2, e3⟩ => by
    subst e1 e2
    exact h2 e3
theorem go_is {N' : En → List Ow → Prop} {R' : Dd → List Ow → Prop} (h : Go T t1 ρ b ω N R) (k1 : ∀ ρ' o, N ρ' o → N' ρ' o) (k2 : ∀ d o, R d o → R' d o) : Go T t1 ρ b ω N' R' := fun as σ G H e g w D q q2 => h as σ G H e g w D (fun as3 ρ3 o3 σ3 G3 H3 n => q as3 ρ3 o3 σ3 G3 H3 (k1 _ _ n)) (fun as3 d o3 v G3 H3 n => q2 as3 d o3 v G3 H3 (k2 _ _ n))
end
end Rt
namespace Rt
open PySem PySem.Spec PyProof.Rows L2
/-! ### what is walked -/
structure WalkD (T : Tx) (J : It) (G : Hp) (ds : List PyData) : Prop where
  stop : ∀ H, Same G H → J.stop ds.length H
  go : ∀ (i : Nat) H, Same G H → i < ds.length → J.go i H
  yld : ∀ (i : Nat) G1 H x H' d, Same G G1 → Same G1 H → ds[i]? = some d → J.yld i H x H' → ∃ G', Stq G1 H G' H' ∧ Dq T.K G' x d
def EvI (T : Tx) (wi : TI) (ρ : En) (ds : List PyData) : Prop := ∀ as σ G H, RepE T as G ρ σ → Same G H → ∀ R : It → Hp → Prop, (∀ J G2 H2, Stq G H G2 H2 → WalkD T J G2 ds → R J H2) → wi σ H R
def EvIW (T : Tx) (wi : TI) (ρ : En) (ω : List Ow) (S : List PyData → List Ow → Prop) : Prop := ∀ as σ G H, RepE T as G ρ σ → Same G H → Own T as ω G H → ∀ R : It → Hp → Prop, (∀ J ds o G2 H2, S ds o → Own T as o G2 H2 → Stp as as G H G2 H2 → WalkD T J G2 ds → R J H2) → wi σ H R
/-- a target takes a value: vs the places that may change -/
def EvG (T : Tx) (g : TG) (d : Dd) (ρ ρ' : En) (vs : List Nat) : Prop := ∀ as σ G H v, RepE T as G ρ σ → Rep T as G d v → Same G H → ∀ Q : L2.St → Hp → Prop, (∀ σ', RepE T as G ρ' σ' → (∀ i, i ∉ vs → σ'[i]? = σ[i]?) → σ'.length = σ.length → Q σ' H) → g v σ H Q
section
variable {T : Tx} {te ta tb : TE} {tt tu : TT} {ρ ρ' : En} {ω : List Ow} {d x y z : Dd} {r : R2} {S : Dd → List Ow → Prop} {b : Nat} {N N1 : En → List Ow → Prop} {R : Dd → List Ow → Prop} {t1 t2 ts : TS} {wi : TI} {g : TG} {vs : List Nat}
theorem EvI.w {ds : List PyData} {S : List PyData → List Ow → Prop} (h : EvI T wi ρ ds) (s : S ds ω) : EvIW T wi ρ ω S := fun as σ G H e g w R q => h as σ G H e g R fun J G2 H2 st k => q J ds ω G2 H2 s (w.step st) st.any k
theorem walk_l {G : Hp} {a : Addr} {xs : List V} {ds : List PyData} (h : G a = some (.lst xs)) (r : DqA T.K G xs ds) : WalkD T (Itl T.K a) G ds where
  stop := fun H s => ⟨xs, .of (s _ _ h), by rw [dqA_len r]; exact Nat.le_refl _⟩
  go := fun i H s hi => by
    obtain ⟨v, e, _⟩ := dqA_get r (List.getElem?_eq_getElem hi)
    exact ⟨xs, v, .of (s _ _ h), e⟩
  yld := fun i G1 H x H' d s1 s2 hd y => by
    obtain ⟨rfl, y⟩ := y
    obtain ⟨v, e, q⟩ := dqA_get r hd
    have e2 := y xs (.of (s2 _ _ (s1 _ _ h)))
    rw [e] at e2
    cases Option.some.inj e2
    exact ⟨G1, .refl s2, q.up s1⟩
theorem walk_t {G : Hp} {a : Addr} {xs : List V} {ds : List PyData} (h : SqT T.K G a xs) (r : DqA T.K G xs ds) : WalkD T (Itt T.K a) G ds where
  stop := fun H s => ⟨xs, seqT_up s h, by rw [dqA_len r]; exact Nat.le_refl _⟩
  go := fun i H s hi => by
    obtain ⟨v, e, _⟩ := dqA_get r (List.getElem?_eq_getElem hi)
    exact ⟨xs, v, seqT_up s h, e⟩
  yld := fun i G1 H x H' d s1 s2 hd y => by
    obtain ⟨rfl, y⟩ := y
    obtain ⟨v, e, q⟩ := dqA_get r hd
    have e2 := y xs (seqT_up s2 (seqT_up s1 h))
    rw [e] at e2
    cases Option.some.inj e2
    exact ⟨G1, .refl s2, q.up s1⟩
theorem walk_r {G : Hp} {n : Nat} : WalkD T (Itr 0 n) G ((List.range n).map fun (i : Nat) => PyData.int (i : Int)) where
  stop := fun H s => by
    show n ≤ ((List.range n).map fun (i : Nat) => PyData.int (i : Int)).length
    rw [List.length_map, List.length_range]
    exact Nat.le_refl _
  go := fun i H s hi => by
    rw [List.length_map, List.length_range] at hi
    exact hi
  yld := fun i G1 H x H' d s1 s2 hd y => by
    obtain ⟨rfl, rfl⟩ := y
    rw [List.getElem?_map] at hd
    cases e : (List.range n)[i]? with
    | none =>
      rw [e] at hd
      cases hd
    | some j =>
      rw [e] at hd
      cases Option.some.inj hd
      have hj : j = i := by
        obtain ⟨h1, h2⟩ := List.getElem?_eq_some_iff.mp e
        rw [List.getElem_range] at h2
        exact h2.symm
      subst hj
      refine ⟨G1, .refl s2, ?_⟩
      show Dq T.K G1 (.int (0 + (j : Int))) (.int (j : Int))
      rw [Int.zero_add]
      exact .int _
theorem ei_list {ds : List PyData} (h : Ev T te ρ (.py (.list ds))) : EvI T (iList T.K te) ρ ds := fun as σ G H e g R q => h as σ G H e g _ fun v G2 H2 s r => by
  obtain ⟨a, xs, rfl, h1, h2⟩ := dq_lst r
  exact ⟨a, rfl, ⟨xs, .of (s.gh _ _ h1)⟩, q _ G2 H2 s (walk_l h1 h2)⟩
theorem ei_tup {ds : List PyData} (h : Ev T te ρ (.py (.tuple ds))) : EvI T (iTup T.K te) ρ ds := fun as σ G H e g R q => h as σ G H e g _ fun v G2 H2 s r => by
  obtain ⟨a, xs, rfl, h1, h2⟩ := dq_tup r
  exact ⟨a, rfl, ⟨xs, seqT_up s.gh h1⟩, q _ G2 H2 s (walk_t h1 h2)⟩
theorem eiw_list {S1 : List PyData → List Ow → Prop} (h : EvW T te ρ ω S) (k : ∀ d o, S d o → ∃ ds, d = .py (.list ds) ∧ S1 ds o) : EvIW T (iList T.K te) ρ ω S1 := fun as σ G H e g w R q => h as σ G H e g w _ fun v d o G2 H2 s r w2 s2 => by
  obtain ⟨ds, rfl, hs⟩ := k d o s
  obtain ⟨a, xs, rfl, h1, h2⟩ := dq_lst r
  exact ⟨a, rfl, ⟨xs, .of (s2.gh _ _ h1)⟩, q _ ds o G2 H2 hs w2 s2 (walk_l h1 h2)⟩
theorem ei_rng {ta : TA} {n : Nat} (h : EvA T ta ρ [.py (.int (n : Int))]) (hn : n < 100000) : EvI T (iRng1 ta) ρ ((List.range n).map fun (i : Nat) => PyData.int (i : Int)) := fun as σ G H e g R q => h as σ G H e g _ fun vs G2 H2 s r => by
  cases r with
  | cons h1 h2 =>
    cases h2
    refine ⟨(n : Int), by rw [dq_int h1], by omega, by omega, q _ G2 H2 s ?_⟩
    rw [Int.toNat_natCast]
    exact walk_r
theorem eiw_rng {ta : TA} {S1 : List Dd → List Ow → Prop} {S2 : List PyData → List Ow → Prop} (h : EvWA T ta ρ ω S1) (k : ∀ ds o, S1 ds o → ∃ n : Nat, ds = [.py (.int (n : Int))] ∧ n < 100000 ∧ S2 ((List.range n).map fun (i : Nat) => PyData.int (i : Int)) o) : EvIW T (iRng1 ta) ρ ω S2 := fun as σ G H e g w R q => h as σ G H e g w _ fun vs ds o G2 H2 s r w2 s2 => by
  obtain ⟨n, rfl, hn, hs⟩ := k ds o s
  cases r with
  | cons h1 h2 =>
    cases h2
    refine ⟨(n : Int), by rw [dq_int h1], by omega, by omega, q _ _ o G2 H2 hs w2 s2 ?_⟩
    rw [Int.toNat_natCast]
    exact walk_r
/-! ### targets -/
theorem eg_name {j : Nat} (hj : j ∈ vs) : EvG T (gName j) d ρ (ρ.set j (some d)) vs := fun as σ G H v e r s Q q =>
  q (σ.set j (some v)) (e.set j r) (fun i hi => List.getElem?_set_ne (fun z : j = i => hi (z ▸ hj))) (by rw [List.length_set])
theorem eg_two {i j : Nat} {d1 d2 : PyData} (hi : i ∈ vs) (hj : j ∈ vs) : EvG T (gTup T.K 2 (gCons (gName i) (gCons (gName j) gNil))) (.py (.tuple [d1, d2])) ρ ((ρ.set i (some (.py d1))).set j (some (.py d2))) vs := fun as σ G H v e r s Q q => by
  obtain ⟨a, xs, rfl, h1, h2⟩ := dq_tup r
  cases h2 with
  | cons q1 h2 =>
    cases h2 with
    | cons q2 h2 =>
      cases h2
      refine ⟨a, _, rfl, seqT_up s h1, rfl, _, _, rfl, _, _, rfl, rfl, q _ ((e.set i (d := .py d1) q1).set j (d := .py d2) q2) (fun k hk => ?_) (by rw [List.length_set, List.length_set])⟩
      rw [List.getElem?_set_ne (fun z : j = k => hk (z ▸ hj)), List.getElem?_set_ne (fun z : i = k => hk (z ▸ hi))]
/-- a, b = [x, y] -/
theorem eg_two_l {i j : Nat} {d1 d2 : PyData} (hi : i ∈ vs) (hj : j ∈ vs) : EvG T (gUnl T.K 2 (gCons (gName i) (gCons (gName j) gNil))) (.py (.list [d1, d2])) ρ ((ρ.set i (some (.py d1))).set j (some (.py d2))) vs := fun as σ G H v e r s Q q => by
  obtain ⟨a, xs, rfl, h1, h2⟩ := dq_lst r
  cases h2 with
  | cons q1 h2 =>
    cases h2 with
    | cons q2 h2 =>
      cases h2
      refine ⟨a, _, rfl, .of (s _ _ h1), rfl, _, _, rfl, _, _, rfl, rfl, q _ ((e.set i (d := .py d1) q1).set j (d := .py d2) q2) (fun k hk => ?_) (by rw [List.length_set, List.length_set])⟩
      rw [List.getElem?_set_ne (fun z : j = k => hk (z ▸ hj)), List.getElem?_set_ne (fun z : i = k => hk (z ▸ hi))]
theorem go_asgG (h : EvW T te ρ ω S) (k : ∀ d o, S d o → ∃ ρ', EvG T g d ρ ρ' vs ∧ N ρ' o) : Go T (tAsg te g) ρ b ω N R := fun as σ G H e g0 w D q _ => h as σ G H e g0 w _ fun v d o G2 H2 s r w2 s2 => by
  obtain ⟨ρ', hg, hn⟩ := k d o s
  exact hg as σ G2 H2 v (e.up s2.gg) r s2.gh _ fun σ' e' _ _ => q as ρ' o σ' G2 H2 hn e' w2 rfl s2
/-! ### comprehensions -/
theorem Stp.mut {as as' : List Addr} {G H G2 H2 : Hp} {p : Addr} {o : HO} (s : Stp as as' G H G2 H2) (h1 : H p = none) (h2 : G2 p = none) : Stp as as' G H G2 (upd H2 p o) := by
  refine ⟨s.gg, fun a u h => ?_, fun a u n h => ?_, fun a h => ?_, s.fr, s.nw⟩
  · rw [upd_ne (ne_of_none h h2)]
    exact s.gh a u h
  · rw [upd_ne (ne_of_none h h1)]
    exact s.hh a u n h
  · by_cases e : a = p
    · subst e
      exact absurd h1 h
    · rw [upd_ne e]
      exact s.ha a h
def er (p : Addr) (H : Hp) : Hp := fun a => if a = p then none else H a
theorem er_upd {H : Hp} {p : Addr} {o : HO} (h : H p = some o) : upd (er p H) p o = H := by
  funext a
  by_cases e : a = p
  · subst e
    rw [upd_same, h]
  · rw [upd_ne e]
    exact if_neg e
theorem Stp.er {as as' : List Addr} {G H G2 H2 : Hp} {p : Addr} (s : Stp as as' G H G2 H2) (h1 : H p = none) (h2 : G2 p = none) : Stp as as' G H G2 (er p H2) := by
  refine ⟨s.gg, fun a u h => ?_, fun a u n h => ?_, fun a h => ?_, s.fr, s.nw⟩
  · show (if a = p then none else H2 a) = some u
    rw [if_neg (ne_of_none h h2)]
    exact s.gh a u h
  · show (if a = p then none else H2 a) = some u
    rw [if_neg (ne_of_none h h1)]
    exact s.hh a u n h
  · show (if a = p then none else H2 a) ≠ none
    by_cases e : a = p
    · subst e
      exact absurd h1 h
    · rw [if_neg e]
      exact s.ha a h
theorem take_succ_of {α : Type} {l : List α} {i : Nat} {x : α} (h : l[i]? = some x) : l.take (i + 1) = l.take i ++ [x] := by
  rw [List.take_add_one, h]
  rfl
theorem en_lc {α : Type} {xs : List α} {enc : α → PyData} (f : α → Bool) (out : α → PyData) (hi : EvI T wi ρ (xs.map enc)) (hz : xs.length ≤ 100000)
    (hs : ∀ x, x ∈ xs → ∃ ρ', EvG T g (.py (enc x)) (wipeD ρ vs) ρ' vs ∧ EvT T tt ρ' (f x) ∧ (f x = true → Ev T te ρ' (.py (out x)))) : EvN T (tLc wi g tt te vs) ρ ((xs.filter f).map out) := by
  intro as σ G H e s0 Q q
  refine hi as σ G H e s0 _ fun J G1 H1 s1 w => ?_
  intro D hD
  have hDH : H D = none := by
    cases z : H D with
    | none => rfl
    | some o => exact absurd hD (s1.ha D (by rw [z]; intro y; cases y))
  refine ⟨fun i m H' => m = xs.length - i ∧ i ≤ xs.length ∧ ∃ Gi zs, Same G1 Gi ∧ Stq G H Gi H' ∧ Gi D = none ∧ H' D = some (.lst zs) ∧ DqA T.K Gi zs (((xs.take i).filter f).map out), ⟨xs.length, rfl, Nat.zero_le _, G1, [], Same.refl G1, s1.hid hD, s1.gh.free hD, upd_same, .nil⟩, ?_⟩
  rintro i m H2 ⟨rfl, hi', Gi, zs, sg, st, gD, hDi, rx⟩
  by_cases hlt : i < xs.length
  · have hx : xs[i]? = some xs[i] := List.getElem?_eq_getElem hlt
    have hd : (xs.map enc)[i]? = some (enc xs[i]) := by
      rw [List.getElem?_map, hx]
      rfl
    refine .inr ⟨w.go i H2 (sg.trans st.gh) (by rw [List.length_map]; exact hlt), fun H' => ∃ m', m' < xs.length - i ∧ (m' = xs.length - (i + 1) ∧ i + 1 ≤ xs.length ∧ ∃ Gi zs, Same G1 Gi ∧ Stq G H Gi H' ∧ Gi D = none ∧ H' D = some (.lst zs) ∧ DqA T.K Gi zs (((xs.take (i + 1)).filter f).map out)), fun H' h => h, fun x H3 y => ?_⟩
    obtain ⟨G3, s3, r3⟩ := w.yld i Gi H2 x H3 (enc xs[i]) sg st.gh hd y
    have st3 := st.trans s3
    obtain ⟨ρ', hg, ht, he⟩ := hs xs[i] (List.getElem_mem hlt)
    have e3 : RepE T as G3 (wipeD ρ vs) (wipe σ vs) := (e.up st3.gg).wipe vs
    refine hg as (wipe σ vs) G3 H3 x e3 r3 st3.gh _ fun σ' e' same hl => ⟨?_, ?_⟩
    · rw [wipe_eq (σ := wipe σ vs) hl same]
      exact wipe_eq (by rw [wipe_length]) fun j hj => wipe_at σ vs j hj
    refine ht as σ' G3 H3 e' st3.gh _ fun G4 H4 s4 => ?_
    have st4 := st3.trans s4
    have g3D : G3 D = none := s3.fr D List.not_mem_nil gD (by rw [hDi]; intro z; cases z)
    have h3D : H3 D = some (.lst zs) := s3.hs _ _ hDi
    have g4D : G4 D = none := s4.fr D List.not_mem_nil g3D (by rw [h3D]; intro z; cases z)
    have h4D : H4 D = some (.lst zs) := s4.hs _ _ h3D
    have et : xs.take (i + 1) = xs.take i ++ [xs[i]] := take_succ_of hx
    cases hf : f xs[i] with
    | false =>
      rw [if_neg Bool.false_ne_true]
      refine ⟨xs.length - (i + 1), by omega, rfl, hlt, G4, zs, (sg.trans s3.gg).trans s4.gg, st4, g4D, h4D, ?_⟩
      rw [et, List.filter_append, List.filter_cons, if_neg (by rw [hf]; exact Bool.false_ne_true), List.filter_nil, List.append_nil]
      exact DqA.up (s3.gg.trans s4.gg) rx
    | true =>
      rw [if_pos rfl]
      refine he hf as σ' G4 H4 (e'.up s4.gg) s4.gh _ fun v G5 H5 s5 r5 => ?_
      have st5 := st4.trans s5
      have g5D : G5 D = none := s5.fr D List.not_mem_nil g4D (by rw [h4D]; intro z; cases z)
      have h5D : H5 D = some (.lst zs) := s5.hs _ _ h4D
      have hlx : zs.length ≤ xs.length := by
        rw [dqA_len rx, List.length_map]
        exact Nat.le_trans (List.length_filter_le _ _) (by rw [List.length_take]; exact Nat.min_le_right _ _)
      refine ⟨zs, h5D, Nat.lt_of_le_of_lt (Nat.le_trans hlx hz) (by decide), xs.length - (i + 1), by omega, rfl, hlt, G5, zs ++ [v], ((sg.trans s3.gg).trans s4.gg).trans s5.gg, st5.mut hDH g5D, g5D, upd_same, ?_⟩
      rw [et, List.filter_append, List.filter_cons, if_pos hf, List.filter_nil, List.map_append]
      exact dqA_app (DqA.up ((s3.gg.trans s4.gg).trans s5.gg) rx) (.cons r5 .nil)
  · have ei : i = xs.length := by omega
    subst ei
    refine .inl ⟨?_, ?_⟩
    · have := w.stop H2 (sg.trans st.gh)
      rw [List.length_map] at this
      exact this
    have := q D zs Gi (Rt.er D H2) (st.er hDH gD) (if_pos rfl) (by
      rw [List.take_length] at rx
      exact rx)
    rw [er_upd hDi] at this
    exact this
/-- with what is owned -/
theorem ewn_lc {S0 S1 : List PyData → List Ow → Prop} (P : List PyData → Nat → List PyData → List Ow → Prop) (hi : EvIW T wi ρ ω S0) (h0 : ∀ ds o, S0 ds o → ds.length ≤ 100000 ∧ P ds 0 [] o)
    (hs : ∀ ds i d acc o, ds[i]? = some d → acc.length ≤ i → P ds i acc o → ∃ ρ', EvG T g (.py d) (wipeD ρ vs) ρ' vs ∧ EvWT T tt ρ' o fun c o1 => if c = true then EvW T te ρ' o1 fun z o2 => ∃ e, z = .py e ∧ P ds (i + 1) (acc ++ [e]) o2 else P ds (i + 1) acc o1)
    (hd : ∀ ds acc o, P ds ds.length acc o → S1 acc o) : EvWN T (tLc wi g tt te vs) ρ ω S1 := by
  intro as σ G H e s0 wo Q q
  refine hi as σ G H e s0 wo _ fun J ds o G1 H1 hS w1 s1 w => ?_
  intro D hD
  obtain ⟨hz, p0⟩ := h0 ds o hS
  have hDH : H D = none := by
    cases z : H D with
    | none => rfl
    | some o => exact absurd hD (s1.ha D (by rw [z]; intro y; cases y))
  have ownNew : ∀ {o : Ow} {a : Addr} {G' H' : Hp} {u : HO}, H' D = none → OwR T G' H' a o → OwR T G' (upd H' D u) a o := fun {o a G' H' u} hn h => h.up (Same.refl _) fun v hv => by
    rw [upd_ne (ne_of_none hv hn)]
    exact hv
  have wD : Own T as o G1 (upd H1 D (.lst [])) := ⟨w1.nd, w1.len, fun k a u e1 e2 => ⟨(w1.ow k a u e1 e2).1, ownNew hD (w1.ow k a u e1 e2).2⟩⟩
  have nas : ∀ a ∈ as, a ≠ D := fun a ha z => by
    subst z
    obtain ⟨k, hk, e1⟩ := List.mem_iff_getElem.mp ha
    have hk2 : k < o.length := by rw [← w1.len]; exact hk
    exact ((w1.ow k a o[k] (by rw [List.getElem?_eq_getElem hk, e1]) (List.getElem?_eq_getElem hk2)).2.there) hD
  refine ⟨fun i m H' => m = ds.length - i ∧ i ≤ ds.length ∧ ∃ Gi xs acc oi, Same G1 Gi ∧ Stp as as G H Gi H' ∧ Own T as oi Gi H' ∧ Gi D = none ∧ H' D = some (.lst xs) ∧ acc.length ≤ i ∧ DqA T.K Gi xs acc ∧ P ds i acc oi, ⟨ds.length, rfl, Nat.zero_le _, G1, [], [], o, Same.refl G1, s1.hid hD, wD, s1.gh.free hD, upd_same, Nat.zero_le _, .nil, p0⟩, ?_⟩
  have keepD : ∀ {Ga Ha Gb Hb : Hp} {xs : List V}, Stp as as Ga Ha Gb Hb → Ga D = none → Ha D = some (.lst xs) → Gb D = none ∧ Hb D = some (.lst xs) := fun {Ga Ha Gb Hb xs} s g h => by
    have hn : D ∉ as := fun z => nas D z rfl
    exact ⟨s.fr D hn g (by rw [h]; intro z; cases z), s.hh D _ hn h⟩
  rintro i m H2 ⟨rfl, hi', Gi, xs, acc, oi, sg, st, wi2, gD, hDi, hacc, rx, hp⟩
  by_cases hlt : i < ds.length
  · have hd' : ds[i]? = some ds[i] := List.getElem?_eq_getElem hlt
    refine .inr ⟨w.go i H2 (sg.trans st.gh) hlt, fun H' => ∃ m', m' < ds.length - i ∧ (m' = ds.length - (i + 1) ∧ i + 1 ≤ ds.length ∧ ∃ Gi xs acc oi, Same G1 Gi ∧ Stp as as G H Gi H' ∧ Own T as oi Gi H' ∧ Gi D = none ∧ H' D = some (.lst xs) ∧ acc.length ≤ i + 1 ∧ DqA T.K Gi xs acc ∧ P ds (i + 1) acc oi), fun H' h => h, fun x H3 y => ?_⟩
    obtain ⟨G3, s3, r3⟩ := w.yld i Gi H2 x H3 ds[i] sg st.gh hd' y
    have st3 := st.trans (Stq.any s3)
    have w3 := wi2.step s3
    obtain ⟨ρ', hg, ht⟩ := hs ds i ds[i] acc oi hd' hacc hp
    have e3 : RepE T as G3 (wipeD ρ vs) (wipe σ vs) := (e.up st3.gg).wipe vs
    obtain ⟨g3D, h3D⟩ := keepD (Stq.any s3) gD hDi
    refine hg as (wipe σ vs) G3 H3 x e3 r3 st3.gh _ fun σ' e' same hl => ⟨?_, ?_⟩
    · rw [wipe_eq (σ := wipe σ vs) hl same]
      exact wipe_eq (by rw [wipe_length]) fun j hj => wipe_at σ vs j hj
    refine ht as σ' G3 H3 e' st3.gh w3 _ fun c o1 G4 H4 hc w4 s4 => ?_
    have st4 := st3.trans s4
    obtain ⟨g4D, h4D⟩ := keepD s4 g3D h3D
    cases c with
    | false =>
      rw [if_neg Bool.false_ne_true] at hc ⊢
      exact ⟨ds.length - (i + 1), by omega, rfl, hlt, G4, xs, acc, o1, (sg.trans s3.gg).trans s4.gg, st4, w4, g4D, h4D, Nat.le_succ_of_le hacc, DqA.up (s3.gg.trans s4.gg) rx, hc⟩
    | true =>
      rw [if_pos rfl] at hc ⊢
      refine hc as σ' G4 H4 (e'.up s4.gg) s4.gh w4 _ fun v z o2 G5 H5 ⟨e5, ez, hp5⟩ r5 w5 s5 => ?_
      subst ez
      have st5 := st4.trans s5
      obtain ⟨g5D, h5D⟩ := keepD s5 g4D h4D
      have hlx : xs.length ≤ ds.length := by
        rw [dqA_len rx]
        omega
      refine ⟨xs, h5D, Nat.lt_of_le_of_lt (Nat.le_trans hlx hz) (by decide), ds.length - (i + 1), by omega, rfl, hlt, G5, xs ++ [v], acc ++ [e5], o2, ((sg.trans s3.gg).trans s4.gg).trans s5.gg, st5.mut hDH g5D, ?_, g5D, upd_same, by rw [List.length_append]; exact Nat.succ_le_succ hacc, dqA_app (DqA.up ((s3.gg.trans s4.gg).trans s5.gg) rx) (.cons r5 .nil), hp5⟩
      refine ⟨w5.nd, w5.len, fun k a u e1 e2 => ⟨(w5.ow k a u e1 e2).1, (w5.ow k a u e1 e2).2.up (Same.refl _) fun v hv => ?_⟩⟩
      rw [upd_ne (nas a (List.mem_of_getElem? e1))]
      exact hv
  · have ei : i = ds.length := by omega
    subst ei
    refine .inl ⟨w.stop H2 (sg.trans st.gh), ?_⟩
    have wE : Own T as oi Gi (Rt.er D H2) := ⟨wi2.nd, wi2.len, fun k a u e1 e2 => ⟨(wi2.ow k a u e1 e2).1, (wi2.ow k a u e1 e2).2.up (Same.refl _) fun v hv => by
      show (if a = D then none else H2 a) = some v
      rw [if_neg (nas a (List.mem_of_getElem? e1))]
      exact hv⟩⟩
    have := q D xs acc oi Gi (Rt.er D H2) (hd ds acc oi hp) wE (st.er hDH gD) (if_pos rfl) rx
    rw [er_upd hDi] at this
    exact this
/-! ### loops -/
theorem go_for {S0 : List PyData → List Ow → Prop} (P : List PyData → Nat → En → List Ow → Prop) (hi : EvIW T wi ρ ω S0) (h0 : ∀ ds o, S0 ds o → P ds 0 ρ o)
    (hs : ∀ ds i d ρ1 o, ds[i]? = some d → P ds i ρ1 o → ∃ ρ2, EvG T g (.py d) ρ1 ρ2 vs ∧ Go T ts ρ2 b o (P ds (i + 1)) R) (hd : ∀ ds ρ1 o, P ds ds.length ρ1 o → N ρ1 o) : Go T (tFor wi g ts) ρ b ω N R := by
  intro as σ G H e s0 wo D q q2
  refine hi as σ G H e s0 wo _ fun J ds o G1 H1 hS w1 s1 w => ?_
  refine ⟨fun i m σ' H' => m = ds.length - i ∧ i ≤ ds.length ∧ ∃ as' Gi ρi oi, Same G1 Gi ∧ RepE T as' Gi ρi σ' ∧ Own T as' oi Gi H' ∧ as'.take b = as.take b ∧ Stp as as' G H Gi H' ∧ P ds i ρi oi, ⟨ds.length, rfl, Nat.zero_le _, as, G1, ρ, o, Same.refl _, e.up s1.gg, w1, rfl, s1, h0 ds o hS⟩, ?_⟩
  rintro i m σ2 H2 ⟨rfl, hi', as', Gi, ρi, oi, sg, ei, wi2, tk, st, hp⟩
  by_cases hlt : i < ds.length
  · have hd' : ds[i]? = some ds[i] := List.getElem?_eq_getElem hlt
    refine .inr ⟨w.go i H2 (sg.trans st.gh) hlt, fun σ' H' => ∃ m', m' < ds.length - i ∧ (m' = ds.length - (i + 1) ∧ i + 1 ≤ ds.length ∧ ∃ as' Gi ρi oi, Same G1 Gi ∧ RepE T as' Gi ρi σ' ∧ Own T as' oi Gi H' ∧ as'.take b = as.take b ∧ Stp as as' G H Gi H' ∧ P ds (i + 1) ρi oi), fun σ' H' h => h, fun x H3 y => ?_⟩
    obtain ⟨G3, s3, r3⟩ := w.yld i Gi H2 x H3 ds[i] sg st.gh hd' y
    have st3 := st.trans (Stq.any s3)
    obtain ⟨ρ2, hg, hb⟩ := hs ds i ds[i] ρi oi hd' hp
    refine hg as' σ2 G3 H3 x (ei.up s3.gg) r3 st3.gh _ fun σ' e' _ _ => ?_
    refine hb as' σ' G3 H3 e' st3.gh (wi2.step s3) _ (fun as4 ρ4 o4 σ4 G4 H4 hn e4 w4 tk4 s4 => ?_) (fun as4 d o4 v G4 H4 hr r4 w4 tk4 s4 => q2 as4 d o4 v G4 H4 hr r4 w4 (tk4.trans tk) (st3.trans s4))
    exact ⟨ds.length - (i + 1), by omega, rfl, hlt, as4, G4, ρ4, o4, (sg.trans s3.gg).trans s4.gg, e4, w4, tk4.trans tk, st3.trans s4, hn⟩
  · have ez : i = ds.length := by omega
    subst ez
    exact .inl ⟨w.stop H2 (sg.trans st.gh), q as' ρi oi σ2 Gi H2 (hd ds ρi oi hp) ei wi2 tk st⟩
theorem go_while (P : Nat → En → List Ow → Prop) (m0 : Nat) (h0 : P m0 ρ ω)
    (hs : ∀ m ρ1 o, P m ρ1 o → EvWT T tt ρ1 o fun c o1 => if c = true then Go T ts ρ1 b o1 (fun ρ2 o2 => ∃ m', m' < m ∧ P m' ρ2 o2) R else N ρ1 o1) : Go T (tWhile tt ts) ρ b ω N R := by
  intro as σ G H e s0 wo D q q2
  refine ⟨fun m σ' H' => ∃ as' Gi ρi oi, RepE T as' Gi ρi σ' ∧ Own T as' oi Gi H' ∧ as'.take b = as.take b ∧ Stp as as' G H Gi H' ∧ P m ρi oi, ⟨m0, as, G, ρ, ω, e, wo, rfl, .refl s0, h0⟩, ?_⟩
  rintro m σ2 H2 ⟨as', Gi, ρi, oi, ei, wi2, tk, st, hp⟩
  refine hs m ρi oi hp as' σ2 Gi H2 ei st.gh wi2 _ fun c o1 G3 H3 hc w3 s3 => ?_
  have st3 := st.trans s3
  cases c with
  | false =>
    rw [if_neg Bool.false_ne_true] at hc ⊢
    exact q as' ρi o1 σ2 G3 H3 hc (ei.up s3.gg) w3 tk st3
  | true =>
    rw [if_pos rfl] at hc ⊢
    refine ⟨fun σ' H' => ∃ m', m' < m ∧ ∃ as' Gi ρi oi, RepE T as' Gi ρi σ' ∧ Own T as' oi Gi H' ∧ as'.take b = as.take b ∧ Stp as as' G H Gi H' ∧ P m' ρi oi, fun σ' H' h => h, ?_⟩
    refine hc as' σ2 G3 H3 (ei.up s3.gg) st3.gh w3 _ (fun as4 ρ4 o4 σ4 G4 H4 hn e4 w4 tk4 s4 => ?_) (fun as4 d o4 v G4 H4 hr r4 w4 tk4 s4 => q2 as4 d o4 v G4 H4 hr r4 w4 (tk4.trans tk) (st3.trans s4))
    obtain ⟨m', hm, hp4⟩ := hn
    exact ⟨m', hm, as4, G4, ρ4, o4, e4, w4, tk4.trans tk, st3.trans s4, hp4⟩
end
end Rt
namespace Rt
open PySem PySem.Spec PyProof.Rows L2
open C8 (Cal Met Mak pe_c pe_mt pe_mt0 pe_mk)
/-! ### promises -/
/-- a def that changes nothing: on the data ds it hands back d -/
def spF (T : Tx) (F : List Dd → Dd → Prop) : Sp := fun vs H Q _ => ∃ as ds d G, F ds d ∧ RepL T as G ds vs ∧ Same G H ∧ ∀ v G2 H2, Stq G H G2 H2 → Rep T as G2 d v → Q v H2
/-- a def whose first argument is owned: it may change it -/
def spQ (T : Tx) (F : List Dd → Ow → (Dd → Ow → Prop) → Prop) : Sp := fun vs H Q _ => ∃ p vs' ds o S G, vs = .ref p :: vs' ∧ F ds o S ∧ RepL T [p] G ds vs' ∧ Same G H ∧ Own T [p] [o] G H ∧ ∀ v d o' G2 H2, S d o' → Rep T [p] G2 d v → Own T [p] [o'] G2 H2 → Stp [p] [p] G H G2 H2 → Q v H2
def startD (N : List Str) (ds : List Dd) : En := ds.map some ++ List.replicate (N.length - ds.length) none
theorem start_rep {T : Tx} {as : List Addr} {G : Hp} {N : List Str} {ds : List Dd} {vs : List V} (r : RepL T as G ds vs) : RepE T as G (startD N ds) (L2.start N vs) := by
  have hl : ds.length = vs.length := Paired.length r
  refine ⟨?_, fun i d h => ?_⟩
  · unfold L2.start startD
    rw [List.length_append, List.length_append, List.length_map, List.length_map, List.length_replicate, List.length_replicate, hl]
  · unfold startD at h
    by_cases hi : i < ds.length
    · rw [List.getElem?_append_left (by rw [List.length_map]; exact hi), List.getElem?_map, List.getElem?_eq_getElem hi] at h
      have e : ds[i] = d := Option.some.inj (Option.some.inj h)
      have key : ∀ (ds : List Dd) (vs : List V) (i : Nat) (d : Dd), RepL T as G ds vs → ds[i]? = some d → ∃ v, vs[i]? = some v ∧ Rep T as G d v := by
        intro ds
        induction ds with
        | nil =>
          intro vs i d _ h
          simp at h
        | cons a l ih =>
          intro vs i d r h
          cases r with
          | cons r1 r2 =>
            cases i with
            | zero =>
              cases Option.some.inj h
              exact ⟨_, rfl, r1⟩
            | succ i => exact ih _ i d r2 h
      obtain ⟨v, e1, e2⟩ := key ds vs i d r (by rw [List.getElem?_eq_getElem hi, e])
      refine ⟨v, ?_, e2⟩
      unfold L2.start
      rw [List.getElem?_append_left (by rw [List.length_map]; omega), List.getElem?_map, e1]
      rfl
    · rw [List.getElem?_append_right (by rw [List.length_map]; omega)] at h
      have h2 := List.mem_replicate.mp (List.mem_of_getElem? h)
      cases h2.2
section
variable {P : Program} {w : World} {T : Tx} {mg : Str → Option Value} {base : Heap}
abbrev FnP (K : PySem.W.Frag) (mg : Str → Option Value) (x : Str) (st : Stmt) : Prop := ∃ f fd, FunD K x x (defArgs st) (defBody st) (defScope st) [] [] f fd ∧ mg x = some (.ref f)
/-- how the arguments of a plain def bind -/
def BindN (x : Str) (st : Stmt) (ps : List Str) : Prop := ∀ (kV doc pm : Value) (an : Option Addr) (cdv ct : Value) (us : List Value), us.length = ps.length → bindArgs (PySem.W.fnOf x x (defArgs st) (defBody st) (defScope st) .none kV doc pm an cdv ct) ⟨us, []⟩ = pure (ps.zip us)
theorem cal_pure {x : Str} {st : Stmt} {N ps : List Str} {k : Nat} (hF : FnP T.K mg x st) (S : FnScope N ps (defScope st)) (hb : BindN x st ps) (Fs : List Dd → Dd → Prop) (hl : ∀ ds d, Fs ds d → ds.length = ps.length ∧ ds.all Dd.free = true ∧ d.free = true)
    (body : ∀ (f : Addr) (cdv : Value) (A : Around) (outer : List Env) (s : Shared) (H : Hp) (E : XK), Room k (A.deeper (envOfC x (defScope st) s.heap.objs.size f cdv)) →
      ∃ t, PSs (cxOf CX0 P w T.K mg base N x (defScope st) f cdv A outer s H E).nox (defBody st) t ∧ ∀ ds d, Fs ds d → Go T t (startD N ds) 0 [] (fun _ _ => d = .py .none) (fun d' _ => d' = d)) : Cal P w T.K mg base (k + 1) x (spF T Fs) [] := by
  obtain ⟨f, fd, F, hm⟩ := hF
  refine ⟨f, fd, ps, [], ?_, hm, F.kp, FunD.bindsN F hb, .nil⟩
  refine F.ok S (fun vs H Q E h => ?_) (fun cdv A outer s H vs Q E hr h => ?_)
  · obtain ⟨as, ds, d, G, hf, r, _⟩ := h
    rw [← Paired.length r]
    exact (hl ds d hf).1
  · obtain ⟨t, ht, go⟩ := body f cdv A outer s H E hr
    obtain ⟨as, ds, d, G, hf, r, sg, q⟩ := h
    obtain ⟨_, fr, fd'⟩ := hl ds d hf
    refine ⟨t, PSs.nox ht, ?_⟩
    refine go ds d hf [] (L2.start N vs) G H (start_rep (RepL.move fr r)) sg .nil _ (fun as' ρ' o σ' G2 H2 n _ w2 tk s2 => ?_) (fun as' d' o v G2 H2 e r2 w2 tk s2 => ?_)
    · subst n
      have s3 : Stq G H G2 H2 := ⟨s2.gg, s2.gh, s2.hh, s2.ha, s2.fr, fun _ h => absurd h List.not_mem_nil⟩
      exact q .non G2 H2 s3 .non
    · subst e
      have s3 : Stq G H G2 H2 := ⟨s2.gg, s2.gh, s2.hh, s2.ha, s2.fr, fun _ h => absurd h List.not_mem_nil⟩
      exact q v G2 H2 s3 (r2.move fd')
theorem cal_pool {x : Str} {st : Stmt} {N ps : List Str} {k : Nat} (hF : FnP T.K mg x st) (S : FnScope N ps (defScope st)) (hb : BindN x st ps) (Fs : List Dd → Ow → (Dd → Ow → Prop) → Prop) (hl : ∀ ds o S, Fs ds o S → ds.length + 1 = ps.length)
    (body : ∀ (f : Addr) (cdv : Value) (A : Around) (outer : List Env) (s : Shared) (H : Hp) (E : XK), Room k (A.deeper (envOfC x (defScope st) s.heap.objs.size f cdv)) →
      ∃ t, PSs (cxOf CX0 P w T.K mg base N x (defScope st) f cdv A outer s H E).nox (defBody st) t ∧ ∀ ds o S, Fs ds o S → Go T t (startD N (.own 0 :: ds)) 1 [o] (fun _ _ => False) (fun d' ω => ∃ o' ω', ω = o' :: ω' ∧ S d' o' ∧ (d'.free = true ∨ d' = .own 0))) : Cal P w T.K mg base (k + 1) x (spQ T Fs) [] := by
  obtain ⟨f, fd, F, hm⟩ := hF
  refine ⟨f, fd, ps, [], ?_, hm, F.kp, FunD.bindsN F hb, .nil⟩
  refine F.ok S (fun vs H Q E h => ?_) (fun cdv A outer s H vs Q E hr h => ?_)
  · obtain ⟨p, vs', ds, o, S, G, rfl, hf, r, _⟩ := h
    rw [List.length_cons, ← Paired.length r]
    exact hl ds o S hf
  · obtain ⟨t, ht, go⟩ := body f cdv A outer s H E hr
    obtain ⟨p, vs', ds, o, S, G, rfl, hf, r, sg, w0, q⟩ := h
    refine ⟨t, PSs.nox ht, ?_⟩
    refine go ds o S hf [p] (L2.start N (.ref p :: vs')) G H (start_rep (.cons ⟨p, rfl, rfl⟩ r)) sg w0 _ (fun as' ρ' o σ' G2 H2 n => n.elim) (fun as' d' ω v G2 H2 e r2 w2 tk s2 => ?_)
    obtain ⟨o', ω', rfl, hS, hfree⟩ := e
    have hp : ∃ es, as' = p :: es := by
      cases as' with
      | nil => cases w2.len
      | cons a es =>
        have tk' : [a] = [p] := tk
        cases tk'
        exact ⟨es, rfl⟩
    obtain ⟨es, rfl⟩ := hp
    have r3 : Rep T [p] G2 d' v := by
      rcases hfree with hfree | rfl
      · exact r2.move hfree
      · obtain ⟨a, e1, e2⟩ := r2
        exact ⟨a, e1, e2⟩
    refine q v d' o' G2 H2 hS r3 ⟨by simp, rfl, fun k a u e1 e2 => ?_⟩ ⟨s2.gg, s2.gh, s2.hh, s2.ha, s2.fr, fun _ h n => absurd h n⟩
    cases k with
    | zero =>
      cases Option.some.inj e1
      cases Option.some.inj e2
      exact w2.ow 0 p o' rfl rfl
    | succ k => simp at e1
end
section
variable {T : Tx} {te ta tb : TE} {tt tu : TT} {ρ ρ' : En} {ω : List Ow} {d x y z : Dd} {r : R2} {S : Dd → List Ow → Prop} {b : Nat} {N N1 : En → List Ow → Prop} {R : Dd → List Ow → Prop} {t1 t2 ts : TS} {tas : TA}
theorem ev_call {F : List Dd → Dd → Prop} {E : XK} {ds : List Dd} (h : EvA T tas ρ ds) (hF : F ds d) : Ev T (tCall (spF T F) [] E tas) ρ d := fun as σ G H e g Q q => h as σ G H e g _ fun vs G1 H1 s1 r1 => by
  show spF T F (vs ++ []) H1 Q E
  rw [List.append_nil]
  exact ⟨as, ds, d, G1, hF, r1, s1.gh, fun v G2 H2 s2 r2 => q v G2 H2 (s1.trans s2) r2⟩
theorem ew_call {F : List Dd → Dd → Prop} {E : XK} {S1 : List Dd → List Ow → Prop} (h : EvWA T tas ρ ω S1) (k : ∀ ds o, S1 ds o → ∃ z, F ds z ∧ S z o) : EvW T (tCall (spF T F) [] E tas) ρ ω S := fun as σ G H e g w Q q => h as σ G H e g w _ fun vs ds o G1 H1 h1 r1 w1 s1 => by
  show spF T F (vs ++ []) H1 Q E
  rw [List.append_nil]
  obtain ⟨z, hz, hs⟩ := k ds o h1
  exact ⟨as, ds, z, G1, hz, r1, s1.gh, fun v G2 H2 s2 r2 => q v z o G2 H2 hs r2 (w1.step s2) (s1.trans s2.any)⟩
theorem RepL.one {as : List Addr} {p : Addr} {G : Hp} {ds : List Dd} {vs : List V} (f : ds.all Dd.free = true) (h : RepL T as G ds vs) : RepL T [p] G ds vs := RepL.move f h
/-- a call that hands on the first owned thing -/
theorem ew_callQ {F : List Dd → Ow → (Dd → Ow → Prop) → Prop} {E : XK} {ds : List Dd} {o : Ow} {ω' : List Ow} {S1 : Dd → Ow → Prop} (h : EvA T tas ρ (.own 0 :: ds)) (hf : ds.all Dd.free = true) (hF : F ds o S1) (k : ∀ d o', S1 d o' → d.free = true ∧ S d (o' :: ω')) : EvW T (tCall (spQ T F) [] E tas) ρ (o :: ω') S := fun as σ G H e g w Q q => h as σ G H e g _ fun vs G1 H1 s1 r1 => by
  show spQ T F (vs ++ []) H1 Q E
  rw [List.append_nil]
  cases r1 with
  | cons r0 r1 =>
    rename_i v0 vs'
    obtain ⟨p, e1, rfl⟩ := r0
    have w1 := w.step s1
    cases as with
    | nil => simp at e1
    | cons a es =>
      cases Option.some.inj e1
      have hnd : p ∉ es := (List.nodup_cons.mp w1.nd).1
      refine ⟨p, vs', ds, o, S1, G1, rfl, hF, RepL.move hf r1, s1.gh, ⟨by simp, rfl, fun k a u f1 f2 => ?_⟩, fun v d o' G2 H2 hS r2 w2 s2 => ?_⟩
      · cases k with
        | zero =>
          cases Option.some.inj f1
          cases Option.some.inj f2
          exact w1.ow 0 p o rfl rfl
        | succ k => simp at f1
      · obtain ⟨hfr, hs⟩ := k d o' hS
        have s3 : Stp (p :: es) (p :: es) G1 H1 G2 H2 := ⟨s2.gg, s2.gh, fun a u n h => s2.hh a u (fun z => n (by rw [List.mem_singleton.mp z]; exact List.mem_cons_self)) h, s2.ha, fun a n g h => s2.fr a (fun z => n (by rw [List.mem_singleton.mp z]; exact List.mem_cons_self)) g h, fun _ h n => absurd h n⟩
        refine q v d (o' :: ω') G2 H2 hs (r2.move hfr) ⟨w1.nd, by rw [List.length_cons]; exact w1.len, fun k a u f1 f2 => ?_⟩ (Stp.trans s1.any s3)
        cases k with
        | zero =>
          cases Option.some.inj f1
          cases Option.some.inj f2
          exact w2.ow 0 p o' rfl rfl
        | succ k =>
          have hm : a ∈ es := List.mem_of_getElem? (show es[k]? = some a from f1)
          have hne : a ∉ [p] := fun z => hnd (by rw [← List.mem_singleton.mp z]; exact hm)
          obtain ⟨g1, o1⟩ := w1.ow (k + 1) a u f1 f2
          exact ⟨s2.fr a hne g1 o1.there, o1.up s2.gg fun v hv => s2.hh a v hne hv⟩
/-! ### things owned -/
/-- x = a new list: it may be changed from here on -/
theorem go_newl {i : Nat} {S : List PyData → List Ow → Prop} (h : EvWN T te ρ ω S) (k : ∀ ds o, S ds o → Go T t2 (ρ.set i (some (.own o.length))) b (o ++ [.lst ds]) N R) (hb : b ≤ ω.length) (hlen : ∀ ds o, S ds o → o.length = ω.length) : Go T (tSeq (tAsg te (gName i)) t2) ρ b ω N R := by
  intro as σ G H e g w D q q2
  show te σ H fun x H1 => gName i x σ H1 { D with nx := t2 D }.nx
  refine h as σ G H e g w _ fun p xs ds o G2 H2 hs w2 s2 hp r2 => ?_
  have gp : G2 p = none := s2.gh.free hp
  have nas : p ∉ as := fun ha => by
    obtain ⟨k, hk, e1⟩ := List.mem_iff_getElem.mp ha
    have hk2 : k < o.length := by rw [← w2.len]; exact hk
    exact ((w2.ow k p o[k] (by rw [List.getElem?_eq_getElem hk, e1]) (List.getElem?_eq_getElem hk2)).2.there) hp
  have s3 : Stp as (as ++ [p]) G H G2 (upd H2 p (.lst xs)) := by
    have s4 := s2.hid (o := .lst xs) hp
    refine ⟨s4.gg, s4.gh, s4.hh, s4.ha, s4.fr, fun a ha n => ?_⟩
    rcases List.mem_append.mp ha with z | z
    · exact absurd z n
    · rw [List.mem_singleton.mp z]
      cases y : H p with
      | none => rfl
      | some u => exact absurd hp (s2.ha p (by rw [y]; intro z; cases z))
  have w3 : Own T (as ++ [p]) (o ++ [.lst ds]) G2 (upd H2 p (.lst xs)) := by
    refine ⟨List.nodup_append.mpr ⟨w2.nd, by simp, fun a ha c hc z => ?_⟩, by rw [List.length_append, List.length_append, w2.len]; rfl, fun k a u e1 e2 => ?_⟩
    · rw [List.mem_singleton.mp hc] at z
      exact nas (z ▸ ha)
    · by_cases hk : k < as.length
      · rw [List.getElem?_append_left hk] at e1
        rw [List.getElem?_append_left (by rw [← w2.len]; exact hk)] at e2
        obtain ⟨g1, o1⟩ := w2.ow k a u e1 e2
        refine ⟨g1, o1.up (Same.refl _) fun v hv => ?_⟩
        rw [upd_ne (ne_of_none hv hp)]
        exact hv
      · have hk2 : k = as.length := by
          have := (List.getElem?_eq_some_iff.mp e1).1
          rw [List.length_append] at this
          simp at this
          omega
        subst hk2
        rw [List.getElem?_append_right (Nat.le_refl _), Nat.sub_self] at e1
        rw [w2.len, List.getElem?_append_right (Nat.le_refl _), Nat.sub_self] at e2
        cases Option.some.inj e1
        cases Option.some.inj e2
        exact ⟨gp, xs, upd_same, r2⟩
  have e3 : RepE T (as ++ [p]) G2 (ρ.set i (some (.own o.length))) (σ.set i (some (.ref p))) := by
    have e2 : RepE T (as ++ [p]) G2 ρ σ := ⟨e.len, fun j d hj => by
      obtain ⟨v, f1, f2⟩ := e.at_ j d hj
      refine ⟨v, f1, ?_⟩
      have f3 := f2.up s2.gg
      cases d with
      | fl x => exact f3
      | ins fs => exact f3
      | cls n => exact f3
      | ktup xs => exact f3
      | klst xs => exact f3
      | gro fs gl =>
        obtain ⟨a, dx, b, d, h1, h2, h3, h4⟩ := f3
        refine ⟨a, dx, b, d, h1, h2, ?_, h4⟩
        rw [List.getElem?_append_left (List.getElem?_eq_some_iff.mp h3).1]
        exact h3
      | own k =>
        obtain ⟨a, h1, h2⟩ := f3
        refine ⟨a, ?_, h2⟩
        rw [List.getElem?_append_left (List.getElem?_eq_some_iff.mp h1).1]
        exact h1⟩
    refine e2.set i ⟨p, ?_, rfl⟩
    rw [← w2.len, List.getElem?_append_right (Nat.le_refl _), Nat.sub_self]
    rfl
  have tkb : (as ++ [p]).take b = as.take b := List.take_append_of_le_length (by rw [w.len]; exact hb)
  exact k ds o hs (as ++ [p]) _ G2 _ e3 s3.gh w3 D (fun as4 ρ4 o4 σ4 G4 H4 hn e4 w4 tk4 s4 => q as4 ρ4 o4 σ4 G4 H4 hn e4 w4 (tk4.trans tkb) (s3.trans s4)) (fun as4 d o4 v G4 H4 hr r4 w4 tk4 s4 => q2 as4 d o4 v G4 H4 hr r4 w4 (tk4.trans tkb) (s3.trans s4))
def thaw (n : Nat) (d : Dd) : Option Dd → Option Dd
  | some (.own k) => if k = n then some d else some (.own k)
  | some (.gro _ _) => none
  | o => o
/-- the last owned list is from here on known -/
theorem go_freeze {ds : List PyData} (hb : b ≤ ω.length) (k : Go T ts (ρ.map (thaw ω.length (.py (.list ds)))) b ω N R) : Go T ts ρ b (ω ++ [.lst ds]) N R := by
  intro as σ G H e g w D q q2
  have hl : as.length = ω.length + 1 := by
    rw [w.len, List.length_append]
    rfl
  obtain ⟨es, p, rfl⟩ : ∃ es p, as = es ++ [p] := by
    rcases List.eq_nil_or_concat as with z | ⟨es, p, z⟩
    · rw [z] at hl
      cases hl
    · exact ⟨es, p, by rw [z, List.concat_eq_append]⟩
  have hle : es.length = ω.length := by
    rw [List.length_append] at hl
    simpa using hl
  have hp : (es ++ [p])[es.length]? = some p := by
    rw [List.getElem?_append_right (Nat.le_refl _), Nat.sub_self]
    rfl
  obtain ⟨gp, xs, hx, rx⟩ := w.ow es.length p (.lst ds) hp (by
    rw [hle, List.getElem?_append_right (Nat.le_refl _), Nat.sub_self]
    rfl)
  have npe : p ∉ es := by
    have := (List.nodup_append.mp w.nd).2.2
    exact fun z => this p z p (by simp) rfl
  have gs : Same G (upd G p (.lst xs)) := same_new gp
  have gh2 : Same (upd G p (.lst xs)) H := fun a u h => by
    by_cases z : a = p
    · subst z
      rw [upd_same] at h
      cases h
      exact hx
    · rw [upd_ne z] at h
      exact g a u h
  have s1 : Stp (es ++ [p]) es G H (upd G p (.lst xs)) H := by
    refine ⟨gs, gh2, fun _ _ _ h => h, fun _ h => h, fun a n h1 h2 => ?_, fun a h n => absurd (List.mem_append_left _ h) n⟩
    have z : a ≠ p := fun z => n (by rw [z]; simp)
    rw [upd_ne z]
    exact h1
  have w1 : Own T es ω (upd G p (.lst xs)) H := by
    refine ⟨(List.nodup_append.mp w.nd).1, hle, fun j a u f1 f2 => ?_⟩
    have hj := (List.getElem?_eq_some_iff.mp f1).1
    obtain ⟨g1, o1⟩ := w.ow j a u (by rw [List.getElem?_append_left hj]; exact f1) (by rw [List.getElem?_append_left (by rw [← hle]; exact hj)]; exact f2)
    have z : a ≠ p := fun z => npe (z ▸ List.mem_of_getElem? f1)
    exact ⟨by rw [upd_ne z]; exact g1, o1.up gs fun v hv => hv⟩
  have e1 : RepE T es (upd G p (.lst xs)) (ρ.map (thaw ω.length (.py (.list ds)))) σ := by
    refine ⟨by rw [List.length_map]; exact e.len, fun i d hi => ?_⟩
    rw [List.getElem?_map] at hi
    cases ho : ρ[i]? with
    | none =>
      rw [ho] at hi
      cases hi
    | some o =>
      rw [ho] at hi
      have hi2 : thaw ω.length (.py (.list ds)) o = some d := Option.some.inj hi
      cases o with
      | none => cases hi2
      | some d0 =>
        obtain ⟨v, f1, f2⟩ := e.at_ i d0 ho
        refine ⟨v, f1, ?_⟩
        have f3 := f2.up gs
        cases d0 with
        | fl x =>
          cases hi2
          exact f3
        | ins fs =>
          cases hi2
          exact f3
        | cls n =>
          cases hi2
          exact f3
        | ktup xs =>
          cases hi2
          exact f3
        | klst xs =>
          cases hi2
          exact f3
        | gro fs gl =>
          cases hi2
        | own k =>
          have hk : (if k = ω.length then some (Dd.py (.list ds)) else some (.own k)) = some d := hi2
          obtain ⟨a, h1, h2⟩ := f3
          by_cases z : k = ω.length
          · rw [if_pos z] at hk
            cases hk
            rw [z, ← hle, hp] at h1
            cases h1
            rw [h2]
            exact Dq.lst upd_same (DqA.up gs rx)
          · rw [if_neg z] at hk
            cases hk
            refine ⟨a, ?_, h2⟩
            have hk2 := (List.getElem?_eq_some_iff.mp h1).1
            rw [List.length_append] at hk2
            have hk3 : k < es.length := by
              rw [hle]
              simp at hk2
              omega
            rw [List.getElem?_append_left hk3] at h1
            exact h1
  have tkb : es.take b = (es ++ [p]).take b := (List.take_append_of_le_length (by rw [hle]; exact hb)).symm
  exact k es σ (upd G p (.lst xs)) H e1 gh2 w1 D (fun as4 ρ4 o4 σ4 G4 H4 hn e4 w4 tk4 s4 => q as4 ρ4 o4 σ4 G4 H4 hn e4 w4 (tk4.trans tkb) (s1.trans s4)) (fun as4 d o4 v G4 H4 hr r4 w4 tk4 s4 => q2 as4 d o4 v G4 H4 hr r4 w4 (tk4.trans tkb) (s1.trans s4))
end
end Rt
namespace Rt
open PySem PySem.Spec PyProof.Rows L2
open C8 (Cal Met Mak pe_c pe_mt pe_mt0 pe_mk)
/-! ### names for the readings of some calls -/
section
variable {X : Cx}
def rLen (K : PySem.W.Frag) : List V → Hp → VK → Prop := fun xs H Q => ∃ x n, xs = [x] ∧ LenV K x H n ∧ Q (.int (n : Nat)) H
theorem cz_len : CallR X (.builtin "len") (rLen X.K) := call_len
def rIntC : List V → Hp → VK → Prop := fun xs H Q => (∃ i, xs = [.int i] ∧ Q (.int i) H) ∨ ∃ k, xs = [.bl k] ∧ Q (.int (if k then 1 else 0)) H
theorem cz_int : CallR X (.type "int") rIntC := call_int1
def rTupC (K : PySem.W.Frag) : List V → Hp → VK → Prop := fun xs H Q => ∃ p ys, xs = [.ref p] ∧ ((SqL K H p ys ∧ ∀ l, H l = none → Q (.ref l) (upd H l (.tup ys))) ∨ (SqT K H p ys ∧ Q (.ref p) H))
theorem cz_tup : CallR X (.type "tuple") (rTupC X.K) := call_tuple_of
def rLstC (K : PySem.W.Frag) : List V → Hp → VK → Prop := fun xs H Q => ∃ p ys, xs = [.ref p] ∧ (SqL K H p ys ∨ SqT K H p ys) ∧ ∀ l, H l = none → Q (.ref l) (upd H l (.lst ys))
theorem cz_lst : CallR X (.type "list") (rLstC X.K) := call_list_of
def rMaxC : List V → Hp → VK → Prop := fun xs H Q => ∃ i j, xs = [.int i, .int j] ∧ Q (.int (if j > i then j else i)) H
theorem cz_max (hc : X.calm = true) : CallR X (.builtin "max") rMaxC := call_max2 hc
def rMinC : List V → Hp → VK → Prop := fun xs H Q => ∃ i j, xs = [.int i, .int j] ∧ Q (.int (if j < i then j else i)) H
theorem cz_min (hc : X.calm = true) : CallR X (.builtin "min") rMinC := call_min2 hc
def rStrC : List V → Hp → VK → Prop := fun xs H Q => ∃ a, xs = [.str a] ∧ Q (.str a) H
theorem cz_str : CallR X (.type "str") rStrC := SkE.call_str_str
def rInSign : R2 := fun x y H Q => ∃ (c : Nat) (z : Str), x = .str ⟨#[c]⟩ ∧ y = .str z ∧ Q (.bl (decide (c ∈ z.cps.toList))) H
theorem oz_sign : OpR X (compareOp .In) rInSign := op_in_sign
def rIsNone : R2 := fun x y H Q => y = .non ∧ Q (.bl (decide (x = .non))) H
theorem oz_isN : OpR X (compareOp .Is) rIsNone := op_isN
def rNotNone : R2 := fun x y H Q => y = .non ∧ Q (.bl (!decide (x = .non))) H
theorem oz_notN : OpR X (compareOp .IsNot) rNotNone := op_notN
def tTruth (K : PySem.W.Frag) (ta : TE) : TT := fun σ H Q => ta σ H fun x H' => ∃ k, TruV K x H' k ∧ Q k H'
theorem pz_truth {a : Expr} {ta : TE} (ha : PE X a ta) (he : ∀ whole, isTrue a X.env whole = (do let v ← whole; standAt a.pos; holding [v] (truthy v))) : PT X a (tTruth X.K ta) := pt_truth ha he
end
section
variable {T : Tx} {te ta tb tc : TE} {tt tu : TT} {ρ ρ' : En} {ω : List Ow} {d x y z : Dd} {r r' : R2} {S : Dd → List Ow → Prop}
/-! ### operators -/
theorem er_i0 {g : Int → Int → V} {i j : Int} (h : ∀ as G, Rep T as G z (g i j)) : EvR T (rI0 g) (.py (.int i)) (.py (.int j)) z := fun as G H v w r1 r2 s Q q => ⟨i, j, dq_int r1, dq_int r2, q _ G H (.refl s) (h as G)⟩
theorem er_i {C : Int → Int → Prop} {g : Int → Int → V} {i j : Int} (hc : C i j) (h : ∀ as G, Rep T as G z (g i j)) : EvR T (rI C g) (.py (.int i)) (.py (.int j)) z := fun as G H v w r1 r2 s Q q => ⟨i, j, dq_int r1, dq_int r2, hc, q _ G H (.refl s) (h as G)⟩
theorem er_add {i j : Int} : EvR T (rI0 fun i j => .int (i + j)) (.py (.int i)) (.py (.int j)) (.py (.int (i + j))) := er_i0 fun _ _ => .int _
theorem er_sub {i j : Int} : EvR T (rI0 fun i j => .int (i - j)) (.py (.int i)) (.py (.int j)) (.py (.int (i - j))) := er_i0 fun _ _ => .int _
theorem er_and {i j : Int} : EvR T (rI0 fun i j => .int (Builtin.bitAnd i j)) (.py (.int i)) (.py (.int j)) (.py (.int (Builtin.bitAnd i j))) := er_i0 fun _ _ => .int _
theorem er_or {i j : Int} : EvR T (rI0 fun i j => .int (Builtin.bitOr i j)) (.py (.int i)) (.py (.int j)) (.py (.int (Builtin.bitOr i j))) := er_i0 fun _ _ => .int _
theorem er_lt {i j : Int} : EvR T (rI0 fun i j => .bl (decide (i < j))) (.py (.int i)) (.py (.int j)) (.py (.bool (decide (i < j)))) := er_i0 fun _ _ => .bl _
theorem er_le {i j : Int} : EvR T (rI0 fun i j => .bl (decide (i ≤ j))) (.py (.int i)) (.py (.int j)) (.py (.bool (decide (i ≤ j)))) := er_i0 fun _ _ => .bl _
theorem er_gt {i j : Int} : EvR T (rI0 fun i j => .bl (decide (j < i))) (.py (.int i)) (.py (.int j)) (.py (.bool (decide (j < i)))) := er_i0 fun _ _ => .bl _
theorem er_ge {i j : Int} : EvR T (rI0 fun i j => .bl (decide (j ≤ i))) (.py (.int i)) (.py (.int j)) (.py (.bool (decide (j ≤ i)))) := er_i0 fun _ _ => .bl _
theorem er_mul {i j : Int} (hc : CMul i j) : EvR T (rI CMul fun i j => .int (i * j)) (.py (.int i)) (.py (.int j)) (.py (.int (i * j))) := er_i hc fun _ _ => .int _
theorem er_fdiv {i j : Int} (hc : CDiv i j) : EvR T (rI CDiv fun i j => .int (i / j)) (.py (.int i)) (.py (.int j)) (.py (.int (i / j))) := er_i hc fun _ _ => .int _
theorem er_mod {i j : Int} (hc : 0 < j) : EvR T (rI (fun _ j => 0 < j) fun i j => .int (i % j)) (.py (.int i)) (.py (.int j)) (.py (.int (i % j))) := er_i hc fun _ _ => .int _
theorem er_pow {i j : Int} (hc : CPow i j) : EvR T (rI CPow fun i j => .int (i ^ j.toNat)) (.py (.int i)) (.py (.int j)) (.py (.int (i ^ j.toNat))) := er_i hc fun _ _ => .int _
theorem er_eqI {i j : Int} : EvR T rEq (.py (.int i)) (.py (.int j)) (.py (.bool (decide (i = j)))) := fun as G H v w r1 r2 s Q q => by
  rw [dq_int r1, dq_int r2]
  refine ⟨rfl, q _ G H (.refl s) ?_⟩
  have e : decide (V.int i = V.int j) = decide (i = j) := by simp
  rw [e]
  exact .bl _
theorem er_eqS {i j : Str} : EvR T rEq (.py (.str i)) (.py (.str j)) (.py (.bool (decide (i = j)))) := fun as G H v w r1 r2 s Q q => by
  rw [dq_str r1, dq_str r2]
  refine ⟨rfl, q _ G H (.refl s) ?_⟩
  have e : decide (V.str i = V.str j) = decide (i = j) := by simp
  rw [e]
  exact .bl _
theorem er_neI {i j : Int} : EvR T rNe (.py (.int i)) (.py (.int j)) (.py (.bool (!decide (i = j)))) := fun as G H v w r1 r2 s Q q => by
  rw [dq_int r1, dq_int r2]
  refine ⟨rfl, q _ G H (.refl s) ?_⟩
  have e : decide (V.int i = V.int j) = decide (i = j) := by simp
  rw [e]
  exact .bl _
theorem er_neS {i j : Str} : EvR T rNe (.py (.str i)) (.py (.str j)) (.py (.bool (!decide (i = j)))) := fun as G H v w r1 r2 s Q q => by
  rw [dq_str r1, dq_str r2]
  refine ⟨rfl, q _ G H (.refl s) ?_⟩
  have e : decide (V.str i = V.str j) = decide (i = j) := by simp
  rw [e]
  exact .bl _
theorem er_eqD {d e : PyData} (hd : SeqAt.shaped d = true) (he : SeqAt.shaped e = true) : EvR T (rEqD T.K) (.py d) (.py e) (.py (.bool (PyData.eqv d e))) := fun as G H v w r1 r2 s Q q =>
  ⟨d, e, (Dq.up s r1).dp, (Dq.up s r2).dp, hd, he, q _ G H (.refl s) (.bl _)⟩
theorem er_neD {d e : PyData} (hd : SeqAt.shaped d = true) (he : SeqAt.shaped e = true) : EvR T (rNeD T.K) (.py d) (.py e) (.py (.bool (!PyData.eqv d e))) := fun as G H v w r1 r2 s Q q =>
  ⟨d, e, (Dq.up s r1).dp, (Dq.up s r2).dp, hd, he, q _ G H (.refl s) (.bl _)⟩
theorem er_inD {d : PyData} {ds : List PyData} (hd : SeqAt.shaped d = true) (he : SeqAt.shaped (.list ds) = true) : EvR T (rInD T.K) (.py d) (.py (.list ds)) (.py (.bool (ds.any fun z => PyData.eqv z d))) := fun as G H v w r1 r2 s Q q =>
  ⟨d, ds, (Dq.up s r1).dp, (Dq.up s r2).dp, hd, he, q _ G H (.refl s) (.bl _)⟩
theorem er_niD {d : PyData} {ds : List PyData} (hd : SeqAt.shaped d = true) (he : SeqAt.shaped (.list ds) = true) : EvR T (rNotInD T.K) (.py d) (.py (.list ds)) (.py (.bool (!ds.any fun z => PyData.eqv z d))) := fun as G H v w r1 r2 s Q q =>
  ⟨d, ds, (Dq.up s r1).dp, (Dq.up s r2).dp, hd, he, q _ G H (.refl s) (.bl _)⟩
theorem inV_strs (x : Str) : ∀ xs : List Str, inV (.str x) (xs.map V.str) = decide (x ∈ xs)
  | [] => rfl
  | y :: r => by
    show ((y == x) || inV (.str x) (r.map V.str)) = decide (x ∈ y :: r)
    rw [inV_strs x r]
    by_cases h : y = x
    · subst h
      simp
    · have h2 : ¬ x = y := fun e => h e.symm
      rw [beq_false_of_ne h, Bool.false_or]
      simp [h2]
theorem flat_strs : ∀ xs : List Str, (xs.map V.str).all flatV = true
  | [] => rfl
  | y :: r => by
    rw [List.map_cons, List.all_cons, flat_strs r]
    rfl
theorem er_inL {x : Str} {xs : List Str} : EvR T (rIn T.K false) (.py (.str x)) (.py (.list (xs.map .str))) (.py (.bool (decide (x ∈ xs)))) := fun as G H v w r1 r2 s Q q => by
  obtain ⟨a, vs, rfl, h1, h2⟩ := dq_lst r2
  rw [dq_str r1]
  rw [dqA_strs h2] at h1
  refine ⟨a, _, rfl, .inl (.of (s _ _ h1)), rfl, flat_strs xs, q _ G H (.refl s) ?_⟩
  rw [if_neg Bool.false_ne_true, inV_strs]
  exact .bl _
theorem er_niL {x : Str} {xs : List Str} : EvR T (rIn T.K true) (.py (.str x)) (.py (.list (xs.map .str))) (.py (.bool (!decide (x ∈ xs)))) := fun as G H v w r1 r2 s Q q => by
  obtain ⟨a, vs, rfl, h1, h2⟩ := dq_lst r2
  rw [dq_str r1]
  rw [dqA_strs h2] at h1
  refine ⟨a, _, rfl, .inl (.of (s _ _ h1)), rfl, flat_strs xs, q _ G H (.refl s) ?_⟩
  rw [if_pos rfl, inV_strs]
  exact .bl _
theorem er_inT {x : Str} {xs : List Str} : EvR T (rIn T.K false) (.py (.str x)) (.py (.tuple (xs.map .str))) (.py (.bool (decide (x ∈ xs)))) := fun as G H v w r1 r2 s Q q => by
  obtain ⟨a, vs, rfl, h1, h2⟩ := dq_tup r2
  rw [dq_str r1]
  rw [dqA_strs h2] at h1
  refine ⟨a, _, rfl, .inr (seqT_up s h1), rfl, flat_strs xs, q _ G H (.refl s) ?_⟩
  rw [if_neg Bool.false_ne_true, inV_strs]
  exact .bl _
theorem er_niT {x : Str} {xs : List Str} : EvR T (rIn T.K true) (.py (.str x)) (.py (.tuple (xs.map .str))) (.py (.bool (!decide (x ∈ xs)))) := fun as G H v w r1 r2 s Q q => by
  obtain ⟨a, vs, rfl, h1, h2⟩ := dq_tup r2
  rw [dq_str r1]
  rw [dqA_strs h2] at h1
  refine ⟨a, _, rfl, .inr (seqT_up s h1), rfl, flat_strs xs, q _ G H (.refl s) ?_⟩
  rw [if_pos rfl, inV_strs]
  exact .bl _
theorem er_sign {c : Nat} {x : Str} : EvR T rInSign (.py (.str ⟨#[c]⟩)) (.py (.str x)) (.py (.bool (decide (c ∈ x.cps.toList)))) := fun as G H v w r1 r2 s Q q =>
  ⟨c, x, dq_str r1, dq_str r2, q _ G H (.refl s) (.bl _)⟩
def isN : PyData → Bool
  | .none => true
  | _ => false
theorem dq_isN {K : PySem.W.Frag} {H : Hp} {v : V} {d : PyData} (h : Dq K H v d) : decide (v = .non) = isN d := by
  cases h <;> simp [isN]
theorem er_isN {d : PyData} : EvR T rIsNone (.py d) (.py .none) (.py (.bool (isN d))) := fun as G H v w r1 r2 s Q q =>
  ⟨dq_non r2, q _ G H (.refl s) (by rw [dq_isN r1]; exact .bl _)⟩
theorem er_notN {d : PyData} : EvR T rNotNone (.py d) (.py .none) (.py (.bool (!isN d))) := fun as G H v w r1 r2 s Q q =>
  ⟨dq_non r2, q _ G H (.refl s) (by rw [dq_isN r1]; exact .bl _)⟩
theorem atI_reps {K : PySem.W.Frag} {H : Hp} {vs : List V} {ds : List PyData} {i : Int} {d : PyData} (r : DqA K H vs ds) (h : atI ds i = some d) : ∃ v, atI vs i = some v ∧ Dq K H v d := by
  unfold atI at h ⊢
  rw [dqA_len r]
  cases e : ixN ds.length i with
  | none =>
    rw [e] at h
    cases h
  | some j =>
    rw [e] at h
    exact dqA_get r h
theorem er_ixL {ds : List PyData} {i : Int} {d : PyData} (h : atI ds i = some d) : EvR T (rIxL T.K) (.py (.list ds)) (.py (.int i)) (.py d) := fun as G H v w r1 r2 s Q q => by
  obtain ⟨a, vs, rfl, h1, h2⟩ := dq_lst r1
  obtain ⟨v, e, rv⟩ := atI_reps h2 h
  exact ⟨a, vs, i, v, rfl, dq_int r2, .of (s _ _ h1), e, q v G H (.refl s) rv⟩
theorem er_ixT {ds : List PyData} {i : Int} {d : PyData} (h : atI ds i = some d) : EvR T (rIxT T.K) (.py (.tuple ds)) (.py (.int i)) (.py d) := fun as G H v w r1 r2 s Q q => by
  obtain ⟨a, vs, rfl, h1, h2⟩ := dq_tup r1
  obtain ⟨v, e, rv⟩ := atI_reps h2 h
  exact ⟨a, vs, i, v, rfl, dq_int r2, seqT_up s h1, e, q v G H (.refl s) rv⟩
theorem er_catT {xs ys : List PyData} (hl : xs.length + ys.length ≤ 1000) : EvR T (rCatA T.K) (.py (.tuple xs)) (.py (.tuple ys)) (.py (.tuple (xs ++ ys))) := fun as G H v w r1 r2 s Q q => by
  obtain ⟨a, vs, rfl, h1, h2⟩ := dq_tup r1
  obtain ⟨c, ws, rfl, h3, h4⟩ := dq_tup r2
  have l1 := dqA_len h2
  have l2 := dqA_len h4
  refine ⟨a, c, vs, ws, rfl, rfl, seqT_up s h1, seqT_up s h3, by rw [l1, l2]; exact Nat.le_trans hl (by decide), fun e => ?_, fun _ e => ?_, fun _ _ p hp => ?_⟩
  · subst e
    have e2 : xs = [] := List.length_eq_zero_iff.mp l1.symm
    subst e2
    exact q _ G H (.refl s) r2
  · subst e
    have e2 : ys = [] := List.length_eq_zero_iff.mp l2.symm
    subst e2
    refine q _ G H (.refl s) ?_
    rw [List.append_nil]
    exact r1
  · exact q _ _ _ ((Stp.refl s).new (o := .tup (vs ++ ws)) hp) (Dq.tup upd_same (DqA.up (same_new (s.free hp)) (dqA_app h2 h4)))
theorem er_catL {xs ys : List PyData} (hl : xs.length + ys.length ≤ 100000) : EvR T rCat (.py (.list xs)) (.py (.list ys)) (.py (.list (xs ++ ys))) := fun as G H v w r1 r2 s Q q => by
  obtain ⟨a, vs, rfl, h1, h2⟩ := dq_lst r1
  obtain ⟨c, ws, rfl, h3, h4⟩ := dq_lst r2
  have l1 := dqA_len h2
  have l2 := dqA_len h4
  exact ⟨a, c, vs, ws, rfl, rfl, s _ _ h1, s _ _ h3, by rw [l1, l2]; exact Nat.le_trans hl (by decide), fun p hp => q _ _ _ ((Stp.refl s).new (o := .lst (vs ++ ws)) hp) (Dq.lst upd_same (DqA.up (same_new (s.free hp)) (dqA_app h2 h4)))⟩
/-! ### calls -/
theorem ec_len_l {ds : List PyData} : EvC T (rLen T.K) [.py (.list ds)] (.py (.int (ds.length : Int))) := fun as G H vs r s Q q => by
  cases r with
  | cons r1 r2 =>
    cases r2
    obtain ⟨a, xs, rfl, h1, h2⟩ := dq_lst r1
    exact ⟨_, ds.length, rfl, .inl ⟨xs, .of (s _ _ h1), (dqA_len h2).symm⟩, q _ G H (.refl s) (.int _)⟩
theorem ec_len_t {ds : List PyData} : EvC T (rLen T.K) [.py (.tuple ds)] (.py (.int (ds.length : Int))) := fun as G H vs r s Q q => by
  cases r with
  | cons r1 r2 =>
    cases r2
    obtain ⟨a, xs, rfl, h1, h2⟩ := dq_tup r1
    exact ⟨_, ds.length, rfl, .inr ⟨xs, seqT_up s h1, (dqA_len h2).symm⟩, q _ G H (.refl s) (.int _)⟩
theorem ec_len_s {x : Str} (hx : x.length ≤ 1000) : EvC T (rLen T.K) [.py (.str x)] (.py (.int (x.length : Int))) := fun as G H vs r s Q q => by
  cases r with
  | cons r1 r2 =>
    cases r2
    rw [dq_str r1]
    exact ⟨_, x.length, rfl, ⟨Nat.le_trans hx (by decide), rfl⟩, q _ G H (.refl s) (.int _)⟩
theorem ec_int {i : Int} : EvC T rIntC [.py (.int i)] (.py (.int i)) := fun as G H vs r s Q q => by
  cases r with
  | cons r1 r2 =>
    cases r2
    rw [dq_int r1]
    exact .inl ⟨i, rfl, q _ G H (.refl s) (.int _)⟩
theorem ec_intb {c : Bool} : EvC T rIntC [.py (.bool c)] (.py (.int (if c then 1 else 0))) := fun as G H vs r s Q q => by
  cases r with
  | cons r1 r2 =>
    cases r2
    rw [dq_bl r1]
    exact .inr ⟨c, rfl, q _ G H (.refl s) (.int _)⟩
theorem ec_tup_l {ds : List PyData} : EvC T (rTupC T.K) [.py (.list ds)] (.py (.tuple ds)) := fun as G H vs r s Q q => by
  cases r with
  | cons r1 r2 =>
    cases r2
    obtain ⟨a, xs, rfl, h1, h2⟩ := dq_lst r1
    exact ⟨a, xs, rfl, .inl ⟨.of (s _ _ h1), fun p hp => q _ _ _ ((Stp.refl s).new (o := .tup xs) hp) (Dq.tup upd_same (DqA.up (same_new (s.free hp)) h2))⟩⟩
theorem ec_tup_t {ds : List PyData} : EvC T (rTupC T.K) [.py (.tuple ds)] (.py (.tuple ds)) := fun as G H vs r s Q q => by
  cases r with
  | cons r1 r2 =>
    cases r2
    obtain ⟨a, xs, rfl, h1, h2⟩ := dq_tup r1
    exact ⟨a, xs, rfl, .inr ⟨seqT_up s h1, q _ G H (.refl s) r1⟩⟩
theorem ecn_lst_l {ds : List PyData} : EvCN T (rLstC T.K) [.py (.list ds)] ds := fun as G H vs r s Q q => by
  cases r with
  | cons r1 r2 =>
    cases r2
    obtain ⟨a, xs, rfl, h1, h2⟩ := dq_lst r1
    exact ⟨a, xs, rfl, .inl (.of (s _ _ h1)), fun p hp => q p xs G H (.refl s) hp h2⟩
theorem ecn_lst_t {ds : List PyData} : EvCN T (rLstC T.K) [.py (.tuple ds)] ds := fun as G H vs r s Q q => by
  cases r with
  | cons r1 r2 =>
    cases r2
    obtain ⟨a, xs, rfl, h1, h2⟩ := dq_tup r1
    exact ⟨a, xs, rfl, .inr (seqT_up s h1), fun p hp => q p xs G H (.refl s) hp h2⟩
theorem ec_max {i j : Int} : EvC T rMaxC [.py (.int i), .py (.int j)] (.py (.int (if j > i then j else i))) := fun as G H vs r s Q q => by
  cases r with
  | cons r1 r2 =>
    cases r2 with
    | cons r2 r3 =>
      cases r3
      rw [dq_int r1, dq_int r2]
      exact ⟨i, j, rfl, q _ G H (.refl s) (.int _)⟩
theorem ec_min {i j : Int} : EvC T rMinC [.py (.int i), .py (.int j)] (.py (.int (if j < i then j else i))) := fun as G H vs r s Q q => by
  cases r with
  | cons r1 r2 =>
    cases r2 with
    | cons r2 r3 =>
      cases r3
      rw [dq_int r1, dq_int r2]
      exact ⟨i, j, rfl, q _ G H (.refl s) (.int _)⟩
theorem ec_str {x : Str} : EvC T rStrC [.py (.str x)] (.py (.str x)) := fun as G H vs r s Q q => by
  cases r with
  | cons r1 r2 =>
    cases r2
    rw [dq_str r1]
    exact ⟨x, rfl, q _ G H (.refl s) (.str _)⟩
theorem ec_sum {ns : List Int} : EvC T (rSum T.K) [.py (.list (ns.map .int))] (.py (.int ns.sum)) := fun as G H vs r s Q q => by
  cases r with
  | cons r1 r2 =>
    cases r2
    obtain ⟨a, xs, rfl, h1, h2⟩ := dq_lst r1
    rw [dqA_ints h2] at h1
    exact ⟨a, ns, rfl, .of (s _ _ h1), q _ G H (.refl s) (.int _)⟩
theorem ec_all {bs : List Bool} : EvC T (rAll T.K) [.py (.list (bs.map .bool))] (.py (.bool (bs.all id))) := fun as G H vs r s Q q => by
  cases r with
  | cons r1 r2 =>
    cases r2
    obtain ⟨a, xs, rfl, h1, h2⟩ := dq_lst r1
    rw [dqA_bls h2] at h1
    exact ⟨a, bs, rfl, .of (s _ _ h1), q _ G H (.refl s) (.bl _)⟩
theorem ec_any {bs : List Bool} : EvC T (rAny T.K) [.py (.list (bs.map .bool))] (.py (.bool (bs.any id))) := fun as G H vs r s Q q => by
  cases r with
  | cons r1 r2 =>
    cases r2
    obtain ⟨a, xs, rfl, h1, h2⟩ := dq_lst r1
    rw [dqA_bls h2] at h1
    exact ⟨a, bs, rfl, .of (s _ _ h1), q _ G H (.refl s) (.bl _)⟩
theorem ecn_sorted {ns : List Int} (h64 : ns.length < 64) (hs : ns.Pairwise (· ≤ ·)) : EvCN T (rSorted T.K) [.py (.list (ns.map .int))] (ns.map .int) := fun as G H vs r s Q q => by
  cases r with
  | cons r1 r2 =>
    cases r2
    obtain ⟨a, xs, rfl, h1, h2⟩ := dq_lst r1
    rw [dqA_ints h2] at h1
    refine ⟨a, ns, rfl, .of (s _ _ h1), h64, fun ns' p hp hq hn => ?_⟩
    have e : ns' = ns := PySem.W.ksm_same hp hq hs
    subst e
    exact q p _ G H (.refl s) hn (dqA_of_ints _)
/-! ### isinstance -/
def tyName : PyData → Option String
  | .none => some "NoneType"
  | .bool _ => some "bool"
  | .int _ => some "int"
  | .str _ => some "str"
  | .list _ => some "list"
  | .tuple _ => some "tuple"
  | .dict _ => none
theorem dq_ty {K : PySem.W.Frag} {H : Hp} {v : V} {d : PyData} {n : String} (h : Dq K H v d) (e : tyName d = some n) : TyX K H v (.type n) := by
  cases h with
  | non =>
    cases e
    exact .base .non
  | bl b =>
    cases e
    exact .base (.bl b)
  | int i =>
    cases e
    exact .base (.int i)
  | str x =>
    cases e
    exact .base (.str x)
  | lst h t =>
    cases e
    exact .base (.lst h)
  | tup h t =>
    cases e
    exact .base (.tup h)
theorem ec_isi {d : PyData} {n m : String} {c : Bool} (e : tyName d = some n) (k : kitB n m = some c) : EvC T (rIsi T.K) [.py d, .cls m] (.py (.bool c)) := fun as G H vs r s Q q => by
  cases r with
  | cons r1 r2 =>
    cases r2 with
    | cons r2 r3 =>
      cases r3
      cases (show _ = V.ty m from r2)
      exact ⟨_, _, _, _, c, rfl, .ty m, dq_ty (Dq.up s r1) e, kit_ty k, q _ G H (.refl s) (.bl _)⟩
theorem ev_cls {n : String} : Ev T (tC (.ty n)) ρ (.cls n) := fun as σ G H e g Q q => q _ G H (.refl g) rfl
/-- isinstance(x, (list, tuple)) -/
theorem ev_isiT {d : PyData} {n m1 m2 : String} {c : Bool} (h : Ev T ta ρ (.py d)) (e : tyName d = some n) (k : ∀ K, PySem.W.kitAny K (.type n) [.type m1, .type m2] = some c) :
    Ev T (tCB (rIsiT T.K) (tCons ta (tCons (tTup (tCons (tC (.ty m1)) (tCons (tC (.ty m2)) tNil))) tNil))) ρ (.py (.bool c)) := fun as σ G H en g Q q => h as σ G H en g _ fun v G2 H2 s r =>
  ⟨by show 2 ≤ sizeLine; decide, fun p hp => ⟨v, p, [.ty m1, .ty m2], _, [.type m1, .type m2], c, rfl, upd_same, .cons (.ty m1) (.cons (.ty m2) .nil), dq_ty (Dq.up ((same_new (s.gh.free hp)).trans (by
    intro a u ha
    by_cases z : a = p
    · subst z
      rw [upd_same] at ha ⊢
      exact ha
    · rw [upd_ne z] at ha ⊢
      exact s.gh a u ha)) r) e, k _, q _ _ _ (s.new (o := .tup [.ty m1, .ty m2]) hp) (.bl _)⟩⟩
/-! ### slices -/
def EvO (T : Tx) (to : TO) (ρ : En) (o : Option Int) : Prop := ∀ as σ G H, RepE T as G ρ σ → Same G H → ∀ Q : Option Int → Hp → Prop, (∀ G2 H2, Stq G H G2 H2 → Q o H2) → to σ H Q
theorem eo_none : EvO T tNoPart ρ none := fun as σ G H e g Q q => q G H (.refl g)
theorem eo_some {i : Int} (h : Ev T te ρ (.py (.int i))) : EvO T (tPart te) ρ (some i) := fun as σ G H e g Q q => h as σ G H e g _ fun v G2 H2 s r => ⟨i, dq_int r, q G2 H2 s⟩
def EvWO (T : Tx) (to : TO) (ρ : En) (ω : List Ow) (S : Option Int → List Ow → Prop) : Prop := ∀ as σ G H, RepE T as G ρ σ → Same G H → Own T as ω G H → ∀ Q : Option Int → Hp → Prop, (∀ i o G2 H2, S i o → Own T as o G2 H2 → Stp as as G H G2 H2 → Q i H2) → to σ H Q
theorem ewo_some {S1 : Option Int → List Ow → Prop} (h : EvW T te ρ ω S) (k : ∀ d o, S d o → ∃ i, d = .py (.int i) ∧ S1 (some i) o) : EvWO T (tPart te) ρ ω S1 := fun as σ G H e g w Q q => h as σ G H e g w _ fun v d o G2 H2 s r w2 s2 => by
  obtain ⟨i, rfl, hs⟩ := k d o s
  exact ⟨i, dq_int r, q _ o G2 H2 hs w2 s2⟩
def cutD {α : Type} (xs : List α) (lo hi : Option Int) : List α := (xs.drop (HT.sIx xs.length 0 lo)).take (HT.sIx xs.length xs.length hi - HT.sIx xs.length 0 lo)
theorem cut_reps {K : PySem.W.Frag} {H : Hp} {vs : List V} {ds : List PyData} {lo hi : Option Int} (r : DqA K H vs ds) : DqA K H (cutV vs lo hi) (cutD ds lo hi) := by
  unfold cutV cutD
  rw [dqA_len r]
  exact dqA_take _ (dqA_drop _ r)
variable {tl th : TO}
theorem en_slL {ds : List PyData} {lo hi : Option Int} (h : Ev T te ρ (.py (.list ds))) (h1 : EvO T tl ρ lo) (h2 : EvO T th ρ hi) : EvN T (tSl (rSlL T.K) te tl th) ρ (cutD ds lo hi) := fun as σ G H e g Q q => h as σ G H e g _ fun v G1 H1 s1 r1 => h1 as σ G1 H1 (e.up s1.gg) s1.gh _ fun G2 H2 s2 => h2 as σ G2 H2 ((e.up s1.gg).up s2.gg) s2.gh _ fun G3 H3 s3 => by
  obtain ⟨a, xs, rfl, h3, h4⟩ := dq_lst (Dq.up (s2.gg.trans s3.gg) r1)
  exact ⟨a, xs, rfl, .of (s3.gh _ _ h3), fun p hp => q p _ G3 H3 ((s1.trans s2).trans s3) hp (cut_reps h4)⟩
theorem ewn_slL {ds : List PyData} {lo : Option Int} {S1 : Option Int → List Ow → Prop} {S2 : List PyData → List Ow → Prop} (h : Ev T te ρ (.py (.list ds))) (h1 : EvO T tl ρ lo) (h2 : EvWO T th ρ ω S1) (k : ∀ hi o, S1 hi o → S2 (cutD ds lo hi) o) : EvWN T (tSl (rSlL T.K) te tl th) ρ ω S2 := fun as σ G H e g w Q q => h as σ G H e g _ fun v G1 H1 s1 r1 => h1 as σ G1 H1 (e.up s1.gg) s1.gh _ fun G2 H2 s2 => h2 as σ G2 H2 ((e.up s1.gg).up s2.gg) s2.gh (w.step (s1.trans s2)) _ fun hi o G3 H3 hs w3 s3 => by
  obtain ⟨a, xs, rfl, h3, h4⟩ := dq_lst (Dq.up (s2.gg.trans s3.gg) r1)
  exact ⟨a, xs, rfl, .of (s3.gh _ _ h3), fun p hp => q p _ _ o G3 H3 (k hi o hs) w3 ((Stq.any (s1.trans s2)).trans s3) hp (cut_reps h4)⟩
theorem ewn_slLw {lo : Option Int} {S0 : Dd → List Ow → Prop} {S1 : List PyData → Option Int → List Ow → Prop} {S2 : List PyData → List Ow → Prop} (h : EvW T te ρ ω S0) (h1 : EvO T tl ρ lo) (h2 : ∀ d o, S0 d o → ∃ ds, d = .py (.list ds) ∧ EvWO T th ρ o (S1 ds)) (k : ∀ ds hi o, S1 ds hi o → S2 (cutD ds lo hi) o) : EvWN T (tSl (rSlL T.K) te tl th) ρ ω S2 := fun as σ G H e g w Q q => h as σ G H e g w _ fun v d o1 G1 H1 hs1 r1 w1 s1 => by
  obtain ⟨ds, rfl, hh⟩ := h2 d o1 hs1
  refine h1 as σ G1 H1 (e.up s1.gg) s1.gh _ fun G2 H2 s2 => hh as σ G2 H2 ((e.up s1.gg).up s2.gg) s2.gh (w1.step s2) _ fun hi o G3 H3 hs w3 s3 => ?_
  obtain ⟨a, xs, rfl, h3, h4⟩ := dq_lst (Dq.up (s2.gg.trans s3.gg) r1)
  exact ⟨a, xs, rfl, .of (s3.gh _ _ h3), fun p hp => q p _ _ o G3 H3 (k ds hi o hs) w3 ((s1.trans s2.any).trans s3) hp (cut_reps h4)⟩
theorem cutD_whole {α : Type} {xs : List α} {lo hi : Option Int} (h : HT.sIx xs.length 0 lo = 0 ∧ HT.sIx xs.length xs.length hi = xs.length) : cutD xs lo hi = xs := by
  unfold cutD
  rw [h.1, h.2, List.drop_zero, Nat.sub_zero, List.take_length]
theorem ev_slT {ds : List PyData} {lo hi : Option Int} (h : Ev T te ρ (.py (.tuple ds))) (h1 : EvO T tl ρ lo) (h2 : EvO T th ρ hi) : Ev T (tSl (rSlA T.K) te tl th) ρ (.py (.tuple (cutD ds lo hi))) := fun as σ G H e g Q q => h as σ G H e g _ fun v G1 H1 s1 r1 => h1 as σ G1 H1 (e.up s1.gg) s1.gh _ fun G2 H2 s2 => h2 as σ G2 H2 ((e.up s1.gg).up s2.gg) s2.gh _ fun G3 H3 s3 => by
  have r3 := Dq.up (s2.gg.trans s3.gg) r1
  obtain ⟨a, xs, rfl, h3, h4⟩ := dq_tup r3
  have hl := dqA_len h4
  have st := (s1.trans s2).trans s3
  refine ⟨a, xs, rfl, seqT_up s3.gh h3, fun hw => ?_, fun _ p hp => ?_⟩
  · rw [hl] at hw
    refine q _ G3 H3 st ?_
    rw [cutD_whole hw]
    exact r3
  · exact q _ _ _ (st.new (o := .tup (cutV xs lo hi)) hp) (Dq.tup upd_same (DqA.up (same_new (st.gh.free hp)) (cut_reps h4)))
/-! ### fields, dicts -/
theorem fsR_look {K : PySem.W.Frag} {H : Hp} : ∀ {vs : List (Str × V)} {fs : List (Str × Fl)} {f : Str} {x : Fl}, FsR K H vs fs → fs.lookup f = some x → ∃ v, vs.lookup f = some v ∧ RepF K H x v
  | _, _, _, _, .nil, e => by cases e
  | (a, v) :: vs, (c, y) :: fs, f, x, .cons h t, e => by
    have h1 : a = c := h.1
    subst h1
    rw [List.lookup_cons] at e ⊢
    cases z : (f == a) with
    | true =>
      rw [z] at e
      cases Option.some.inj e
      exact ⟨v, rfl, h.2⟩
    | false =>
      rw [z] at e
      exact fsR_look t e
theorem ev_fld {fs : List (Str × Fl)} {f : Str} {x : Fl} (h : Ev T ta ρ (.ins fs)) (c : Cls T.K T.C) (n : NoAttr T.K T.C f) (l : fs.lookup f = some x) : Ev T (tFld T.K ta f) ρ (.fl x) := fun as σ G H e g Q q => h as σ G H e g _ fun v G2 H2 s r => by
  obtain ⟨a, dx, vs, rfl, h1, h2⟩ := r
  obtain ⟨u, e1, e2⟩ := fsR_look h2 l
  exact ⟨a, T.C, dx, vs, u, rfl, s.gh _ _ h1, c, n, e1, q u G2 H2 s e2⟩
def valP {κ α : Type} [DecidableEq κ] (kvs : List (κ × α)) (k : κ) : Option α := (kvs.find? fun kv => decide (kv.1 = k)).map (·.2)
theorem kvR_val {K : PySem.W.Frag} {H : Hp} {k : Key} : ∀ {vs : List (Key × V)} {ks : List (Key × PyData)}, KvR K H vs ks → (valP ks k = none → valV vs k = none) ∧ ∀ d, valP ks k = some d → ∃ v, valV vs k = some v ∧ Dq K H v d
  | _, _, .nil => ⟨fun _ => rfl, fun d e => by cases e⟩
  | (a, v) :: vs, (c, y) :: ks, .cons h t => by
    have h1 : a = c := h.1
    subst h1
    obtain ⟨i1, i2⟩ := kvR_val (k := k) t
    unfold valP valV at *
    rw [List.find?_cons, List.find?_cons]
    by_cases z : a = k
    · simp only [z, decide_true]
      refine ⟨fun e => (nomatch e), fun d e => ?_⟩
      have e2 : y = d := Option.some.inj e
      subst e2
      exact ⟨v, rfl, h.2⟩
    · simp only [z, decide_false]
      exact ⟨i1, i2⟩
def kD : Key → PyData
  | .inl i => .int i
  | .inr x => .str x
theorem kD_rep {K : PySem.W.Frag} {H : Hp} {v : V} {k : Key} (h : Dq K H v (kD k)) : v = kV k := by
  cases k with
  | inl i => exact dq_int h
  | inr x => exact dq_str h
theorem ev_dget {kvs : List (Key × PyData)} {k : Key} {d : PyData} (h1 : Ev T ta ρ (.dic kvs)) (h2 : Ev T tb ρ (.py (kD k))) (l : valP kvs k = some d) : Ev T (tDGet ta tb) ρ (.py d) := fun as σ G H e g Q q => h1 as σ G H e g _ fun v G1 H1 s1 r1 => h2 as σ G1 H1 (e.up s1.gg) s1.gh _ fun w G2 H2 s2 r2 => by
  obtain ⟨a, vs, rfl, h3, h4⟩ := (RepF.up (x := .dic kvs) s2.gg r1 : RepF T.K G2 (.dic kvs) v)
  obtain ⟨u, e1, e2⟩ := (kvR_val h4).2 d l
  refine ⟨a, u, rfl, ?_, q u G2 H2 (s1.trans s2) e2⟩
  rw [kD_rep r2, ← e1]
  exact DGet.k (s2.gh _ _ h3)
/-- d.get(k, x) -/
theorem ev_dget2 {kvs : List (Key × PyData)} {k : Key} {d : PyData} (h1 : Ev T ta ρ (.dic kvs)) (h2 : Ev T tb ρ (.py (kD k))) (h3 : Ev T tc ρ (.py d)) : Ev T (tDGet2 ta tb tc) ρ (.py ((valP kvs k).getD d)) := fun as σ G H e g Q q => h1 as σ G H e g _ fun v G1 H1 s1 r1 => by
  obtain ⟨a, vs, rfl, f1, f2⟩ := r1
  refine ⟨a, rfl, .inl ⟨vs, .inl (s1.gh _ _ f1)⟩, h2 as σ G1 H1 (e.up s1.gg) s1.gh _ fun w G2 H2 s2 r2 => h3 as σ G2 H2 ((e.up s1.gg).up s2.gg) s2.gh _ fun u G3 H3 s3 r3 => ?_⟩
  have f3 := KvR.up (s2.gg.trans s3.gg) f2
  refine ⟨valV vs k, ?_, ?_⟩
  · rw [kD_rep r2]
    exact DGet.k (s3.gh _ _ ((s2.gg.trans s3.gg) _ _ f1))
  · cases z : valP kvs k with
    | none =>
      rw [(kvR_val f3).1 z]
      refine q u G3 H3 ((s1.trans s2).trans s3) ?_
      rw [z]
      exact r3
    | some d' =>
      obtain ⟨v', e1, e2⟩ := (kvR_val f3).2 d' z
      rw [e1]
      refine q v' G3 H3 ((s1.trans s2).trans s3) ?_
      rw [z]
      exact e2
/-- a comparison of three -/
theorem ev_chain {a c : Bool} (h1 : Ev T ta ρ x) (h2 : Ev T tb ρ y) (h3 : Ev T tc ρ z) (k1 : EvR T r x y (.py (.bool a))) (k2 : a = true → EvR T r' y z (.py (.bool c))) : Ev T (tChain r r' ta tb tc) ρ (.py (.bool (a && c))) := fun as σ G H e g Q q => h1 as σ G H e g _ fun v G1 H1 s1 r1 => h2 as σ G1 H1 (e.up s1.gg) s1.gh _ fun w G2 H2 s2 r2 => k1 as G2 H2 v w (r1.up s2.gg) r2 s2.gh _ fun u G3 H3 s3 r3 => ⟨a, dq_bl r3, by
  have st := (s1.trans s2).trans s3
  cases a with
  | true =>
    rw [if_pos rfl]
    exact h3 as σ G3 H3 (e.up st.gg) s3.gh _ fun w3 G4 H4 s4 r4 => k2 rfl as G4 H4 w w3 ((r2.up s3.gg).up s4.gg) r4 s4.gh Q fun u G5 H5 s5 r5 => q u G5 H5 ((st.trans s4).trans s5) r5
  | false =>
    rw [if_neg Bool.false_ne_true]
    exact q _ G3 H3 st (.bl false)⟩
theorem ev_un {g : Int → V} {i : Int} (h : Ev T ta ρ (.py (.int i))) (k : ∀ as G, Rep T as G z (g i)) : Ev T (tUn (rU g) ta) ρ z := fun as σ G H e g Q q => h as σ G H e g _ fun v G2 H2 s r => ⟨i, dq_int r, q _ G2 H2 s (k as G2)⟩
theorem ev_neg {i : Int} (h : Ev T ta ρ (.py (.int i))) : Ev T (tUn (rU fun i => .int (-i)) ta) ρ (.py (.int (-i))) := ev_un h fun _ _ => .int _
theorem et_truth {i : Int} {c : Bool} (h : Ev T te ρ (.py (.int i))) (k : (i != 0) = c) : EvT T (tTruth T.K te) ρ c := et_tru h k
end
end Rt
/-! rules with the written part named -/
namespace Rt
open PySem PySem.Spec PyProof.Rows L2
section
variable {X : Cx} {K : PySem.W.Frag} {e a b : Expr} {es rest : List Expr} {ta tb te to : TE} {t : TA} {f : Str} {pos apos cpos p : Pos}
theorem kfld (K : PySem.W.Frag) (he : PE X e ta) (hb : attributeBase e f X.env (eval e X.env) = eval e X.env) (hK : X.K = K := by rfl) : PE X (.Attribute e f pos) (tFld K ta f) := by
  subst hK
  exact pe_fld he hb
theorem kandT (K : PySem.W.Frag) (ha : PE X a ta) (hb : PE X (.BoolOp .And (b :: rest) pos) tb) (hK : X.K = K := by rfl) : PE X (.BoolOp .And (a :: b :: rest) pos) (tAndT K ta tb) := by
  subst hK
  exact pe_andT ha hb
theorem kbm (K : PySem.W.Frag) {id : String} {ty : String} {name : Str} {r : V → List V → Hp → VK → Prop} (pa : PlainAttrs ty) (slot : Slot ty name id) (hty : typeOf (.builtin id) = pure (.type "method_descriptor")) (hm : MtR X id r) (ho : PE X a to) (ha : PA X (e :: es) t)
    (hbase : attributeBase a name X.env (eval a X.env) = eval a X.env := by rfl)
    (hfew : ((backTo cpos (starEach (e :: es) X.env)).all (fun x => !x.1) && (backToKw cpos (keywordEach [] X.env)).all (fun x => x.1.isSome)
      && decide ((e :: es).length + ([] : List Keyword).length + (if ([] : List Keyword).isEmpty then 0 else 1) < 30)) = true := by rfl)
    (hline : (apos.endLine == cpos.line) = true := by rfl) (hs : starEach (e :: es) X.env = (false, eval e X.env) :: starEach es X.env := by rfl) (hplain : (backTo cpos (starEach es X.env)).any (·.1) = false := by rfl)
    (hK : X.K = K := by rfl) : PE X (.Call (.Attribute a name apos) (e :: es) [] cpos) (tBM K ty r to t) := by
  subst hK
  exact pe_bm pa slot hty hm ho ha hbase hfew hline hs hplain
theorem kz_truth (K : PySem.W.Frag) (ha : PE X a ta) (he : ∀ whole, isTrue a X.env whole = (do let v ← whole; standAt a.pos; holding [v] (truthy v))) (hK : X.K = K := by rfl) : PT X a (tTruth K ta) := by
  subst hK
  exact pt_truth ha he
theorem ki_list {tg : Expr} (K : PySem.W.Frag) (h : PE X a ta) (hK : X.K = K := by rfl) : PI X tg a (iList K ta) := by
  subst hK
  exact pi_list h
theorem ki_tup {tg : Expr} (K : PySem.W.Frag) (h : PE X a ta) (hK : X.K = K := by rfl) : PI X tg a (iTup K ta) := by
  subst hK
  exact pi_tup h
theorem ki_zip {tpos : Pos} {elts : List Expr} {kk : Nat} (K : PySem.W.Frag) (hg : Gl X "zip") (hm : X.mg "zip" = none) (ha : PA X [a, b] t)
    (hs : starEach [a, b] X.env = (false, eval a X.env) :: starEach [b] X.env := by rfl) (hpl : (backTo pos (starEach [b] X.env)).any (·.1) = false := by rfl) (hK : X.K = K := by rfl) :
    PI X (.Tuple elts kk tpos) (.Call (.Name "zip" p) [a, b] [] pos) (iZip K t) := by
  subst hK
  exact pi_zip hg hm ha hs hpl
theorem kg_tup {k : Nat} {u : TGs} {n : Nat} (K : PySem.W.Frag) (hc : X.calm = true) (h : PGs X es u) (hn : (assignEach es X.env).length = n := by rfl) (hst : (assignEach es X.env).findIdx? (·.1) = none := by rfl) (hK : X.K = K := by rfl) : PG X (.Tuple es k pos) (gTup K n u) := by
  subst hK
  exact pg_tup hc h hn hst
theorem kg_unl {k : Nat} {u : TGs} {n : Nat} (K : PySem.W.Frag) (hc : X.calm = true) (h : PGs X es u) (hn : (assignEach es X.env).length = n := by rfl) (hst : (assignEach es X.env).findIdx? (·.1) = none := by rfl) (hK : X.K = K := by rfl) : PG X (.Tuple es k pos) (gUnl K n u) := by
  subst hK
  exact pg_unl hc h hn hst
theorem ka_star (K : PySem.W.Frag) (he : PE X e te) (hr : PA X es t) (hs : starEach (.Starred e p :: es) X.env = (true, eval e X.env) :: starEach es X.env := by rfl) (hK : X.K = K := by rfl) : PA X (.Starred e p :: es) (StX.tStar K te t) := by
  subst hK
  exact StX.pa_star he hr hs
theorem ip_andZ : PIp X .BitAnd (ipI fun i j => Builtin.bitAnd i j) := by
  intro pins s σ H x y v u Q I r1 r2 h
  obtain ⟨i, j, e1, e2, q⟩ := h
  subst e1 e2
  obtain ⟨t1, rfl⟩ := r1
  obtain ⟨t2, rfl⟩ := r2
  exact iand_int ⟨.int _, H, I.tok _, ⟨_, rfl⟩, q⟩
end
end Rt
namespace Rt
open PySem PySem.Spec PyProof.Rows L2
/-! ### dict(pairs) -/
def rDictP (K : PySem.W.Frag) : List V → Hp → VK → Prop := fun xs H Q => ∃ (a : Addr) (ps : List Addr) (kvs : List (Key × V)), xs = [.ref a] ∧ SqL K H a (ps.map V.ref) ∧ Paired (fun p kv => SqT K H p [kV kv.1, kv.2]) ps kvs ∧ ∀ p, H p = none → Q (.ref p) (upd H p (.dK (mergeK [] kvs)))
theorem cz_dictP {X : Cx} (hc : X.calm = true) : CallR X (.type "dict") (rDictP X.K) := call_dictP hc
theorem mergeK_self : ∀ (kvs acc : List (Key × V)), ((acc ++ kvs).map (·.1)).Nodup → mergeK acc kvs = acc ++ kvs
  | [], acc, _ => by
    show acc = acc ++ []
    rw [List.append_nil]
  | p :: r, acc, h => by
    have h1 : valV acc p.1 = none := by
      cases e : valV acc p.1 with
      | none => rfl
      | some v =>
        have hm := valV_in e
        rw [List.map_append, List.map_cons] at h
        exact absurd rfl ((List.nodup_append.mp h).2.2 p.1 hm p.1 List.mem_cons_self)
    have h2 : putK acc p.1 p.2 = acc ++ [p] := putK_new _ h1
    show mergeK (putK acc p.1 p.2) r = acc ++ p :: r
    rw [h2, mergeK_self r (acc ++ [p]) (by rw [List.append_assoc]; exact h), List.append_assoc]
    rfl
def pairD (q : Key × PyData) : PyData := .tuple [kD q.1, q.2]
theorem pairs_reps {K : PySem.W.Frag} {H : Hp} : ∀ {kvs : List (Key × PyData)} {vs : List V}, DqA K H vs (kvs.map pairD) → ∃ (ps : List Addr) (ks : List (Key × V)), vs = ps.map V.ref ∧ KvR K H ks kvs ∧ Paired (fun p (kv : Key × V) => SqT K H p [kV kv.1, kv.2]) ps ks
  | [], _, .nil => ⟨[], [], rfl, .nil, .nil⟩
  | q :: r, _, .cons h t => by
    obtain ⟨ps, ks, e, r1, r2⟩ := pairs_reps t
    obtain ⟨a, xs, rfl, h1, h2⟩ := dq_tup (show Dq K H _ (.tuple [kD q.1, q.2]) from h)
    cases h2 with
    | cons g1 h2 =>
      cases h2 with
      | cons g2 h2 =>
        cases h2
        rename_i v1 v2
        rw [kD_rep g1] at h1
        exact ⟨a :: ps, (q.1, v2) :: ks, by rw [e]; rfl, .cons ⟨rfl, g2⟩ r1, .cons h1 r2⟩
theorem kvR_keys {K : PySem.W.Frag} {H : Hp} : ∀ {ks : List (Key × V)} {kvs : List (Key × PyData)}, KvR K H ks kvs → ks.map (·.1) = kvs.map (·.1)
  | _, _, .nil => rfl
  | _, _, .cons h t => by
    rw [List.map_cons, List.map_cons, kvR_keys t, h.1]
theorem ec_dictP {T : Tx} {kvs : List (Key × PyData)} (nd : (kvs.map (·.1)).Nodup) : EvC T (rDictP T.K) [.py (.list (kvs.map pairD))] (.dic kvs) := fun as G H vs r s Q q => by
  cases r with
  | cons r1 r2 =>
    cases r2
    obtain ⟨a, xs, rfl, h1, h2⟩ := dq_lst r1
    obtain ⟨ps, ks, rfl, g1, g2⟩ := pairs_reps h2
    refine ⟨a, ps, ks, rfl, .of (s _ _ h1), paired_up (fun _ _ z => seqT_up s z) g2, fun p hp => ?_⟩
    have e : mergeK [] ks = ks := by
      have := mergeK_self ks [] (by rw [List.nil_append, kvR_keys g1]; exact nd)
      rw [List.nil_append] at this
      exact this
    rw [e]
    exact q _ _ _ ((Stp.refl s).new (o := .dK ks) hp) ⟨p, ks, rfl, upd_same, KvR.up (same_new (s.free hp)) g1⟩
/-! ### data that == takes -/
theorem shaped_of {ds : List PyData} (h : ∀ d ∈ ds, d.canLay0 = true ∧ d.depth ≤ 10) : SeqAt.shaped (.list ds) = true ∧ SeqAt.shaped (.tuple ds) = true := by
  have h1 : PyData.canLayAll0 ds = true := by
    induction ds with
    | nil => rfl
    | cons a l ih =>
      show (a.canLay0 && PyData.canLayAll0 l) = true
      rw [(h a List.mem_cons_self).1, ih fun d hd => h d (List.mem_cons_of_mem _ hd)]
      rfl
  have h2 : PyData.depthAll ds ≤ 10 := by
    induction ds with
    | nil => exact Nat.zero_le _
    | cons a l ih =>
      show max a.depth (PyData.depthAll l) ≤ 10
      have i1 := ih (fun d hd => h d (List.mem_cons_of_mem _ hd)) (by
        have := h1
        rw [show PyData.canLayAll0 (a :: l) = (a.canLay0 && PyData.canLayAll0 l) from rfl, Bool.and_eq_true] at this
        exact this.2)
      exact Nat.max_le.mpr ⟨(h a List.mem_cons_self).2, i1⟩
  constructor
  · show (PyData.canLayAll0 ds && decide (PyData.depthAll ds + 1 ≤ 64)) = true
    rw [h1, decide_eq_true (by omega)]
    rfl
  · show (PyData.canLayAll0 ds && decide (PyData.depthAll ds + 1 ≤ 64)) = true
    rw [h1, decide_eq_true (by omega)]
    rfl
theorem shaped_nil : SeqAt.shaped (.list []) = true := (shaped_of (ds := []) (by intro d h; cases h)).1
theorem eqv_nil (ds : List PyData) : PyData.eqv (.list ds) (.list []) = ds.isEmpty := by
  cases ds with
  | nil => rfl
  | cons a l => rfl
theorem eqvT_nil (ds : List PyData) : PyData.eqv (.tuple ds) (.tuple []) = ds.isEmpty := by
  cases ds with
  | nil => rfl
  | cons a l => rfl
theorem eqvAll_strs : ∀ (xs ys : List Str), PyData.eqvAll (xs.map .str) (ys.map .str) = decide (xs = ys)
  | [], [] => rfl
  | [], y :: ys => rfl
  | x :: xs, [] => rfl
  | x :: xs, y :: ys => by
    show ((x == y) && PyData.eqvAll (xs.map .str) (ys.map .str)) = decide (x :: xs = y :: ys)
    rw [eqvAll_strs xs ys]
    by_cases h : x = y
    · subst h
      by_cases h2 : xs = ys
      · subst h2
        simp
      · simp [h2]
    · simp [h]
end Rt
namespace Rt
open PySem PySem.Spec PyProof.Rows L2
section
variable {T : Tx} {te ta tb : TE} {tt tu : TT} {ρ ρ' : En} {ω : List Ow} {d e x y z : Dd} {r : R2} {S : Dd → List Ow → Prop} {b : Nat} {N N1 : En → List Ow → Prop} {R : Dd → List Ow → Prop} {t1 t2 ts : TS} {tas : TA} {wi : TI} {g : TG} {vs : List Nat}
theorem et_yes : EvT T tYes ρ true := fun as σ G H e g Q q => q G H (.refl g)
theorem en_lc0 {α : Type} {xs : List α} {enc : α → PyData} (out : α → PyData) (hi : EvI T wi ρ (xs.map enc)) (hz : xs.length ≤ 100000)
    (hs : ∀ x, x ∈ xs → ∃ ρ', EvG T g (.py (enc x)) (wipeD ρ vs) ρ' vs ∧ Ev T te ρ' (.py (out x))) : EvN T (tLc wi g tYes te vs) ρ (xs.map out) := by
  have h := en_lc (T := T) (te := te) (tt := tYes) (g := g) (vs := vs) (fun _ => true) out hi hz fun x hx => let ⟨ρ', h1, h2⟩ := hs x hx; ⟨ρ', h1, et_yes, fun _ => h2⟩
  rw [List.filter_eq_self.mpr (fun _ _ => rfl)] at h
  exact h
theorem go_par {i j : Nat} (h : EvA T tas ρ [d, e]) (k : N ((ρ.set i (some d)).set j (some e)) ω) : Go T (tPar i j tas) ρ b ω N R := fun as σ G H en g w D q _ => h as σ G H en g _ fun vs G2 H2 s r => by
  cases r with
  | cons r1 r2 =>
    cases r2 with
    | cons r2 r3 =>
      cases r3
      exact ⟨_, _, rfl, q as _ ω _ G2 H2 k (((en.up s.gg).set i r1).set j r2) (w.step s) rfl s.any⟩
theorem go_parp {i j : Nat} (h : EvA T tas ρ [d, e]) (k : Go T t2 ((ρ.set i (some d)).set j (some e)) b ω N R) : Go T (tSeq (tPar i j tas) t2) ρ b ω N R :=
  go_seq (N1 := fun ρ' o => ρ' = (ρ.set i (some d)).set j (some e) ∧ o = ω) (go_par h ⟨rfl, rfl⟩) fun ρ' o ⟨e1, e2⟩ => by
    subst e1 e2
    exact k
theorem go_asgp {i : Nat} (h : Ev T te ρ d) (k : N (ρ.set i (some d)) ω) : Go T (tAsg te (gName i)) ρ b ω N R := go_asg (S := fun d' o => d' = d ∧ o = ω) (h.w ⟨rfl, rfl⟩) fun d' o ⟨e1, e2⟩ => by
  subst e1 e2
  exact k
theorem go_aug {i : Nat} {f : Int → Int → Int} {a c : Int} (hx : ρ[i]? = some (some (.py (.int a)))) (h : Ev T te ρ (.py (.int c))) (k : N (ρ.set i (some (.py (.int (f a c))))) ω) : Go T (tAug i te (ipI f)) ρ b ω N R := fun as σ G H en g w D q _ => by
  obtain ⟨v, e1, e2⟩ := en.at_ i _ hx
  refine ⟨v, e1, h as σ G H en g _ fun u G2 H2 s r => ⟨a, c, dq_int e2, dq_int r, q as _ ω _ G2 H2 k ((en.up s.gg).set i (d := .py (.int (f a c))) (.int _)) (w.step s) rfl s.any⟩⟩
theorem go_augp {i : Nat} {f : Int → Int → Int} {a c : Int} (hx : ρ[i]? = some (some (.py (.int a)))) (h : Ev T te ρ (.py (.int c))) (k : Go T t2 (ρ.set i (some (.py (.int (f a c))))) b ω N R) : Go T (tSeq (tAug i te (ipI f)) t2) ρ b ω N R :=
  go_seq (N1 := fun ρ' o => ρ' = ρ.set i (some (.py (.int (f a c)))) ∧ o = ω) (go_aug hx h ⟨rfl, rfl⟩) fun ρ' o ⟨e1, e2⟩ => by
    subst e1 e2
    exact k
theorem go_forp {α : Type} (xs : List α) (enc : α → PyData) (Inv : Nat → En → Prop) (hi : EvI T wi ρ (xs.map enc)) (h0 : Inv 0 ρ)
    (hs : ∀ i x ρ1, xs[i]? = some x → Inv i ρ1 → ∃ ρ2, EvG T g (.py (enc x)) ρ1 ρ2 vs ∧ Go T ts ρ2 b ω (fun ρ' o => o = ω ∧ Inv (i + 1) ρ') R) (hd : ∀ ρ1, Inv xs.length ρ1 → N ρ1 ω) : Go T (tFor wi g ts) ρ b ω N R :=
  go_for (S0 := fun ds o => ds = xs.map enc ∧ o = ω) (vs := vs) (fun ds i ρ1 o => ds = xs.map enc ∧ o = ω ∧ Inv i ρ1) (hi.w ⟨rfl, rfl⟩) (fun ds o ⟨e1, e2⟩ => ⟨e1, e2, h0⟩)
    (fun ds i d ρ1 o hdi ⟨e1, e2, hI⟩ => by
      subst e1 e2
      rw [List.getElem?_map] at hdi
      cases hx : xs[i]? with
      | none =>
        rw [hx] at hdi
        cases hdi
      | some x =>
        rw [hx] at hdi
        cases Option.some.inj hdi
        obtain ⟨ρ2, h1, h2⟩ := hs i x ρ1 hx hI
        exact ⟨ρ2, h1, go_is h2 (fun ρ' o' ⟨e1, e2⟩ => ⟨rfl, e1, e2⟩) fun _ _ h => h⟩)
    (fun ds ρ1 o ⟨e1, e2, hI⟩ => by
      subst e1 e2
      rw [List.length_map] at hI
      exact hd ρ1 hI)
theorem go_whilep (Inv : Nat → En → Prop) (m0 : Nat) (h0 : Inv m0 ρ)
    (hs : ∀ m ρ1, Inv m ρ1 → ∃ c, EvT T tt ρ1 c ∧ (c = true → Go T ts ρ1 b ω (fun ρ2 o => o = ω ∧ ∃ m', m' < m ∧ Inv m' ρ2) R) ∧ (c = false → N ρ1 ω)) : Go T (tWhile tt ts) ρ b ω N R :=
  go_while (fun m ρ1 o => o = ω ∧ Inv m ρ1) m0 ⟨rfl, h0⟩ fun m ρ1 o ⟨e1, hI⟩ => by
    subst e1
    obtain ⟨c, ht, h1, h2⟩ := hs m ρ1 hI
    refine ht.w ?_
    cases c with
    | true =>
      rw [if_pos rfl]
      exact go_is (h1 rfl) (fun ρ2 o ⟨e1, m', hm, hi⟩ => ⟨m', hm, e1, hi⟩) fun _ _ h => h
    | false =>
      rw [if_neg Bool.false_ne_true]
      exact h2 rfl
/-- xs.index(y) -/
theorem ev_index {xs : List Str} {y : Str} (h1 : Ev T ta ρ (.py (.list (xs.map .str)))) (h2 : Ev T tb ρ (.py (.str y))) (hm : y ∈ xs) : Ev T (tBM T.K "list" (rIndex T.K) ta (tCons tb tNil)) ρ (.py (.int (xs.idxOf y : Nat))) := fun as σ G H en g Q q => h1 as σ G H en g _ fun v G1 H1 s1 r1 => by
  obtain ⟨a, ys, rfl, f1, f2⟩ := dq_lst r1
  rw [dqA_strs f2] at f1
  refine ⟨.inl ⟨rfl, _, .of (s1.gh _ _ f1)⟩, h2 as σ G1 H1 (en.up s1.gg) s1.gh _ fun w G2 H2 s2 r2 => ?_⟩
  have hi : xs.idxOf y < xs.length := List.idxOf_lt_length_iff.mpr hm
  have he : xs[xs.idxOf y] = y := List.getElem_idxOf hi
  refine ⟨a, xs.map V.str, .str y, xs.idxOf y, .str y, rfl, by rw [dq_str r2], .of (s2.gh _ _ (s2.gg _ _ f1)), rfl, flat_strs xs, ?_, ?_, fun m z' hlt hz => ?_, q _ G2 H2 (s1.trans s2) (.int _)⟩
  · rw [List.getElem?_map, List.getElem?_eq_getElem hi, he]
    rfl
  · show (y == y) = true
    exact beq_self_eq_true y
  · rw [List.getElem?_map, List.getElem?_eq_getElem (Nat.lt_trans hlt hi)] at hz
    cases Option.some.inj hz
    show (xs[m] == y) = false
    refine beq_false_of_ne fun z => ?_
    have := List.not_of_lt_findIdx (xs := xs) (p := fun w => w == y) (i := m) (show m < xs.findIdx (fun w => w == y) from hlt)
    rw [z] at this
    simp at this
end
end Rt
/-! {k: v for ..} where the keys are tuples; readings by either of two -/
namespace Rt
open PySem PySem.Spec PyProof.Rows L2
section
variable {X : Cx}
theorem ps_either {body : List Stmt} {t u : TS} (h1 : PSs X body t) (h2 : PSs X body u) : PSs X body (fun D σ H => t D σ H ∨ u D σ H) :=
  ⟨fun pins s σ H D I h => h.elim (h1.run pins s σ H D I) (h2.run pins s σ H D I)⟩
theorem pe_either {e : Expr} {t u : TE} (h1 : PE X e t) (h2 : PE X e u) : PE X e (fun σ H Q => t σ H Q ∨ u σ H Q) :=
  ⟨fun pins s σ H Q I h => h.elim (h1.run pins s σ H Q I) (h2.run pins s σ H Q I)⟩
/-- a pair put at a key that is a tuple -/
theorem put_tup {pins : List (Addr × Obj)} {σ : L2.St} {H : Hp} {s : Shared} {E : Value → Shared → Prop} {p q : Addr} {m : List (List Key × V)} {k : List Key} {x : V} {r : Value} {Q : Unit → Shared → Prop}
    (room : X.A.units + 1 < cLine) (I : Inv X pins σ H s) (here : H p = some (.dT m)) (fits : m.length < sizeLine) (key : H q = some (.tup (k.map kV))) (rel : RelV x r)
    (go : ∀ s', Inv X pins σ (upd H p (.dT (putK m k x))) s' → Q () s') : wpAny (model X.prog X.w) X.A (dictSet p (.ref q) r) Q E s := by
  have ⟨small, other, es, prs, dd⟩ := dt_of I.hok here
  have small2 : (putK m k x).length ≤ sizeLine := Nat.le_trans (length_putK m k x) fits
  have ksz : es.length ≤ sizeLine := (Paired.length prs) ▸ small
  apply wpAny_dictSet_heap (hsz := ksz) (hu := (show X.A.units < cLine from Nat.lt_of_succ_lt room)) (hkey := key_of I.hok key) (hm := dd)
  intro h2 dd2 sb
  apply go
  obtain ⟨ob, es2, ep2, g1, g2, g3, g4, _, g6⟩ := dd2
  have mu : Mut (H p) := by
    rw [here]
    trivial
  refine d_write I mu sb ⟨ob, g1⟩ ⟨small2, other, _, (prs.put k key rel).keeps (fun c ys hc => ?_), ob, es2, ep2, g1, g2, g3, g4, g6⟩
  have ne : c ≠ p := ne_of hc here (fun z => nomatch z)
  rw [upd_ne ne]
  exact hc
/-- what is asked: p the new dict -/
def tDcT (wi : TI) (g : TG) (tt : TT) (tk tv : TE) (own : List Nat) : TE := fun σ H Q => wi σ H fun J H1 => ∀ p, H1 p = none → ∃ W : Nat → Nat → Hp → Prop, (∃ m, W 0 m (upd H1 p (.dT []))) ∧ ∀ i m H, W i m H →
  (J.stop i H ∧ Q (.ref p) H) ∨ (J.go i H ∧ ∃ Nx : Hp → Prop, (∀ H', Nx H' → ∃ m', m' < m ∧ W (i + 1) m' H') ∧ ∀ x H', J.yld i H x H' → g x (wipe σ own) H' fun σ2 H2 => wipe σ2 own = wipe σ own ∧ tt σ2 H2 fun c H3 =>
    if c = true then tk σ2 H3 fun y H4 => tv σ2 H4 fun z H5 => ∃ (acc : List (List Key × V)) (q : Addr) (k : List Key), y = .ref q ∧ H5 q = some (.tup (k.map kV)) ∧ H5 p = some (.dT acc) ∧ acc.length < sizeLine ∧ Nx (upd H5 p (.dT (putK acc k z))) else Nx H3)
theorem pe_dcT {kx vx tg iter : Expr} {ifs : List Expr} {scope : Scope} {own : List (Str × Nat)} {pos : Pos} {wi : TI} {g : TG} {tt : TT} {tk tv : TE} (room : X.A.units + 1 < cLine) (hc : X.calm = true) (nd : X.N.Nodup) (hi : PI X tg iter wi) (ok : BlkOk X.N X.env.scope scope own)
    (hg : ∀ (s : Shared) (H : Hp) (C : Addr) (cl : List (Str × Addr)) (fp : List Addr), PG (X.blk s H scope (compEnvC scope cl C X.env) fp) tg g)
    (ht : ∀ (s : Shared) (H : Hp) (C : Addr) (cl : List (Str × Addr)) (fp : List Addr), PTs (X.blk s H scope (compEnvC scope cl C X.env) fp) ifs tt)
    (hk : ∀ (s : Shared) (H : Hp) (C : Addr) (cl : List (Str × Addr)) (fp : List Addr), PE (X.blk s H scope (compEnvC scope cl C X.env) fp) kx tk)
    (hv : ∀ (s : Shared) (H : Hp) (C : Addr) (cl : List (Str × Addr)) (fp : List Addr), PE (X.blk s H scope (compEnvC scope cl C X.env) fp) vx tv)
    (fold : ∀ x, foldedSetIterable iter X.env x = pure x := by intro _; rfl) : PE X (.DictComp kx vx [⟨tg, iter, ifs, 0⟩] scope pos) (tDcT wi g tt tk tv (own.map (·.2))) := by
  constructor
  intro pins s σ H Q I want
  rw [arm_eval_DictComp]
  have frees : ∀ y ∈ scope.names, y.2 = .free → ∃ c, X.env.cells.lookup y.1 = some c := by
    intro y hy e
    cases ok.free y hy e with
    | inl k => exact I.ok.has _ (.inl k)
    | inr k => exact I.ok.has _ (.inr k)
  apply wpAny_comprehension_free rfl fold (closure_ok frees) ok.kind (fun y hy e => (ok.uniq y hy).trans (congrArg some e))
  refine thn (hi.run pins s σ H _ I want) fun v1 sA hA => thn hA fun v2 sB ⟨it, fp, tn, J, HB, e0, IB, TN, tB, fB, rest⟩ => ?_
  cases e0
  refine wpAny_newObj_type ?_
  refine newEnv_comp ?_
  obtain ⟨p, hp⟩ : ∃ p, p = sB.heap.objs.size := ⟨_, rfl⟩
  rw [← hp]
  have freeP : HB p = none := IB.hok.fresh (Nat.le_of_eq hp.symm)
  obtain ⟨W, ⟨m0, w0⟩, turn⟩ := rest p freeP
  -- the dict is laid
  obtain ⟨sC, hC⟩ : ∃ sC : Shared, sC = { sB with heap := sB.heap.push { cls := .type "dict", data := .dict #[] } } := ⟨_, rfl⟩
  have heapC : sC.heap = sB.heap.push { cls := .type "dict", data := .dict #[] } := by rw [hC]
  have IC : Inv X pins σ (upd HB p (.dT [])) sC := by
    rw [hC, hp]
    exact IB.laid (t' := sB.toks) (fun c o e => Heap.get?_push_of_some _ e) (Nat.le_refl _) (dt_empty sB.heap IB.big)
  have below : ∀ c ∈ fp, c < sB.heap.objs.size := fun c hc => (TN.obj _ _ tB c hc).elim fun o z => Heap.lt_size z.1
  have fC : ∀ c ∈ fp, FpOk X pins (upd HB p (.dT [])) c ∧ c < sC.heap.objs.size := by
    intro c hc
    have l := below c hc
    have ne : c ≠ p := by
      rw [hp]
      exact Nat.ne_of_lt l
    refine ⟨⟨(upd_ne ne).trans (fB c hc).1, (fB c hc).2⟩, ?_⟩
    rw [heapC, Heap.size_push]
    exact Nat.lt_succ_of_lt l
  have tC : tn 0 sC.heap := TN.keep _ _ _ tB fun c _ o e => heapC ▸ Heap.get?_push_of_some _ e
  have ID := block_start IC ok nd fC
  obtain ⟨L, hL⟩ : ∃ L, L = sC.heap.objs.size := ⟨_, rfl⟩
  obtain ⟨cl, hcl⟩ : ∃ cl, cl = cellsFrom (sC.heap.objs.size + 1) scope.names (cloFrom X.env.cells scope.names []) := ⟨_, rfl⟩
  obtain ⟨HC, hHC⟩ : ∃ HC, HC = upd HB p (.dT []) := ⟨_, rfl⟩
  rw [← hcl, ← hL, ← hHC] at ID
  rw [← hHC] at IC fC w0
  have qg := hg sC HC L cl fp
  have qt := ht sC HC L cl fp
  have qk := hk sC HC L cl fp
  have qv := hv sC HC L cl fp
  obtain ⟨env, henv⟩ : ∃ env, env = compEnvC scope cl L X.env := ⟨_, rfl⟩
  rw [← henv] at ID qg qt qk qv
  obtain ⟨sD, hD⟩ : ∃ sD : Shared, sD = { sC with heap := pushCells (sC.heap.push { cls := .type "dict", data := .dict #[] }) scope.names } := ⟨_, rfl⟩
  rw [← hD] at ID
  have tD : tn 0 sD.heap := TN.keep _ _ _ tC fun c _ o e => hD ▸ pushCells_keeps _ _ _ _ (Heap.get?_push_of_some _ e)
  have calmE : env.locals = L := by
    rw [henv]
    rfl
  have own0 : ∀ c ∈ fp, HC c = none := fun c hc => (fC c hc).1.1
  have fpAt : ∀ {σ' : L2.St} {H' : Hp} {s' : Shared}, Inv (X.blk sC HC scope env fp) [] σ' H' s' → (∀ c ∈ fp, H' c = none) → ∀ c ∈ fp, FpOk (X.blk sC HC scope env fp) [] H' c := by
    intro σ' H' s' I' hn c hc
    exact ⟨hn c hc, (I'.ok.exf c hc).1, I'.ok.exfs c hc, .inl hc, fun x u e => (I'.ok.exf c hc).2 x u e, fun z hz => by cases hz⟩
  have body : codeAny (model X.prog X.w) X.A (.compLoop (.DictComp kx vx [⟨tg, iter, ifs, 0⟩] scope pos) 0 (.ref it) (.ref p) env) (compPost (model X.prog X.w) X.A X.xe none (EP X pins σ Q) (.ref p) L) sD := by
    apply compLoop_anyD (I := fun n s' => ∃ i H', Inv (X.blk sC HC scope env fp) [] (wipe σ (own.map (·.2))) H' s' ∧ tn i s'.heap ∧ (∀ c ∈ fp, H' c = none) ∧ W i n H') (n := m0) (h := ⟨0, HC, ID, tD, own0, w0⟩)
    intro n s5 ⟨i, H5, I5, t5, n5, w5⟩
    cases turn i n H5 w5 with
    | inl fin =>
      obtain ⟨stop, out⟩ := fin
      refine thnF (TN.done (X.blk sC HC scope env fp) rfl rfl rfl hc i [] s5 _ H5 (fun _ _ => False) I5 (fpAt I5 n5) t5 stop) fun r s6 ⟨hr, I6⟩ => ?_
      cases hr
      have I7 : Inv X pins σ H5 s6 := IC.call' (ch := fp) I6.os I6.base I6.hok I6.bare fun c hc => ⟨(fC c hc).1.2.2.2.1, (fC c hc).1.2.1, (fC c hc).1.2.2.2.2.1, (fC c hc).1.2.2.2.2.2⟩
      have noL : H5 L = none := calmE ▸ (I6.free : H5 env.locals = none)
      obtain ⟨mm, nsE, _⟩ := I6.loc
      have nsL : s6.heap.Ns L mm := calmE ▸ (nsE : s6.heap.Ns env.locals mm)
      obtain ⟨f0, f1, f2, f3, f4, f5⟩ := IC.fpOk (b := L) (H' := H5) (Nat.le_of_eq hL.symm) noL
      exact ⟨mm, nsL, fun h2 sb => ⟨.ref p, H5, I7.turned (t' := s6.toks) (fun c o hb e => (sb.2 c hb).trans e) f0 f1 f3 f4 f5, rfl, out⟩⟩
    | inr more =>
      obtain ⟨go, Nx, hNx, step⟩ := more
      refine thnF (TN.item (X.blk sC HC scope env fp) rfl rfl rfl hc i [] s5 _ H5 (fun _ _ => False) I5 (fpAt I5 n5) t5 go) fun r s6 ⟨u, hr, h6⟩ => ?_
      cases hr
      refine thnF h6 fun _ s7 ⟨x, H7, I7, r7, y7, t7, n7⟩ => ?_
      refine thnF (qg.run _ s7 _ H7 x u _ (I7.pinned (fpAt I7 n7) (TN.obj _ _ t7)) r7 (step x H7 y7)) fun _ s8 ⟨σ8, H8, I8, wip, q8⟩ => ?_
      refine thnF (qt.run _ s8 σ8 H8 _ I8 q8) fun c s9 ⟨H9, I9, q9⟩ => ?_
      have close : ∀ {s' : Shared} {H' : Hp}, Inv (X.blk sC HC scope env fp) ([] ++ pinsAt fp s7.heap) σ8 H' s' → Nx H' → ∃ m, m < n ∧ ∃ i H', Inv (X.blk sC HC scope env fp) [] (wipe σ (own.map (·.2))) H' s' ∧ tn i s'.heap ∧ (∀ c ∈ fp, H' c = none) ∧ W i m H' := by
        intro s' H' I' nx
        obtain ⟨m', less, w'⟩ := hNx H' nx
        have held : ∀ c ∈ fp, ∀ o, s7.heap.get? c = some o → s'.heap.get? c = some o ∧ H' c = none := by
          intro c hc o e
          have z := I'.pin (c, o) (List.mem_append_right _ (List.mem_append_right _ (mem_pinsAt hc e)))
          exact ⟨z.1, z.2.1⟩
        refine ⟨m', less, i + 1, H', (I'.unpinned (pins := [])).weak (by rw [← wip, wipe_length]) (fun j v e => ?_), TN.keep _ _ _ t7 fun c hc o e => (held c hc o e).1, fun c hc => ?_, w'⟩
        · rw [← wip] at e
          exact (wipe_some e).1
        · obtain ⟨o, e, _⟩ := TN.obj _ _ t7 c hc
          exact (held c hc o e).2
      cases c with
      | false =>
        rw [if_neg Bool.false_ne_true] at q9 ⊢
        exact close I9 q9
      | true =>
        rw [if_pos rfl] at q9 ⊢
        refine thnF (qk.run _ s9 σ8 H9 _ I9 q9) fun z1 s10 ⟨y1, H10, I10, r10, q10⟩ => ?_
        refine thnF (qv.run _ s10 σ8 H10 _ I10 q10) fun z2 s11 ⟨y2, H11, I11, r11, acc, q, k, ek, hq, hp11, hz, nx⟩ => ?_
        subst ek
        cases (show z1 = Value.ref q from r10)
        exact put_tup (X := X.blk sC HC scope env fp) room I11 hp11 hz hq r11 fun s12 I12 => close I12 nx
  have last := codeAny_compStart_dict body (TN.self X.A 0 _ _ _ tD body)
  rw [hD, henv, hcl, hL, hC] at last
  exact last
end
end Rt
namespace Rt
open PySem PySem.Spec PyProof.Rows L2
/-! ### a law's book, as data -/
inductive Wk where
  | all | any | count (n : Int)
  deriving DecidableEq
structure Want where
  kind : Wk
  skill : Str
  names : List Str
  deriving DecidableEq
structure Lb where
  skills : List (Str × Int)
  points : Int
  needs : List (Int × Int)
  wants : List Want
  bars : List (Str × Str)
  gives : List (Str × Int)
  prices : List (Str × Int)
  reset : Option Int
def tStrs (xs : List Str) : List PyData := xs.map .str
def enSI (p : Str × Int) : PyData := .tuple [.str p.1, .int p.2]
def enII (p : Int × Int) : PyData := .tuple [.int p.1, .int p.2]
def enSS (p : Str × Str) : PyData := .tuple [.str p.1, .str p.2]
def Wk.word : Wk → Str
  | .all => "all"
  | .any => "any"
  | .count _ => "count"
def Want.row (w : Want) : List PyData := .str w.kind.word :: .str w.skill :: .tuple (tStrs w.names) :: (match w.kind with
  | .count n => [.int n]
  | _ => [])
def enW (w : Want) : PyData := .tuple w.row
def enO : Option Int → PyData
  | none => .none
  | some i => .int i
def kss : List Str := ["skills", "points", "needs", "wants", "bars", "gives", "prices", "reset"]
/-- the value at a name, by its place among unlike names -/
theorem valP_at : ∀ {ks : List Key} {ds : List PyData} {i : Nat} {k : Key} {d : PyData}, ks.Nodup → ks[i]? = some k → ds[i]? = some d → valP (ks.zip ds) k = some d
  | [], _, i, k, d, _, h, _ => by simp at h
  | a :: ks, [], i, k, d, _, _, h => by simp at h
  | a :: ks, c :: ds, 0, k, d, _, h1, h2 => by
    cases Option.some.inj h1
    cases Option.some.inj h2
    unfold valP
    rw [List.zip_cons_cons, List.find?_cons, decide_eq_true rfl]
    rfl
  | a :: ks, c :: ds, i + 1, k, d, hn, h1, h2 => by
    have hn2 := List.nodup_cons.mp hn
    have hk : k ∈ ks := List.mem_of_getElem? (show ks[i]? = some k from h1)
    have hne : a ≠ k := fun e => hn2.1 (e ▸ hk)
    have ih := valP_at hn2.2 (show ks[i]? = some k from h1) (show ds[i]? = some d from h2)
    unfold valP at ih ⊢
    rw [List.zip_cons_cons, List.find?_cons, decide_eq_false hne]
    exact ih
def keyL : List Key := kss.map Sum.inr
theorem keyL_nd : keyL.Nodup := by decide +kernel
def Lb.vals (b : Lb) : List PyData := [.list (b.skills.map enSI), .int b.points, .list (b.needs.map enII), .list (b.wants.map enW), .list (b.bars.map enSS), .list (b.gives.map enSI), .list (b.prices.map enSI), enO b.reset]
def Lb.dic (b : Lb) : List (Key × PyData) := keyL.zip b.vals
section
variable (b : Lb)
theorem lk_skills : valP b.dic (.inr "skills") = some (.list (b.skills.map enSI)) := valP_at (ks := keyL) (ds := b.vals) (i := 0) keyL_nd rfl rfl
theorem lk_points : valP b.dic (.inr "points") = some (.int b.points) := valP_at (ks := keyL) (ds := b.vals) (i := 1) keyL_nd rfl rfl
theorem lk_needs : valP b.dic (.inr "needs") = some (.list (b.needs.map enII)) := valP_at (ks := keyL) (ds := b.vals) (i := 2) keyL_nd rfl rfl
theorem lk_wants : valP b.dic (.inr "wants") = some (.list (b.wants.map enW)) := valP_at (ks := keyL) (ds := b.vals) (i := 3) keyL_nd rfl rfl
theorem lk_bars : valP b.dic (.inr "bars") = some (.list (b.bars.map enSS)) := valP_at (ks := keyL) (ds := b.vals) (i := 4) keyL_nd rfl rfl
theorem lk_gives : valP b.dic (.inr "gives") = some (.list (b.gives.map enSI)) := valP_at (ks := keyL) (ds := b.vals) (i := 5) keyL_nd rfl rfl
theorem lk_prices : valP b.dic (.inr "prices") = some (.list (b.prices.map enSI)) := valP_at (ks := keyL) (ds := b.vals) (i := 6) keyL_nd rfl rfl
theorem lk_reset : valP b.dic (.inr "reset") = some (enO b.reset) := valP_at (ks := keyL) (ds := b.vals) (i := 7) keyL_nd rfl rfl
end
/-! ### what is asked of it -/
def words13 : List Str := ["a", "b", "c", "d", "e", "f", "g", "z", "ab", "abcdefgh", "need", "skill", "all"]
def Lb.names (b : Lb) : List Str := b.skills.map (·.1)
def Lb.tier (b : Lb) (x : Str) : Int := (valP b.skills x).getD 0
def Lb.need (b : Lb) (t : Int) : Int := (valP b.needs t).getD 0
structure Want.Ok (N : List Str) (w : Want) : Prop where
  sk : w.skill ∈ N
  ne : w.names ≠ []
  len : w.names.length ≤ 12
  nd : w.names.Nodup
  mem : ∀ x ∈ w.names, x ∈ N ∧ x ≠ w.skill
  cnt : ∀ n, w.kind = .count n → 1 ≤ n ∧ n ≤ w.names.length
def srt2 (p : Str × Str) : List Str := if ltCps p.2.cps.toList p.1.cps.toList = true then [p.2, p.1] else [p.1, p.2]
structure Lb.Ok (b : Lb) : Prop where
  n0 : b.skills ≠ []
  n5 : b.skills.length ≤ 5
  nd : b.names.Nodup
  word : ∀ x ∈ b.names, x ∈ words13
  tiers : ∀ p ∈ b.skills, 1 ≤ p.2 ∧ p.2 ≤ 4
  mono : (b.skills.map (·.2)).Pairwise (· ≤ ·)
  pts : 0 ≤ b.points ∧ b.points ≤ 12
  needs3 : b.needs.length ≤ 3
  needs : ∀ p ∈ b.needs, (2 ≤ p.1 ∧ p.1 ≤ 4) ∧ (0 ≤ p.2 ∧ p.2 ≤ 12)
  needsUp : (b.needs.map (·.1)).Pairwise (· < ·)
  wants12 : b.wants.length ≤ 12
  wants : ∀ w ∈ b.wants, w.Ok b.names
  bars6 : b.bars.length ≤ 6
  bars : ∀ p ∈ b.bars, p.1 ∈ b.names ∧ p.2 ∈ b.names ∧ p.1 ≠ p.2
  barsNd : (b.bars.map srt2).Nodup
  gives12 : b.gives.length ≤ 12
  gives : ∀ p ∈ b.gives, p.1 ∈ b.names ∧ 1 ≤ p.2 ∧ p.2 ≤ 3
  givesNd : (b.gives.map (·.1)).Nodup
  prices12 : b.prices.length ≤ 12
  prices : ∀ p ∈ b.prices, p.1 ∈ b.names ∧ 0 ≤ p.2 ∧ p.2 ≤ 99
  pricesNd : (b.prices.map (·.1)).Nodup
  reset : ∀ i, b.reset = some i → 0 ≤ i ∧ i ≤ 99
/-! ### what the law finds by the words -/
def Want.met (w : Want) (S : List Str) : Bool := decide ((match w.kind with
  | .all => (w.names.length : Int)
  | .any => 1
  | .count n => n) ≤ ((w.names.filter fun x => decide (x ∈ S)).length : Int))
def Lb.below (b : Lb) (S : List Str) (x : Str) : Int := ((S.filter fun y => decide (b.tier y < b.tier x)).length : Int)
def Lb.met (b : Lb) (S : List Str) (x : Str) : Bool := !decide (b.below S x < b.need (b.tier x)) && (b.wants.filter fun w => decide (w.skill = x) && !w.met S).isEmpty
def Lb.sizeLet (b : Lb) (S : List Str) : Int := b.points + ((b.gives.filter fun p => decide (p.1 ∈ S)).map (·.2)).sum
def Lb.barred (b : Lb) (S : List Str) : List (Str × Str) := b.bars.filter fun p => decide (p.1 ∈ S) && decide (p.2 ∈ S)
def Lb.loose (b : Lb) (S : List Str) : List Str := S.filter fun x => !b.met S x
def Lb.holds (b : Lb) (S : List Str) : Bool := !decide (b.sizeLet S < (S.length : Int)) && ((b.barred S).isEmpty && (b.loose S).isEmpty)
def Lb.order (b : Lb) (S : List Str) : List Str := b.names.filter fun x => decide (x ∈ S)
end Rt
/-! facts of the data -/
namespace Rt
open PySem PySem.Spec PyProof.Rows L2
theorem w13_ok : ∀ x ∈ words13, PyData.strOk x = true ∧ (1 ≤ x.length ∧ x.length ≤ 8) := by decide +kernel
theorem nice_str {x : Str} (h : PyData.strOk x = true) : (PyData.str x).canLay0 = true ∧ (PyData.str x).depth ≤ 10 := ⟨by simpa [PyData.canLay0] using h, by simp [PyData.depth]⟩
theorem nice_strs {xs : List Str} (h : ∀ x ∈ xs, PyData.strOk x = true) : (PyData.canLayAll0 (tStrs xs) = true) ∧ PyData.depthAll (tStrs xs) = 0 := by
  induction xs with
  | nil => exact ⟨rfl, rfl⟩
  | cons a l ih =>
    obtain ⟨h1, h2⟩ := ih fun x hx => h x (List.mem_cons_of_mem _ hx)
    constructor
    · show ((PyData.str a).canLay0 && PyData.canLayAll0 (tStrs l)) = true
      rw [h1, (nice_str (h a List.mem_cons_self)).1]
      rfl
    · show max (PyData.str a).depth (PyData.depthAll (tStrs l)) = 0
      rw [h2]
      rfl
theorem shaped_strs {xs : List Str} (h : ∀ x ∈ xs, PyData.strOk x = true) : SeqAt.shaped (.list (tStrs xs)) = true ∧ SeqAt.shaped (.tuple (tStrs xs)) = true :=
  shaped_of fun d hd => by
    obtain ⟨x, hx, rfl⟩ := List.mem_map.mp hd
    exact nice_str (h x hx)
theorem nice_w {N : List Str} {w : Want} (hN : ∀ x ∈ N, x ∈ words13) (h : w.Ok N) : (enW w).canLay0 = true ∧ (enW w).depth ≤ 10 := by
  obtain ⟨k, s, ns⟩ := w
  have hs : PyData.strOk s = true := (w13_ok s (hN s h.sk)).1
  have hn := nice_strs (xs := ns) fun x hx => (w13_ok x (hN x (h.mem x hx).1)).1
  have hs2 : PyData.canLay0 (.str s) = true := (nice_str hs).1
  have ha : PyData.canLay0 (.str ("all" : Str)) = true := by decide +kernel
  have hb : PyData.canLay0 (.str ("any" : Str)) = true := by decide +kernel
  have hc : PyData.canLay0 (.str ("count" : Str)) = true := by decide +kernel
  cases k with
  | all =>
    constructor
    · show (PyData.canLay0 (.str "all") && (PyData.canLay0 (.str s) && (PyData.canLayAll0 (tStrs ns) && true))) = true
      rw [ha, hs2, hn.1]
      rfl
    · show max 0 (max 0 (max (PyData.depthAll (tStrs ns) + 1) 0)) + 1 ≤ 10
      rw [hn.2]
      decide
  | any =>
    constructor
    · show (PyData.canLay0 (.str "any") && (PyData.canLay0 (.str s) && (PyData.canLayAll0 (tStrs ns) && true))) = true
      rw [hb, hs2, hn.1]
      rfl
    · show max 0 (max 0 (max (PyData.depthAll (tStrs ns) + 1) 0)) + 1 ≤ 10
      rw [hn.2]
      decide
  | count n =>
    constructor
    · show (PyData.canLay0 (.str "count") && (PyData.canLay0 (.str s) && (PyData.canLayAll0 (tStrs ns) && (true && true)))) = true
      rw [hc, hs2, hn.1]
      rfl
    · show max 0 (max 0 (max (PyData.depthAll (tStrs ns) + 1) (max 0 0))) + 1 ≤ 10
      rw [hn.2]
      decide
theorem nice_ss {p : Str × Str} (h1 : PyData.strOk p.1 = true) (h2 : PyData.strOk p.2 = true) : (enSS p).canLay0 = true ∧ (enSS p).depth ≤ 10 := by
  constructor
  · show (PyData.canLay0 (.str p.1) && (PyData.canLay0 (.str p.2) && true)) = true
    rw [(nice_str h1).1, (nice_str h2).1]
    rfl
  · show max 0 (max 0 0) + 1 ≤ 10
    decide
section
variable {b : Lb}
theorem Lb.Ok.str (h : b.Ok) {x : Str} (hx : x ∈ b.names) : PyData.strOk x = true := (w13_ok x (h.word x hx)).1
theorem head_valP {κ α : Type} [DecidableEq κ] (l : List (κ × α)) (k : κ) : ((l.filter fun p => decide (p.1 = k)).map (·.2))[0]? = valP l k := by
  unfold valP
  rw [List.getElem?_map, ← List.head?_eq_getElem?, List.head?_filter]
theorem valP_mem {κ α : Type} [DecidableEq κ] : ∀ {l : List (κ × α)} {k : κ}, k ∈ l.map (·.1) → ∃ v, valP l k = some v ∧ (k, v) ∈ l
  | [], k, h => by cases h
  | (a, v) :: r, k, h => by
    by_cases e : a = k
    · subst e
      exact ⟨v, by unfold valP; rw [List.find?_cons, decide_eq_true rfl]; rfl, List.mem_cons_self⟩
    · have h2 : k ∈ r.map (·.1) := by
        rcases List.mem_cons.mp h with z | z
        · exact absurd z.symm e
        · exact z
      obtain ⟨u, e1, e2⟩ := valP_mem h2
      refine ⟨u, ?_, List.mem_cons_of_mem _ e2⟩
      unfold valP at e1 ⊢
      rw [List.find?_cons, decide_eq_false e]
      exact e1
theorem tier_at {x : Str} (hx : x ∈ b.names) : atI ((b.skills.filter fun p => decide (p.1 = x)).map fun p => PyData.int p.2) 0 = some (.int (b.tier x)) := by
  refine atI_nat (j := 0) ?_
  have h := head_valP b.skills x
  obtain ⟨v, e, _⟩ := valP_mem (l := b.skills) hx
  rw [e, List.getElem?_map] at h
  rw [List.getElem?_map]
  unfold Lb.tier
  rw [e]
  cases z : (b.skills.filter fun p => decide (p.1 = x))[0]? with
  | none =>
    rw [z] at h
    cases h
  | some q =>
    rw [z] at h
    have h2 : q.2 = v := Option.some.inj h
    show some (PyData.int q.2) = some (PyData.int v)
    rw [h2]
theorem valP_map {κ κ' α β : Type} [DecidableEq κ] [DecidableEq κ'] (f : κ → κ') (hf : ∀ a c, f a = f c → a = c) (g : α → β) (k : κ) : ∀ l : List (κ × α), valP (l.map fun p => (f p.1, g p.2)) (f k) = (valP l k).map g
  | [] => rfl
  | (a, v) :: r => by
    have ih := valP_map f hf g k r
    unfold valP at ih ⊢
    rw [List.map_cons, List.find?_cons, List.find?_cons]
    by_cases e : a = k
    · subst e
      simp
    · have e2 : ¬ f a = f k := fun z => e (hf a k z)
      simp only [e, e2, decide_false]
      exact ih
end
theorem ixw (u : Want) : atI u.row 1 = some (.str u.skill) := by
  obtain ⟨k, s, ns⟩ := u
  cases k <;> rfl
theorem wk1 : ¬ decide (Wk.all.word = ("all" : Str)) = false := by decide +kernel
theorem wk2 : ¬ decide (Wk.any.word = ("all" : Str)) = true := by decide +kernel
theorem wk3 : ¬ decide (Wk.any.word = ("any" : Str)) = false := by decide +kernel
theorem wk4 (n : Int) : ¬ decide ((Wk.count n).word = ("all" : Str)) = true := by
  show ¬ decide (("count" : Str) = ("all" : Str)) = true
  decide +kernel
theorem wk5 (n : Int) : ¬ decide ((Wk.count n).word = ("any" : Str)) = true := by
  show ¬ decide (("count" : Str) = ("any" : Str)) = true
  decide +kernel
end Rt
/-! what is carried over: the mathematics -/
namespace Rt
open PySem PySem.Spec PyProof.Rows L2
/-- some skills of a book -/
structure Sub (b : Lb) (S : List Str) : Prop where
  mem : ∀ y ∈ S, y ∈ b.names
  len : S.length ≤ 1000
theorem Sub.len2 {b : Lb} {S : List Str} (h : Sub b S) : S.length ≤ 100000 := Nat.le_trans h.len (by decide)
theorem ok_len {b : Lb} (h : b.Ok) : b.skills.length ≤ 100000 := Nat.le_trans h.n5 (by decide)
theorem Lb.names_len (b : Lb) : b.names.length = b.skills.length := List.length_map ..
theorem sub_order {b : Lb} (h : b.Ok) (S : List Str) : Sub b (b.order S) := ⟨fun y hy => (List.mem_filter.mp hy).1, by
  unfold Lb.order
  refine Nat.le_trans (List.length_filter_le _ _) ?_
  rw [b.names_len]
  exact Nat.le_trans h.n5 (by decide)⟩
theorem sub_of_sublist {b : Lb} (h : b.Ok) {S : List Str} (s : S.Sublist b.names) : Sub b S := ⟨fun y hy => s.subset hy, by
  have := s.length_le
  rw [b.names_len] at this
  exact Nat.le_trans this (Nat.le_trans h.n5 (by decide))⟩
theorem filter_sublist_eq : ∀ {N S : List Str}, N.Nodup → S.Sublist N → N.filter (fun x => decide (x ∈ S)) = S
  | [], _, _, s => by
    cases s
    rfl
  | a :: N, S, hn, s => by
    have hn2 := List.nodup_cons.mp hn
    cases s with
    | cons _ s =>
      have ha : a ∉ S := fun h => hn2.1 (s.subset h)
      rw [List.filter_cons, if_neg (by simp [ha])]
      exact filter_sublist_eq hn2.2 s
    | cons_cons _ s =>
      rename_i S'
      rw [List.filter_cons, if_pos (by simp)]
      have e : N.filter (fun x => decide (x ∈ a :: S')) = N.filter (fun x => decide (x ∈ S')) := by
        refine List.filter_congr fun x hx => ?_
        have hne : x ≠ a := fun z => hn2.1 (z ▸ hx)
        simp [hne]
      rw [e, filter_sublist_eq hn2.2 s]
theorem order_of_sublist {b : Lb} (h : b.Ok) {S : List Str} (s : S.Sublist b.names) : b.order S = S := filter_sublist_eq h.nd s
theorem order_sublist (b : Lb) (S : List Str) : (b.order S).Sublist b.names := List.filter_sublist
theorem mem_order {b : Lb} {S : List Str} {x : Str} : x ∈ b.order S ↔ x ∈ b.names ∧ x ∈ S := by
  unfold Lb.order
  rw [List.mem_filter]
  simp
/-! ### by fall -/
def Lb.gone (b : Lb) (S : List Str) : List Str :=
  if (b.loose S).isEmpty = false then b.loose S
  else match b.barred S with
    | p :: _ => (b.order [p.1, p.2]).drop 1
    | [] => if b.sizeLet S < (S.length : Int) then S.drop (S.length - 1) else []
def Lb.next (b : Lb) (S : List Str) : List Str := S.filter fun x => !decide (x ∈ b.gone S)
def Lb.fallN (b : Lb) : Nat → List Str → List Str
  | 0, S => S
  | n + 1, S => if (b.gone S).isEmpty = true then S else b.fallN n (b.next S)
def Lb.fallen (b : Lb) (S : List Str) : List Str := b.fallN S.length S
theorem next_sublist (b : Lb) (S : List Str) : (b.next S).Sublist S := List.filter_sublist
theorem order_pair {b : Lb} (h : b.Ok) {p : Str × Str} (hp : p ∈ b.bars) : b.order [p.1, p.2] = [p.1, p.2] ∨ b.order [p.1, p.2] = [p.2, p.1] := by
  obtain ⟨h1, h2, h3⟩ := h.bars p hp
  obtain ⟨x, y⟩ := p
  have key : ∀ (N : List Str), N.Nodup → x ∈ N → y ∈ N → N.filter (fun z => decide (z ∈ [x, y])) = [x, y] ∨ N.filter (fun z => decide (z ∈ [x, y])) = [y, x] := by
    intro N
    induction N with
    | nil => intro _ hx; cases hx
    | cons a N ih =>
      intro hn hx hy
      have hn2 := List.nodup_cons.mp hn
      have one : ∀ (u v : Str), u ≠ v → u ∉ N → v ∈ N → N.Nodup → N.filter (fun z => decide (z ∈ [u, v])) = [v] := by
        intro u v huv hu hv hN
        have e1 : N.filter (fun z => decide (z ∈ [u, v])) = N.filter (fun z => decide (z ∈ [v])) := by
          refine List.filter_congr fun z hz => ?_
          have : z ≠ u := fun q => hu (q ▸ hz)
          simp [this]
        rw [e1]
        exact filter_sublist_eq hN (List.singleton_sublist.mpr hv)
      by_cases ax : a = x
      · subst ax
        have hyN : y ∈ N := by
          rcases List.mem_cons.mp hy with z | z
          · exact absurd z.symm h3
          · exact z
        left
        rw [List.filter_cons, if_pos (by simp), one a y h3 hn2.1 hyN hn2.2]
      · by_cases ay : a = y
        · subst ay
          have hxN : x ∈ N := by
            rcases List.mem_cons.mp hx with z | z
            · exact absurd z.symm ax
            · exact z
          right
          rw [List.filter_cons, if_pos (by simp)]
          have e1 : N.filter (fun z => decide (z ∈ [x, a])) = N.filter (fun z => decide (z ∈ [a, x])) := by
            refine List.filter_congr fun z _ => ?_
            simp [or_comm]
          rw [e1, one a x (fun q => ax q) hn2.1 hxN hn2.2]
        · have hxN : x ∈ N := by
            rcases List.mem_cons.mp hx with z | z
            · exact absurd z.symm ax
            · exact z
          have hyN : y ∈ N := by
            rcases List.mem_cons.mp hy with z | z
            · exact absurd z.symm ay
            · exact z
          rw [List.filter_cons, if_neg (by simp [ax, ay])]
          exact ih hn2.2 hxN hyN
  exact key b.names h.nd h1 h2
/-- what goes is of the build -/
theorem gone_sub {b : Lb} (h : b.Ok) {S : List Str} (hg : (b.gone S).isEmpty = false) : ∃ x ∈ S, x ∈ b.gone S := by
  unfold Lb.gone at hg ⊢
  by_cases h1 : (b.loose S).isEmpty = false
  · rw [if_pos h1]
    cases e : b.loose S with
    | nil =>
      rw [e] at h1
      cases h1
    | cons a l =>
      have ha : a ∈ b.loose S := by rw [e]; exact List.mem_cons_self
      exact ⟨a, (List.mem_filter.mp ha).1, List.mem_cons_self⟩
  · rw [if_neg h1] at hg ⊢
    cases e : b.barred S with
    | cons p l =>
      rw [e] at hg
      have hp : p ∈ b.barred S := by rw [e]; exact List.mem_cons_self
      obtain ⟨hb, hs⟩ := List.mem_filter.mp hp
      simp only [Bool.and_eq_true, decide_eq_true_eq] at hs
      rcases order_pair h hb with q | q
      · exact ⟨p.2, hs.2, by simp only; rw [q]; simp⟩
      · exact ⟨p.1, hs.1, by simp only; rw [q]; simp⟩
    | nil =>
      rw [e] at hg
      simp only at hg ⊢
      by_cases h2 : b.sizeLet S < (S.length : Int)
      · rw [if_pos h2] at hg ⊢
        cases e2 : S.drop (S.length - 1) with
        | nil =>
          rw [e2] at hg
          cases hg
        | cons a l =>
          have ha : a ∈ S.drop (S.length - 1) := by rw [e2]; exact List.mem_cons_self
          exact ⟨a, List.mem_of_mem_drop ha, List.mem_cons_self⟩
      · rw [if_neg h2] at hg
        cases hg
theorem next_shorter {b : Lb} (h : b.Ok) {S : List Str} (hg : (b.gone S).isEmpty = false) : (b.next S).length < S.length := by
  obtain ⟨x, hx, hxg⟩ := gone_sub h hg
  have key : ∀ (l : List Str) (p : Str → Bool), x ∈ l → p x = false → (l.filter p).length < l.length := by
    intro l p hm hp
    refine Nat.lt_of_le_of_ne (List.length_filter_le _ _) fun e => ?_
    have := List.length_filter_eq_length_iff.mp e x hm
    rw [hp] at this
    cases this
  exact key S _ hx (by simp [hxg])
/-! ### by grown -/
def Lb.can (b : Lb) (S F : List Str) : List Str := S.filter fun x => !decide (x ∈ F) && b.holds (b.order (F ++ [x]))
def Lb.grow1 (b : Lb) (S F : List Str) : List Str := b.order (F ++ (b.can S F).take 1)
def Lb.growN (b : Lb) (S : List Str) : Nat → List Str → List Str
  | 0, F => F
  | n + 1, F => b.growN S n (b.grow1 S F)
def Lb.regrown (b : Lb) (S : List Str) : List Str := b.growN S S.length []
theorem growN_succ (b : Lb) (S : List Str) : ∀ (n : Nat) (F : List Str), b.growN S (n + 1) F = b.grow1 S (b.growN S n F)
  | 0, F => rfl
  | n + 1, F => by
    show b.growN S (n + 1) (b.grow1 S F) = b.grow1 S (b.growN S n (b.grow1 S F))
    exact growN_succ b S n (b.grow1 S F)
def Lb.carried (b : Lb) (S : List Str) (k : Str) : List Str :=
  if k = "keep" then b.order S else if k = "fall" then b.fallen (b.order S) else b.regrown (b.order S)
/-! ### all builds -/
def lowOf (N B : List Str) : Nat := match B.getLast? with
  | none => 0
  | some x => N.idxOf x + 1
def extOf (N B : List Str) : List (List Str) := (N.drop (lowOf N B)).map fun x => B ++ [x]
def longerOf (N : List Str) (L : List (List Str)) : List (List Str) := L.flatMap (extOf N)
def subsN (N : List Str) : Nat → List (List Str) → List (List Str) → List (List Str)
  | 0, found, _ => found
  | n + 1, found, level => subsN N n (found ++ longerOf N level) (longerOf N level)
def Lb.subsets (b : Lb) : List (List Str) := subsN b.names b.names.length [[]] [[]]
def Lb.allB (b : Lb) : List (List Str) := b.subsets.filter fun S => b.holds S
def Inc (N B : List Str) : Prop := B.Sublist (N.take (lowOf N B)) ∧ lowOf N B ≤ N.length
theorem ext_inc {N B C : List Str} (hn : N.Nodup) (h : Inc N B) (hc : C ∈ extOf N B) : Inc N C := by
  obtain ⟨x, hx, rfl⟩ := List.mem_map.mp hc
  obtain ⟨k, hk, e⟩ := List.mem_iff_getElem.mp hx
  rw [List.getElem_drop] at e
  have hk2 : lowOf N B + k < N.length := by
    rw [List.length_drop] at hk
    omega
  have el : lowOf N (B ++ [x]) = lowOf N B + k + 1 := by
    unfold lowOf
    rw [List.getLast?_concat]
    show N.idxOf x + 1 = lowOf N B + k + 1
    rw [← e, List.Nodup.idxOf_getElem hn]
  refine ⟨?_, by rw [el]; exact hk2⟩
  rw [el, List.take_add_one, List.getElem?_eq_getElem hk2, e]
  have h1 : B.Sublist (N.take (lowOf N B + k)) := h.1.trans (List.take_sublist_take_left (Nat.le_add_right _ _))
  exact h1.append (List.Sublist.refl _)
theorem inc_nil (N : List Str) : Inc N [] := ⟨List.Sublist.refl _, Nat.zero_le _⟩
theorem longer_inc {N : List Str} {L : List (List Str)} (hn : N.Nodup) (h : ∀ B ∈ L, Inc N B) : ∀ C ∈ longerOf N L, Inc N C := fun C hC => by
  obtain ⟨B, hB, hC⟩ := List.mem_flatMap.mp hC
  exact ext_inc hn (h B hB) hC
theorem subsN_inc {N : List Str} (hn : N.Nodup) : ∀ (n : Nat) (found level : List (List Str)), (∀ B ∈ found, Inc N B) → (∀ B ∈ level, Inc N B) → ∀ B ∈ subsN N n found level, Inc N B
  | 0, _, _, h1, _ => h1
  | n + 1, found, level, h1, h2 => subsN_inc hn n _ _ (fun B hB => by
    rcases List.mem_append.mp hB with z | z
    · exact h1 B z
    · exact longer_inc hn h2 B z) (longer_inc hn h2)
theorem subsets_sub {b : Lb} (h : b.Ok) : ∀ S ∈ b.subsets, S.Sublist b.names := fun S hS =>
  (subsN_inc h.nd _ _ _ (fun B hB => by rw [List.mem_singleton.mp hB]; exact inc_nil _) (fun B hB => by rw [List.mem_singleton.mp hB]; exact inc_nil _) S hS).1.trans (List.take_sublist _ _)
theorem ext_len {N B : List Str} (h : N.length ≤ 5) : (extOf N B).length ≤ 5 := by
  unfold extOf
  rw [List.length_map, List.length_drop]
  omega
theorem longer_len {N : List Str} (h : N.length ≤ 5) : ∀ L : List (List Str), (longerOf N L).length ≤ 5 * L.length
  | [] => Nat.zero_le _
  | B :: L => by
    have ih := longer_len h L
    unfold longerOf at ih ⊢
    rw [List.flatMap_cons, List.length_append, List.length_cons]
    have := ext_len (B := B) h
    omega
theorem subsN_len {N : List Str} (h : N.length ≤ 5) : ∀ (n : Nat) (found level : List (List Str)), (subsN N n found level).length ≤ found.length + level.length * 5 * 6 ^ n
  | 0, found, level => by
    show found.length ≤ _
    omega
  | n + 1, found, level => by
    have ih := subsN_len h n (found ++ longerOf N level) (longerOf N level)
    have h1 := longer_len h level
    show (subsN N n (found ++ longerOf N level) (longerOf N level)).length ≤ _
    rw [List.length_append] at ih
    refine Nat.le_trans ih ?_
    have h2 : (longerOf N level).length * 5 * 6 ^ n ≤ 5 * level.length * 5 * 6 ^ n := Nat.mul_le_mul_right _ (Nat.mul_le_mul_right _ h1)
    have h3 : 0 < 6 ^ n := Nat.pow_pos (by decide)
    have h4 : 5 * level.length ≤ level.length * 5 * 6 ^ n := by
      rw [Nat.mul_comm 5]
      exact Nat.le_mul_of_pos_right _ h3
    have e : level.length * 5 * 6 ^ (n + 1) = level.length * 5 * 6 ^ n + 5 * level.length * 5 * 6 ^ n := by
      rw [Nat.pow_succ]
      have : level.length * 5 * (6 ^ n * 6) = 6 * (level.length * 5 * 6 ^ n) := by
        rw [← Nat.mul_assoc]
        omega
      rw [this, Nat.mul_comm 5 level.length]
      have e2 : level.length * 5 * 5 * 6 ^ n = 5 * (level.length * 5 * 6 ^ n) := by
        rw [Nat.mul_right_comm (level.length * 5) 5, Nat.mul_comm]
      omega
    omega
end Rt
namespace Rt
open PySem PySem.Spec PyProof.Rows L2
section
variable {X : Cx}
def rLenD : List V → Hp → VK → Prop := fun xs H Q => ∃ a kvs, xs = [V.ref a] ∧ H a = some (.dK kvs) ∧ Q (.int (kvs.length : Nat)) H
theorem cz_lenD : CallR X (.builtin "len") rLenD := call_lenD
end
section
variable {T : Tx} {te tk tv : TE} {tt : TT} {ρ ρ' : En} {d : Dd} {wi : TI} {g : TG} {vs : List Nat} {ts : TS} {b : Nat} {ω : List Ow} {N : En → List Ow → Prop} {R : Dd → List Ow → Prop}
theorem go_or1 {t u : TS} (h : Go T t ρ b ω N R) : Go T (fun D σ H => t D σ H ∨ u D σ H) ρ b ω N R := fun as σ G H e g w D q q2 => .inl (h as σ G H e g w D q q2)
theorem go_or2 {t u : TS} (h : Go T u ρ b ω N R) : Go T (fun D σ H => t D σ H ∨ u D σ H) ρ b ω N R := fun as σ G H e g w D q q2 => .inr (h as σ G H e g w D q q2)
theorem nodup_take {α : Type} {l : List α} {i : Nat} {x : α} (hn : l.Nodup) (hx : l[i]? = some x) : x ∉ l.take i := fun hm => by
  obtain ⟨j, hj, e⟩ := List.mem_iff_getElem.mp hm
  rw [List.getElem_take] at e
  have hj2 : j < i := by
    rw [List.length_take] at hj
    omega
  obtain ⟨hi, e2⟩ := List.getElem?_eq_some_iff.mp hx
  have := (List.getElem_inj (h₀ := by omega) (h₁ := hi) hn).mp (e.trans e2.symm)
  omega
theorem kvR_none {K : PySem.W.Frag} {H : Hp} {ks : List (Key × V)} {kvs : List (Key × PyData)} (r : KvR K H ks kvs) {k : Key} (h : k ∉ kvs.map (·.1)) : valV ks k = none := by
  cases e : valV ks k with
  | none => rfl
  | some v =>
    have := valV_in e
    rw [kvR_keys r] at this
    exact absurd this h
theorem kvR_snoc {K : PySem.W.Frag} {H : Hp} : ∀ {ks : List (Key × V)} {kvs : List (Key × PyData)} {k : Key} {v : V} {d : PyData}, KvR K H ks kvs → Dq K H v d → KvR K H (ks ++ [(k, v)]) (kvs ++ [(k, d)])
  | _, _, _, _, _, .nil, h => .cons ⟨rfl, h⟩ .nil
  | _, _, _, _, _, .cons a t, h => .cons a (kvR_snoc t h)
/-- {k: True for k in ..}, unlike keys -/
theorem ev_dc {ks : List Key} (hi : EvI T wi ρ (ks.map kD)) (nd : ks.Nodup) (hz : ks.length ≤ 1000)
    (hs : ∀ k, k ∈ ks → ∃ ρ', EvG T g (.py (kD k)) (wipeD ρ vs) ρ' vs ∧ Ev T tk ρ' (.py (kD k)) ∧ Ev T tv ρ' (.py (.bool true))) : Ev T (tDc wi g tYes tk tv vs) ρ (.dic (ks.map fun k => (k, PyData.bool true))) := by
  intro as σ G H e s0 Q q
  refine hi as σ G H e s0 _ fun J G1 H1 s1 w => ?_
  intro D hD
  have hDH : H D = none := by
    cases z : H D with
    | none => rfl
    | some o => exact absurd hD (s1.ha D (by rw [z]; intro y; cases y))
  refine ⟨fun i m H' => m = ks.length - i ∧ i ≤ ks.length ∧ ∃ Gi zs, Same G1 Gi ∧ Stq G H Gi H' ∧ Gi D = none ∧ H' D = some (.dK zs) ∧ KvR T.K Gi zs ((ks.take i).map fun k => (k, PyData.bool true)), ⟨ks.length, rfl, Nat.zero_le _, G1, [], Same.refl G1, s1.hid hD, s1.gh.free hD, upd_same, .nil⟩, ?_⟩
  rintro i m H2 ⟨rfl, hi', Gi, zs, sg, st, gD, hDi, rx⟩
  by_cases hlt : i < ks.length
  · have hx : ks[i]? = some ks[i] := List.getElem?_eq_getElem hlt
    have hd : (ks.map kD)[i]? = some (kD ks[i]) := by
      rw [List.getElem?_map, hx]
      rfl
    refine .inr ⟨w.go i H2 (sg.trans st.gh) (by rw [List.length_map]; exact hlt), fun H' => ∃ m', m' < ks.length - i ∧ (m' = ks.length - (i + 1) ∧ i + 1 ≤ ks.length ∧ ∃ Gi zs, Same G1 Gi ∧ Stq G H Gi H' ∧ Gi D = none ∧ H' D = some (.dK zs) ∧ KvR T.K Gi zs ((ks.take (i + 1)).map fun k => (k, PyData.bool true))), fun H' h => h, fun x H3 y => ?_⟩
    obtain ⟨G3, s3, r3⟩ := w.yld i Gi H2 x H3 (kD ks[i]) sg st.gh hd y
    have st3 := st.trans s3
    obtain ⟨ρ', hg, hk, hv⟩ := hs ks[i] (List.getElem_mem hlt)
    have e3 : RepE T as G3 (wipeD ρ vs) (wipe σ vs) := (e.up st3.gg).wipe vs
    refine hg as (wipe σ vs) G3 H3 x e3 r3 st3.gh _ fun σ' e' same hl => ⟨?_, ?_⟩
    · rw [wipe_eq (σ := wipe σ vs) hl same]
      exact wipe_eq (by rw [wipe_length]) fun j hj => wipe_at σ vs j hj
    refine et_yes as σ' G3 H3 e' st3.gh _ fun G4 H4 s4 => ?_
    rw [if_pos rfl]
    refine hk as σ' G4 H4 (e'.up s4.gg) s4.gh _ fun v5 G5 H5 s5 r5 => hv as σ' G5 H5 ((e'.up s4.gg).up s5.gg) s5.gh _ fun v6 G6 H6 s6 r6 => ?_
    have s36 := (s4.trans s5).trans s6
    have st6 := st3.trans s36
    have g3D : G3 D = none := s3.fr D List.not_mem_nil gD (by rw [hDi]; intro z; cases z)
    have h3D : H3 D = some (.dK zs) := s3.hs _ _ hDi
    have g6D : G6 D = none := s36.fr D List.not_mem_nil g3D (by rw [h3D]; intro z; cases z)
    have h6D : H6 D = some (.dK zs) := Stq.hs s36 _ _ h3D
    have rx6 := KvR.up (s3.gg.trans s36.gg) rx
    have fresh : valV zs ks[i] = none := kvR_none rx6 (by
      rw [List.map_map]
      show ks[i] ∉ (ks.take i).map id
      rw [List.map_id]
      exact nodup_take nd hx)
    have hzl : zs.length ≤ 1000 := by
      have h1 : zs.length = i := by
        rw [Paired.length rx, List.length_map, List.length_take]
        omega
      omega
    refine ⟨zs, ks[i], kD_rep (Dq.up s6.gg r5), h6D, Nat.lt_of_le_of_lt hzl (by decide), ks.length - (i + 1), by omega, rfl, hlt, G6, zs ++ [(ks[i], v6)], sg.trans (s3.gg.trans s36.gg), ?_, g6D, ?_, ?_⟩
    · exact st6.mut hDH g6D
    · rw [upd_same, putK_new _ fresh]
    · rw [take_succ_of hx, List.map_append]
      exact kvR_snoc rx6 r6
  · have ei : i = ks.length := by omega
    subst ei
    refine .inl ⟨?_, ?_⟩
    · have := w.stop H2 (sg.trans st.gh)
      rw [List.length_map] at this
      exact this
    rw [List.take_length] at rx
    have s2 := (st.er hDH gD).new (o := .dK zs) (if_pos rfl)
    rw [er_upd hDi] at s2
    exact q _ _ _ s2 ⟨D, zs, rfl, upd_same, KvR.up (same_new gD) rx⟩
theorem ec_lenD {kvs : List (Key × PyData)} : EvC T rLenD [.dic kvs] (.py (.int (kvs.length : Int))) := fun as G H xs r s Q q => by
  cases r with
  | cons r1 r2 =>
    cases r2
    obtain ⟨a, zs, rfl, h1, h2⟩ := r1
    exact ⟨a, zs, rfl, s _ _ h1, q _ G H (.refl s) (by rw [Paired.length h2]; exact .int _)⟩
/-- the same with tuples for keys, its length -/
def tupK2 (k : List Key) : PyData := .tuple (k.map kD)
theorem tup_key {K : PySem.W.Frag} {H : Hp} : ∀ {k : List Key} {xs : List V}, DqA K H xs (k.map kD) → xs = k.map kV
  | [], _, .nil => rfl
  | a :: k, _, .cons h t => by
    rw [kD_rep h, tup_key t]
    rfl
/-- a tuple that is tracked -/
def EvTk (T : Tx) (te : TE) (ρ : En) (k : List Key) : Prop := ∀ as σ G H, RepE T as G ρ σ → Same G H → ∀ Q : VK, (∀ a G2 H2, Stq G H G2 H2 → H2 a = some (.tup (k.map kV)) → Q (.ref a) H2) → te σ H Q
theorem ev_dcT_len {ks : List (List Key)} (hi : EvI T wi ρ (ks.map tupK2)) (nd : ks.Nodup) (hz : ks.length ≤ 1000)
    (hs : ∀ k, k ∈ ks → ∃ ρ', EvG T g (.py (tupK2 k)) (wipeD ρ vs) ρ' vs ∧ Ev T tk ρ' (.py (tupK2 k)) ∧ Ev T tv ρ' (.py (.bool true))) : Ev T (tCB rLenT (tCons (tDcT wi g tYes tk tv vs) tNil)) ρ (.py (.int (ks.length : Int))) := by
  intro as σ G H e s0 Q q
  refine hi as σ G H e s0 _ fun J G1 H1 s1 w => ?_
  intro D hD
  have hDH : H D = none := by
    cases z : H D with
    | none => rfl
    | some o => exact absurd hD (s1.ha D (by rw [z]; intro y; cases y))
  refine ⟨fun i m H' => m = ks.length - i ∧ i ≤ ks.length ∧ ∃ Gi zs, Same G1 Gi ∧ Stq G H Gi H' ∧ Gi D = none ∧ H' D = some (.dT zs) ∧ zs.map (·.1) = ks.take i, ⟨ks.length, rfl, Nat.zero_le _, G1, [], Same.refl G1, s1.hid hD, s1.gh.free hD, upd_same, rfl⟩, ?_⟩
  rintro i m H2 ⟨rfl, hi', Gi, zs, sg, st, gD, hDi, rx⟩
  by_cases hlt : i < ks.length
  · have hx : ks[i]? = some ks[i] := List.getElem?_eq_getElem hlt
    have hd : (ks.map tupK2)[i]? = some (tupK2 ks[i]) := by
      rw [List.getElem?_map, hx]
      rfl
    refine .inr ⟨w.go i H2 (sg.trans st.gh) (by rw [List.length_map]; exact hlt), fun H' => ∃ m', m' < ks.length - i ∧ (m' = ks.length - (i + 1) ∧ i + 1 ≤ ks.length ∧ ∃ Gi zs, Same G1 Gi ∧ Stq G H Gi H' ∧ Gi D = none ∧ H' D = some (.dT zs) ∧ zs.map (·.1) = ks.take (i + 1)), fun H' h => h, fun x H3 y => ?_⟩
    obtain ⟨G3, s3, r3⟩ := w.yld i Gi H2 x H3 (tupK2 ks[i]) sg st.gh hd y
    have st3 := st.trans s3
    obtain ⟨ρ', hg, hk, hv⟩ := hs ks[i] (List.getElem_mem hlt)
    have e3 : RepE T as G3 (wipeD ρ vs) (wipe σ vs) := (e.up st3.gg).wipe vs
    refine hg as (wipe σ vs) G3 H3 x e3 r3 st3.gh _ fun σ' e' same hl => ⟨?_, ?_⟩
    · rw [wipe_eq (σ := wipe σ vs) hl same]
      exact wipe_eq (by rw [wipe_length]) fun j hj => wipe_at σ vs j hj
    refine et_yes as σ' G3 H3 e' st3.gh _ fun G4 H4 s4 => ?_
    rw [if_pos rfl]
    refine hk as σ' G4 H4 (e'.up s4.gg) s4.gh _ fun v5 G5 H5 s5 r5 => hv as σ' G5 H5 ((e'.up s4.gg).up s5.gg) s5.gh _ fun v6 G6 H6 s6 r6 => ?_
    have s36 := (s4.trans s5).trans s6
    have st6 := st3.trans s36
    have g3D : G3 D = none := s3.fr D List.not_mem_nil gD (by rw [hDi]; intro z; cases z)
    have h3D : H3 D = some (.dT zs) := s3.hs _ _ hDi
    have g6D : G6 D = none := s36.fr D List.not_mem_nil g3D (by rw [h3D]; intro z; cases z)
    have h6D : H6 D = some (.dT zs) := Stq.hs s36 _ _ h3D
    obtain ⟨a, xs, rfl, ht, t2⟩ := dq_tupT (show Dq T.K G6 v5 (.tuple (ks[i].map kD)) from Dq.up s6.gg r5)
    rw [tup_key t2] at ht
    have fresh : valV zs ks[i] = none := by
      cases z : valV zs ks[i] with
      | none => rfl
      | some v =>
        have := valV_in z
        rw [rx] at this
        exact absurd this (nodup_take nd hx)
    have hzl : zs.length ≤ 1000 := by
      have h1 : zs.length = i := by
        have := congrArg List.length rx
        rw [List.length_map, List.length_take] at this
        omega
      omega
    refine ⟨zs, a, ks[i], rfl, st6.gh _ _ ht, h6D, Nat.lt_of_le_of_lt hzl (by decide), ks.length - (i + 1), by omega, rfl, hlt, G6, zs ++ [(ks[i], v6)], sg.trans (s3.gg.trans s36.gg), st6.mut hDH g6D, g6D, ?_, ?_⟩
    · rw [upd_same, putK_new _ fresh]
    · rw [take_succ_of hx, List.map_append, rx]
      rfl
  · have ei : i = ks.length := by omega
    subst ei
    refine .inl ⟨?_, ?_⟩
    · have := w.stop H2 (sg.trans st.gh)
      rw [List.length_map] at this
      exact this
    rw [List.take_length] at rx
    refine ⟨D, zs, rfl, hDi, q _ Gi H2 st ?_⟩
    rw [← rx, List.length_map]
    exact .int _
end
end Rt
/-! texts walked; fixed tuples; sorted pairs; things owned, seen and changed -/
namespace Rt
open PySem PySem.Spec PyProof.Rows L2
/-! ### a text's signs -/
def signD (c : Nat) : PyData := .str ⟨#[c]⟩
section
variable {T : Tx} {te ta tb : TE} {tt tu : TT} {ρ ρ' : En} {ω : List Ow} {d x y z : Dd} {r : R2} {S : Dd → List Ow → Prop} {b : Nat} {N N1 : En → List Ow → Prop} {R : Dd → List Ow → Prop} {t1 t2 ts : TS} {wi : TI} {g : TG} {vs : List Nat} {tas : TA}
theorem walk_s {G : Hp} {x : Str} : WalkD T (Its x) G (x.cps.toList.map signD) where
  stop := fun H s => by
    show x.cps.size ≤ (x.cps.toList.map signD).length
    rw [List.length_map, Array.length_toList]
    exact Nat.le_refl _
  go := fun i H s hi => by
    rw [List.length_map, Array.length_toList] at hi
    exact hi
  yld := fun i G1 H v H' d s1 s2 hd y => by
    obtain ⟨rfl, c, hc, rfl⟩ := y
    rw [List.getElem?_map, Array.getElem?_toList, hc] at hd
    cases Option.some.inj hd
    exact ⟨G1, .refl s2, .str _⟩
theorem ei_str {x : Str} (h : Ev T te ρ (.py (.str x))) : EvI T (iStr te) ρ (x.cps.toList.map signD) := fun as σ G H e g R q => h as σ G H e g _ fun v G2 H2 s r => ⟨x, dq_str r, q _ G2 H2 s walk_s⟩
/-! ### two lists walked together -/
theorem walk_z {G : Hp} {a c : Addr} {xs ys : List V} {ds es : List PyData} (h1 : G a = some (.lst xs)) (h2 : G c = some (.lst ys)) (r1 : DqA T.K G xs ds) (r2 : DqA T.K G ys es) : WalkD T (Itz T.K a c) G ((ds.zip es).map fun p => PyData.tuple [p.1, p.2]) where
  stop := fun H s => ⟨xs, ys, .of (s _ _ h1), .of (s _ _ h2), by
    rw [dqA_len r1, dqA_len r2, List.length_map, List.length_zip]
    omega⟩
  go := fun i H s hi => by
    rw [List.length_map, List.length_zip] at hi
    obtain ⟨v, e1, _⟩ := dqA_get r1 (List.getElem?_eq_getElem (show i < ds.length by omega))
    obtain ⟨u, e2, _⟩ := dqA_get r2 (List.getElem?_eq_getElem (show i < es.length by omega))
    exact ⟨xs, ys, v, u, .of (s _ _ h1), .of (s _ _ h2), e1, e2⟩
  yld := fun i G1 H x H' d s1 s2 hd y => by
    obtain ⟨t, v, u, rfl, hn, rfl, y1, y2⟩ := y
    rw [List.getElem?_map] at hd
    cases z : (ds.zip es)[i]? with
    | none =>
      rw [z] at hd
      cases hd
    | some p =>
      rw [z] at hd
      cases Option.some.inj hd
      obtain ⟨e1, e2⟩ := List.getElem?_zip_eq_some.mp z
      obtain ⟨v', f1, q1⟩ := dqA_get r1 e1
      obtain ⟨u', f2, q2⟩ := dqA_get r2 e2
      have g1 := y1 xs (.of (s2 _ _ (s1 _ _ h1)))
      have g2 := y2 ys (.of (s2 _ _ (s1 _ _ h2)))
      rw [f1] at g1
      rw [f2] at g2
      cases Option.some.inj g1
      cases Option.some.inj g2
      have nn := same_new (o := .tup [v, u]) (s2.free hn)
      exact ⟨_, (Stp.refl s2).new (o := .tup [v, u]) hn, .tup upd_same (.cons (Dq.up (s1.trans nn) q1) (.cons (Dq.up (s1.trans nn) q2) .nil))⟩
theorem ei_zip {ds es : List PyData} (h : EvA T tas ρ [.py (.list ds), .py (.list es)]) : EvI T (iZip T.K tas) ρ ((ds.zip es).map fun p => PyData.tuple [p.1, p.2]) := fun as σ G H e g R q => h as σ G H e g _ fun vs G2 H2 s r => by
  cases r with
  | cons r1 r =>
    cases r with
    | cons r2 r =>
      cases r
      obtain ⟨a, xs, rfl, h1, h2⟩ := dq_lst r1
      obtain ⟨c, ys, rfl, h3, h4⟩ := dq_lst r2
      exact ⟨a, c, xs, ys, rfl, .of (s.gh _ _ h1), .of (s.gh _ _ h3), q _ G2 H2 s (walk_z h1 h3 h2 h4)⟩
/-! ### tuples of the module -/
theorem ei_ktup {xs : List Str} (h : Ev T te ρ (.ktup xs)) : EvI T (iTup T.K te) ρ (xs.map PyData.str) := fun as σ G H e g R q => h as σ G H e g _ fun v G2 H2 s r => by
  obtain ⟨a, rfl, h1⟩ := r
  exact ⟨a, rfl, ⟨_, h1 H2⟩, q _ G2 H2 s (walk_t (h1 G2) (dqA_of_strs xs))⟩
theorem er_niK {x : Str} {xs : List Str} : EvR T (rIn T.K true) (.py (.str x)) (.ktup xs) (.py (.bool (!decide (x ∈ xs)))) := fun as G H v w r1 r2 s Q q => by
  obtain ⟨a, rfl, h1⟩ := r2
  rw [dq_str r1]
  refine ⟨a, _, rfl, .inr (h1 H), rfl, flat_strs xs, q _ G H (.refl s) ?_⟩
  rw [if_pos rfl, inV_strs]
  exact .bl _
theorem er_neK {xs ys : List Str} (h1 : SeqAt.shaped (.tuple (xs.map .str)) = true) (h2 : SeqAt.shaped (.tuple (ys.map .str)) = true) : EvR T (rNeD T.K) (.ktup xs) (.py (.tuple (ys.map .str))) (.py (.bool (!decide (xs = ys)))) := fun as G H v w r1 r2 s Q q => by
  obtain ⟨a, rfl, h3⟩ := r1
  refine ⟨.tuple (xs.map .str), .tuple (ys.map .str), .tup (h3 H) (DqA.dp (dqA_of_strs xs)), (Dq.up s r2).dp, h1, h2, q _ G H (.refl s) ?_⟩
  show Dq T.K G (.bl (!PyData.eqvAll (xs.map .str) (ys.map .str))) _
  rw [eqvAll_strs]
  exact .bl _
theorem er_eqTT {xs ys : List Str} (h1 : SeqAt.shaped (.tuple (xs.map .str)) = true) (h2 : SeqAt.shaped (.tuple (ys.map .str)) = true) : EvR T (rEqD T.K) (.py (.tuple (xs.map .str))) (.py (.tuple (ys.map .str))) (.py (.bool (decide (xs = ys)))) := fun as G H v w r1 r2 s Q q =>
  er_eqD h1 h2 as G H v w r1 r2 s Q fun u G2 H2 s2 r => q u G2 H2 s2 (by
    have e : PyData.eqv (.tuple (xs.map .str)) (.tuple (ys.map .str)) = decide (xs = ys) := eqvAll_strs xs ys
    rw [e] at r
    exact r)
theorem er_neTT {xs ys : List Str} (h1 : SeqAt.shaped (.tuple (xs.map .str)) = true) (h2 : SeqAt.shaped (.tuple (ys.map .str)) = true) : EvR T (rNeD T.K) (.py (.tuple (xs.map .str))) (.py (.tuple (ys.map .str))) (.py (.bool (!decide (xs = ys)))) := fun as G H v w r1 r2 s Q q =>
  er_neD h1 h2 as G H v w r1 r2 s Q fun u G2 H2 s2 r => q u G2 H2 s2 (by
    have e : PyData.eqv (.tuple (xs.map .str)) (.tuple (ys.map .str)) = decide (xs = ys) := eqvAll_strs xs ys
    rw [e] at r
    exact r)
theorem er_neLL {xs ys : List Str} (h1 : SeqAt.shaped (.list (xs.map .str)) = true) (h2 : SeqAt.shaped (.list (ys.map .str)) = true) : EvR T (rNeD T.K) (.py (.list (xs.map .str))) (.py (.list (ys.map .str))) (.py (.bool (!decide (xs = ys)))) := fun as G H v w r1 r2 s Q q =>
  er_neD h1 h2 as G H v w r1 r2 s Q fun u G2 H2 s2 r => q u G2 H2 s2 (by
    have e : PyData.eqv (.list (xs.map .str)) (.list (ys.map .str)) = decide (xs = ys) := eqvAll_strs xs ys
    rw [e] at r
    exact r)
/-! ### and, by truth -/
theorem ev_andI {i : Int} (h1 : Ev T ta ρ (.py (.int i))) (h2 : i ≠ 0 → Ev T tb ρ z) (h0 : i = 0 → z = .py (.int 0)) : Ev T (tAndT T.K ta tb) ρ z := fun as σ G H e g Q q => h1 as σ G H e g _ fun v G1 H1 s1 r1 => by
  rw [dq_int r1]
  refine ⟨i != 0, rfl, ?_⟩
  by_cases hi : i = 0
  · rw [if_neg (by simp [hi])]
    have hz := h0 hi
    subst hz
    rw [hi]
    exact q _ G1 H1 s1 (.int 0)
  · rw [if_pos (by simp [hi])]
    exact h2 hi as σ G1 H1 (e.up s1.gg) s1.gh Q fun v G2 H2 s2 r2 => q v G2 H2 (s1.trans s2) r2
/-! ### two texts in order -/
theorem sorted_two {a c : Str} {ys : List Str} (hp : ys.Perm [a, c]) (hs : sortedS ys = true) : ys = srt2 (a, c) := by
  have key : ys = [a, c] ∨ ys = [c, a] := by
    have hl := hp.length_eq
    match ys, hl with
    | [u, v], _ =>
      have hu : u ∈ [a, c] := hp.subset List.mem_cons_self
      rcases List.mem_cons.mp hu with hu | hu
      · subst hu
        have := (List.perm_cons u).mp hp
        rw [List.perm_singleton.mp this]
        exact .inl rfl
      · have hu := List.mem_singleton.mp hu
        subst hu
        have h2 : [u, v].Perm [u, a] := hp.trans (List.Perm.swap u a [])
        have := (List.perm_cons u).mp h2
        rw [List.perm_singleton.mp this]
        exact .inr rfl
  unfold srt2
  rcases key with rfl | rfl
  · have h : ltCps c.cps.toList a.cps.toList = false := by
      have h2 : (!ltCps c.cps.toList a.cps.toList && true) = true := hs
      simpa using h2
    rw [if_neg (by simp [h])]
  · have h : ltCps a.cps.toList c.cps.toList = false := by
      have h2 : (!ltCps a.cps.toList c.cps.toList && true) = true := hs
      simpa using h2
    by_cases h3 : ltCps c.cps.toList a.cps.toList = true
    · rw [if_pos h3]
    · rw [if_neg h3]
      rw [ltCps_eq] at h h3
      have e1 : ¬ a.cps.toList < c.cps.toList := of_decide_eq_false h
      have e2 : ¬ c.cps.toList < a.cps.toList := fun z => h3 (decide_eq_true z)
      have e : a.cps.toList = c.cps.toList := List.le_antisymm (List.not_lt.mp e2) (List.not_lt.mp e1)
      have e3 : a = c := TL.ext_tl e
      rw [e3]
theorem ecn_srt2 {a c : Str} : EvCN T (rSortedS T.K) [.py (.list [.str a, .str c])] ((srt2 (a, c)).map PyData.str) := fun as G H vs r s Q q => by
  cases r with
  | cons r1 r2 =>
    cases r2
    obtain ⟨p, xs, rfl, h1, h2⟩ := dq_lst r1
    have h2' : DqA T.K G xs ([a, c].map PyData.str) := h2
    rw [dqA_strs h2'] at h1
    refine ⟨p, [a, c], rfl,   .of (s _ _ h1), (by show 2 < 64; decide), fun ys p hp hs hn => ?_⟩
    rw [sorted_two hp hs]
    exact q p _ G H (.refl s) hn (dqA_of_strs _)
end
end Rt
/-! things owned: seen for a while, changed, made known -/
namespace Rt
open PySem PySem.Spec PyProof.Rows L2
section
variable {T : Tx} {te ta tb tv : TE} {tt tu : TT} {ρ ρ' : En} {ω : List Ow} {d x y z : Dd} {r : R2} {S : Dd → List Ow → Prop} {b : Nat} {N N1 : En → List Ow → Prop} {R : Dd → List Ow → Prop} {t1 t2 ts : TS} {wi : TI} {g : TG} {vs : List Nat} {tas : TA}
def Ow.see : Ow → Dd
  | .pool => .cls ""
  | .lst ds => .py (.list ds)
  | .dic kvs => .dic kvs
  | .ins fs => .ins fs
def see (k : Nat) (d : Dd) : Option Dd → Option Dd
  | some (.own j) => if j = k then some d else some (.own j)
  | o => o
def scal : PyData → Bool
  | .list _ => false
  | .tuple _ => false
  | .dict _ => false
  | _ => true
def Ow.ok : Ow → Fl → Prop
  | .pool, _ => False
  | .lst _, .py d => scal d = true
  | .lst _, .dic _ => False
  | .dic _, .py _ => True
  | .dic _, .dic _ => False
  | .ins _, _ => True
mutual
theorem Dq.er {K : PySem.W.Frag} {G : Hp} {p : Addr} (hp : ∀ xs, G p ≠ some (.lst xs) ∧ G p ≠ some (.tup xs)) : ∀ {v : V} {d : PyData}, Dq K G v d → Dq K (er p G) v d
  | _, _, .non => .non
  | _, _, .bl b => .bl b
  | _, _, .int i => .int i
  | _, _, .str x => .str x
  | _, _, .lst (a := a) (xs := xs) h t => .lst (by
    show (if a = p then none else G a) = _
    rw [if_neg (fun z : a = p => (hp xs).1 (z ▸ h))]
    exact h) (DqA.er hp t)
  | _, _, .tup (a := a) (xs := xs) h t => .tup (by
    show (if a = p then none else G a) = _
    rw [if_neg (fun z : a = p => (hp xs).2 (z ▸ h))]
    exact h) (DqA.er hp t)
theorem DqA.er {K : PySem.W.Frag} {G : Hp} {p : Addr} (hp : ∀ xs, G p ≠ some (.lst xs) ∧ G p ≠ some (.tup xs)) : ∀ {vs : List V} {ds : List PyData}, DqA K G vs ds → DqA K (er p G) vs ds
  | _, _, .nil => .nil
  | _, _, .cons h t => .cons (Dq.er hp h) (DqA.er hp t)
end
theorem dq_scal {K : PySem.W.Frag} {G G' : Hp} {v : V} {d : PyData} (hs : scal d = true) (h : Dq K G v d) : Dq K G' v d := by
  cases h with
  | non => exact .non
  | bl b => exact .bl b
  | int i => exact .int i
  | str x => exact .str x
  | lst h t => cases hs
  | tup h t => cases hs
theorem er_rep {as : List Addr} {G H : Hp} {p : Addr} {u : HO} {o : Ow} {x : Fl} {v : V} (hu : G p = some u) (ho : OwR T H (upd H p u) p o) (hx : o.ok x) (h : RepF T.K G x v) : RepF T.K (er p G) x v := by
  cases o with
  | pool => exact hx.elim
  | lst ds =>
    cases x with
    | dic kvs => exact hx.elim
    | py d => exact dq_scal hx h
  | dic kvs =>
    cases x with
    | dic kvs => exact hx.elim
    | py d =>
      obtain ⟨vs, e, _⟩ := ho
      rw [upd_same] at e
      cases e
      exact Dq.er (fun xs => ⟨fun z => (nomatch (hu.symm.trans z)), fun z => (nomatch (hu.symm.trans z))⟩) h
  | ins fs =>
    obtain ⟨dx, vs, e, _⟩ := ho
    rw [upd_same] at e
    cases e
    have hp : ∀ xs, G p ≠ some (.lst xs) ∧ G p ≠ some (.tup xs) := fun xs => ⟨fun z => (nomatch (hu.symm.trans z)), fun z => (nomatch (hu.symm.trans z))⟩
    cases x with
    | py d => exact Dq.er hp h
    | dic kvs =>
      obtain ⟨a, ks, e1, e2, r⟩ := h
      refine ⟨a, ks, e1, ?_, paired_up (fun _ _ q => ⟨q.1, q.2.er hp⟩) r⟩
      show (if a = p then none else G a) = _
      rw [if_neg (fun z : a = p => by rw [z, hu] at e2; cases e2)]
      exact e2
theorem Own.kind {as : List Addr} {G H G' : Hp} {p : Addr} {u : HO} {o : Ow} (hu : H p = some u) (h : OwR T G H p o) : OwR T G (upd G' p u) p o := by
  cases o with
  | pool =>
    obtain ⟨i, j, e, r⟩ := h
    rw [hu] at e
    cases e
    exact ⟨i, j, upd_same, r⟩
  | lst ds =>
    obtain ⟨xs, e, r⟩ := h
    rw [hu] at e
    cases e
    exact ⟨xs, upd_same, r⟩
  | dic kvs =>
    obtain ⟨xs, e, r⟩ := h
    rw [hu] at e
    cases e
    exact ⟨xs, upd_same, r⟩
  | ins fs =>
    obtain ⟨dx, xs, e, r⟩ := h
    rw [hu] at e
    cases e
    exact ⟨dx, xs, upd_same, r⟩
theorem view_core {as : List Addr} {σ : L2.St} {G H : Hp} {k : Nat} {o : Ow} (e : RepE T as G ρ σ) (g : Same G H) (w : Own T as ω G H) (ho : ω[k]? = some o) (hp : o ≠ .pool) : ∃ p u, H p = some u ∧ OwR T G (upd G p u) p o ∧ Same (upd G p u) H ∧ RepE T as (upd G p u) (ρ.map (see k o.see)) σ ∧
    ∀ G2 H2, Stq (upd G p u) H G2 H2 → G2 p = some u ∧ H2 p = some u ∧ Stp as as G H (er p G2) H2 ∧ Own T as ω (er p G2) H2 := by
  have hk := (List.getElem?_eq_some_iff.mp ho).1
  rw [← w.len] at hk
  have hpk : as[k]? = some as[k] := List.getElem?_eq_getElem hk
  obtain ⟨p, hpe⟩ : ∃ p, p = as[k] := ⟨_, rfl⟩
  rw [← hpe] at hpk
  obtain ⟨gp, ow⟩ := w.ow k p o hpk ho
  obtain ⟨u, hu⟩ : ∃ u, H p = some u := by
    cases z : H p with
    | none => exact absurd z ow.there
    | some u => exact ⟨u, rfl⟩
  have gs : Same G (upd G p u) := same_new gp
  have gh : Same (upd G p u) H := fun a v h => by
    by_cases z : a = p
    · subst z
      rw [upd_same] at h
      cases h
      exact hu
    · rw [upd_ne z] at h
      exact g a v h
  have mem : p ∈ as := List.mem_of_getElem? hpk
  refine ⟨p, u, hu, Own.kind (as := as) hu ow, gh, ⟨by rw [List.length_map]; exact e.len, fun i d hi => ?_⟩, fun G2 H2 s => ?_⟩
  · rw [List.getElem?_map] at hi
    cases z : ρ[i]? with
    | none =>
      rw [z] at hi
      cases hi
    | some q =>
      rw [z] at hi
      have hi2 : see k o.see q = some d := Option.some.inj hi
      cases q with
      | none => cases hi2
      | some d0 =>
        obtain ⟨v, f1, f2⟩ := e.at_ i d0 z
        refine ⟨v, f1, ?_⟩
        have f3 := f2.up gs
        cases d0 with
        | own j =>
          have hk2 : (if j = k then some o.see else some (.own j)) = some d := hi2
          by_cases y : j = k
          · rw [if_pos y] at hk2
            cases hk2
            obtain ⟨a, h1, h2⟩ := f3
            rw [y, hpk] at h1
            cases h1
            subst h2
            cases o with
            | pool => exact absurd rfl hp
            | lst ds =>
              obtain ⟨xs, q1, q2⟩ := ow
              rw [hu] at q1
              cases q1
              exact Dq.lst upd_same (DqA.up gs q2)
            | dic kvs =>
              obtain ⟨xs, q1, q2⟩ := ow
              rw [hu] at q1
              cases q1
              exact ⟨p, xs, rfl, upd_same, KvR.up gs q2⟩
            | ins fs =>
              obtain ⟨dx, xs, q1, q2⟩ := ow
              rw [hu] at q1
              cases q1
              exact ⟨p, dx, xs, rfl, upd_same, FsR.up gs q2⟩
          · rw [if_neg y] at hk2
            cases hk2
            exact f3
        | fl x =>
          cases hi2
          exact f3
        | ins fs =>
          cases hi2
          exact f3
        | gro fs gl =>
          cases hi2
          exact f3
        | cls n =>
          cases hi2
          exact f3
        | ktup n =>
          cases hi2
          exact f3
        | klst n =>
          cases hi2
          exact f3
  · have g2p : G2 p = some u := s.gg _ _ upd_same
    have h2p : H2 p = some u := s.gh _ _ g2p
    have e1 : Same G (er p G2) := fun a v h => by
      show (if a = p then none else G2 a) = _
      rw [if_neg (fun z : a = p => by rw [z, gp] at h; cases h)]
      exact s.gg _ _ (gs _ _ h)
    have e2 : Same (er p G2) H2 := fun a v h => by
      have h' : (if a = p then none else G2 a) = some v := h
      by_cases z : a = p
      · rw [if_pos z] at h'
        cases h'
      · rw [if_neg z] at h'
        exact s.gh _ _ h'
    have fr : ∀ a, a ∉ as → G a = none → H a ≠ none → er p G2 a = none := fun a n g1 h1 => by
      show (if a = p then none else G2 a) = _
      have z : a ≠ p := fun z => n (z ▸ mem)
      rw [if_neg z]
      exact s.fr a List.not_mem_nil (by rw [upd_ne z]; exact g1) h1
    refine ⟨g2p, h2p, ⟨e1, e2, fun a v n h => Stq.hs s _ _ h, s.ha, fr, fun _ h n => absurd h n⟩, ⟨w.nd, w.len, fun j a v f1 f2 => ?_⟩⟩
    obtain ⟨g1, o1⟩ := w.ow j a v f1 f2
    refine ⟨?_, o1.up e1 fun v hv => Stq.hs s _ _ hv⟩
    show (if a = p then none else G2 a) = _
    by_cases z : a = p
    · rw [if_pos z]
    · rw [if_neg z]
      exact s.fr a List.not_mem_nil (by rw [upd_ne z]; exact g1) o1.there
/-- what is owned is seen, not changed -/
theorem ew_view (k : Nat) (o : Ow) {x : Fl} (ho : ω[k]? = some o) (h : Ev T te (ρ.map (see k o.see)) (.fl x)) (hx : o.ok x) (s : S (.fl x) ω) : EvW T te ρ ω S := fun as σ G H e g w Q q => by
  have hp : o ≠ .pool := fun z => by
    subst z
    cases x <;> exact hx
  obtain ⟨p, u, hu, ow, gh, e2, fin⟩ := view_core e g w ho hp
  refine h as σ _ H e2 gh Q fun v G2 H2 st r => ?_
  obtain ⟨g2, h2, st2, w2⟩ := fin G2 H2 st
  exact q v _ ω _ H2 s (er_rep (as := as) (H := G) g2 ow hx r) w2 st2
theorem ewt_view (k : Nat) (o : Ow) {c : Bool} {S1 : Bool → List Ow → Prop} (ho : ω[k]? = some o) (hp : o ≠ .pool) (h : EvT T tt (ρ.map (see k o.see)) c) (s : S1 c ω) : EvWT T tt ρ ω S1 := fun as σ G H e g w Q q => by
  obtain ⟨p, u, hu, ow, gh, e2, fin⟩ := view_core e g w ho hp
  refine h as σ _ H e2 gh Q fun G2 H2 st => ?_
  obtain ⟨g2, h2, st2, w2⟩ := fin G2 H2 st
  exact q c ω _ H2 s w2 st2
/-- a new list, made while an instance or a dict is seen -/
theorem ewn_view (k : Nat) (o : Ow) {ds : List PyData} {S1 : List PyData → List Ow → Prop} (ho : ω[k]? = some o) (hp : o.ok (.py (.list ds))) (h : EvN T te (ρ.map (see k o.see)) ds) (s : S1 ds ω) : EvWN T te ρ ω S1 := fun as σ G H e g w Q q => by
  have hp2 : o ≠ .pool := fun z => by
    subst z
    exact hp
  obtain ⟨p, u, hu, ow, gh, e2, fin⟩ := view_core e g w ho hp2
  refine h as σ _ H e2 gh Q fun l xs G2 H2 st hl r => ?_
  obtain ⟨g2, h2, st2, w2⟩ := fin G2 H2 st
  refine q l xs ds ω _ H2 s w2 st2 hl ?_
  have hpp : ∀ xs, G2 p ≠ some (.lst xs) ∧ G2 p ≠ some (.tup xs) := fun xs => by
    rw [g2]
    cases o with
    | pool => exact absurd rfl hp2
    | lst ds => cases hp
    | dic kvs =>
      obtain ⟨vs, e, _⟩ := ow
      rw [upd_same] at e
      cases e
      exact ⟨fun z => (nomatch z), fun z => (nomatch z)⟩
    | ins fs =>
      obtain ⟨dx, vs, e, _⟩ := ow
      rw [upd_same] at e
      cases e
      exact ⟨fun z => (nomatch z), fun z => (nomatch z)⟩
  exact DqA.er hpp r
/-! ### changed -/
theorem Stp.put {as as' : List Addr} {G H G2 H2 : Hp} {p : Addr} {u : HO} (s : Stp as as' G H G2 H2) (hm : p ∈ as) (h2 : G2 p = none) : Stp as as' G H G2 (upd H2 p u) := by
  refine ⟨s.gg, fun a v h => ?_, fun a v n h => ?_, fun a h => ?_, s.fr, s.nw⟩
  · rw [upd_ne (ne_of_none h h2)]
    exact s.gh a v h
  · rw [upd_ne (fun z : a = p => n (z ▸ hm))]
    exact s.hh a v n h
  · by_cases e : a = p
    · subst e
      rw [upd_same]
      intro z
      cases z
    · rw [upd_ne e]
      exact s.ha a h
theorem Own.put {as : List Addr} {G H : Hp} {k : Nat} {p : Addr} {u : HO} {o' : Ow} (w : Own T as ω G H) (hp : as[k]? = some p) (h : OwR T G (upd H p u) p o') : Own T as (ω.set k o') G (upd H p u) := by
  refine ⟨w.nd, by rw [List.length_set]; exact w.len, fun j a o e1 e2 => ?_⟩
  have hj := (List.getElem?_eq_some_iff.mp e1).1
  have hjw : j < ω.length := by rw [← w.len]; exact hj
  by_cases z : k = j
  · subst z
    rw [List.getElem?_set_self hjw] at e2
    cases Option.some.inj e2
    rw [hp] at e1
    cases Option.some.inj e1
    exact ⟨(w.ow k p _ hp (List.getElem?_eq_getElem hjw)).1, h⟩
  · rw [List.getElem?_set_ne z] at e2
    obtain ⟨g1, o1⟩ := w.ow j a o e1 e2
    have ne : a ≠ p := fun y => by
      subst y
      have h1 := (List.getElem?_eq_some_iff.mp e1)
      have h2 := (List.getElem?_eq_some_iff.mp hp)
      exact z ((List.getElem_inj (h₀ := h2.1) (h₁ := h1.1) w.nd).mp (h2.2.trans h1.2.symm))
    exact ⟨g1, o1.up (Same.refl _) fun v hv => by rw [upd_ne ne]; exact hv⟩
theorem own_at {as : List Addr} {σ : L2.St} {G H : Hp} {i k : Nat} (e : RepE T as G ρ σ) (hi : ρ[i]? = some (some (.own k))) : ∃ p, σ[i]? = some (some (.ref p)) ∧ as[k]? = some p := by
  obtain ⟨v, f1, a, f2, f3⟩ := e.at_ i _ hi
  subst f3
  exact ⟨a, f1, f2⟩
def putFl (f : Str) (v : Fl) : List (Str × Fl) → List (Str × Fl)
  | [] => [(f, v)]
  | (g, x) :: r => if g = f then (g, v) :: r else (g, x) :: putFl f v r
theorem fsR_put {K : PySem.W.Frag} {H : Hp} {f : Str} {y : V} {x : Fl} (hy : RepF K H x y) : ∀ {vs : List (Str × V)} {fs : List (Str × Fl)}, FsR K H vs fs → FsR K H (putF f y vs) (putFl f x fs)
  | _, _, .nil => .cons ⟨rfl, hy⟩ .nil
  | (a, v) :: vs, (c, z) :: fs, .cons h t => by
    have h1 : a = c := h.1
    subst h1
    show FsR K H (if a = f then (a, y) :: vs else (a, v) :: putF f y vs) (if a = f then (a, x) :: fs else (a, z) :: putFl f x fs)
    by_cases e : a = f
    · rw [if_pos e, if_pos e]
      exact .cons ⟨rfl, hy⟩ t
    · rw [if_neg e, if_neg e]
      exact .cons h (fsR_put hy t)
/-- x.f = .. -/
theorem go_setf {i k : Nat} {f : Str} (hv : EvW T tv ρ ω S) (hi : ρ[i]? = some (some (.own k))) (c : Cls T.K T.C) (n : NoAttr T.K T.C f) (hs : ∀ d o, S d o → ∃ x fs, d = .fl x ∧ o[k]? = some (.ins fs) ∧ fs.length < 1000 ∧ N ρ (o.set k (.ins (putFl f x fs)))) : Go T (sFld T.K (tVar i) tv f) ρ b ω N R := fun as σ G H e g w D q _ => hv as σ G H e g w _ fun v d o G2 H2 s r w2 s2 => by
  obtain ⟨x, fs, rfl, ho, hl, hn⟩ := hs d o s
  obtain ⟨p, h1, h2⟩ := own_at (H := H) e hi
  obtain ⟨gp, dx, ys, h3, h4⟩ := w2.ow k p _ h2 ho
  refine ⟨.ref p, h1, p, T.C, dx, ys, rfl, h3, c, n, by rw [Paired.length h4]; exact hl, ?_⟩
  exact q as ρ _ σ G2 _ hn (e.up s2.gg) (w2.put h2 ⟨dx, _, upd_same, fsR_put r h4⟩) rfl (s2.put (List.mem_of_getElem? h2) gp)
/-- xs.append(..) -/
theorem go_append {i k : Nat} (hv : EvW T tv ρ ω S) (hi : ρ[i]? = some (some (.own k))) (h0 : ∃ ds, ω[k]? = some (.lst ds)) (hs : ∀ d o, S d o → ∃ x ds, d = .py x ∧ o[k]? = some (.lst ds) ∧ ds.length ≤ 1000 ∧ N ρ (o.set k (.lst (ds ++ [x])))) : Go T (tDrop (tBM T.K "list" rAppend (tVar i) (tCons tv tNil))) ρ b ω N R := fun as σ G H e g w D q _ => by
  obtain ⟨p, h1, h2⟩ := own_at (H := H) e hi
  obtain ⟨ds0, hd0⟩ := h0
  obtain ⟨gp0, xs0, f1, f2⟩ := w.ow k p _ h2 hd0
  refine ⟨.ref p, h1, .inl ⟨rfl, xs0, .of f1⟩, hv as σ G H e g w _ fun v d o G2 H2 s r w2 s2 => ?_⟩
  obtain ⟨x, ds, rfl, ho, hl, hn⟩ := hs d o s
  obtain ⟨gp, ys, h3, h4⟩ := w2.ow k p _ h2 ho
  refine ⟨p, ys, v, rfl, rfl, h3, by rw [dqA_len h4]; exact Nat.lt_of_le_of_lt hl (by decide), ?_⟩
  exact q as ρ _ σ G2 _ hn (e.up s2.gg) (w2.put h2 ⟨_, upd_same, dqA_app h4 (.cons r .nil)⟩) rfl (s2.put (List.mem_of_getElem? h2) gp)
/-- xs.extend(..) by a list -/
theorem go_extend {i k : Nat} (hv : EvW T tv ρ ω S) (hi : ρ[i]? = some (some (.own k))) (h0 : ∃ ds, ω[k]? = some (.lst ds)) (hs : ∀ d o, S d o → ∃ es ds, d = .py (.list es) ∧ o[k]? = some (.lst ds) ∧ ds.length + es.length ≤ 1000 ∧ N ρ (o.set k (.lst (ds ++ es)))) : Go T (tDrop (tBM T.K "list" rExtend (tVar i) (tCons tv tNil))) ρ b ω N R := fun as σ G H e g w D q _ => by
  obtain ⟨p, h1, h2⟩ := own_at (H := H) e hi
  obtain ⟨ds0, hd0⟩ := h0
  obtain ⟨gp0, xs0, f1, f2⟩ := w.ow k p _ h2 hd0
  refine ⟨.ref p, h1, .inl ⟨rfl, xs0, .of f1⟩, hv as σ G H e g w _ fun v d o G2 H2 s r w2 s2 => ?_⟩
  obtain ⟨es, ds, rfl, ho, hl, hn⟩ := hs d o s
  obtain ⟨gp, ys, h3, h4⟩ := w2.ow k p _ h2 ho
  obtain ⟨a, zs, rfl, h5, h6⟩ := dq_lst r
  refine ⟨p, a, ys, zs, rfl, rfl, h3, s2.gh _ _ h5, by rw [dqA_len h4, dqA_len h6]; exact Nat.le_trans hl (by decide), ?_⟩
  exact q as ρ _ σ G2 _ hn (e.up s2.gg) (w2.put h2 ⟨_, upd_same, dqA_app h4 h6⟩) rfl (s2.put (List.mem_of_getElem? h2) gp)
/-- xs.pop(i) -/
theorem ew_pop {i k : Nat} {S1 : Dd → List Ow → Prop} (hv : EvW T tv ρ ω S) (hi : ρ[i]? = some (some (.own k))) (h0 : ∃ ds, ω[k]? = some (.lst ds)) (hs : ∀ d o, S d o → ∃ (j : Nat) (ds : List PyData) (x : PyData), d = .py (.int j) ∧ j < 1000 ∧ o[k]? = some (.lst ds) ∧ ds[j]? = some x ∧ S1 (.py x) (o.set k (.lst (ds.eraseIdx j)))) : EvW T (tBM T.K "list" rPopAt (tVar i) (tCons tv tNil)) ρ ω S1 := fun as σ G H e g w Q q => by
  obtain ⟨p, h1, h2⟩ := own_at (H := H) e hi
  obtain ⟨ds0, hd0⟩ := h0
  obtain ⟨gp0, xs0, f1, f2⟩ := w.ow k p _ h2 hd0
  refine ⟨.ref p, h1, .inl ⟨rfl, xs0, .of f1⟩, hv as σ G H e g w _ fun v d o G2 H2 s r w2 s2 => ?_⟩
  obtain ⟨j, ds, x, rfl, hj, ho, hx, hn⟩ := hs d o s
  obtain ⟨gp, ys, h3, h4⟩ := w2.ow k p _ h2 ho
  obtain ⟨y, hy, ry⟩ := dqA_get h4 hx
  have hl := (List.getElem?_eq_some_iff.mp hy).1
  refine ⟨p, ys, (j : Int), j, y, rfl, by rw [dq_int r], h3, by omega, by omega, ?_, hy, ?_⟩
  · have e1 : ¬ (j : Int) < 0 := by omega
    have e2 : (j : Int) < (ys.length : Int) := by omega
    have e3 : (0 : Int) ≤ (j : Int) := by omega
    simp only [seqIndex?, e1, if_false, e2, e3, decide_true, Bool.and_self, if_true, Int.toNat_natCast]
  · exact q y _ _ G2 _ hn ry (w2.put h2 ⟨_, upd_same, dqA_erase j h4⟩) (s2.put (List.mem_of_getElem? h2) gp)
def putD (kvs : List (Key × PyData)) (k : Key) (v : PyData) : List (Key × PyData) :=
  if (kvs.any fun kv => decide (kv.1 = k)) = true then kvs.map (fun kv => if kv.1 = k then (kv.1, v) else kv) else kvs ++ [(k, v)]
theorem kvR_put {K : PySem.W.Frag} {H : Hp} {k : Key} {v : V} {d : PyData} (hv : Dq K H v d) {ks : List (Key × V)} {kvs : List (Key × PyData)} (r : KvR K H ks kvs) : KvR K H (putK ks k v) (putD kvs k d) := by
  have e : (ks.any fun kv => decide (kv.1 = k)) = (kvs.any fun kv => decide (kv.1 = k)) := by
    induction r with
    | nil => rfl
    | cons h t ih => rw [List.any_cons, List.any_cons, ih, h.1]
  unfold putK putD
  rw [e]
  by_cases c : (kvs.any fun kv => decide (kv.1 = k)) = true
  · rw [if_pos c, if_pos c]
    clear c e
    induction r with
    | nil => exact .nil
    | @cons a q l m h t ih =>
      refine .cons ?_ ih
      show (if a.1 = k then (a.1, v) else a).1 = (if q.1 = k then (q.1, d) else q).1 ∧ Dq K H (if a.1 = k then (a.1, v) else a).2 (if q.1 = k then (q.1, d) else q).2
      by_cases z : q.1 = k
      · rw [if_pos z, if_pos (h.1.trans z)]
        exact ⟨h.1, hv⟩
      · rw [if_neg z, if_neg (fun y => z (h.1.symm.trans y))]
        exact h
  · rw [if_neg c, if_neg c]
    exact kvR_snoc r hv
/-- d[k] = .. -/
theorem go_dput {i k : Nat} {ky : Key} (hv : EvW T tv ρ ω S) (hk : Ev T tb ρ (.py (kD ky))) (hi : ρ[i]? = some (some (.own k))) (hs : ∀ d o, S d o → ∃ x kvs, d = .py x ∧ o[k]? = some (.dic kvs) ∧ kvs.length ≤ 1000 ∧ N ρ (o.set k (.dic (putD kvs ky x)))) : Go T (sDPut (tVar i) tb tv) ρ b ω N R := fun as σ G H e g w D q _ => hv as σ G H e g w _ fun v d o G2 H2 s r w2 s2 => by
  obtain ⟨x, kvs, rfl, ho, hl, hn⟩ := hs d o s
  obtain ⟨p, h1, h2⟩ := own_at (H := H) e hi
  refine ⟨.ref p, h1, hk as σ G2 H2 (e.up s2.gg) s2.gh _ fun y G3 H3 s3 r3 => ?_⟩
  have w3 := w2.step s3
  obtain ⟨gp, ys, h3, h4⟩ := w3.ow k p _ h2 ho
  rw [kD_rep r3]
  refine ⟨p, _, rfl, DPut.k h3 (by rw [Paired.length h4]; exact Nat.lt_of_le_of_lt hl (by decide)), ?_⟩
  have s4 := s2.trans s3.any
  exact q as ρ _ σ G3 _ hn (e.up s4.gg) (w3.put h2 ⟨_, upd_same, kvR_put (Dq.up s3.gg r) h4⟩) rfl (s4.put (List.mem_of_getElem? h2) gp)
/-! ### made, made known -/
/-- a new thing, to be owned -/
def EvWO' (T : Tx) (te : TE) (ρ : En) (ω : List Ow) (S : Ow → List Ow → Prop) : Prop := ∀ as σ G H, RepE T as G ρ σ → Same G H → Own T as ω G H → ∀ Q : VK, (∀ p u o ω' G2 H2, S o ω' → Own T as ω' G2 H2 → Stp as as G H G2 H2 → H2 p = none → OwR T G2 (upd H2 p u) p o → Q (.ref p) (upd H2 p u)) → te σ H Q
theorem EvWN.o {S1 : List PyData → List Ow → Prop} {S2 : Ow → List Ow → Prop} (h : EvWN T te ρ ω S1) (k : ∀ ds o, S1 ds o → S2 (.lst ds) o) : EvWO' T te ρ ω S2 := fun as σ G H e g w Q q => h as σ G H e g w Q fun p xs ds o G2 H2 s w2 s2 hp r => q p _ _ o G2 H2 (k ds o s) w2 s2 hp ⟨xs, upd_same, r⟩
theorem go_newo {i : Nat} {S : Ow → List Ow → Prop} (h : EvWO' T te ρ ω S) (k : ∀ u o, S u o → Go T t2 (ρ.set i (some (.own o.length))) b (o ++ [u]) N R) (hb : b ≤ ω.length) : Go T (tSeq (tAsg te (gName i)) t2) ρ b ω N R := by
  intro as σ G H e g w D q q2
  show te σ H fun x H1 => gName i x σ H1 { D with nx := t2 D }.nx
  refine h as σ G H e g w _ fun p u uo o G2 H2 hs w2 s2 hp r2 => ?_
  have gp : G2 p = none := s2.gh.free hp
  have nas : p ∉ as := fun ha => by
    obtain ⟨k, hk, e1⟩ := List.mem_iff_getElem.mp ha
    have hk2 : k < o.length := by rw [← w2.len]; exact hk
    exact ((w2.ow k p o[k] (by rw [List.getElem?_eq_getElem hk, e1]) (List.getElem?_eq_getElem hk2)).2.there) hp
  have s3 : Stp as (as ++ [p]) G H G2 (upd H2 p u) := by
    have s4 := s2.hid (o := u) hp
    refine ⟨s4.gg, s4.gh, s4.hh, s4.ha, s4.fr, fun a ha n => ?_⟩
    rcases List.mem_append.mp ha with z | z
    · exact absurd z n
    · rw [List.mem_singleton.mp z]
      cases y : H p with
      | none => rfl
      | some u => exact absurd hp (s2.ha p (by rw [y]; intro z; cases z))
  have w3 : Own T (as ++ [p]) (o ++ [uo]) G2 (upd H2 p u) := by
    refine ⟨List.nodup_append.mpr ⟨w2.nd, by simp, fun a ha c hc z => ?_⟩, by rw [List.length_append, List.length_append, w2.len]; rfl, fun k a v e1 e2 => ?_⟩
    · rw [List.mem_singleton.mp hc] at z
      exact nas (z ▸ ha)
    · by_cases hk : k < as.length
      · rw [List.getElem?_append_left hk] at e1
        rw [List.getElem?_append_left (by rw [← w2.len]; exact hk)] at e2
        obtain ⟨g1, o1⟩ := w2.ow k a v e1 e2
        refine ⟨g1, o1.up (Same.refl _) fun v hv => ?_⟩
        rw [upd_ne (ne_of_none hv hp)]
        exact hv
      · have hk2 : k = as.length := by
          have := (List.getElem?_eq_some_iff.mp e1).1
          rw [List.length_append] at this
          simp at this
          omega
        subst hk2
        rw [List.getElem?_append_right (Nat.le_refl _), Nat.sub_self] at e1
        rw [w2.len, List.getElem?_append_right (Nat.le_refl _), Nat.sub_self] at e2
        cases Option.some.inj e1
        cases Option.some.inj e2
        exact ⟨gp, r2⟩
  have e3 : RepE T (as ++ [p]) G2 (ρ.set i (some (.own o.length))) (σ.set i (some (.ref p))) := by
    have e2 : RepE T (as ++ [p]) G2 ρ σ := ⟨e.len, fun j d hj => by
      obtain ⟨v, f1, f2⟩ := e.at_ j d hj
      refine ⟨v, f1, ?_⟩
      have f3 := f2.up s2.gg
      cases d with
      | fl x => exact f3
      | ins fs => exact f3
      | cls n => exact f3
      | ktup n => exact f3
      | klst n => exact f3
      | gro fs gl =>
        obtain ⟨a, dx, b, d, h1, h2, h3, h4⟩ := f3
        refine ⟨a, dx, b, d, h1, h2, ?_, h4⟩
        rw [List.getElem?_append_left (List.getElem?_eq_some_iff.mp h3).1]
        exact h3
      | own k =>
        obtain ⟨a, h1, h2⟩ := f3
        refine ⟨a, ?_, h2⟩
        rw [List.getElem?_append_left (List.getElem?_eq_some_iff.mp h1).1]
        exact h1⟩
    refine e2.set i ⟨p, ?_, rfl⟩
    rw [← w2.len, List.getElem?_append_right (Nat.le_refl _), Nat.sub_self]
    rfl
  have tkb : (as ++ [p]).take b = as.take b := List.take_append_of_le_length (by rw [w.len]; exact hb)
  exact k uo o hs (as ++ [p]) _ G2 _ e3 s3.gh w3 D (fun as4 ρ4 o4 σ4 G4 H4 hn e4 w4 tk4 s4 => q as4 ρ4 o4 σ4 G4 H4 hn e4 w4 (tk4.trans tkb) (s3.trans s4)) (fun as4 d o4 v G4 H4 hr r4 w4 tk4 s4 => q2 as4 d o4 v G4 H4 hr r4 w4 (tk4.trans tkb) (s3.trans s4))
/-- the last owned thing is from here on known -/
theorem go_frz {o : Ow} (hpo : o ≠ .pool) (hb : b ≤ ω.length) (k : Go T ts (ρ.map (thaw ω.length o.see)) b ω N R) : Go T ts ρ b (ω ++ [o]) N R := by
  intro as σ G H e g w D q q2
  have hl : as.length = ω.length + 1 := by
    rw [w.len, List.length_append]
    rfl
  obtain ⟨es, p, rfl⟩ : ∃ es p, as = es ++ [p] := by
    rcases List.eq_nil_or_concat as with z | ⟨es, p, z⟩
    · rw [z] at hl
      cases hl
    · exact ⟨es, p, by rw [z, List.concat_eq_append]⟩
  have hle : es.length = ω.length := by
    rw [List.length_append] at hl
    simpa using hl
  have hp : (es ++ [p])[es.length]? = some p := by
    rw [List.getElem?_append_right (Nat.le_refl _), Nat.sub_self]
    rfl
  obtain ⟨gp, ow⟩ := w.ow es.length p o hp (by
    rw [hle, List.getElem?_append_right (Nat.le_refl _), Nat.sub_self]
    rfl)
  obtain ⟨u, hx⟩ : ∃ u, H p = some u := by
    cases z : H p with
    | none => exact absurd z ow.there
    | some u => exact ⟨u, rfl⟩
  have npe : p ∉ es := by
    have := (List.nodup_append.mp w.nd).2.2
    exact fun z => this p z p (by simp) rfl
  have gs : Same G (upd G p u) := same_new gp
  have gh2 : Same (upd G p u) H := fun a v h => by
    by_cases z : a = p
    · subst z
      rw [upd_same] at h
      cases h
      exact hx
    · rw [upd_ne z] at h
      exact g a v h
  have s1 : Stp (es ++ [p]) es G H (upd G p u) H := by
    refine ⟨gs, gh2, fun _ _ _ h => h, fun _ h => h, fun a n h1 h2 => ?_, fun a h n => absurd (List.mem_append_left _ h) n⟩
    have z : a ≠ p := fun z => n (by rw [z]; simp)
    rw [upd_ne z]
    exact h1
  have w1 : Own T es ω (upd G p u) H := by
    refine ⟨(List.nodup_append.mp w.nd).1, hle, fun j a v f1 f2 => ?_⟩
    have hj := (List.getElem?_eq_some_iff.mp f1).1
    obtain ⟨g1, o1⟩ := w.ow j a v (by rw [List.getElem?_append_left hj]; exact f1) (by rw [List.getElem?_append_left (by rw [← hle]; exact hj)]; exact f2)
    have z : a ≠ p := fun z => npe (z ▸ List.mem_of_getElem? f1)
    exact ⟨by rw [upd_ne z]; exact g1, o1.up gs fun v hv => hv⟩
  have e1 : RepE T es (upd G p u) (ρ.map (thaw ω.length o.see)) σ := by
    refine ⟨by rw [List.length_map]; exact e.len, fun i d hi => ?_⟩
    rw [List.getElem?_map] at hi
    cases hq : ρ[i]? with
    | none =>
      rw [hq] at hi
      cases hi
    | some oq =>
      rw [hq] at hi
      have hi2 : thaw ω.length o.see oq = some d := Option.some.inj hi
      cases oq with
      | none => cases hi2
      | some d0 =>
        obtain ⟨v, f1, f2⟩ := e.at_ i d0 hq
        refine ⟨v, f1, ?_⟩
        have f3 := f2.up gs
        cases d0 with
        | fl x =>
          cases hi2
          exact f3
        | ins fs =>
          cases hi2
          exact f3
        | cls n =>
          cases hi2
          exact f3
        | ktup n =>
          cases hi2
          exact f3
        | klst n =>
          cases hi2
          exact f3
        | gro fs gl =>
          cases hi2
        | own k =>
          have hk : (if k = ω.length then some o.see else some (.own k)) = some d := hi2
          obtain ⟨a, h1, h2⟩ := f3
          by_cases z : k = ω.length
          · rw [if_pos z] at hk
            cases hk
            rw [z, ← hle, hp] at h1
            cases h1
            subst h2
            cases o with
            | pool => exact absurd rfl hpo
            | lst ds =>
              obtain ⟨xs, q1, q2⟩ := ow
              rw [hx] at q1
              cases q1
              exact Dq.lst upd_same (DqA.up gs q2)
            | dic kvs =>
              obtain ⟨xs, q1, q2⟩ := ow
              rw [hx] at q1
              cases q1
              exact ⟨p, xs, rfl, upd_same, KvR.up gs q2⟩
            | ins fs =>
              obtain ⟨dx, xs, q1, q2⟩ := ow
              rw [hx] at q1
              cases q1
              exact ⟨p, dx, xs, rfl, upd_same, FsR.up gs q2⟩
          · rw [if_neg z] at hk
            cases hk
            refine ⟨a, ?_, h2⟩
            have hk2 := (List.getElem?_eq_some_iff.mp h1).1
            rw [List.length_append] at hk2
            have hk3 : k < es.length := by
              rw [hle]
              simp at hk2
              omega
            rw [List.getElem?_append_left hk3] at h1
            exact h1
  have tkb : es.take b = (es ++ [p]).take b := (List.take_append_of_le_length (by rw [hle]; exact hb)).symm
  exact k es σ (upd G p u) H e1 gh2 w1 D (fun as4 ρ4 o4 σ4 G4 H4 hn e4 w4 tk4 s4 => q as4 ρ4 o4 σ4 G4 H4 hn e4 w4 (tk4.trans tkb) (s1.trans s4)) (fun as4 d o4 v G4 H4 hr r4 w4 tk4 s4 => q2 as4 d o4 v G4 H4 hr r4 w4 (tk4.trans tkb) (s1.trans s4))
end
end Rt
/-! changes by a known value, and the rest -/
namespace Rt
open PySem PySem.Spec PyProof.Rows L2
section
variable {T : Tx} {te ta tb tv : TE} {tt tu : TT} {ρ ρ' : En} {ω : List Ow} {d x y z : Dd} {r : R2} {S : Dd → List Ow → Prop} {b : Nat} {N N1 : En → List Ow → Prop} {R : Dd → List Ow → Prop} {t1 t2 ts : TS} {wi : TI} {g : TG} {vs : List Nat} {tas : TA}
theorem go_andthen {o' : List Ow} (h : Go T t1 ρ b ω (fun ρ' o => ρ' = ρ ∧ o = o') R) (k : Go T t2 ρ b o' N R) : Go T (tSeq t1 t2) ρ b ω N R := go_seq h fun ρ' o ⟨e1, e2⟩ => by
  subst e1 e2
  exact k
theorem go_appendp {i k : Nat} {x : PyData} {ds : List PyData} (hv : Ev T tv ρ (.py x)) (hi : ρ[i]? = some (some (.own k))) (ho : ω[k]? = some (.lst ds)) (hl : ds.length ≤ 1000) (kk : Go T t2 ρ b (ω.set k (.lst (ds ++ [x]))) N R) : Go T (tSeq (tDrop (tBM T.K "list" rAppend (tVar i) (tCons tv tNil))) t2) ρ b ω N R :=
  go_andthen (go_append (S := fun d o => d = .py x ∧ o = ω) (hv.w ⟨rfl, rfl⟩) hi ⟨ds, ho⟩ fun d o ⟨e1, e2⟩ => ⟨x, ds, e1, e2 ▸ ho, hl, rfl, by rw [e2]⟩) kk
theorem go_extendp {i k : Nat} {es ds : List PyData} (hv : Ev T tv ρ (.py (.list es))) (hi : ρ[i]? = some (some (.own k))) (ho : ω[k]? = some (.lst ds)) (hl : ds.length + es.length ≤ 1000) (kk : Go T t2 ρ b (ω.set k (.lst (ds ++ es))) N R) : Go T (tSeq (tDrop (tBM T.K "list" rExtend (tVar i) (tCons tv tNil))) t2) ρ b ω N R :=
  go_andthen (go_extend (S := fun d o => d = .py (.list es) ∧ o = ω) (hv.w ⟨rfl, rfl⟩) hi ⟨ds, ho⟩ fun d o ⟨e1, e2⟩ => ⟨es, ds, e1, e2 ▸ ho, hl, rfl, by rw [e2]⟩) kk
theorem go_setfp {i k : Nat} {f : Str} {x : Fl} {fs : List (Str × Fl)} (hv : EvW T tv ρ ω fun d o => d = .fl x ∧ o = ω) (hi : ρ[i]? = some (some (.own k))) (c : Cls T.K T.C) (n : NoAttr T.K T.C f) (ho : ω[k]? = some (.ins fs)) (hl : fs.length < 1000) (kk : Go T t2 ρ b (ω.set k (.ins (putFl f x fs))) N R) : Go T (tSeq (sFld T.K (tVar i) tv f) t2) ρ b ω N R :=
  go_andthen (go_setf hv hi c n fun d o ⟨e1, e2⟩ => ⟨x, fs, e1, e2 ▸ ho, hl, rfl, by rw [e2]⟩) kk
/-- a new list, of known items -/
theorem go_newlp {i : Nat} {ds : List PyData} (h : EvN T te ρ ds) (hb : b ≤ ω.length) (k : Go T t2 (ρ.set i (some (.own ω.length))) b (ω ++ [.lst ds]) N R) : Go T (tSeq (tAsg te (gName i)) t2) ρ b ω N R :=
  go_newo (S := fun u o => u = .lst ds ∧ o = ω) (EvWN.o (h.w (S := fun d o => d = ds ∧ o = ω) ⟨rfl, rfl⟩) fun d o ⟨e1, e2⟩ => ⟨by rw [e1], e2⟩) (fun u o ⟨e1, e2⟩ => by
    subst e1 e2
    exact k) hb
theorem eqvAll_ints : ∀ xs : List Int, PyData.eqvAll (xs.map .int) (xs.map .int) = true
  | [] => rfl
  | x :: xs => by
    show ((x == x) && PyData.eqvAll (xs.map .int) (xs.map .int)) = true
    rw [eqvAll_ints xs, beq_self_eq_true]
    rfl
theorem shaped_ints (xs : List Int) : SeqAt.shaped (.list (xs.map .int)) = true := (shaped_of fun d hd => by
  obtain ⟨x, hx, rfl⟩ := List.mem_map.mp hd
  exact ⟨rfl, by show 0 ≤ 10; decide⟩).1
theorem er_eqIs {xs : List Int} : EvR T (rEqD T.K) (.py (.list (xs.map .int))) (.py (.list (xs.map .int))) (.py (.bool true)) := fun as G H v w r1 r2 s Q q => er_eqD (shaped_ints xs) (shaped_ints xs) as G H v w r1 r2 s Q fun u G2 H2 s2 r => q u G2 H2 s2 (by
  have e : PyData.eqv (.list (xs.map .int)) (.list (xs.map .int)) = true := eqvAll_ints xs
  rw [e] at r
  exact r)
end
end Rt
namespace Rt
open PySem PySem.Spec PyProof.Rows L2
open C8 (Cal Met Mak pe_c pe_mt pe_mt0 pe_mk)
/-! ### the text by places -/
theorem bt_isinstance : bootBuiltins "isinstance" = some (.builtin "isinstance") := by decide +kernel
theorem bt_len : bootBuiltins "len" = some (.builtin "len") := by decide +kernel
theorem bt_all : bootBuiltins "all" = some (.builtin "all") := by decide +kernel
theorem bt_any : bootBuiltins "any" = some (.builtin "any") := by decide +kernel
theorem bt_sum : bootBuiltins "sum" = some (.builtin "sum") := by decide +kernel
theorem bt_zip : bootBuiltins "zip" = some (.type "zip") := by decide +kernel
theorem bt_sorted : bootBuiltins "sorted" = some (.builtin "sorted") := by decide +kernel
theorem bt_range : bootBuiltins "range" = some (.type "range") := by decide +kernel
theorem bt_max : bootBuiltins "max" = some (.builtin "max") := by decide +kernel
theorem bt_min : bootBuiltins "min" = some (.builtin "min") := by decide +kernel
theorem bt_int : bootBuiltins "int" = some (.type "int") := by decide +kernel
theorem bt_bool : bootBuiltins "bool" = some (.type "bool") := by decide +kernel
theorem bt_str : bootBuiltins "str" = some (.type "str") := by decide +kernel
theorem bt_list : bootBuiltins "list" = some (.type "list") := by decide +kernel
theorem bt_tuple : bootBuiltins "tuple" = some (.type "tuple") := by decide +kernel
theorem bt_dict : bootBuiltins "dict" = some (.type "dict") := by decide +kernel
theorem hu65 {A : Around} {k : Nat} (hr : Room k A) : A.units + 65 < cLine := by
  have := hr.un
  omega
structure Wt (T : Tx) (mg : Str → Option Value) : Prop where
  fn_is_whole : FnP T.K mg "is_whole" s_is_whole
  fn_is_number : FnP T.K mg "is_number" s_is_number
  fn_is_word : FnP T.K mg "is_word" s_is_word
  fn_is_row : FnP T.K mg "is_row" s_is_row
  fn_are_unlike : FnP T.K mg "are_unlike" s_are_unlike
  fn_are_tuples : FnP T.K mg "are_tuples" s_are_tuples
  fn_are_skills_of : FnP T.K mg "are_skills_of" s_are_skills_of
  fn_in_order : FnP T.K mg "in_order" s_in_order
  fn_is_build : FnP T.K mg "is_build" s_is_build
  fn_look_at_build : FnP T.K mg "look_at_build" s_look_at_build
  fn_mask_of : FnP T.K mg "mask_of" s_mask_of
  fn_build_by : FnP T.K mg "build_by" s_build_by
  fn_size_of : FnP T.K mg "size_of" s_size_of
  fn_is_let : FnP T.K mg "is_let" s_is_let
  fn_points_let : FnP T.K mg "points_let" s_points_let
  fn_does_hold : FnP T.K mg "does_hold" s_does_hold
  fn_holds : FnP T.K mg "holds" s_holds
  fn_look_at_good : FnP T.K mg "look_at_good" s_look_at_good
  fn_are_skills : FnP T.K mg "are_skills" s_are_skills
  fn_are_needs : FnP T.K mg "are_needs" s_are_needs
  fn_is_want : FnP T.K mg "is_want" s_is_want
  fn_are_bars : FnP T.K mg "are_bars" s_are_bars
  fn_are_numbered : FnP T.K mg "are_numbered" s_are_numbered
  fn_look_at_parts : FnP T.K mg "look_at_parts" s_look_at_parts
  fn_growth : FnP T.K mg "growth" s_growth
  fn_is_grown : FnP T.K mg "is_grown" s_is_grown
  fn_look_at_kind : FnP T.K mg "look_at_kind" s_look_at_kind
  fn_names_in : FnP T.K mg "names_in" s_names_in
  fn_fallen_once : FnP T.K mg "fallen_once" s_fallen_once
  fn_fallen : FnP T.K mg "fallen" s_fallen
  fn_regrown : FnP T.K mg "regrown" s_regrown
  fn_carried_mask : FnP T.K mg "carried_mask" s_carried_mask
  fn_carried : FnP T.K mg "carried" s_carried
  fn_lost : FnP T.K mg "lost" s_lost
  fn_law_pool : FnP T.K mg "_law_pool" s_law_pool
  fn_law_take : FnP T.K mg "_law_take" s_law_take
  fn_law_one : FnP T.K mg "_law_one" s_law_one
  fn_law_turned : FnP T.K mg "_law_turned" s_law_turned
  fn_law_tree : FnP T.K mg "_law_tree" s_law_tree
  fn_law_rows : FnP T.K mg "_law_rows" s_law_rows
  fn_law_book : FnP T.K mg "_law_book" s_law_book
  fn_law_made : FnP T.K mg "_law_made" s_law_made
  fn_law_names : FnP T.K mg "_law_names" s_law_names
  fn_law_tier : FnP T.K mg "_law_tier" s_law_tier
  fn_law_need : FnP T.K mg "_law_need" s_law_need
  fn_law_order : FnP T.K mg "_law_order" s_law_order
  fn_law_is_row_met : FnP T.K mg "_law_is_row_met" s_law_is_row_met
  fn_law_below : FnP T.K mg "_law_below" s_law_below
  fn_law_is_met : FnP T.K mg "_law_is_met" s_law_is_met
  fn_law_size_let : FnP T.K mg "_law_size_let" s_law_size_let
  fn_law_holds : FnP T.K mg "_law_holds" s_law_holds
  fn_law_subsets : FnP T.K mg "_law_subsets" s_law_subsets
  fn_law_all : FnP T.K mg "_law_all" s_law_all
  fn_law_small : FnP T.K mg "_law_small" s_law_small
  fn_law_any_sort : FnP T.K mg "_law_any_sort" s_law_any_sort
  fn_law_fallen : FnP T.K mg "_law_fallen" s_law_fallen
  fn_law_regrown : FnP T.K mg "_law_regrown" s_law_regrown
  fn_law_carried : FnP T.K mg "_law_carried" s_law_carried
  fn_law_other_book : FnP T.K mg "_law_other_book" s_law_other_book
  fn_law : FnP T.K mg "law" s_law
  m_isinstance : mg "isinstance" = none
  m_len : mg "len" = none
  m_all : mg "all" = none
  m_any : mg "any" = none
  m_sum : mg "sum" = none
  m_zip : mg "zip" = none
  m_sorted : mg "sorted" = none
  m_range : mg "range" = none
  m_max : mg "max" = none
  m_min : mg "min" = none
  m_int : mg "int" = none
  m_bool : mg "bool" = none
  m_str : mg "str" = none
  m_list : mg "list" = none
  m_tuple : mg "tuple" = none
  m_dict : mg "dict" = none
  m_MOST_LETTERS : ∃ u, mg "MOST_LETTERS" = some u ∧ RelV (.int 8) u
  m_MOST_SKILLS : ∃ u, mg "MOST_SKILLS" = some u ∧ RelV (.int 12) u
  m_MOST_TIERS : ∃ u, mg "MOST_TIERS" = some u ∧ RelV (.int 4) u
  m_MOST_POINTS : ∃ u, mg "MOST_POINTS" = some u ∧ RelV (.int 12) u
  m_MOST_WANTS : ∃ u, mg "MOST_WANTS" = some u ∧ RelV (.int 12) u
  m_MOST_BARS : ∃ u, mg "MOST_BARS" = some u ∧ RelV (.int 6) u
  m_MOST_GIVEN : ∃ u, mg "MOST_GIVEN" = some u ∧ RelV (.int 3) u
  m_MOST_PRICE : ∃ u, mg "MOST_PRICE" = some u ∧ RelV (.int 99) u
  m_LETTERS : ∃ u, mg "LETTERS" = some u ∧ RelV (.str "abcdefghijklmnopqrstuvwxyz") u
  m_PARTS : ∃ u, mg "PARTS" = some u ∧ RelV (.ref (He.ga T.K "PARTS")) u
  m_KINDS : ∃ u, mg "KINDS" = some u ∧ RelV (.ref (He.ga T.K "KINDS")) u
  t_PARTS : ∀ H : Hp, SqT T.K H (He.ga T.K "PARTS") [.str "skills", .str "points", .str "needs", .str "wants", .str "bars", .str "gives", .str "prices", .str "reset"]
  t_KINDS : ∀ H : Hp, SqT T.K H (He.ga T.K "KINDS") [.str "fall", .str "grown", .str "keep"]
  cB : Cls T.K T.C
  cG : Cls T.K T.CG
  n_record : NoAttr T.K T.C "record"
  n_own_points : NoAttr T.K T.C "own_points"
  n_own_reset : NoAttr T.K T.C "own_reset"
  n_own_names : NoAttr T.K T.C "own_names"
  n_own_tiers : NoAttr T.K T.C "own_tiers"
  n_tier_by : NoAttr T.K T.C "tier_by"
  n_spots : NoAttr T.K T.C "spots"
  n_bits : NoAttr T.K T.C "bits"
  n_own_needs : NoAttr T.K T.C "own_needs"
  n_own_prices : NoAttr T.K T.C "own_prices"
  n_own_given : NoAttr T.K T.C "own_given"
  n_barred : NoAttr T.K T.C "barred"
  n_asked : NoAttr T.K T.C "asked"
  g_book : NoAttr T.K T.CG "book"
  g_goal : NoAttr T.K T.CG "goal"
  g_dead : NoAttr T.K T.CG "dead"
  mgB : mg "Book" = some (.ref T.C)
  mgG : mg "Growth" = some (.ref T.CG)
  iB : ∃ f fd, Mk T.K T.C f ∧ FunD T.K "__init__" "Book.__init__" (defArgs s_Book_init) (defBody s_Book_init) (defScope s_Book_init) [] [("reset", .non)] f fd
  iG : ∃ f fd, Mk T.K T.CG f ∧ FunD T.K "__init__" "Growth.__init__" (defArgs s_Growth_init) (defBody s_Growth_init) (defScope s_Growth_init) [] [] f fd
  aB : ∃ f fd, Meth T.K T.C "asked_by" f ∧ FunD T.K "asked_by" "Book.asked_by" (defArgs s_Book_asked_by) (defBody s_Book_asked_by) (defScope s_Book_asked_by) [] [] f fd
  oG : ∃ f fd, Meth T.K T.CG "order" f ∧ FunD T.K "order" "Growth.order" (defArgs s_Growth_order) (defBody s_Growth_order) (defScope s_Growth_order) [] [] f fd
/-! ### slots and scopes -/
abbrev N_is_whole : List Str := ["value"]
abbrev P_is_whole : List Str := ["value"]
theorem sc_is_whole : FnScope N_is_whole P_is_whole (defScope s_is_whole) := ⟨rfl, rfl, rfl, by decide +kernel, rfl, by decide +kernel, by decide +kernel⟩
theorem bn_is_whole : BindN "is_whole" s_is_whole P_is_whole := fun _ _ _ _ _ _ us hl => match us, hl with | [_], _ => rfl
abbrev N_is_number : List Str := ["value", "low", "high"]
abbrev P_is_number : List Str := ["value", "low", "high"]
theorem sc_is_number : FnScope N_is_number P_is_number (defScope s_is_number) := ⟨rfl, rfl, rfl, by decide +kernel, rfl, by decide +kernel, by decide +kernel⟩
theorem bn_is_number : BindN "is_number" s_is_number P_is_number := fun _ _ _ _ _ _ us hl => match us, hl with | [_, _, _], _ => rfl
abbrev N_is_word : List Str := ["value", "sign"]
abbrev P_is_word : List Str := ["value"]
theorem sc_is_word : FnScope N_is_word P_is_word (defScope s_is_word) := ⟨rfl, rfl, rfl, by decide +kernel, rfl, by decide +kernel, by decide +kernel⟩
theorem bn_is_word : BindN "is_word" s_is_word P_is_word := fun _ _ _ _ _ _ us hl => match us, hl with | [_], _ => rfl
abbrev N_is_row : List Str := ["value"]
abbrev P_is_row : List Str := ["value"]
theorem sc_is_row : FnScope N_is_row P_is_row (defScope s_is_row) := ⟨rfl, rfl, rfl, by decide +kernel, rfl, by decide +kernel, by decide +kernel⟩
theorem bn_is_row : BindN "is_row" s_is_row P_is_row := fun _ _ _ _ _ _ us hl => match us, hl with | [_], _ => rfl
abbrev N_are_unlike : List Str := ["some", "one"]
abbrev P_are_unlike : List Str := ["some"]
theorem sc_are_unlike : FnScope N_are_unlike P_are_unlike (defScope s_are_unlike) := ⟨rfl, rfl, rfl, by decide +kernel, rfl, by decide +kernel, by decide +kernel⟩
theorem bn_are_unlike : BindN "are_unlike" s_are_unlike P_are_unlike := fun _ _ _ _ _ _ us hl => match us, hl with | [_], _ => rfl
abbrev N_are_tuples : List Str := ["value", "size", "most", "one"]
abbrev P_are_tuples : List Str := ["value", "size", "most"]
theorem sc_are_tuples : FnScope N_are_tuples P_are_tuples (defScope s_are_tuples) := ⟨rfl, rfl, rfl, by decide +kernel, rfl, by decide +kernel, by decide +kernel⟩
theorem bn_are_tuples : BindN "are_tuples" s_are_tuples P_are_tuples := fun _ _ _ _ _ _ us hl => match us, hl with | [_, _, _], _ => rfl
abbrev N_are_skills_of : List Str := ["book", "value", "name"]
abbrev P_are_skills_of : List Str := ["book", "value"]
theorem sc_are_skills_of : FnScope N_are_skills_of P_are_skills_of (defScope s_are_skills_of) := ⟨rfl, rfl, rfl, by decide +kernel, rfl, by decide +kernel, by decide +kernel⟩
theorem bn_are_skills_of : BindN "are_skills_of" s_are_skills_of P_are_skills_of := fun _ _ _ _ _ _ us hl => match us, hl with | [_, _], _ => rfl
abbrev N_in_order : List Str := ["book", "skills", "name"]
abbrev P_in_order : List Str := ["book", "skills"]
theorem sc_in_order : FnScope N_in_order P_in_order (defScope s_in_order) := ⟨rfl, rfl, rfl, by decide +kernel, rfl, by decide +kernel, by decide +kernel⟩
theorem bn_in_order : BindN "in_order" s_in_order P_in_order := fun _ _ _ _ _ _ us hl => match us, hl with | [_, _], _ => rfl
abbrev N_is_build : List Str := ["book", "value"]
abbrev P_is_build : List Str := ["book", "value"]
theorem sc_is_build : FnScope N_is_build P_is_build (defScope s_is_build) := ⟨rfl, rfl, rfl, by decide +kernel, rfl, by decide +kernel, by decide +kernel⟩
theorem bn_is_build : BindN "is_build" s_is_build P_is_build := fun _ _ _ _ _ _ us hl => match us, hl with | [_, _], _ => rfl
abbrev N_look_at_build : List Str := ["book", "build"]
abbrev P_look_at_build : List Str := ["book", "build"]
theorem sc_look_at_build : FnScope N_look_at_build P_look_at_build (defScope s_look_at_build) := ⟨rfl, rfl, rfl, by decide +kernel, rfl, by decide +kernel, by decide +kernel⟩
theorem bn_look_at_build : BindN "look_at_build" s_look_at_build P_look_at_build := fun _ _ _ _ _ _ us hl => match us, hl with | [_, _], _ => rfl
abbrev N_mask_of : List Str := ["book", "build", "name"]
abbrev P_mask_of : List Str := ["book", "build"]
theorem sc_mask_of : FnScope N_mask_of P_mask_of (defScope s_mask_of) := ⟨rfl, rfl, rfl, by decide +kernel, rfl, by decide +kernel, by decide +kernel⟩
theorem bn_mask_of : BindN "mask_of" s_mask_of P_mask_of := fun _ _ _ _ _ _ us hl => match us, hl with | [_, _], _ => rfl
abbrev N_build_by : List Str := ["book", "mask", "name"]
abbrev P_build_by : List Str := ["book", "mask"]
theorem sc_build_by : FnScope N_build_by P_build_by (defScope s_build_by) := ⟨rfl, rfl, rfl, by decide +kernel, rfl, by decide +kernel, by decide +kernel⟩
theorem bn_build_by : BindN "build_by" s_build_by P_build_by := fun _ _ _ _ _ _ us hl => match us, hl with | [_, _], _ => rfl
abbrev N_size_of : List Str := ["mask", "many"]
abbrev P_size_of : List Str := ["mask"]
theorem sc_size_of : FnScope N_size_of P_size_of (defScope s_size_of) := ⟨rfl, rfl, rfl, by decide +kernel, rfl, by decide +kernel, by decide +kernel⟩
theorem bn_size_of : BindN "size_of" s_size_of P_size_of := fun _ _ _ _ _ _ us hl => match us, hl with | [_], _ => rfl
abbrev N_is_let : List Str := ["book", "mask", "spot", "some", "many"]
abbrev P_is_let : List Str := ["book", "mask", "spot"]
theorem sc_is_let : FnScope N_is_let P_is_let (defScope s_is_let) := ⟨rfl, rfl, rfl, by decide +kernel, rfl, by decide +kernel, by decide +kernel⟩
theorem bn_is_let : BindN "is_let" s_is_let P_is_let := fun _ _ _ _ _ _ us hl => match us, hl with | [_, _, _], _ => rfl
abbrev N_points_let : List Str := ["book", "mask", "name", "many"]
abbrev P_points_let : List Str := ["book", "mask"]
theorem sc_points_let : FnScope N_points_let P_points_let (defScope s_points_let) := ⟨rfl, rfl, rfl, by decide +kernel, rfl, by decide +kernel, by decide +kernel⟩
theorem bn_points_let : BindN "points_let" s_points_let P_points_let := fun _ _ _ _ _ _ us hl => match us, hl with | [_, _], _ => rfl
abbrev N_does_hold : List Str := ["book", "mask", "pair", "spot"]
abbrev P_does_hold : List Str := ["book", "mask"]
theorem sc_does_hold : FnScope N_does_hold P_does_hold (defScope s_does_hold) := ⟨rfl, rfl, rfl, by decide +kernel, rfl, by decide +kernel, by decide +kernel⟩
theorem bn_does_hold : BindN "does_hold" s_does_hold P_does_hold := fun _ _ _ _ _ _ us hl => match us, hl with | [_, _], _ => rfl
abbrev N_holds : List Str := ["book", "build"]
abbrev P_holds : List Str := ["book", "build"]
theorem sc_holds : FnScope N_holds P_holds (defScope s_holds) := ⟨rfl, rfl, rfl, by decide +kernel, rfl, by decide +kernel, by decide +kernel⟩
theorem bn_holds : BindN "holds" s_holds P_holds := fun _ _ _ _ _ _ us hl => match us, hl with | [_, _], _ => rfl
abbrev N_look_at_good : List Str := ["book", "build"]
abbrev P_look_at_good : List Str := ["book", "build"]
theorem sc_look_at_good : FnScope N_look_at_good P_look_at_good (defScope s_look_at_good) := ⟨rfl, rfl, rfl, by decide +kernel, rfl, by decide +kernel, by decide +kernel⟩
theorem bn_look_at_good : BindN "look_at_good" s_look_at_good P_look_at_good := fun _ _ _ _ _ _ us hl => match us, hl with | [_, _], _ => rfl
abbrev N_are_skills : List Str := ["value", "name", "tier", "tiers"]
abbrev P_are_skills : List Str := ["value"]
theorem sc_are_skills : FnScope N_are_skills P_are_skills (defScope s_are_skills) := ⟨rfl, rfl, rfl, by decide +kernel, rfl, by decide +kernel, by decide +kernel⟩
theorem bn_are_skills : BindN "are_skills" s_are_skills P_are_skills := fun _ _ _ _ _ _ us hl => match us, hl with | [_], _ => rfl
abbrev N_are_needs : List Str := ["value", "tier", "many", "tiers"]
abbrev P_are_needs : List Str := ["value"]
theorem sc_are_needs : FnScope N_are_needs P_are_needs (defScope s_are_needs) := ⟨rfl, rfl, rfl, by decide +kernel, rfl, by decide +kernel, by decide +kernel⟩
theorem bn_are_needs : BindN "are_needs" s_are_needs P_are_needs := fun _ _ _ _ _ _ us hl => match us, hl with | [_], _ => rfl
abbrev N_is_want : List Str := ["names", "value", "name"]
abbrev P_is_want : List Str := ["names", "value"]
theorem sc_is_want : FnScope N_is_want P_is_want (defScope s_is_want) := ⟨rfl, rfl, rfl, by decide +kernel, rfl, by decide +kernel, by decide +kernel⟩
theorem bn_is_want : BindN "is_want" s_is_want P_is_want := fun _ _ _ _ _ _ us hl => match us, hl with | [_, _], _ => rfl
abbrev N_are_bars : List Str := ["names", "value", "one", "other", "pairs"]
abbrev P_are_bars : List Str := ["names", "value"]
theorem sc_are_bars : FnScope N_are_bars P_are_bars (defScope s_are_bars) := ⟨rfl, rfl, rfl, by decide +kernel, rfl, by decide +kernel, by decide +kernel⟩
theorem bn_are_bars : BindN "are_bars" s_are_bars P_are_bars := fun _ _ _ _ _ _ us hl => match us, hl with | [_, _], _ => rfl
abbrev N_are_numbered : List Str := ["names", "value", "low", "high", "name", "many"]
abbrev P_are_numbered : List Str := ["names", "value", "low", "high"]
theorem sc_are_numbered : FnScope N_are_numbered P_are_numbered (defScope s_are_numbered) := ⟨rfl, rfl, rfl, by decide +kernel, rfl, by decide +kernel, by decide +kernel⟩
theorem bn_are_numbered : BindN "are_numbered" s_are_numbered P_are_numbered := fun _ _ _ _ _ _ us hl => match us, hl with | [_, _, _, _], _ => rfl
abbrev N_look_at_parts : List Str := ["parts", "names", "name", "tier", "wants", "rows", "is_right", "want", "is_good"]
abbrev P_look_at_parts : List Str := ["parts"]
theorem sc_look_at_parts : FnScope N_look_at_parts P_look_at_parts (defScope s_look_at_parts) := ⟨rfl, rfl, rfl, by decide +kernel, rfl, by decide +kernel, by decide +kernel⟩
theorem bn_look_at_parts : BindN "look_at_parts" s_look_at_parts P_look_at_parts := fun _ _ _ _ _ _ us hl => match us, hl with | [_], _ => rfl
abbrev N_Book_init : List Str := ["self", "skills", "points", "needs", "wants", "bars", "gives", "prices", "reset", "name", "tier", "one", "other"]
abbrev P_Book_init : List Str := ["self", "skills", "points", "needs", "wants", "bars", "gives", "prices", "reset"]
theorem sc_Book_init : FnScope N_Book_init P_Book_init (defScope s_Book_init) := ⟨rfl, rfl, rfl, by decide +kernel, rfl, by decide +kernel, by decide +kernel⟩
abbrev N_Book_asked_by : List Str := ["self", "name", "tier", "below", "one", "other", "rows", "want", "mask", "many"]
abbrev P_Book_asked_by : List Str := ["self", "name"]
theorem sc_Book_asked_by : FnScope N_Book_asked_by P_Book_asked_by (defScope s_Book_asked_by) := ⟨rfl, rfl, rfl, by decide +kernel, rfl, by decide +kernel, by decide +kernel⟩
abbrev N_Growth_init : List Str := ["self", "book", "goal"]
abbrev P_Growth_init : List Str := ["self", "book", "goal"]
theorem sc_Growth_init : FnScope N_Growth_init P_Growth_init (defScope s_Growth_init) := ⟨rfl, rfl, rfl, by decide +kernel, rfl, by decide +kernel, by decide +kernel⟩
abbrev N_Growth_order : List Str := ["self", "mask", "spot", "later", "is_new", "rest"]
abbrev P_Growth_order : List Str := ["self", "mask"]
theorem sc_Growth_order : FnScope N_Growth_order P_Growth_order (defScope s_Growth_order) := ⟨rfl, rfl, rfl, by decide +kernel, rfl, by decide +kernel, by decide +kernel⟩
abbrev N_growth : List Str := ["book", "build", "order", "spot"]
abbrev P_growth : List Str := ["book", "build"]
theorem sc_growth : FnScope N_growth P_growth (defScope s_growth) := ⟨rfl, rfl, rfl, by decide +kernel, rfl, by decide +kernel, by decide +kernel⟩
theorem bn_growth : BindN "growth" s_growth P_growth := fun _ _ _ _ _ _ us hl => match us, hl with | [_, _], _ => rfl
abbrev N_is_grown : List Str := ["book", "build"]
abbrev P_is_grown : List Str := ["book", "build"]
theorem sc_is_grown : FnScope N_is_grown P_is_grown (defScope s_is_grown) := ⟨rfl, rfl, rfl, by decide +kernel, rfl, by decide +kernel, by decide +kernel⟩
theorem bn_is_grown : BindN "is_grown" s_is_grown P_is_grown := fun _ _ _ _ _ _ us hl => match us, hl with | [_, _], _ => rfl
abbrev N_look_at_kind : List Str := ["kind"]
abbrev P_look_at_kind : List Str := ["kind"]
theorem sc_look_at_kind : FnScope N_look_at_kind P_look_at_kind (defScope s_look_at_kind) := ⟨rfl, rfl, rfl, by decide +kernel, rfl, by decide +kernel, by decide +kernel⟩
theorem bn_look_at_kind : BindN "look_at_kind" s_look_at_kind P_look_at_kind := fun _ _ _ _ _ _ us hl => match us, hl with | [_], _ => rfl
abbrev N_names_in : List Str := ["book", "mask", "name"]
abbrev P_names_in : List Str := ["book", "mask"]
theorem sc_names_in : FnScope N_names_in P_names_in (defScope s_names_in) := ⟨rfl, rfl, rfl, by decide +kernel, rfl, by decide +kernel, by decide +kernel⟩
theorem bn_names_in : BindN "names_in" s_names_in P_names_in := fun _ _ _ _ _ _ us hl => match us, hl with | [_, _], _ => rfl
abbrev N_fallen_once : List Str := ["book", "mask", "names", "loose", "name", "barred", "pair"]
abbrev P_fallen_once : List Str := ["book", "mask"]
theorem sc_fallen_once : FnScope N_fallen_once P_fallen_once (defScope s_fallen_once) := ⟨rfl, rfl, rfl, by decide +kernel, rfl, by decide +kernel, by decide +kernel⟩
theorem bn_fallen_once : BindN "fallen_once" s_fallen_once P_fallen_once := fun _ _ _ _ _ _ us hl => match us, hl with | [_, _], _ => rfl
abbrev N_fallen : List Str := ["book", "mask", "later"]
abbrev P_fallen : List Str := ["book", "mask"]
theorem sc_fallen : FnScope N_fallen P_fallen (defScope s_fallen) := ⟨rfl, rfl, rfl, by decide +kernel, rfl, by decide +kernel, by decide +kernel⟩
theorem bn_fallen : BindN "fallen" s_fallen P_fallen := fun _ _ _ _ _ _ us hl => match us, hl with | [_, _], _ => rfl
abbrev N_regrown : List Str := ["book", "mask", "found", "is_new", "name"]
abbrev P_regrown : List Str := ["book", "mask"]
theorem sc_regrown : FnScope N_regrown P_regrown (defScope s_regrown) := ⟨rfl, rfl, rfl, by decide +kernel, rfl, by decide +kernel, by decide +kernel⟩
theorem bn_regrown : BindN "regrown" s_regrown P_regrown := fun _ _ _ _ _ _ us hl => match us, hl with | [_, _], _ => rfl
abbrev N_carried_mask : List Str := ["book", "build", "kind", "mask"]
abbrev P_carried_mask : List Str := ["book", "build", "kind"]
theorem sc_carried_mask : FnScope N_carried_mask P_carried_mask (defScope s_carried_mask) := ⟨rfl, rfl, rfl, by decide +kernel, rfl, by decide +kernel, by decide +kernel⟩
theorem bn_carried_mask : BindN "carried_mask" s_carried_mask P_carried_mask := fun _ _ _ _ _ _ us hl => match us, hl with | [_, _, _], _ => rfl
abbrev N_carried : List Str := ["old", "new", "build", "kind"]
abbrev P_carried : List Str := ["old", "new", "build", "kind"]
theorem sc_carried : FnScope N_carried P_carried (defScope s_carried) := ⟨rfl, rfl, rfl, by decide +kernel, rfl, by decide +kernel, by decide +kernel⟩
theorem bn_carried : BindN "carried" s_carried P_carried := fun _ _ _ _ _ _ us hl => match us, hl with | [_, _, _, _], _ => rfl
abbrev N_lost : List Str := ["old", "new", "build", "kind", "later", "name"]
abbrev P_lost : List Str := ["old", "new", "build", "kind"]
theorem sc_lost : FnScope N_lost P_lost (defScope s_lost) := ⟨rfl, rfl, rfl, by decide +kernel, rfl, by decide +kernel, by decide +kernel⟩
theorem bn_lost : BindN "lost" s_lost P_lost := fun _ _ _ _ _ _ us hl => match us, hl with | [_, _, _, _], _ => rfl
abbrev N_law_pool : List Str := ["_law_script", "_law_k", "_law_cell", "_law_big", "_law_mixed"]
abbrev P_law_pool : List Str := ["_law_script", "_law_k"]
theorem sc_law_pool : FnScope N_law_pool P_law_pool (defScope s_law_pool) := ⟨rfl, rfl, rfl, by decide +kernel, rfl, by decide +kernel, by decide +kernel⟩
theorem bn_law_pool : BindN "_law_pool" s_law_pool P_law_pool := fun _ _ _ _ _ _ us hl => match us, hl with | [_, _], _ => rfl
abbrev N_law_take : List Str := ["_law_pool_here", "_law_bound", "_law_result"]
abbrev P_law_take : List Str := ["_law_pool_here", "_law_bound"]
theorem sc_law_take : FnScope N_law_take P_law_take (defScope s_law_take) := ⟨rfl, rfl, rfl, by decide +kernel, rfl, by decide +kernel, by decide +kernel⟩
theorem bn_law_take : BindN "_law_take" s_law_take P_law_take := fun _ _ _ _ _ _ us hl => match us, hl with | [_, _], _ => rfl
abbrev N_law_one : List Str := ["_law_pool_here", "_law_things"]
abbrev P_law_one : List Str := ["_law_pool_here", "_law_things"]
theorem sc_law_one : FnScope N_law_one P_law_one (defScope s_law_one) := ⟨rfl, rfl, rfl, by decide +kernel, rfl, by decide +kernel, by decide +kernel⟩
theorem bn_law_one : BindN "_law_one" s_law_one P_law_one := fun _ _ _ _ _ _ us hl => match us, hl with | [_, _], _ => rfl
abbrev N_law_turned : List Str := ["_law_pool_here", "_law_things", "_law_left", "_law_found"]
abbrev P_law_turned : List Str := ["_law_pool_here", "_law_things"]
theorem sc_law_turned : FnScope N_law_turned P_law_turned (defScope s_law_turned) := ⟨rfl, rfl, rfl, by decide +kernel, rfl, by decide +kernel, by decide +kernel⟩
theorem bn_law_turned : BindN "_law_turned" s_law_turned P_law_turned := fun _ _ _ _ _ _ us hl => match us, hl with | [_, _], _ => rfl
abbrev N_law_tree : List Str := ["_law_pool_here", "_law_top", "_law_names_here", "_law_tier_here", "_law_rows_here", "_law_name", "_law_asked"]
abbrev P_law_tree : List Str := ["_law_pool_here", "_law_top"]
theorem sc_law_tree : FnScope N_law_tree P_law_tree (defScope s_law_tree) := ⟨rfl, rfl, rfl, by decide +kernel, rfl, by decide +kernel, by decide +kernel⟩
theorem bn_law_tree : BindN "_law_tree" s_law_tree P_law_tree := fun _ _ _ _ _ _ us hl => match us, hl with | [_, _], _ => rfl
abbrev N_law_rows : List Str := ["_law_pool_here", "_law_names_here", "_law_top", "_law_words", "_law_is_down", "_law_found", "_law_turn", "_law_spot", "_law_others", "_law_some", "_law_word"]
abbrev P_law_rows : List Str := ["_law_pool_here", "_law_names_here", "_law_top", "_law_words", "_law_is_down"]
theorem sc_law_rows : FnScope N_law_rows P_law_rows (defScope s_law_rows) := ⟨rfl, rfl, rfl, by decide +kernel, rfl, by decide +kernel, by decide +kernel⟩
theorem bn_law_rows : BindN "_law_rows" s_law_rows P_law_rows := fun _ _ _ _ _ _ us hl => match us, hl with | [_, _, _, _, _], _ => rfl
abbrev N_law_book : List Str := ["_law_pool_here", "_law_top", "_law_sort", "_law_rows_here", "_law_asked", "_law_names_here", "_law_row", "_law_words", "_law_book_here", "_law_turn", "_law_pair", "_law_name"]
abbrev P_law_book : List Str := ["_law_pool_here", "_law_top", "_law_sort"]
theorem sc_law_book : FnScope N_law_book P_law_book (defScope s_law_book) := ⟨rfl, rfl, rfl, by decide +kernel, rfl, by decide +kernel, by decide +kernel⟩
theorem bn_law_book : BindN "_law_book" s_law_book P_law_book := fun _ _ _ _ _ _ us hl => match us, hl with | [_, _, _], _ => rfl
abbrev N_law_made : List Str := ["_law_book_here"]
abbrev P_law_made : List Str := ["_law_book_here"]
theorem sc_law_made : FnScope N_law_made P_law_made (defScope s_law_made) := ⟨rfl, rfl, rfl, by decide +kernel, rfl, by decide +kernel, by decide +kernel⟩
theorem bn_law_made : BindN "_law_made" s_law_made P_law_made := fun _ _ _ _ _ _ us hl => match us, hl with | [_], _ => rfl
abbrev N_law_names : List Str := ["_law_book_here", "_law_row"]
abbrev P_law_names : List Str := ["_law_book_here"]
theorem sc_law_names : FnScope N_law_names P_law_names (defScope s_law_names) := ⟨rfl, rfl, rfl, by decide +kernel, rfl, by decide +kernel, by decide +kernel⟩
theorem bn_law_names : BindN "_law_names" s_law_names P_law_names := fun _ _ _ _ _ _ us hl => match us, hl with | [_], _ => rfl
abbrev N_law_tier : List Str := ["_law_book_here", "_law_name", "_law_row"]
abbrev P_law_tier : List Str := ["_law_book_here", "_law_name"]
theorem sc_law_tier : FnScope N_law_tier P_law_tier (defScope s_law_tier) := ⟨rfl, rfl, rfl, by decide +kernel, rfl, by decide +kernel, by decide +kernel⟩
theorem bn_law_tier : BindN "_law_tier" s_law_tier P_law_tier := fun _ _ _ _ _ _ us hl => match us, hl with | [_, _], _ => rfl
abbrev N_law_need : List Str := ["_law_book_here", "_law_tier_here"]
abbrev P_law_need : List Str := ["_law_book_here", "_law_tier_here"]
theorem sc_law_need : FnScope N_law_need P_law_need (defScope s_law_need) := ⟨rfl, rfl, rfl, by decide +kernel, rfl, by decide +kernel, by decide +kernel⟩
theorem bn_law_need : BindN "_law_need" s_law_need P_law_need := fun _ _ _ _ _ _ us hl => match us, hl with | [_, _], _ => rfl
abbrev N_law_order : List Str := ["_law_book_here", "_law_some", "_law_name"]
abbrev P_law_order : List Str := ["_law_book_here", "_law_some"]
theorem sc_law_order : FnScope N_law_order P_law_order (defScope s_law_order) := ⟨rfl, rfl, rfl, by decide +kernel, rfl, by decide +kernel, by decide +kernel⟩
theorem bn_law_order : BindN "_law_order" s_law_order P_law_order := fun _ _ _ _ _ _ us hl => match us, hl with | [_, _], _ => rfl
abbrev N_law_is_row_met : List Str := ["_law_row", "_law_build", "_law_many", "_law_name"]
abbrev P_law_is_row_met : List Str := ["_law_row", "_law_build"]
theorem sc_law_is_row_met : FnScope N_law_is_row_met P_law_is_row_met (defScope s_law_is_row_met) := ⟨rfl, rfl, rfl, by decide +kernel, rfl, by decide +kernel, by decide +kernel⟩
theorem bn_law_is_row_met : BindN "_law_is_row_met" s_law_is_row_met P_law_is_row_met := fun _ _ _ _ _ _ us hl => match us, hl with | [_, _], _ => rfl
abbrev N_law_below : List Str := ["_law_book_here", "_law_build", "_law_name", "_law_other"]
abbrev P_law_below : List Str := ["_law_book_here", "_law_build", "_law_name"]
theorem sc_law_below : FnScope N_law_below P_law_below (defScope s_law_below) := ⟨rfl, rfl, rfl, by decide +kernel, rfl, by decide +kernel, by decide +kernel⟩
theorem bn_law_below : BindN "_law_below" s_law_below P_law_below := fun _ _ _ _ _ _ us hl => match us, hl with | [_, _, _], _ => rfl
abbrev N_law_is_met : List Str := ["_law_book_here", "_law_build", "_law_name", "_law_row"]
abbrev P_law_is_met : List Str := ["_law_book_here", "_law_build", "_law_name"]
theorem sc_law_is_met : FnScope N_law_is_met P_law_is_met (defScope s_law_is_met) := ⟨rfl, rfl, rfl, by decide +kernel, rfl, by decide +kernel, by decide +kernel⟩
theorem bn_law_is_met : BindN "_law_is_met" s_law_is_met P_law_is_met := fun _ _ _ _ _ _ us hl => match us, hl with | [_, _, _], _ => rfl
abbrev N_law_size_let : List Str := ["_law_book_here", "_law_build", "_law_name", "_law_many"]
abbrev P_law_size_let : List Str := ["_law_book_here", "_law_build"]
theorem sc_law_size_let : FnScope N_law_size_let P_law_size_let (defScope s_law_size_let) := ⟨rfl, rfl, rfl, by decide +kernel, rfl, by decide +kernel, by decide +kernel⟩
theorem bn_law_size_let : BindN "_law_size_let" s_law_size_let P_law_size_let := fun _ _ _ _ _ _ us hl => match us, hl with | [_, _], _ => rfl
abbrev N_law_holds : List Str := ["_law_book_here", "_law_build", "_law_pair", "_law_name"]
abbrev P_law_holds : List Str := ["_law_book_here", "_law_build"]
theorem sc_law_holds : FnScope N_law_holds P_law_holds (defScope s_law_holds) := ⟨rfl, rfl, rfl, by decide +kernel, rfl, by decide +kernel, by decide +kernel⟩
theorem bn_law_holds : BindN "_law_holds" s_law_holds P_law_holds := fun _ _ _ _ _ _ us hl => match us, hl with | [_, _], _ => rfl
abbrev N_law_subsets : List Str := ["_law_book_here", "_law_names_here", "_law_found", "_law_level", "_law_turn", "_law_longer", "_law_build", "_law_low", "_law_name"]
abbrev P_law_subsets : List Str := ["_law_book_here"]
theorem sc_law_subsets : FnScope N_law_subsets P_law_subsets (defScope s_law_subsets) := ⟨rfl, rfl, rfl, by decide +kernel, rfl, by decide +kernel, by decide +kernel⟩
theorem bn_law_subsets : BindN "_law_subsets" s_law_subsets P_law_subsets := fun _ _ _ _ _ _ us hl => match us, hl with | [_], _ => rfl
abbrev N_law_all : List Str := ["_law_book_here", "_law_build"]
abbrev P_law_all : List Str := ["_law_book_here"]
theorem sc_law_all : FnScope N_law_all P_law_all (defScope s_law_all) := ⟨rfl, rfl, rfl, by decide +kernel, rfl, by decide +kernel, by decide +kernel⟩
theorem bn_law_all : BindN "_law_all" s_law_all P_law_all := fun _ _ _ _ _ _ us hl => match us, hl with | [_], _ => rfl
abbrev N_law_small : List Str := ["_law_pool_here", "_law_sort"]
abbrev P_law_small : List Str := ["_law_pool_here", "_law_sort"]
theorem sc_law_small : FnScope N_law_small P_law_small (defScope s_law_small) := ⟨rfl, rfl, rfl, by decide +kernel, rfl, by decide +kernel, by decide +kernel⟩
theorem bn_law_small : BindN "_law_small" s_law_small P_law_small := fun _ _ _ _ _ _ us hl => match us, hl with | [_, _], _ => rfl
abbrev N_law_any_sort : List Str := ["_law_pool_here"]
abbrev P_law_any_sort : List Str := ["_law_pool_here"]
theorem sc_law_any_sort : FnScope N_law_any_sort P_law_any_sort (defScope s_law_any_sort) := ⟨rfl, rfl, rfl, by decide +kernel, rfl, by decide +kernel, by decide +kernel⟩
theorem bn_law_any_sort : BindN "_law_any_sort" s_law_any_sort P_law_any_sort := fun _ _ _ _ _ _ us hl => match us, hl with | [_], _ => rfl
abbrev N_law_fallen : List Str := ["_law_book_here", "_law_build", "_law_loose", "_law_name", "_law_barred", "_law_pair", "_law_gone"]
abbrev P_law_fallen : List Str := ["_law_book_here", "_law_build"]
theorem sc_law_fallen : FnScope N_law_fallen P_law_fallen (defScope s_law_fallen) := ⟨rfl, rfl, rfl, by decide +kernel, rfl, by decide +kernel, by decide +kernel⟩
theorem bn_law_fallen : BindN "_law_fallen" s_law_fallen P_law_fallen := fun _ _ _ _ _ _ us hl => match us, hl with | [_, _], _ => rfl
abbrev N_law_regrown : List Str := ["_law_book_here", "_law_build", "_law_found", "_law_turn", "_law_some", "_law_name"]
abbrev P_law_regrown : List Str := ["_law_book_here", "_law_build"]
theorem sc_law_regrown : FnScope N_law_regrown P_law_regrown (defScope s_law_regrown) := ⟨rfl, rfl, rfl, by decide +kernel, rfl, by decide +kernel, by decide +kernel⟩
theorem bn_law_regrown : BindN "_law_regrown" s_law_regrown P_law_regrown := fun _ _ _ _ _ _ us hl => match us, hl with | [_, _], _ => rfl
abbrev N_law_carried : List Str := ["_law_book_here", "_law_build", "_law_kind", "_law_rest"]
abbrev P_law_carried : List Str := ["_law_book_here", "_law_build", "_law_kind"]
theorem sc_law_carried : FnScope N_law_carried P_law_carried (defScope s_law_carried) := ⟨rfl, rfl, rfl, by decide +kernel, rfl, by decide +kernel, by decide +kernel⟩
theorem bn_law_carried : BindN "_law_carried" s_law_carried P_law_carried := fun _ _ _ _ _ _ us hl => match us, hl with | [_, _, _], _ => rfl
abbrev N_law_other_book : List Str := ["_law_pool_here", "_law_book_here", "_law_other", "_law_way"]
abbrev P_law_other_book : List Str := ["_law_pool_here", "_law_book_here"]
theorem sc_law_other_book : FnScope N_law_other_book P_law_other_book (defScope s_law_other_book) := ⟨rfl, rfl, rfl, by decide +kernel, rfl, by decide +kernel, by decide +kernel⟩
theorem bn_law_other_book : BindN "_law_other_book" s_law_other_book P_law_other_book := fun _ _ _ _ _ _ us hl => match us, hl with | [_, _], _ => rfl
abbrev N_law : List Str := ["_law_script", "_law_k", "_law_pool_here", "_law_book_here", "_law_other", "_law_builds", "_law_near", "_law_far", "_law_build", "_law_kind", "_law_wanted", "_law_told", "_law_name"]
abbrev P_law : List Str := ["_law_script"]
theorem sc_law : FnScope N_law P_law (defScope s_law) := ⟨rfl, rfl, rfl, by decide +kernel, rfl, by decide +kernel, by decide +kernel⟩
theorem bn_law : BindN "law" s_law P_law := fun _ _ _ _ _ _ us hl => match us, hl with | [_], _ => rfl
end Rt
namespace Rt
open PySem PySem.Spec PyProof.Rows L2
open C8 (Cal Met Mak pe_c pe_mt pe_mt0 pe_mk)
section
variable {P : Program} {w : World} {T : Tx} {mg : Str → Option Value} {base : Heap}
/-! ### the law's small defs -/
def F_law_names (ds : List Dd) (d : Dd) : Prop := ∃ b : Lb, b.Ok ∧ ds = [.dic b.dic] ∧ d = .py (.list (tStrs b.names))
theorem c_law_names (W : Wt T mg) : Cal P w T.K mg base 1 "_law_names" (spF T F_law_names) [] := by
  refine cal_pure (k := 0) W.fn_law_names sc_law_names bn_law_names F_law_names (fun ds d h => ?_) (fun f cdv A outer s H E hr => ⟨_, (pss_one (ps_ret (pe_lc (own := [("_law_row", 1)]) (g := gName 1) (tt := tYes) rfl sc_law_names.nd  (ki_list T.K (pe_dget (hu_of hr) (pv 0) pe_str (fun _ _ => rfl))) (blkOk_by (own := [("_law_row", 1)]) (N := N_law_names) (sc := defScope s_law_names) (by decide +kernel)) (fun _ _ _ _ _ => (pg_name (i := 1) sc_law_names.nd rfl (Or.inl rfl))) (fun _ _ _ _ _ => pts_nil) (fun _ _ _ _ _ => (pe_ix (r := rIxT T.K) ix_tup (pv 1) pe_int (fun _ _ => rfl)))))), fun ds d h => ?_⟩)
  · obtain ⟨b, hb, rfl, rfl⟩ := h
    exact ⟨rfl, rfl, rfl⟩
  · obtain ⟨b, hb, rfl, rfl⟩ := h
    refine go_retp (EvN.ev (en_is (en_lc0 (xs := b.skills) (enc := enSI) (fun p => .str p.1) (ei_list (ev_dget (k := .inr "skills") (ev_var rfl) ev_str (lk_skills b))) (ok_len hb) fun p hp => ⟨_, eg_name (by decide), ev_op (ev_var rfl) ev_int (er_ixT rfl)⟩) ?_)) rfl
    unfold tStrs Lb.names
    rw [List.map_map]
    rfl
def F_law_tier (ds : List Dd) (d : Dd) : Prop := ∃ (b : Lb) (x : Str), b.Ok ∧ x ∈ b.names ∧ ds = [.dic b.dic, .py (.str x)] ∧ d = .py (.int (b.tier x))
theorem c_law_tier (W : Wt T mg) : Cal P w T.K mg base 1 "_law_tier" (spF T F_law_tier) [] := by
  refine cal_pure (k := 0) W.fn_law_tier sc_law_tier bn_law_tier F_law_tier (fun ds d h => ?_) (fun f cdv A outer s H E hr => ⟨_, (pss_one (ps_ret (pe_ix (r := rIxL T.K) ix_list (pe_lc (own := [("_law_row", 2)]) (g := gName 2) (tt := _) rfl sc_law_tier.nd  (ki_list T.K (pe_dget (hu_of hr) (pv 0) pe_str (fun _ _ => rfl))) (blkOk_by (own := [("_law_row", 2)]) (N := N_law_tier) (sc := defScope s_law_tier) (by decide +kernel)) (fun _ _ _ _ _ => (pg_name (i := 2) sc_law_tier.nd rfl (Or.inl rfl))) (fun _ _ _ _ _ => pts_one (pt_cmpR op_eq (pe_ix (r := rIxT T.K) ix_tup (pv 2) pe_int (fun _ _ => rfl)) (pv 1) (nomark _))) (fun _ _ _ _ _ => (pe_ix (r := rIxT T.K) ix_tup (pv 2) pe_int (fun _ _ => rfl)))) pe_int (fun _ _ => rfl)))), fun ds d h => ?_⟩)
  · obtain ⟨b, x, hb, hx, rfl, rfl⟩ := h
    exact ⟨rfl, rfl, rfl⟩
  · obtain ⟨b, x, hb, hx, rfl, rfl⟩ := h
    exact go_retp (ev_op (EvN.ev (en_lc (xs := b.skills) (enc := enSI) (fun p => decide (p.1 = x)) (fun p => .int p.2) (ei_list (ev_dget (k := .inr "skills") (ev_var rfl) ev_str (lk_skills b))) (ok_len hb) fun p hp => ⟨_, eg_name (by decide), et_test (ev_op (ev_op (ev_var rfl) ev_int (er_ixT rfl)) (ev_var rfl) er_eqS), fun _ => ev_op (ev_var rfl) ev_int (er_ixT rfl)⟩)) ev_int (er_ixL (tier_at hx))) rfl
def F_law_need (ds : List Dd) (d : Dd) : Prop := ∃ (b : Lb) (t : Int), b.Ok ∧ ds = [.dic b.dic, .py (.int t)] ∧ d = .py (.int (b.need t))
theorem c_law_need (W : Wt T mg) : Cal P w T.K mg base 1 "_law_need" (spF T F_law_need) [] := by
  refine cal_pure (k := 0) W.fn_law_need sc_law_need bn_law_need F_law_need (fun ds d h => ?_) (fun f cdv A outer s H E hr => ⟨_, (pss_one (ps_ret (pe_dget2 (hu_of hr) (pe_callTy (r := rDictP T.K) (cz_dictP rfl) (by rfl) W.m_dict bt_dict (pa_cons (pe_dget (hu_of hr) (pv 0) pe_str (fun _ _ => rfl)) pa_nil)) (pv 1) pe_int ⟨rfl, rfl, rfl, rfl⟩))), fun ds d h => ?_⟩)
  · obtain ⟨b, x, hb, rfl, rfl⟩ := h
    exact ⟨rfl, rfl, rfl⟩
  · obtain ⟨b, t, hb, rfl, rfl⟩ := h
    have e1 : (b.needs.map fun p => ((Sum.inl p.1 : Key), PyData.int p.2)).map pairD = b.needs.map enII := by
      rw [List.map_map]
      rfl
    have nd : ((b.needs.map fun p => ((Sum.inl p.1 : Key), PyData.int p.2)).map (·.1)).Nodup := by
      rw [List.map_map]
      have h1 := hb.needsUp
      have h2 : (b.needs.map (·.1)).Nodup := h1.imp fun {a c} h => by omega
      have h3 : b.needs.map ((fun x => x.1) ∘ fun p : Int × Int => ((Sum.inl p.1 : Key), PyData.int p.2)) = (b.needs.map (·.1)).map Sum.inl := by
        rw [List.map_map]
        rfl
      rw [h3]
      exact List.pairwise_map.mpr (h2.imp fun {a c} h e => h (Sum.inl.inj e))
    refine go_retp (ev_is (ev_dget2 (k := .inl t) (ev_cb (ea_cons (ev_is (ev_dget (k := .inr "needs") (ev_var rfl) ev_str (lk_needs b)) (by rw [← e1])) ea_nil) (ec_dictP nd)) (ev_var rfl) ev_int) ?_) rfl
    have e2 := valP_map (κ' := Key) (Sum.inl : Int → Key) (fun a c e => Sum.inl.inj e) PyData.int t b.needs
    rw [e2]
    unfold Lb.need
    cases valP b.needs t <;> rfl
def F_law_order (ds : List Dd) (d : Dd) : Prop := ∃ (b : Lb) (S : List Str), b.Ok ∧ ds = [.dic b.dic, .py (.tuple (tStrs S))] ∧ d = .py (.tuple (tStrs (b.order S)))
theorem c_law_order (W : Wt T mg) : Cal P w T.K mg base 2 "_law_order" (spF T F_law_order) [] := by
  refine cal_pure (k := 1) W.fn_law_order sc_law_order bn_law_order F_law_order (fun ds d h => ?_) (fun f cdv A outer s H E hr => ⟨_, (pss_one (ps_ret (pe_callTy (r := rTupC T.K) cz_tup (by rfl) W.m_tuple bt_tuple (pa_cons (pe_lc (own := [("_law_name", 2)]) (g := gName 2) (tt := _) rfl sc_law_order.nd  (ki_list T.K (pe_c (c_law_names W) hr (by decide) (by rfl) (pa_cons (pv 0) pa_nil))) (blkOk_by (own := [("_law_name", 2)]) (N := N_law_order) (sc := defScope s_law_order) (by decide +kernel)) (fun _ _ _ _ _ => (pg_name (i := 2) sc_law_order.nd rfl (Or.inl rfl))) (fun _ _ _ _ _ => pts_one (pt_cmpR (r := rIn T.K false) op_in_seq (pv 2) (pv 1) (by rfl))) (fun _ _ _ _ _ => (pv 2))) pa_nil)))), fun ds d h => ?_⟩)
  · obtain ⟨b, S, hb, rfl, rfl⟩ := h
    exact ⟨rfl, rfl, rfl⟩
  · obtain ⟨b, S, hb, rfl, rfl⟩ := h
    exact go_retp (ev_cb (ea_cons (EvN.ev (en_lc (xs := b.names) (enc := PyData.str) (fun x => decide (x ∈ S)) PyData.str (ei_list (ev_call (ea_cons (ev_var rfl) ea_nil) ⟨b, hb, rfl, rfl⟩)) (by rw [b.names_len]; exact ok_len hb) fun x hx => ⟨_, eg_name (by decide), et_test (ev_op (ev_var rfl) (ev_var rfl) er_inT), fun _ => ev_var rfl⟩)) ea_nil) ec_tup_l) rfl
def F_law_is_row_met (ds : List Dd) (d : Dd) : Prop := ∃ (u : Want) (S : List Str), u.names.length ≤ 12 ∧ ds = [.py (enW u), .py (.tuple (tStrs S))] ∧ d = .py (.bool (u.met S))
theorem c_law_is_row_met (W : Wt T mg) : Cal P w T.K mg base 1 "_law_is_row_met" (spF T F_law_is_row_met) [] := by
  refine cal_pure (k := 0) W.fn_law_is_row_met sc_law_is_row_met bn_law_is_row_met F_law_is_row_met (fun ds d h => ?_) (fun f cdv A outer s H E hr => ⟨_, (pss_cons (ps_set (i := 2) sc_law_is_row_met.nd rfl (Or.inl rfl) (pe_callB (r := rLen T.K) cz_len (by rfl) W.m_len bt_len (pa_cons (pe_lc (own := [("_law_name", 3)]) (g := gName 3) (tt := _) rfl sc_law_is_row_met.nd  (ki_tup T.K (pe_ix (r := rIxT T.K) ix_tup (pv 0) pe_int (fun _ _ => rfl))) (blkOk_by (own := [("_law_name", 3)]) (N := N_law_is_row_met) (sc := defScope s_law_is_row_met) (by decide +kernel)) (fun _ _ _ _ _ => (pg_name (i := 3) sc_law_is_row_met.nd rfl (Or.inl rfl))) (fun _ _ _ _ _ => pts_one (pt_cmpR (r := rIn T.K false) op_in_seq (pv 3) (pv 1) (by rfl))) (fun _ _ _ _ _ => (pv 3))) pa_nil)))
      (pss_one (ps_ret (pe_cmpR op_ge (pv 2) (pe_ifExp (pt_cmpR op_eq (pe_ix (r := rIxT T.K) ix_tup (pv 0) pe_int (fun _ _ => rfl)) pe_str (nomark _)) (pe_callB (r := rLen T.K) cz_len (by rfl) W.m_len bt_len (pa_cons (pe_ix (r := rIxT T.K) ix_tup (pv 0) pe_int (fun _ _ => rfl)) pa_nil)) (pe_ifExp (pt_cmpR op_eq (pe_ix (r := rIxT T.K) ix_tup (pv 0) pe_int (fun _ _ => rfl)) pe_str (nomark _)) pe_int (pe_ix (r := rIxT T.K) ix_tup (pv 0) pe_int (fun _ _ => rfl)))) (nomark _))))), fun ds d h => ?_⟩)
  · obtain ⟨u, S, hl, rfl, rfl⟩ := h
    exact ⟨rfl, rfl, rfl⟩
  · obtain ⟨⟨k, s, ns⟩, S, hl, rfl, rfl⟩ := h
    have hl2 : ns.length ≤ 100000 := Nat.le_trans hl (by decide)
    have e3 : (((ns.filter fun x => decide (x ∈ S)).map PyData.str).length : Int) = ((ns.filter fun x => decide (x ∈ S)).length : Int) := by rw [List.length_map]
    have e4 : (((ns.map PyData.str).length : Nat) : Int) = (ns.length : Int) := by rw [List.length_map]
    cases k with
    | all =>
      refine go_letp (ev_cb (ea_cons (EvN.ev (en_lc (xs := ns) (enc := PyData.str) (fun x => decide (x ∈ S)) PyData.str (ei_tup (ev_op (ev_var rfl) ev_int (er_ixT rfl))) hl2 fun x hx => ⟨_, eg_name (by decide), et_test (ev_op (ev_var rfl) (ev_var rfl) er_inT), fun _ => ev_var rfl⟩)) ea_nil) ec_len_l) ?_
      rw [e3]
      refine go_retp (ev_op (ev_var rfl) (ev_if (et_test (ev_op (ev_op (ev_var rfl) ev_int (er_ixT rfl)) ev_str er_eqS)) (fun _ => ev_cb (ea_cons (ev_op (ev_var rfl) ev_int (er_ixT rfl)) ea_nil) ec_len_t) (fun h => absurd h wk1)) er_ge) ?_
      unfold tStrs
      rw [e4]
      rfl
    | any =>
      refine go_letp (ev_cb (ea_cons (EvN.ev (en_lc (xs := ns) (enc := PyData.str) (fun x => decide (x ∈ S)) PyData.str (ei_tup (ev_op (ev_var rfl) ev_int (er_ixT rfl))) hl2 fun x hx => ⟨_, eg_name (by decide), et_test (ev_op (ev_var rfl) (ev_var rfl) er_inT), fun _ => ev_var rfl⟩)) ea_nil) ec_len_l) ?_
      rw [e3]
      exact go_retp (ev_op (ev_var rfl) (ev_if (et_test (ev_op (ev_op (ev_var rfl) ev_int (er_ixT rfl)) ev_str er_eqS)) (fun h => absurd h wk2) (fun _ => ev_if (et_test (ev_op (ev_op (ev_var rfl) ev_int (er_ixT rfl)) ev_str er_eqS)) (fun _ => ev_int) (fun h => absurd h wk3))) er_ge) rfl
    | count n =>
      refine go_letp (ev_cb (ea_cons (EvN.ev (en_lc (xs := ns) (enc := PyData.str) (fun x => decide (x ∈ S)) PyData.str (ei_tup (ev_op (ev_var rfl) ev_int (er_ixT rfl))) hl2 fun x hx => ⟨_, eg_name (by decide), et_test (ev_op (ev_var rfl) (ev_var rfl) er_inT), fun _ => ev_var rfl⟩)) ea_nil) ec_len_l) ?_
      rw [e3]
      exact go_retp (ev_op (ev_var rfl) (ev_if (et_test (ev_op (ev_op (ev_var rfl) ev_int (er_ixT rfl)) ev_str er_eqS)) (fun h => absurd h (wk4 n)) (fun _ => ev_if (et_test (ev_op (ev_op (ev_var rfl) ev_int (er_ixT rfl)) ev_str er_eqS)) (fun h => absurd h (wk5 n)) (fun _ => ev_op (ev_var rfl) ev_int (er_ixT rfl)))) er_ge) rfl
def F_law_below (ds : List Dd) (d : Dd) : Prop := ∃ (b : Lb) (S : List Str) (x : Str), b.Ok ∧ Sub b S ∧ x ∈ b.names ∧ ds = [.dic b.dic, .py (.tuple (tStrs S)), .py (.str x)] ∧ d = .py (.int (b.below S x))
theorem c_law_below (W : Wt T mg) : Cal P w T.K mg base 2 "_law_below" (spF T F_law_below) [] := by
  refine cal_pure (k := 1) W.fn_law_below sc_law_below bn_law_below F_law_below (fun ds d h => ?_) (fun f cdv A outer s H E hr => ⟨_, (pss_one (ps_ret (pe_callB (r := rLen T.K) cz_len (by rfl) W.m_len bt_len (pa_cons (pe_lc (own := [("_law_other", 3)]) (g := gName 3) (tt := _) rfl sc_law_below.nd  (ki_tup T.K (pv 1)) (blkOk_by (own := [("_law_other", 3)]) (N := N_law_below) (sc := defScope s_law_below) (by decide +kernel)) (fun _ _ _ _ _ => (pg_name (i := 3) sc_law_below.nd rfl (Or.inl rfl))) (fun _ _ _ _ _ => pts_one (pt_cmpR op_lt (pe_c (c_law_tier W) hr (by decide) (by rfl) (pa_cons (pv 0) (pa_cons (pv 3) pa_nil))) (pe_c (c_law_tier W) hr (by decide) (by rfl) (pa_cons (pv 0) (pa_cons (pv 2) pa_nil))) (nomark _))) (fun _ _ _ _ _ => (pv 3))) pa_nil)))), fun ds d h => ?_⟩)
  · obtain ⟨b, S, x, hb, hS, hx, rfl, rfl⟩ := h
    exact ⟨rfl, rfl, rfl⟩
  · obtain ⟨b, S, x, hb, hS, hx, rfl, rfl⟩ := h
    refine go_retp (ev_is (ev_cb (ea_cons (EvN.ev (en_lc (xs := S) (enc := PyData.str) (fun y => decide (b.tier y < b.tier x)) PyData.str (ei_tup (ev_var rfl)) hS.len2 fun y hy => ⟨_, eg_name (by decide), et_test (ev_op (ev_call (ea_cons (ev_var rfl) (ea_cons (ev_var rfl) ea_nil)) ⟨b, y, hb, hS.mem y hy, rfl, rfl⟩) (ev_call (ea_cons (ev_var rfl) (ea_cons (ev_var rfl) ea_nil)) ⟨b, x, hb, hx, rfl, rfl⟩) er_lt), fun _ => ev_var rfl⟩)) ea_nil) ec_len_l) ?_) rfl
    rw [List.length_map]
    rfl
def F_law_is_met (ds : List Dd) (d : Dd) : Prop := ∃ (b : Lb) (S : List Str) (x : Str), b.Ok ∧ Sub b S ∧ x ∈ b.names ∧ ds = [.dic b.dic, .py (.tuple (tStrs S)), .py (.str x)] ∧ d = .py (.bool (b.met S x))
theorem c_law_is_met (W : Wt T mg) : Cal P w T.K mg base 3 "_law_is_met" (spF T F_law_is_met) [] := by
  refine cal_pure (k := 2) W.fn_law_is_met sc_law_is_met bn_law_is_met F_law_is_met (fun ds d h => ?_) (fun f cdv A outer s H E hr => ⟨_, (pss_cons (ps_if (pt_cmpR op_lt (pe_c (c_law_below W) hr (by decide) (by rfl) (pa_cons (pv 0) (pa_cons (pv 1) (pa_cons (pv 2) pa_nil)))) (pe_c (c_law_need W) hr (by decide) (by rfl) (pa_cons (pv 0) (pa_cons (pe_c (c_law_tier W) hr (by decide) (by rfl) (pa_cons (pv 0) (pa_cons (pv 2) pa_nil))) pa_nil))) (nomark _)) (pss_one (ps_ret pe_bl)) pss_nil)
      (pss_one (ps_ret (pe_cmpR (r := rEqD T.K) (op_eqD hr.units) (pe_lc (own := [("_law_row", 3)]) (g := gName 3) (tt := _) rfl sc_law_is_met.nd  (ki_list T.K (pe_dget (hu_of hr) (pv 0) pe_str (fun _ _ => rfl))) (blkOk_by (own := [("_law_row", 3)]) (N := N_law_is_met) (sc := defScope s_law_is_met) (by decide +kernel)) (fun _ _ _ _ _ => (pg_name (i := 3) sc_law_is_met.nd rfl (Or.inl rfl))) (fun _ _ _ _ _ => pts_one (PW.pt (pw_and (pt_cmpR op_eq (pe_ix (r := rIxT T.K) ix_tup (pv 3) pe_int (fun _ _ => rfl)) (pv 2) (nomark _)) (pw_and1 (pt_not (pt_val (pe_c (c_law_is_row_met W) hr (by decide) (by rfl) (pa_cons (pv 3) (pa_cons (pv 1) pa_nil))))))))) (fun _ _ _ _ _ => (pv 3))) (pe_lst pa_nil) (nomark _))))), fun ds d h => ?_⟩)
  · obtain ⟨b, S, x, hb, hS, hx, rfl, rfl⟩ := h
    exact ⟨rfl, rfl, rfl⟩
  · obtain ⟨b, S, x, hb, hS, hx, rfl, rfl⟩ := h
    have hw : ∀ u ∈ b.wants, (enW u).canLay0 = true ∧ (enW u).depth ≤ 10 := fun u hu => nice_w hb.word (hb.wants u hu)
    refine go_ifret (et_test (ev_op (ev_call (ea_cons (ev_var rfl) (ea_cons (ev_var rfl) (ea_cons (ev_var rfl) ea_nil))) ⟨b, S, x, hb, hS, hx, rfl, rfl⟩) (ev_call (ea_cons (ev_var rfl) (ea_cons (ev_call (ea_cons (ev_var rfl) (ea_cons (ev_var rfl) ea_nil)) ⟨b, x, hb, hx, rfl, rfl⟩) ea_nil)) ⟨b, b.tier x, hb, rfl, rfl⟩) er_lt)) (fun e => go_retp ev_bl ?_) (fun e => go_retp (ev_is (ev_op (EvN.ev (en_lc (xs := b.wants) (enc := enW) (fun u => decide (u.skill = x) && !u.met S) enW (ei_list (ev_dget (k := .inr "wants") (ev_var rfl) ev_str (lk_wants b))) (Nat.le_trans hb.wants12 (by decide)) fun u hu => ⟨_, eg_name (by decide), et_and (et_test (ev_op (ev_op (ev_var rfl) ev_int (er_ixT (ixw u))) (ev_var rfl) er_eqS)) (fun _ => et_not (et_b (ev_call (ea_cons (ev_var rfl) (ea_cons (ev_var rfl) ea_nil)) ⟨u, S, (hb.wants u hu).len, rfl, rfl⟩))), fun _ => ev_var rfl⟩)) (EvN.ev (en_lst ea_nil (by decide))) (er_eqD (shaped_of fun d hd => by
      obtain ⟨u, hu, rfl⟩ := List.mem_map.mp hd
      exact hw u (List.mem_filter.mp hu).1).1 shaped_nil)) ?_) rfl)
    · unfold Lb.met
      rw [e]
      rfl
    · rw [eqv_nil]
      unfold Lb.met
      rw [e]
      simp only [Bool.not_false, Bool.true_and]
      cases b.wants.filter fun u => decide (u.skill = x) && !u.met S <;> rfl
def F_law_size_let (ds : List Dd) (d : Dd) : Prop := ∃ (b : Lb) (S : List Str), b.Ok ∧ ds = [.dic b.dic, .py (.tuple (tStrs S))] ∧ d = .py (.int (b.sizeLet S))
theorem c_law_size_let (W : Wt T mg) : Cal P w T.K mg base 1 "_law_size_let" (spF T F_law_size_let) [] := by
  refine cal_pure (k := 0) W.fn_law_size_let sc_law_size_let bn_law_size_let F_law_size_let (fun ds d h => ?_) (fun f cdv A outer s H E hr => ⟨_, (pss_one (ps_ret (pe_op op_add (pe_dget (hu_of hr) (pv 0) pe_str (fun _ _ => rfl)) (pe_callB (r := rSum T.K) (cr_sum rfl) (by rfl) W.m_sum bt_sum (pa_cons (pe_lc (own := [("_law_name", 2), ("_law_many", 3)]) (g := gTup T.K 2 (gCons (gName 2) (gCons (gName 3) (gNil)))) (tt := _) rfl sc_law_size_let.nd  (ki_list T.K (pe_dget (hu_of hr) (pv 0) pe_str (fun _ _ => rfl))) (blkOk_by (own := [("_law_name", 2), ("_law_many", 3)]) (N := N_law_size_let) (sc := defScope s_law_size_let) (by decide +kernel)) (fun _ _ _ _ _ => (kg_tup T.K rfl (pgs_cons (pg_name (i := 2) sc_law_size_let.nd rfl (Or.inl rfl)) (pgs_cons (pg_name (i := 3) sc_law_size_let.nd rfl (Or.inl rfl)) pgs_nil)))) (fun _ _ _ _ _ => pts_one (pt_cmpR (r := rIn T.K false) op_in_seq (pv 2) (pv 1) (by rfl))) (fun _ _ _ _ _ => (pv 3))) pa_nil))))), fun ds d h => ?_⟩)
  · obtain ⟨b, S, hb, rfl, rfl⟩ := h
    exact ⟨rfl, rfl, rfl⟩
  · obtain ⟨b, S, hb, rfl, rfl⟩ := h
    have e1 : ((b.gives.filter fun p => decide (p.1 ∈ S)).map fun p => PyData.int p.2) = ((b.gives.filter fun p => decide (p.1 ∈ S)).map (·.2)).map PyData.int := by
      rw [List.map_map]
      rfl
    exact go_retp (ev_op (ev_dget (k := .inr "points") (ev_var rfl) ev_str (lk_points b)) (ev_cb (ea_cons (EvN.ev (en_is (en_lc (xs := b.gives) (enc := enSI) (fun p => decide (p.1 ∈ S)) (fun p => PyData.int p.2) (ei_list (ev_dget (k := .inr "gives") (ev_var rfl) ev_str (lk_gives b))) (Nat.le_trans hb.gives12 (by decide)) fun p hp => ⟨_, eg_two (by decide) (by decide), et_test (ev_op (ev_var rfl) (ev_var rfl) er_inT), fun _ => ev_var rfl⟩) e1)) ea_nil) ec_sum) er_add) rfl
def F_law_holds (ds : List Dd) (d : Dd) : Prop := ∃ (b : Lb) (S : List Str), b.Ok ∧ Sub b S ∧ ds = [.dic b.dic, .py (.tuple (tStrs S))] ∧ d = .py (.bool (b.holds S))
theorem c_law_holds (W : Wt T mg) : Cal P w T.K mg base 4 "_law_holds" (spF T F_law_holds) [] := by
  refine cal_pure (k := 3) W.fn_law_holds sc_law_holds bn_law_holds F_law_holds (fun ds d h => ?_) (fun f cdv A outer s H E hr => ⟨_, (pss_cons (ps_if (pt_cmpR op_gt (pe_callB (r := rLen T.K) cz_len (by rfl) W.m_len bt_len (pa_cons (pv 1) pa_nil)) (pe_c (c_law_size_let W) hr (by decide) (by rfl) (pa_cons (pv 0) (pa_cons (pv 1) pa_nil))) (nomark _)) (pss_one (ps_ret pe_bl)) pss_nil)
      (pss_cons (ps_if (pt_cmpR (r := rNeD T.K) (op_neD hr.units) (pe_lc (own := [("_law_pair", 2)]) (g := gName 2) (tt := _) rfl sc_law_holds.nd  (ki_list T.K (pe_dget (hu_of hr) (pv 0) pe_str (fun _ _ => rfl))) (blkOk_by (own := [("_law_pair", 2)]) (N := N_law_holds) (sc := defScope s_law_holds) (by decide +kernel)) (fun _ _ _ _ _ => (pg_name (i := 2) sc_law_holds.nd rfl (Or.inl rfl))) (fun _ _ _ _ _ => pts_one (PW.pt (pw_and (pt_cmpR (r := rIn T.K false) op_in_seq (pe_ix (r := rIxT T.K) ix_tup (pv 2) pe_int (fun _ _ => rfl)) (pv 1) (by rfl)) (pw_and1 (pt_cmpR (r := rIn T.K false) op_in_seq (pe_ix (r := rIxT T.K) ix_tup (pv 2) pe_int (fun _ _ => rfl)) (pv 1) (by rfl)))))) (fun _ _ _ _ _ => (pv 2))) (pe_lst pa_nil) (nomark _)) (pss_one (ps_ret pe_bl)) pss_nil)
      (pss_one (ps_ret (pe_cmpR (r := rEqD T.K) (op_eqD hr.units) (pe_lc (own := [("_law_name", 3)]) (g := gName 3) (tt := _) rfl sc_law_holds.nd  (ki_tup T.K (pv 1)) (blkOk_by (own := [("_law_name", 3)]) (N := N_law_holds) (sc := defScope s_law_holds) (by decide +kernel)) (fun _ _ _ _ _ => (pg_name (i := 3) sc_law_holds.nd rfl (Or.inl rfl))) (fun _ _ _ _ _ => pts_one (pt_not (pt_val (pe_c (c_law_is_met W) hr (by decide) (by rfl) (pa_cons (pv 0) (pa_cons (pv 1) (pa_cons (pv 3) pa_nil))))))) (fun _ _ _ _ _ => (pv 3))) (pe_lst pa_nil) (nomark _)))))), fun ds d h => ?_⟩)
  · obtain ⟨b, S, hb, hS, rfl, rfl⟩ := h
    exact ⟨rfl, rfl, rfl⟩
  · obtain ⟨b, S, hb, hS, rfl, rfl⟩ := h
    have hp : ∀ p ∈ b.bars, (enSS p).canLay0 = true ∧ (enSS p).depth ≤ 10 := fun p hp => nice_ss (hb.str (hb.bars p hp).1) (hb.str (hb.bars p hp).2.1)
    have hs : ∀ x ∈ S, PyData.strOk x = true := fun x hx => hb.str (hS.mem x hx)
    refine go_ifret (et_test (ev_op (ev_cb (ea_cons (ev_var rfl) ea_nil) ec_len_t) (ev_call (ea_cons (ev_var rfl) (ea_cons (ev_var rfl) ea_nil)) ⟨b, S, hb, rfl, rfl⟩) er_gt)) (fun e => go_retp ev_bl ?_) (fun e => go_ifret (et_test (ev_op (EvN.ev (en_lc (xs := b.bars) (enc := enSS) (fun p => decide (p.1 ∈ S) && decide (p.2 ∈ S)) enSS (ei_list (ev_dget (k := .inr "bars") (ev_var rfl) ev_str (lk_bars b))) (Nat.le_trans hb.bars6 (by decide)) fun p hp => ⟨_, eg_name (by decide), et_and (et_test (ev_op (ev_op (ev_var rfl) ev_int (er_ixT rfl)) (ev_var rfl) er_inT)) (fun _ => et_test (ev_op (ev_op (ev_var rfl) ev_int (er_ixT rfl)) (ev_var rfl) er_inT)), fun _ => ev_var rfl⟩)) (EvN.ev (en_lst ea_nil (by decide))) (er_neD (shaped_of fun d hd => by
      obtain ⟨u, hu, rfl⟩ := List.mem_map.mp hd
      exact hp u (List.mem_filter.mp hu).1).1 shaped_nil))) (fun e2 => go_retp ev_bl ?_) (fun e2 => go_retp (ev_is (ev_op (EvN.ev (en_lc (xs := S) (enc := PyData.str) (fun x => !b.met S x) PyData.str (ei_tup (ev_var rfl)) hS.len2 fun x hx => ⟨_, eg_name (by decide), et_not (et_b (ev_call (ea_cons (ev_var rfl) (ea_cons (ev_var rfl) (ea_cons (ev_var rfl) ea_nil))) ⟨b, S, x, hb, hS, hS.mem x hx, rfl, rfl⟩)), fun _ => ev_var rfl⟩)) (EvN.ev (en_lst ea_nil (by decide))) (er_eqD (shaped_strs fun x hx => hs x (List.mem_filter.mp hx).1).1 shaped_nil)) ?_) rfl))
    · unfold Lb.holds
      unfold tStrs at e
      rw [List.length_map] at e
      rw [e]
      rfl
    · unfold tStrs at e
      rw [List.length_map] at e
      rw [eqv_nil, List.isEmpty_map] at e2
      unfold Lb.holds Lb.barred
      cases z : (b.bars.filter fun p => decide (p.1 ∈ S) && decide (p.2 ∈ S)).isEmpty with
      | true =>
        rw [z] at e2
        cases e2
      | false =>
        rw [Bool.false_and, Bool.and_false]
    · unfold tStrs at e
      rw [List.length_map] at e
      rw [eqv_nil, List.isEmpty_map] at e2 ⊢
      unfold Lb.holds Lb.barred Lb.loose
      cases z : (b.bars.filter fun p => decide (p.1 ∈ S) && decide (p.2 ∈ S)).isEmpty with
      | true =>
        rw [e]
        rfl
      | false =>
        rw [z] at e2
        cases e2
end
end Rt
namespace Rt
open PySem PySem.Spec PyProof.Rows L2
open C8 (Cal Met Mak pe_c pe_mt pe_mt0 pe_mk)
/-! ### slices in plain words -/
theorem cut_from {α : Type} (xs : List α) (k : Nat) : cutD xs (some (k : Int)) none = xs.drop k := by
  unfold cutD
  rw [HT.sIx_nat, HT.sIx_none]
  by_cases h : k ≤ xs.length
  · rw [Nat.min_eq_left h, List.take_of_length_le (by rw [List.length_drop]; exact Nat.le_refl _)]
  · rw [Nat.min_eq_right (by omega), List.drop_of_length_le (Nat.le_refl _), List.drop_of_length_le (by omega)]
    simp
theorem cut_to {α : Type} (xs : List α) (k : Nat) : cutD xs none (some (k : Int)) = xs.take k := by
  unfold cutD
  rw [HT.sIx_nat, HT.sIx_none, List.drop_zero, Nat.sub_zero]
  by_cases h : k ≤ xs.length
  · rw [Nat.min_eq_left h]
  · rw [Nat.min_eq_right (by omega), List.take_of_length_le (Nat.le_refl _), List.take_of_length_le (by omega)]
theorem cut_last {α : Type} (xs : List α) : cutD xs (some (-1)) none = xs.drop (xs.length - 1) := by
  unfold cutD
  have h : HT.sIx xs.length 0 (some (-1)) = xs.length - 1 := by
    show (if (-1 : Int) < 0 then ((-1 : Int) + (xs.length : Int)).toNat else min (-1 : Int).toNat xs.length) = xs.length - 1
    rw [if_pos (by decide)]
    omega
  rw [h, HT.sIx_none, List.take_of_length_le (by rw [List.length_drop]; exact Nat.le_refl _)]
section
variable {P : Program} {w : World} {T : Tx} {mg : Str → Option Value} {base : Heap}
def tups (L : List (List Str)) : List PyData := L.map fun S => .tuple (tStrs S)
def F_law_subsets (ds : List Dd) (d : Dd) : Prop := ∃ b : Lb, b.Ok ∧ ds = [.dic b.dic] ∧ d = .py (.list (tups b.subsets))
theorem c_law_subsets (W : Wt T mg) : Cal P w T.K mg base 2 "_law_subsets" (spF T F_law_subsets) [] := by
  refine cal_pure (k := 1) W.fn_law_subsets sc_law_subsets bn_law_subsets F_law_subsets (fun ds d h => ?_) (fun f cdv A outer s H E hr => ⟨_, (pss_cons (ps_set (i := 1) sc_law_subsets.nd rfl (Or.inl rfl) (pe_c (c_law_names W) hr (by decide) (by rfl) (pa_cons (pv 0) pa_nil)))
      (pss_cons (ps_par (i := 2) (j := 3) (by rfl) sc_law_subsets.nd rfl rfl (by decide) rfl rfl (pa_cons (pe_lst (pa_cons (pe_tup pa_nil) pa_nil)) (pa_cons (pe_lst (pa_cons (pe_tup pa_nil) pa_nil)) pa_nil)) (by rfl))
      (pss_cons (ps_for PassesOwn.never rfl (pi_range1 (by rfl) W.m_range (pa_cons (pe_callB (r := rLen T.K) cz_len (by rfl) W.m_len bt_len (pa_cons (pv 1) pa_nil)) pa_nil)) (pg_name (i := 4) sc_law_subsets.nd rfl (Or.inl rfl)) (pss_cons (ps_set (i := 5) sc_law_subsets.nd rfl (Or.inl rfl) (pe_lst pa_nil))
      (pss_cons (ps_for PassesOwn.never rfl (ki_list T.K (pv 3)) (pg_name (i := 6) sc_law_subsets.nd rfl (Or.inr rfl)) (pss_cons (ps_set (i := 7) sc_law_subsets.nd rfl (Or.inl rfl) (pe_ifExp (pt_cmpR (r := rNeD T.K) (op_neD hr.units) (pv 6) (pe_tup pa_nil) (nomark _)) (pe_op op_add (kbm T.K PySem.F.plainAttrs_list PySem.F.slot_list_index PySem.F.type_list_index (r := rIndex T.K) mt_index (pv 1) (pa_cons (pe_ix (r := rIxT T.K) ix_tup (pv 6) (pe_un un_neg pe_int) (fun _ _ => rfl)) pa_nil)) pe_int) pe_int))
      (pss_one (ps_set (i := 5) sc_law_subsets.nd rfl (Or.inl rfl) (pe_op op_cat (pv 5) (pe_lc (own := [("_law_name", 8)]) (g := gName 8) (tt := tYes) rfl sc_law_subsets.nd  (ki_list T.K (pe_slice (r := rSlL T.K) sl_list (pv 1) (po_some (pv 7)) po_none)) (blkOk_by (own := [("_law_name", 8)]) (N := N_law_subsets) (sc := defScope s_law_subsets) (by decide +kernel)) (fun _ _ _ _ _ => (pg_name (i := 8) sc_law_subsets.nd rfl (Or.inl rfl))) (fun _ _ _ _ _ => pts_nil) (fun _ _ _ _ _ => (pe_op (r := rCatA T.K) op_catA (pv 6) (pe_tup (pa_cons (pv 8) pa_nil))))))))))
      (pss_one (ps_par (i := 2) (j := 3) (by rfl) sc_law_subsets.nd rfl rfl (by decide) rfl rfl (pa_cons (pe_op op_cat (pv 2) (pv 5)) (pa_cons (pv 5) pa_nil)) (by rfl))))))
      (pss_one (ps_ret (pv 2)))))), fun ds d h => ?_⟩)
  · obtain ⟨b, hb, rfl, rfl⟩ := h
    exact ⟨rfl, rfl, rfl⟩
  · obtain ⟨b, hb, rfl, rfl⟩ := h
    have h5 : b.names.length ≤ 5 := by rw [b.names_len]; exact hb.n5
    refine go_letp (ev_call (ea_cons (ev_var rfl) ea_nil) ⟨b, hb, rfl, rfl⟩) ?_
    refine go_parp (d := .py (.list (tups [[]]))) (e := .py (.list (tups [[]]))) (ea_cons (EvN.ev (en_lst (ds := tups [[]]) (ea_cons (ev_tup (ds := []) ea_nil (by decide)) ea_nil) (by decide))) (ea_cons (EvN.ev (en_lst (ds := tups [[]]) (ea_cons (ev_tup (ds := []) ea_nil (by decide)) ea_nil) (by decide))) ea_nil)) ?_
    refine go_seq (N1 := fun ρ' o => ∃ y3 y4 y5 y6 y7 y8, o = [] ∧ ρ' = [some (.dic b.dic), some (.py (.list (tStrs b.names))), some (.py (.list (tups b.subsets))), y3, y4, y5, y6, y7, y8]) ?_ (fun ρ' o ⟨y3, y4, y5, y6, y7, y8, e1, e2⟩ => by
      subst e1 e2
      exact go_retp (ev_var rfl) rfl)
    refine go_forp (vs := [4]) (List.range b.names.length) (fun (i : Nat) => PyData.int (i : Int)) (fun i ρ' => ∃ found level y4 y5 y6 y7 y8, b.subsets = subsN b.names (b.names.length - i) found level ∧ found.length ≤ 6 ^ i * 10 ∧ level.length ≤ 5 ^ i ∧ (∀ B ∈ level, Inc b.names B) ∧ ρ' = [some (.dic b.dic), some (.py (.list (tStrs b.names))), some (.py (.list (tups found))), some (.py (.list (tups level))), y4, y5, y6, y7, y8]) (ei_rng (ea_cons (ev_is (ev_cb (ea_cons (ev_var rfl) ea_nil) ec_len_l) (by unfold tStrs; rw [List.length_map])) ea_nil) (by omega)) ⟨[[]], [[]], _, _, _, _, _, rfl, by decide, by decide, fun B hB => by rw [List.mem_singleton.mp hB]; exact inc_nil _, rfl⟩ ?_ ?_
    · rintro i j ρ1 hj ⟨found, level, y4, y5, y6, y7, y8, hs, hf, hl, hinc, rfl⟩
      have hi5 : i < 5 := by
        have := (List.getElem?_eq_some_iff.mp hj).1
        rw [List.length_range] at this
        omega
      have hlt : i < b.names.length := by
        have := (List.getElem?_eq_some_iff.mp hj).1
        rwa [List.length_range] at this
      have p5 : 5 ^ i ≤ 625 := Nat.le_trans (Nat.pow_le_pow_right (by decide) (show i ≤ 4 by omega)) (by decide)
      have p6 : 6 ^ i ≤ 1296 := Nat.le_trans (Nat.pow_le_pow_right (by decide) (show i ≤ 4 by omega)) (by decide)
      refine ⟨_, eg_name (by decide), ?_⟩
      refine go_letp (EvN.ev (en_lst (ds := tups []) ea_nil (by decide))) ?_
      refine go_seq (N1 := fun ρ' o => ∃ z4 y6 y7 y8, o = [] ∧ ρ' = [some (.dic b.dic), some (.py (.list (tStrs b.names))), some (.py (.list (tups found))), some (.py (.list (tups level))), z4, some (.py (.list (tups (longerOf b.names level)))), y6, y7, y8]) ?_ (fun ρ' o ⟨z4, y6, y7, y8, e1, e2⟩ => by
        subst e1 e2
        have hll := longer_len h5 level
        refine go_par (d := .py (.list (tups (found ++ longerOf b.names level)))) (e := .py (.list (tups (longerOf b.names level)))) (ea_cons (ev_is (ev_op (ev_var rfl) (ev_var rfl) (er_catL (by
          unfold tups
          rw [List.length_map, List.length_map]
          have : 6 ^ i * 10 ≤ 1296 * 10 := Nat.mul_le_mul_right _ p6
          omega))) (by unfold tups; rw [List.map_append])) (ea_cons (ev_var rfl) ea_nil)) ⟨rfl, found ++ longerOf b.names level, longerOf b.names level, _, _, _, _, _, ?_, ?_, ?_, longer_inc hb.nd hinc, rfl⟩
        · rw [hs]
          have e : b.names.length - i = (b.names.length - (i + 1)) + 1 := by omega
          rw [e]
          rfl
        · rw [List.length_append, Nat.pow_succ]
          have : 5 * level.length ≤ 5 * 5 ^ i := Nat.mul_le_mul_left _ hl
          have h56 : 5 ^ i ≤ 6 ^ i := Nat.pow_le_pow_left (by decide) i
          omega
        · rw [Nat.pow_succ]
          omega)
      refine go_forp (vs := [6]) level (fun S => .tuple (tStrs S)) (fun m ρ' => ∃ z4 y6 y7 y8, ρ' = [some (.dic b.dic), some (.py (.list (tStrs b.names))), some (.py (.list (tups found))), some (.py (.list (tups level))), z4, some (.py (.list (tups (longerOf b.names (level.take m))))), y6, y7, y8]) (ei_list (ev_var rfl)) ⟨_, _, _, _, rfl⟩ ?_ ?_
      · rintro m B ρ1 hB ⟨z4, y6, y7, y8, rfl⟩
        have hBm : B ∈ level := List.mem_of_getElem? hB
        have hBs : B.Sublist b.names := (hinc B hBm).1.trans (List.take_sublist _ _)
        have sB := sub_of_sublist hb hBs
        have hstr : ∀ x ∈ B, PyData.strOk x = true := fun x hx => hb.str (sB.mem x hx)
        refine ⟨_, eg_name (by decide), ?_⟩
        refine go_letp (d := .py (.int (lowOf b.names B : Nat))) (ev_if (et_test (ev_op (ev_var rfl) (ev_tup (ds := []) ea_nil (by decide)) (er_neD (shaped_strs hstr).2 (shaped_strs (xs := []) (by intro x h; cases h)).2))) (fun e => ?_) (fun e => ?_)) ?_
        · rw [eqvT_nil] at e
          cases z : B.getLast? with
          | none =>
            rw [List.getLast?_eq_none_iff.mp z] at e
            cases e
          | some x =>
            obtain ⟨C, rfl⟩ := List.getLast?_eq_some_iff.mp z
            have hx : x ∈ b.names := sB.mem x (by simp)
            have e2 : lowOf b.names (C ++ [x]) = b.names.idxOf x + 1 := by
              unfold lowOf
              rw [z]
            rw [e2]
            refine ev_is (ev_op (ev_index (xs := b.names) (ev_var rfl) (ev_op (ev_var rfl) (ev_neg ev_int) (er_ixT (d := .str x) ?_)) hx) ev_int er_add) ?_
            · unfold tStrs
              rw [List.map_append]
              exact atI_last _ _
            · rw [Int.natCast_add]
              rfl
        · rw [eqvT_nil] at e
          cases B with
          | nil => exact ev_int
          | cons a l => cases e
        · have hlm : (level.take m).length ≤ 625 := by
            rw [List.length_take]
            omega
          have hll := longer_len h5 (level.take m)
          have hel := ext_len (N := b.names) (B := B) h5
          refine go_asgp (d := .py (.list (tups (longerOf b.names (level.take (m + 1)))))) (ev_is (ev_op (ev_var rfl) (EvN.ev (en_lc0 (xs := (b.names.drop (lowOf b.names B))) (enc := PyData.str) (fun x => PyData.tuple (tStrs (B ++ [x]))) (ei_list (EvN.ev (en_is (en_slL (ev_var rfl) (eo_some (ev_var rfl)) eo_none) ?_))) ?_ fun x hx => ⟨_, eg_name (by decide), ev_is (ev_op (ev_var rfl) (ev_tup (ds := [.str x]) (ea_cons (ev_var rfl) ea_nil) (by show 1 ≤ 1000; decide)) (er_catT ?_)) ?_⟩)) (er_catL ?_)) ?_) ⟨rfl, _, _, _, _, rfl⟩
          · rw [cut_from]
            unfold tStrs
            rw [List.map_drop]
          · rw [List.length_drop]
            omega
          · unfold tStrs
            rw [List.length_map]
            have := sB.len
            have := hBs.length_le
            show B.length + 1 ≤ 1000
            omega
          · unfold tStrs
            rw [List.map_append]
            rfl
          · unfold tups
            rw [List.length_map, List.length_map]
            unfold extOf at hel
            rw [List.length_map] at hel
            omega
          · rw [take_succ_of hB]
            unfold longerOf tups
            rw [List.flatMap_append, List.map_append]
            unfold extOf
            rw [List.flatMap_cons, List.flatMap_nil, List.append_nil, List.map_map]
            rfl
      · rintro ρ1 ⟨z4, y6, y7, y8, rfl⟩
        rw [List.take_length]
        exact ⟨_, _, _, _, rfl, rfl⟩
    · rintro ρ1 ⟨found, level, y4, y5, y6, y7, y8, hs, hf, hl, hinc, rfl⟩
      rw [List.length_range, Nat.sub_self] at hs
      rw [hs]
      exact ⟨_, _, _, _, _, _, rfl, rfl⟩
end
end Rt
namespace Rt
open PySem PySem.Spec PyProof.Rows L2
open C8 (Cal Met Mak pe_c pe_mt pe_mt0 pe_mk)
section
variable {P : Program} {w : World} {T : Tx} {mg : Str → Option Value} {base : Heap}
def F_law_all (ds : List Dd) (d : Dd) : Prop := ∃ b : Lb, b.Ok ∧ ds = [.dic b.dic] ∧ d = .py (.list (tups b.allB))
theorem c_law_all (W : Wt T mg) : Cal P w T.K mg base 5 "_law_all" (spF T F_law_all) [] := by
  refine cal_pure (k := 4) W.fn_law_all sc_law_all bn_law_all F_law_all (fun ds d h => ?_) (fun f cdv A outer s H E hr => ⟨_, (pss_one (ps_ret (pe_lc (own := [("_law_build", 1)]) (g := gName 1) (tt := _) rfl sc_law_all.nd  (ki_list T.K (pe_c (c_law_subsets W) hr (by decide) (by rfl) (pa_cons (pv 0) pa_nil))) (blkOk_by (own := [("_law_build", 1)]) (N := N_law_all) (sc := defScope s_law_all) (by decide +kernel)) (fun _ _ _ _ _ => (pg_name (i := 1) sc_law_all.nd rfl (Or.inl rfl))) (fun _ _ _ _ _ => pts_one (pt_val (pe_c (c_law_holds W) hr (by decide) (by rfl) (pa_cons (pv 0) (pa_cons (pv 1) pa_nil))))) (fun _ _ _ _ _ => (pv 1))))), fun ds d h => ?_⟩)
  · obtain ⟨b, hb, rfl, rfl⟩ := h
    exact ⟨rfl, rfl, rfl⟩
  · obtain ⟨b, hb, rfl, rfl⟩ := h
    have hl : b.subsets.length ≤ 100000 := by
      have h5 : b.names.length ≤ 5 := by rw [b.names_len]; exact hb.n5
      have h1 := subsN_len h5 b.names.length [[]] [[]]
      have h2 : 6 ^ b.names.length ≤ 7776 := Nat.le_trans (Nat.pow_le_pow_right (by decide) h5) (by decide)
      unfold Lb.subsets
      have e1 : ([[]] : List (List Str)).length = 1 := rfl
      rw [e1] at h1
      omega
    exact go_retp (EvN.ev (en_lc (xs := b.subsets) (enc := fun S => .tuple (tStrs S)) (fun S => b.holds S) (fun S => .tuple (tStrs S)) (ei_list (ev_call (ea_cons (ev_var rfl) ea_nil) ⟨b, hb, rfl, rfl⟩)) hl fun S hS => ⟨_, eg_name (by decide), et_b (ev_call (ea_cons (ev_var rfl) (ea_cons (ev_var rfl) ea_nil)) ⟨b, S, hb, sub_of_sublist hb (subsets_sub hb S hS), rfl, rfl⟩), fun _ => ev_var rfl⟩)) rfl
def F_law_fallen (ds : List Dd) (d : Dd) : Prop := ∃ (b : Lb) (S : List Str), b.Ok ∧ S.Sublist b.names ∧ ds = [.dic b.dic, .py (.tuple (tStrs S))] ∧ d = .py (.tuple (tStrs (b.fallen S)))
theorem c_law_fallen (W : Wt T mg) : Cal P w T.K mg base 4 "_law_fallen" (spF T F_law_fallen) [] := by
  refine cal_pure (k := 3) W.fn_law_fallen sc_law_fallen bn_law_fallen F_law_fallen (fun ds d h => ?_) (fun f cdv A outer s H E hr => ⟨_, (pss_one (ps_while PassesOwn.never (pt_val pe_bl) (pss_cons (ps_setLc (i := 2) (own := [("_law_name", 3)]) (g := gName 3) (tt := _) rfl sc_law_fallen.nd rfl rfl (sw_true rfl rfl rfl (by decide +kernel)) (ki_tup T.K (pv 1)) (blkOk_by (own := [("_law_name", 3)]) (N := N_law_fallen) (sc := defScope s_law_fallen) (by decide +kernel)) (fun _ _ _ _ _ => (pg_name (i := 3) sc_law_fallen.nd rfl (Or.inl rfl))) (fun _ _ _ _ _ => pts_one (pt_not (pt_val (pe_c (c_law_is_met W) hr (by decide) (by rfl) (pa_cons (pv 0) (pa_cons (pv 1) (pa_cons (pv 3) pa_nil))))))) (fun _ _ _ _ _ => (pv 3)))
      (pss_cons (ps_setLc (i := 4) (own := [("_law_pair", 5)]) (g := gName 5) (tt := _) rfl sc_law_fallen.nd rfl rfl (sw_true rfl rfl rfl (by decide +kernel)) (ki_list T.K (pe_dget (hu_of hr) (pv 0) pe_str (fun _ _ => rfl))) (blkOk_by (own := [("_law_pair", 5)]) (N := N_law_fallen) (sc := defScope s_law_fallen) (by decide +kernel)) (fun _ _ _ _ _ => (pg_name (i := 5) sc_law_fallen.nd rfl (Or.inl rfl))) (fun _ _ _ _ _ => pts_one (PW.pt (pw_and (pt_cmpR (r := rIn T.K false) op_in_seq (pe_ix (r := rIxT T.K) ix_tup (pv 5) pe_int (fun _ _ => rfl)) (pv 1) (by rfl)) (pw_and1 (pt_cmpR (r := rIn T.K false) op_in_seq (pe_ix (r := rIxT T.K) ix_tup (pv 5) pe_int (fun _ _ => rfl)) (pv 1) (by rfl)))))) (fun _ _ _ _ _ => (pv 5)))
      (pss_cons (ps_set (i := 6) sc_law_fallen.nd rfl (Or.inr rfl) (pe_lst pa_nil))
      (pss_cons (ps_if (pt_cmpR (r := rNeD T.K) (op_neD hr.units) (pv 2) (pe_lst pa_nil) (nomark _)) (pss_one (ps_set (i := 6) sc_law_fallen.nd rfl (Or.inr rfl) (pv 2))) (pss_one (ps_if (pt_cmpR (r := rNeD T.K) (op_neD hr.units) (pv 4) (pe_lst pa_nil) (nomark _)) (pss_one (ps_set (i := 6) sc_law_fallen.nd rfl (Or.inr rfl) (pe_callTy (r := rLstC T.K) cz_lst (by rfl) W.m_list bt_list (pa_cons (pe_slice (r := rSlA T.K) sl_tupA (pe_c (c_law_order W) hr (by decide) (by rfl) (pa_cons (pv 0) (pa_cons (pe_ix (r := rIxL T.K) ix_list (pv 4) pe_int (fun _ _ => rfl)) pa_nil))) (po_some pe_int) po_none) pa_nil)))) (pss_one (ps_if (pt_cmpR op_gt (pe_callB (r := rLen T.K) cz_len (by rfl) W.m_len bt_len (pa_cons (pv 1) pa_nil)) (pe_c (c_law_size_let W) hr (by decide) (by rfl) (pa_cons (pv 0) (pa_cons (pv 1) pa_nil))) (nomark _)) (pss_one (ps_set (i := 6) sc_law_fallen.nd rfl (Or.inr rfl) (pe_callTy (r := rLstC T.K) cz_lst (by rfl) W.m_list bt_list (pa_cons (pe_slice (r := rSlA T.K) sl_tupA (pv 1) (po_some (pe_un un_neg pe_int)) po_none) pa_nil)))) pss_nil)))))
      (pss_cons (ps_if (pt_cmpR (r := rEqD T.K) (op_eqD hr.units) (pv 6) (pe_lst pa_nil) (nomark _)) (pss_one (ps_ret (pv 1))) pss_nil)
      (pss_one (ps_set (i := 1) sc_law_fallen.nd rfl (Or.inr rfl) (pe_callTy (r := rTupC T.K) cz_tup (by rfl) W.m_tuple bt_tuple (pa_cons (pe_lc (own := [("_law_name", 3)]) (g := gName 3) (tt := _) rfl sc_law_fallen.nd  (ki_tup T.K (pv 1)) (blkOk_by (own := [("_law_name", 3)]) (N := N_law_fallen) (sc := defScope s_law_fallen) (by decide +kernel)) (fun _ _ _ _ _ => (pg_name (i := 3) sc_law_fallen.nd rfl (Or.inl rfl))) (fun _ _ _ _ _ => pts_one (pt_cmpR (r := rIn T.K true) op_notIn_seq (pv 3) (pv 6) (by rfl))) (fun _ _ _ _ _ => (pv 3))) pa_nil))))))))))), fun ds d h => ?_⟩)
  · obtain ⟨b, S, hb, hS, rfl, rfl⟩ := h
    exact ⟨rfl, rfl, rfl⟩
  · obtain ⟨b, S0, hb, hS0, rfl, rfl⟩ := h
    refine go_whilep (fun m ρ' => ∃ S y2 y3 y4 y5 y6, S.Sublist b.names ∧ b.fallen S0 = b.fallN m S ∧ S.length ≤ m ∧ ρ' = [some (.dic b.dic), some (.py (.tuple (tStrs S))), y2, y3, y4, y5, y6]) S0.length ⟨S0, _, _, _, _, _, hS0, rfl, Nat.le_refl _, rfl⟩ ?_
    rintro m ρ1 ⟨S, y2, y3, y4, y5, y6, hS, hf, hm, rfl⟩
    have sS := sub_of_sublist hb hS
    have hs : ∀ x ∈ S, PyData.strOk x = true := fun x hx => hb.str (sS.mem x hx)
    have hp : ∀ p ∈ b.bars, (enSS p).canLay0 = true ∧ (enSS p).depth ≤ 10 := fun p hp => nice_ss (hb.str (hb.bars p hp).1) (hb.str (hb.bars p hp).2.1)
    refine ⟨true, et_b ev_bl, fun _ => ?_, fun h => by cases h⟩
    refine go_letp (EvN.ev (en_lc (xs := S) (enc := PyData.str) (fun x => !b.met S x) PyData.str (ei_tup (ev_var rfl)) sS.len2 fun x hx => ⟨_, eg_name (by decide), et_not (et_b (ev_call (ea_cons (ev_var rfl) (ea_cons (ev_var rfl) (ea_cons (ev_var rfl) ea_nil))) ⟨b, S, x, hb, sS, sS.mem x hx, rfl, rfl⟩)), fun _ => ev_var rfl⟩)) ?_
    refine go_letp (EvN.ev (en_lc (xs := b.bars) (enc := enSS) (fun p => decide (p.1 ∈ S) && decide (p.2 ∈ S)) enSS (ei_list (ev_dget (k := .inr "bars") (ev_var rfl) ev_str (lk_bars b))) (Nat.le_trans hb.bars6 (by decide)) fun p hp => ⟨_, eg_name (by decide), et_and (et_test (ev_op (ev_op (ev_var rfl) ev_int (er_ixT rfl)) (ev_var rfl) er_inT)) (fun _ => et_test (ev_op (ev_op (ev_var rfl) ev_int (er_ixT rfl)) (ev_var rfl) er_inT)), fun _ => ev_var rfl⟩)) ?_
    refine go_letp (EvN.ev (en_lst (ds := []) ea_nil (by decide))) ?_
    refine go_seq (N1 := fun ρ' o => ∃ y2 y3 y4 y5, o = [] ∧ ρ' = [some (.dic b.dic), some (.py (.tuple (tStrs S))), y2, y3, y4, y5, some (.py (.list (tStrs (b.gone S))))]) ?_ (fun ρ' o ⟨y2, y3, y4, y5, e1, e2⟩ => ?_)
    · refine go_if (et_test (ev_op (ev_var rfl) (EvN.ev (en_lst (ds := []) ea_nil (by decide))) (er_neD (shaped_strs fun x hx => hs x (List.mem_filter.mp hx).1).1 shaped_nil))) (fun e => ?_) (fun e => ?_)
      · rw [eqv_nil, List.isEmpty_map] at e
        refine go_asgp (ev_is (ev_var rfl) ?_) ⟨_, _, _, _, rfl, rfl⟩
        unfold Lb.gone Lb.loose
        rw [if_pos (by simpa using e)]
        rfl
      · rw [eqv_nil, List.isEmpty_map] at e
        have e1 : ¬ (b.loose S).isEmpty = false := by
          unfold Lb.loose
          simpa using e
        refine go_if (et_test (ev_op (ev_var rfl) (EvN.ev (en_lst (ds := []) ea_nil (by decide))) (er_neD (shaped_of fun d hd => by
          obtain ⟨u, hu, rfl⟩ := List.mem_map.mp hd
          exact hp u (List.mem_filter.mp hu).1).1 shaped_nil))) (fun e2 => ?_) (fun e2 => ?_)
        · rw [eqv_nil, List.isEmpty_map] at e2
          cases z : b.barred S with
          | nil =>
            unfold Lb.barred at z
            rw [z] at e2
            cases e2
          | cons p l =>
            have z2 : (b.bars.filter fun p => decide (p.1 ∈ S) && decide (p.2 ∈ S)) = p :: l := z
            rw [z2]
            refine go_asgp (EvN.ev (en_is (en_cb (ea_cons (ev_slT (ev_call (ea_cons (ev_var rfl) (ea_cons (ev_op (ev_var rfl) ev_int (er_ixL (d := enSS p) (atI_nat (j := 0) rfl))) ea_nil)) ⟨b, [p.1, p.2], hb, rfl, rfl⟩) (eo_some ev_int) eo_none) ea_nil) ecn_lst_t) ?_)) ⟨_, _, _, _, rfl, rfl⟩
            have := cut_from (tStrs (b.order [p.1, p.2])) 1
            unfold Lb.gone
            rw [if_neg e1, z]
            refine Eq.trans this ?_
            show (tStrs (b.order [p.1, p.2])).drop 1 = tStrs ((b.order [p.1, p.2]).drop 1)
            unfold tStrs
            rw [List.map_drop]
        · rw [eqv_nil, List.isEmpty_map] at e2
          have z : b.barred S = [] := by
            unfold Lb.barred
            exact List.isEmpty_iff.mp (by simpa using e2)
          have hle : ((tStrs S).length : Int) = (S.length : Int) := by
            unfold tStrs
            rw [List.length_map]
          refine go_if (et_test (ev_op (ev_cb (ea_cons (ev_var rfl) ea_nil) ec_len_t) (ev_call (ea_cons (ev_var rfl) (ea_cons (ev_var rfl) ea_nil)) ⟨b, S, hb, rfl, rfl⟩) er_gt)) (fun e3 => ?_) (fun e3 => ?_)
          · rw [hle] at e3
            refine go_asgp (EvN.ev (en_is (en_cb (ea_cons (ev_slT (ev_var rfl) (eo_some (ev_neg ev_int)) eo_none) ea_nil) ecn_lst_t) ?_)) ⟨_, _, _, _, rfl, rfl⟩
            unfold Lb.gone
            rw [if_neg e1, z]
            simp only
            rw [if_pos (of_decide_eq_true e3), cut_last]
            unfold tStrs
            rw [List.length_map, List.map_drop]
          · rw [hle] at e3
            have eg : b.gone S = [] := by
              unfold Lb.gone
              rw [if_neg e1, z]
              simp only
              rw [if_neg (of_decide_eq_false e3)]
            rw [eg]
            exact go_next ⟨_, _, _, _, rfl, rfl⟩
    · subst e1 e2
      have hgs : ∀ x ∈ b.gone S, PyData.strOk x = true := by
        intro x hx
        unfold Lb.gone at hx
        by_cases h1 : (b.loose S).isEmpty = false
        · rw [if_pos h1] at hx
          exact hs x (List.mem_filter.mp hx).1
        · rw [if_neg h1] at hx
          cases z : b.barred S with
          | cons p l =>
            rw [z] at hx
            exact hb.str ((sub_order hb _).mem x (List.mem_of_mem_drop hx))
          | nil =>
            rw [z] at hx
            simp only at hx
            by_cases h2 : b.sizeLet S < (S.length : Int)
            · rw [if_pos h2] at hx
              exact hs x (List.mem_of_mem_drop hx)
            · rw [if_neg h2] at hx
              cases hx
      refine go_ifret (et_test (ev_op (ev_var rfl) (EvN.ev (en_lst (ds := []) ea_nil (by decide))) (er_eqD (shaped_strs hgs).1 shaped_nil))) (fun e => go_retp (ev_var rfl) ?_) (fun e => ?_)
      · rw [eqv_nil] at e
        unfold tStrs at e
        rw [List.isEmpty_map] at e
        rw [hf]
        cases m with
        | zero => rfl
        | succ m =>
          show Dd.py (.tuple (tStrs S)) = Dd.py (.tuple (tStrs (if (b.gone S).isEmpty = true then S else b.fallN m (b.next S))))
          rw [if_pos e]
      · rw [eqv_nil] at e
        unfold tStrs at e
        rw [List.isEmpty_map] at e
        have hsh := next_shorter hb e
        refine go_asgp (d := .py (.tuple (tStrs (b.next S)))) (ev_cb (ea_cons (EvN.ev (en_lc (xs := S) (enc := PyData.str) (fun x => !decide (x ∈ b.gone S)) PyData.str (ei_tup (ev_var rfl)) sS.len2 fun x hx => ⟨_, eg_name (by decide), et_test (ev_op (ev_var rfl) (ev_var rfl) er_niL), fun _ => ev_var rfl⟩)) ea_nil) ec_tup_l) ⟨rfl, m - 1, by omega, b.next S, _, _, _, _, _, (next_sublist b S).trans hS, ?_, by omega, rfl⟩
        rw [hf]
        cases m with
        | zero => omega
        | succ m =>
          show (if (b.gone S).isEmpty = true then S else b.fallN m (b.next S)) = b.fallN m (b.next S)
          rw [if_neg (by rw [e]; exact Bool.false_ne_true)]
def F_law_regrown (ds : List Dd) (d : Dd) : Prop := ∃ (b : Lb) (S : List Str), b.Ok ∧ S.Sublist b.names ∧ ds = [.dic b.dic, .py (.tuple (tStrs S))] ∧ d = .py (.tuple (tStrs (b.regrown S)))
theorem c_law_regrown (W : Wt T mg) : Cal P w T.K mg base 5 "_law_regrown" (spF T F_law_regrown) [] := by
  refine cal_pure (k := 4) W.fn_law_regrown sc_law_regrown bn_law_regrown F_law_regrown (fun ds d h => ?_) (fun f cdv A outer s H E hr => ⟨_, (pss_cons (ps_set (i := 2) sc_law_regrown.nd rfl (Or.inr rfl) (pe_tup pa_nil))
      (pss_cons (ps_for PassesOwn.never rfl (pi_range1 (by rfl) W.m_range (pa_cons (pe_callB (r := rLen T.K) cz_len (by rfl) W.m_len bt_len (pa_cons (pv 1) pa_nil)) pa_nil)) (pg_name (i := 3) sc_law_regrown.nd rfl (Or.inl rfl)) (pss_cons (ps_setLc (i := 4) (own := [("_law_name", 5)]) (g := gName 5) (tt := _) rfl sc_law_regrown.nd rfl rfl (sw_true rfl rfl rfl (by decide +kernel)) (ki_tup T.K (pv 1)) (blkOk_by (own := [("_law_name", 5)]) (N := N_law_regrown) (sc := defScope s_law_regrown) (by decide +kernel)) (fun _ _ _ _ _ => (pg_name (i := 5) sc_law_regrown.nd rfl (Or.inl rfl))) (fun _ _ _ _ _ => pts_one (PW.pt (pw_and (pt_cmpR (r := rIn T.K true) op_notIn_seq (pv 5) (pv 2) (by rfl)) (pw_and1 (pt_val (pe_c (c_law_holds W) hr (by decide) (by rfl) (pa_cons (pv 0) (pa_cons (pe_c (c_law_order W) hr (by decide) (by rfl) (pa_cons (pv 0) (pa_cons (pe_op (r := rCatA T.K) op_catA (pv 2) (pe_tup (pa_cons (pv 5) pa_nil))) pa_nil))) pa_nil)))))))) (fun _ _ _ _ _ => (pv 5)))
      (pss_one (ps_set (i := 2) sc_law_regrown.nd rfl (Or.inr rfl) (pe_c (c_law_order W) hr (by decide) (by rfl) (pa_cons (pv 0) (pa_cons (pe_op (r := rCatA T.K) op_catA (pv 2) (pe_callTy (r := rTupC T.K) cz_tup (by rfl) W.m_tuple bt_tuple (pa_cons (pe_slice (r := rSlL T.K) sl_list (pv 4) po_none (po_some pe_int)) pa_nil))) pa_nil)))))))
      (pss_one (ps_ret (pv 2))))), fun ds d h => ?_⟩)
  · obtain ⟨b, S, hb, hS, rfl, rfl⟩ := h
    exact ⟨rfl, rfl, rfl⟩
  · obtain ⟨b, S, hb, hS, rfl, rfl⟩ := h
    have sS := sub_of_sublist hb hS
    refine go_letp (d := .py (.tuple (tStrs []))) (ev_tup (ds := []) ea_nil (by decide)) ?_
    refine go_seq (N1 := fun ρ' o => ∃ y3 y4 y5, o = [] ∧ ρ' = [some (.dic b.dic), some (.py (.tuple (tStrs S))), some (.py (.tuple (tStrs (b.regrown S)))), y3, y4, y5]) ?_ (fun ρ' o ⟨y3, y4, y5, e1, e2⟩ => by
      subst e1 e2
      exact go_retp (ev_var rfl) rfl)
    refine go_forp (vs := [3]) (List.range S.length) (fun (i : Nat) => PyData.int (i : Int)) (fun i ρ' => ∃ F y3 y4 y5, F = b.growN S i [] ∧ Sub b F ∧ F.length ≤ 5 ∧ ρ' = [some (.dic b.dic), some (.py (.tuple (tStrs S))), some (.py (.tuple (tStrs F))), y3, y4, y5]) (ei_rng (ea_cons (ev_is (ev_cb (ea_cons (ev_var rfl) ea_nil) ec_len_t) (by unfold tStrs; rw [List.length_map])) ea_nil) (by have := sS.len; omega)) ⟨[], _, _, _, rfl, ⟨(by intro y h; cases h), Nat.zero_le _⟩, Nat.zero_le _, rfl⟩ ?_ ?_
    · rintro i j ρ1 hj ⟨F, y3, y4, y5, hF, sF, hF5, rfl⟩
      have hord : ∀ S', (b.order S').length ≤ 5 := fun S' => by
        have := (order_sublist b S').length_le
        rw [b.names_len] at this
        exact Nat.le_trans this hb.n5
      refine ⟨_, eg_name (by decide), ?_⟩
      refine go_letp (EvN.ev (en_lc (xs := S) (enc := PyData.str) (fun x => !decide (x ∈ F) && b.holds (b.order (F ++ [x]))) PyData.str (ei_tup (ev_var rfl)) sS.len2 fun x hx => ⟨_, eg_name (by decide), et_and (et_test (ev_op (ev_var rfl) (ev_var rfl) er_niT)) (fun _ => et_b (ev_call (ea_cons (ev_var rfl) (ea_cons (ev_call (ea_cons (ev_var rfl) (ea_cons (ev_is (ev_op (ev_var rfl) (ev_tup (ds := [.str x]) (ea_cons (ev_var rfl) ea_nil) (by show 1 ≤ 1000; decide)) (er_catT ?_)) ?_) ea_nil)) ⟨b, F ++ [x], hb, rfl, rfl⟩) ea_nil)) ⟨b, b.order (F ++ [x]), hb, sub_order hb _, rfl, rfl⟩)), fun _ => ev_var rfl⟩)) ?_
      · unfold tStrs
        rw [List.length_map]
        show F.length + 1 ≤ 1000
        omega
      · unfold tStrs
        rw [List.map_append]
        rfl
      · refine go_asgp (d := .py (.tuple (tStrs (b.grow1 S F)))) (ev_call (ea_cons (ev_var rfl) (ea_cons (ev_is (ev_op (ev_var rfl) (ev_cb (ea_cons (EvN.ev (en_slL (ev_var rfl) eo_none (eo_some ev_int))) ea_nil) ec_tup_l) (er_catT ?_)) ?_) ea_nil)) ⟨b, F ++ (b.can S F).take 1, hb, rfl, rfl⟩) ⟨rfl, b.grow1 S F, _, _, _, ?_, sub_order hb _, hord _, rfl⟩
        · have e1 := cut_to ((S.filter fun x => !decide (x ∈ F) && b.holds (b.order (F ++ [x]))).map PyData.str) 1
          rw [show ((1 : Nat) : Int) = 1 from rfl] at e1
          rw [e1]
          unfold tStrs
          rw [List.length_map, List.length_take]
          omega
        · have e1 := cut_to ((S.filter fun x => !decide (x ∈ F) && b.holds (b.order (F ++ [x]))).map PyData.str) 1
          rw [show ((1 : Nat) : Int) = 1 from rfl] at e1
          rw [e1]
          unfold tStrs Lb.can
          rw [List.map_append, List.map_take]
        · rw [hF]
          exact (growN_succ b S i []).symm
    · rintro ρ1 ⟨F, y3, y4, y5, hF, sF, hF5, rfl⟩
      rw [List.length_range] at hF
      subst hF
      exact ⟨_, _, _, rfl, rfl⟩
def F_law_carried (ds : List Dd) (d : Dd) : Prop := ∃ (b : Lb) (S : List Str) (k : Str), b.Ok ∧ ds = [.dic b.dic, .py (.tuple (tStrs S)), .py (.str k)] ∧ d = .py (.tuple (tStrs (b.carried S k)))
theorem c_law_carried (W : Wt T mg) : Cal P w T.K mg base 6 "_law_carried" (spF T F_law_carried) [] := by
  refine cal_pure (k := 5) W.fn_law_carried sc_law_carried bn_law_carried F_law_carried (fun ds d h => ?_) (fun f cdv A outer s H E hr => ⟨_, (pss_cons (ps_set (i := 3) sc_law_carried.nd rfl (Or.inl rfl) (pe_c (c_law_order W) hr (by decide) (by rfl) (pa_cons (pv 0) (pa_cons (pv 1) pa_nil))))
      (pss_cons (ps_if (pt_cmpR op_eq (pv 2) pe_str (nomark _)) (pss_one (ps_ret (pv 3))) pss_nil)
      (pss_one (ps_ret (pe_ifExp (pt_cmpR op_eq (pv 2) pe_str (nomark _)) (pe_c (c_law_fallen W) hr (by decide) (by rfl) (pa_cons (pv 0) (pa_cons (pv 3) pa_nil))) (pe_c (c_law_regrown W) hr (by decide) (by rfl) (pa_cons (pv 0) (pa_cons (pv 3) pa_nil)))))))), fun ds d h => ?_⟩)
  · obtain ⟨b, S, k, hb, rfl, rfl⟩ := h
    exact ⟨rfl, rfl, rfl⟩
  · obtain ⟨b, S, k, hb, rfl, rfl⟩ := h
    refine go_letp (ev_call (ea_cons (ev_var rfl) (ea_cons (ev_var rfl) ea_nil)) ⟨b, S, hb, rfl, rfl⟩) ?_
    refine go_ifret (et_test (ev_op (ev_var rfl) ev_str er_eqS)) (fun e => go_retp (ev_var rfl) ?_) (fun e => go_retp (ev_if (et_test (ev_op (ev_var rfl) ev_str er_eqS)) (fun e2 => ev_is (ev_call (ea_cons (ev_var rfl) (ea_cons (ev_var rfl) ea_nil)) ⟨b, b.order S, hb, order_sublist b S, rfl, rfl⟩) ?_) (fun e2 => ev_is (ev_call (ea_cons (ev_var rfl) (ea_cons (ev_var rfl) ea_nil)) ⟨b, b.order S, hb, order_sublist b S, rfl, rfl⟩) ?_)) rfl)
    · unfold Lb.carried
      rw [if_pos (of_decide_eq_true e)]
    · unfold Lb.carried
      rw [if_neg (of_decide_eq_false e), if_pos (of_decide_eq_true e2)]
    · unfold Lb.carried
      rw [if_neg (of_decide_eq_false e), if_neg (of_decide_eq_false e2)]
end
end Rt
namespace Rt
open PySem PySem.Spec PyProof.Rows L2
open C8 (Cal Met Mak pe_c pe_mt pe_mt0 pe_mk)
section
variable {P : Program} {w : World} {T : Tx} {mg : Str → Option Value} {base : Heap}
/-! ### what a book is looked at by -/
def F_is_whole (ds : List Dd) (d : Dd) : Prop := ∃ i : Int, ds = [.py (.int i)] ∧ d = .py (.bool true)
theorem c_is_whole (W : Wt T mg) : Cal P w T.K mg base 1 "is_whole" (spF T F_is_whole) [] := by
  refine cal_pure (k := 0) W.fn_is_whole sc_is_whole bn_is_whole F_is_whole (fun ds d h => ?_) (fun f cdv A outer s H E hr => ⟨_, (pss_one (ps_ret (pe_and (pe_callB (r := rIsi T.K) call_isi (by rfl) W.m_isinstance bt_isinstance (pa_cons (pv 0) (pa_cons (pe_bltn (v := .ty "int") (by rfl) W.m_int (by decide +kernel) rfl) pa_nil))) (pe_one (pe_not (pe_callB (r := rIsi T.K) call_isi (by rfl) W.m_isinstance bt_isinstance (pa_cons (pv 0) (pa_cons (pe_bltn (v := .ty "bool") (by rfl) W.m_bool (by decide +kernel) rfl) pa_nil)))))))), fun ds d h => ?_⟩)
  · obtain ⟨i, rfl, rfl⟩ := h
    exact ⟨rfl, rfl, rfl⟩
  · obtain ⟨i, rfl, rfl⟩ := h
    exact go_retp (ev_andV (ev_cb (ea_cons (ev_var rfl) (ea_cons ev_cls ea_nil)) (ec_isi rfl rfl)) fun _ => ev_notV (ev_cb (ea_cons (ev_var rfl) (ea_cons ev_cls ea_nil)) (ec_isi rfl rfl))) rfl
def F_is_number (ds : List Dd) (d : Dd) : Prop := ∃ i lo hi : Int, lo ≤ i ∧ i ≤ hi ∧ ds = [.py (.int i), .py (.int lo), .py (.int hi)] ∧ d = .py (.bool true)
theorem c_is_number (W : Wt T mg) : Cal P w T.K mg base 2 "is_number" (spF T F_is_number) [] := by
  refine cal_pure (k := 1) W.fn_is_number sc_is_number bn_is_number F_is_number (fun ds d h => ?_) (fun f cdv A outer s H E hr => ⟨_, (pss_one (ps_ret (pe_and (pe_c (c_is_whole W) hr (by decide) (by rfl) (pa_cons (pv 0) pa_nil)) (pe_one (pe_chain op_le op_le (pv 1) (pv 0) (pv 2)))))), fun ds d h => ?_⟩)
  · obtain ⟨i, lo, hi, h1, h2, rfl, rfl⟩ := h
    exact ⟨rfl, rfl, rfl⟩
  · obtain ⟨i, lo, hi, h1, h2, rfl, rfl⟩ := h
    refine go_retp (ev_is (ev_andV (ev_call (ea_cons (ev_var rfl) ea_nil) ⟨i, rfl, rfl⟩) fun _ => ev_chain (ev_var rfl) (ev_var rfl) (ev_var rfl) er_le (fun _ => er_le)) ?_) rfl
    rw [decide_eq_true h1, decide_eq_true h2]
    rfl
def letters : Str := "abcdefghijklmnopqrstuvwxyz"
theorem w13_letters : ∀ x ∈ words13, (x.cps.toList.map fun c => decide (c ∈ letters.cps.toList)).all id = true := by decide +kernel
def F_is_word (ds : List Dd) (d : Dd) : Prop := ∃ x : Str, x ∈ words13 ∧ ds = [.py (.str x)] ∧ d = .py (.bool true)
theorem c_is_word (W : Wt T mg) : Cal P w T.K mg base 1 "is_word" (spF T F_is_word) [] := by
  refine cal_pure (k := 0) W.fn_is_word sc_is_word bn_is_word F_is_word (fun ds d h => ?_) (fun f cdv A outer s H E hr => ⟨_, (pss_cons (ps_if (PW.pt (pw_or (pt_not (pt_val (pe_callB (r := rIsi T.K) call_isi (by rfl) W.m_isinstance bt_isinstance (pa_cons (pv 0) (pa_cons (pe_bltn (v := .ty "str") (by rfl) W.m_str (by decide +kernel) rfl) pa_nil))))) (pw_or1 (pt_not (pt_chain op_le op_le pe_int (pe_callB (r := rLen T.K) cz_len (by rfl) W.m_len bt_len (pa_cons (pv 0) pa_nil)) (C8.pe_gc (by rfl) W.m_MOST_LETTERS)))))) (pss_one (ps_ret pe_bl)) pss_nil)
      (pss_one (ps_ret (pe_callB (r := rAll T.K) (cr_all rfl) (by rfl) W.m_all bt_all (pa_cons (pe_lc (own := [("sign", 1)]) (g := gName 1) (tt := tYes) rfl sc_is_word.nd  (pi_str (pv 0)) (blkOk_by (own := [("sign", 1)]) (N := N_is_word) (sc := defScope s_is_word) (by decide +kernel)) (fun _ _ _ _ _ => (pg_name (i := 1) sc_is_word.nd rfl (Or.inl rfl))) (fun _ _ _ _ _ => pts_nil) (fun _ _ _ _ _ => (pe_cmpR oz_sign (pv 1) (C8.pe_gc (by rfl) W.m_LETTERS) (by rfl)))) pa_nil))))), fun ds d h => ?_⟩)
  · obtain ⟨x, hx, rfl, rfl⟩ := h
    exact ⟨rfl, rfl, rfl⟩
  · obtain ⟨x, hx, rfl, rfl⟩ := h
    obtain ⟨_, h1, h8⟩ := w13_ok x hx
    refine go_ifret (et_or (et_not (et_b (ev_cb (ea_cons (ev_var rfl) (ea_cons ev_cls ea_nil)) (ec_isi rfl rfl)))) fun _ => et_not (et_test (ev_chain ev_int (ev_cb (ea_cons (ev_var rfl) ea_nil) (ec_len_s (by omega))) ev_int er_le (fun _ => er_le)))) (fun e => ?_) (fun e => ?_)
    · rw [decide_eq_true (show (1 : Int) ≤ (x.length : Int) by omega), decide_eq_true (show (x.length : Int) ≤ 8 by omega)] at e
      cases e
    · refine go_retp (ev_is (ev_cb (ea_cons (EvN.ev (en_is (en_lc0 (xs := x.cps.toList) (enc := signD) (fun c => .bool (decide (c ∈ letters.cps.toList))) (ei_str (ev_var rfl)) (by
        have : x.cps.toList.length = x.length := Array.length_toList ..
        omega) fun c hc => ⟨_, eg_name (by decide), ev_op (ev_var rfl) ev_str er_sign⟩) ?_)) ea_nil) (ec_all (bs := x.cps.toList.map fun c => decide (c ∈ letters.cps.toList)))) ?_) rfl
      · rw [List.map_map]
        rfl
      · rw [w13_letters x hx]
def F_is_row (ds : List Dd) (d : Dd) : Prop := ∃ xs : List PyData, (ds = [.py (.list xs)] ∨ ds = [.py (.tuple xs)]) ∧ d = .py (.bool true)
theorem c_is_row (W : Wt T mg) : Cal P w T.K mg base 1 "is_row" (spF T F_is_row) [] := by
  refine cal_pure (k := 0) W.fn_is_row sc_is_row bn_is_row F_is_row (fun ds d h => ?_) (fun f cdv A outer s H E hr => ⟨_, (pss_one (ps_ret (pe_callB (r := rIsiT T.K) call_isiT (by rfl) W.m_isinstance bt_isinstance (pa_cons (pv 0) (pa_cons (pe_tup (pa_cons (pe_bltn (v := .ty "list") (by rfl) W.m_list (by decide +kernel) rfl) (pa_cons (pe_bltn (v := .ty "tuple") (by rfl) W.m_tuple (by decide +kernel) rfl) pa_nil))) pa_nil))))), fun ds d h => ?_⟩)
  · obtain ⟨xs, rfl | rfl, rfl⟩ := h <;> exact ⟨rfl, rfl, rfl⟩
  · obtain ⟨xs, rfl | rfl, rfl⟩ := h
    · exact go_retp (ev_isiT (ev_var rfl) rfl (fun K => rfl)) rfl
    · exact go_retp (ev_isiT (ev_var rfl) rfl (fun K => rfl)) rfl
def F_are_unlike (ds : List Dd) (d : Dd) : Prop := d = .py (.bool true) ∧ ((∃ ks : List Key, ks.Nodup ∧ ks.length ≤ 1000 ∧ (ds = [.py (.list (ks.map kD))] ∨ ds = [.py (.tuple (ks.map kD))])) ∨ ∃ ks : List (List Key), ks.Nodup ∧ ks.length ≤ 1000 ∧ ds = [.py (.list (ks.map tupK2))])
theorem c_are_unlike (W : Wt T mg) : Cal P w T.K mg base 1 "are_unlike" (spF T F_are_unlike) [] := by
  refine cal_pure (k := 0) W.fn_are_unlike sc_are_unlike bn_are_unlike F_are_unlike (fun ds d h => ?_) (fun f cdv A outer s H E hr => ⟨_, ps_either
    (pss_one (ps_ret (pe_cmpR op_eq (pe_callB (r := rLenD) cz_lenD (by rfl) W.m_len bt_len (pa_cons (pe_dc (own := [("one", 1)]) (g := gName 1) (tt := tYes) rfl sc_are_unlike.nd  (ki_list T.K (pv 0)) (blkOk_by (own := [("one", 1)]) (N := N_are_unlike) (sc := defScope s_are_unlike) (by decide +kernel)) (fun _ _ _ _ _ => (pg_name (i := 1) sc_are_unlike.nd rfl (Or.inl rfl))) (fun _ _ _ _ _ => pts_nil) (fun _ _ _ _ _ => (pv 1)) (fun _ _ _ _ _ => pe_bl)) pa_nil)) (pe_callB (r := rLen T.K) cz_len (by rfl) W.m_len bt_len (pa_cons (pv 0) pa_nil)) (nomark _))))
    (ps_either
    (pss_one (ps_ret (pe_cmpR op_eq (pe_callB (r := rLenD) cz_lenD (by rfl) W.m_len bt_len (pa_cons (pe_dc (own := [("one", 1)]) (g := gName 1) (tt := tYes) rfl sc_are_unlike.nd  (ki_tup T.K (pv 0)) (blkOk_by (own := [("one", 1)]) (N := N_are_unlike) (sc := defScope s_are_unlike) (by decide +kernel)) (fun _ _ _ _ _ => (pg_name (i := 1) sc_are_unlike.nd rfl (Or.inl rfl))) (fun _ _ _ _ _ => pts_nil) (fun _ _ _ _ _ => (pv 1)) (fun _ _ _ _ _ => pe_bl)) pa_nil)) (pe_callB (r := rLen T.K) cz_len (by rfl) W.m_len bt_len (pa_cons (pv 0) pa_nil)) (nomark _))))
    (pss_one (ps_ret (pe_cmpR op_eq (pe_callB (r := rLenT) call_len_dT (by rfl) W.m_len bt_len (pa_cons (pe_dcT (own := [("one", 1)]) (g := gName 1) (tt := tYes) (hu_of hr) rfl sc_are_unlike.nd  (ki_list T.K (pv 0)) (blkOk_by (own := [("one", 1)]) (N := N_are_unlike) (sc := defScope s_are_unlike) (by decide +kernel)) (fun _ _ _ _ _ => (pg_name (i := 1) sc_are_unlike.nd rfl (Or.inl rfl))) (fun _ _ _ _ _ => pts_nil) (fun _ _ _ _ _ => (pv 1)) (fun _ _ _ _ _ => pe_bl)) pa_nil)) (pe_callB (r := rLen T.K) cz_len (by rfl) W.m_len bt_len (pa_cons (pv 0) pa_nil)) (nomark _))))), fun ds d h => ?_⟩)
  · obtain ⟨rfl, ⟨ks, _, _, rfl | rfl⟩ | ⟨ks, _, _, rfl⟩⟩ := h <;> exact ⟨rfl, rfl, rfl⟩
  · obtain ⟨rfl, ⟨ks, hn, hl, rfl | rfl⟩ | ⟨ks, hn, hl, rfl⟩⟩ := h
    · refine go_or1 (go_retp (ev_is (ev_op (ev_cb (ea_cons (ev_dc (ei_list (ev_var rfl)) hn hl fun k hk => ⟨_, eg_name (by decide), ev_var rfl, ev_bl⟩) ea_nil) ec_lenD) (ev_cb (ea_cons (ev_var rfl) ea_nil) ec_len_l) er_eqI) ?_) rfl)
      rw [List.length_map, List.length_map, decide_eq_true rfl]
    · refine go_or2 (go_or1 (go_retp (ev_is (ev_op (ev_cb (ea_cons (ev_dc (ei_tup (ev_var rfl)) hn hl fun k hk => ⟨_, eg_name (by decide), ev_var rfl, ev_bl⟩) ea_nil) ec_lenD) (ev_cb (ea_cons (ev_var rfl) ea_nil) ec_len_t) er_eqI) ?_) rfl))
      rw [List.length_map, List.length_map, decide_eq_true rfl]
    · refine go_or2 (go_or2 (go_retp (ev_is (ev_op (ev_dcT_len (ei_list (ev_var rfl)) hn hl fun k hk => ⟨_, eg_name (by decide), ev_var rfl, ev_bl⟩) (ev_cb (ea_cons (ev_var rfl) ea_nil) ec_len_l) er_eqI) ?_) rfl))
      rw [List.length_map, decide_eq_true rfl]
theorem unlike_s {xs : List Str} (hn : xs.Nodup) (hl : xs.length ≤ 1000) : F_are_unlike [.py (.list (tStrs xs))] (.py (.bool true)) := ⟨rfl, .inl ⟨xs.map Sum.inr, List.pairwise_map.mpr (hn.imp fun h e => h (Sum.inr.inj e)), by rw [List.length_map]; exact hl, .inl (by rw [List.map_map]; rfl)⟩⟩
theorem unlike_st {xs : List Str} (hn : xs.Nodup) (hl : xs.length ≤ 1000) : F_are_unlike [.py (.tuple (tStrs xs))] (.py (.bool true)) := ⟨rfl, .inl ⟨xs.map Sum.inr, List.pairwise_map.mpr (hn.imp fun h e => h (Sum.inr.inj e)), by rw [List.length_map]; exact hl, .inr (by rw [List.map_map]; rfl)⟩⟩
theorem unlike_i {xs : List Int} (hn : xs.Nodup) (hl : xs.length ≤ 1000) : F_are_unlike [.py (.list (xs.map .int))] (.py (.bool true)) := ⟨rfl, .inl ⟨xs.map Sum.inl, List.pairwise_map.mpr (hn.imp fun h e => h (Sum.inl.inj e)), by rw [List.length_map]; exact hl, .inl (by rw [List.map_map]; rfl)⟩⟩
theorem unlike_p {xs : List (List Str)} (hn : xs.Nodup) (hl : xs.length ≤ 1000) : F_are_unlike [.py (.list (xs.map fun x => .tuple (tStrs x)))] (.py (.bool true)) := ⟨rfl, .inr ⟨xs.map fun x => x.map Sum.inr, List.pairwise_map.mpr (hn.imp fun {a c} h e => h (by
    have h2 : Function.Injective (Sum.inr : Str → Key) := fun u v z => Sum.inr.inj z
    exact List.map_inj_right (fun u v z => Sum.inr.inj z) |>.mp e)), by rw [List.length_map]; exact hl, by
      rw [List.map_map]
      refine congrArg (fun l => [Dd.py (.list l)]) (List.map_congr_left fun x _ => ?_)
      show PyData.tuple (tStrs x) = PyData.tuple ((x.map Sum.inr).map kD)
      rw [List.map_map]
      rfl⟩⟩
end
end Rt
namespace Rt
open PySem PySem.Spec PyProof.Rows L2
open C8 (Cal Met Mak pe_c pe_mt pe_mt0 pe_mk)
section
variable {P : Program} {w : World} {T : Tx} {mg : Str → Option Value} {base : Heap}
theorem all_true {α : Type} (l : List α) : (l.map fun _ => true).all id = true := by
  induction l with
  | nil => rfl
  | cons a l ih =>
    rw [List.map_cons, List.all_cons, ih]
    rfl
theorem map_true {α : Type} (l : List α) : l.map (fun _ => PyData.bool true) = (l.map fun _ => true).map PyData.bool := by
  rw [List.map_map]
  rfl
/-- all([true, ..]) -/
theorem ev_allT {α : Type} {xs : List α} {enc : α → PyData} {te : TE} {ρ : En} {wi : TI} {g : TG} {vs : List Nat} (hi : EvI T wi ρ (xs.map enc)) (hz : xs.length ≤ 1000)
    (hs : ∀ x, x ∈ xs → ∃ ρ', EvG T g (.py (enc x)) (wipeD ρ vs) ρ' vs ∧ Ev T te ρ' (.py (.bool true))) : Ev T (tCB (rAll T.K) (tCons (tLc wi g tYes te vs) tNil)) ρ (.py (.bool true)) :=
  ev_is (ev_cb (ea_cons (EvN.ev (en_is (en_lc0 (fun _ => PyData.bool true) hi (Nat.le_trans hz (by decide)) hs) (map_true xs))) ea_nil) ec_all) (by rw [all_true])
def F_are_tuples (ds : List Dd) (d : Dd) : Prop := ∃ (l : List (List PyData)) (n m : Nat), l.length ≤ m ∧ m ≤ 1000 ∧ (∀ x ∈ l, x.length = n) ∧ ds = [.py (.list (l.map PyData.tuple)), .py (.int n), .py (.int m)] ∧ d = .py (.bool true)
theorem c_are_tuples (W : Wt T mg) : Cal P w T.K mg base 2 "are_tuples" (spF T F_are_tuples) [] := by
  refine cal_pure (k := 1) W.fn_are_tuples sc_are_tuples bn_are_tuples F_are_tuples (fun ds d h => ?_) (fun f cdv A outer s H E hr => ⟨_, (pss_cons (ps_if (PW.pt (pw_or (pt_not (pt_val (pe_c (c_is_row W) hr (by decide) (by rfl) (pa_cons (pv 0) pa_nil)))) (pw_or1 (pt_cmpR op_gt (pe_callB (r := rLen T.K) cz_len (by rfl) W.m_len bt_len (pa_cons (pv 0) pa_nil)) (pv 2) (nomark _))))) (pss_one (ps_ret pe_bl)) pss_nil)
      (pss_one (ps_ret (pe_callB (r := rAll T.K) (cr_all rfl) (by rfl) W.m_all bt_all (pa_cons (pe_lc (own := [("one", 3)]) (g := gName 3) (tt := tYes) rfl sc_are_tuples.nd  (ki_list T.K (pv 0)) (blkOk_by (own := [("one", 3)]) (N := N_are_tuples) (sc := defScope s_are_tuples) (by decide +kernel)) (fun _ _ _ _ _ => (pg_name (i := 3) sc_are_tuples.nd rfl (Or.inl rfl))) (fun _ _ _ _ _ => pts_nil) (fun _ _ _ _ _ => (pe_and (pe_callB (r := rIsi T.K) call_isi (by rfl) W.m_isinstance bt_isinstance (pa_cons (pv 3) (pa_cons (pe_bltn (v := .ty "tuple") (by rfl) W.m_tuple (by decide +kernel) rfl) pa_nil))) (pe_one (pe_cmpR op_eq (pe_callB (r := rLen T.K) cz_len (by rfl) W.m_len bt_len (pa_cons (pv 3) pa_nil)) (pv 1) (nomark _)))))) pa_nil))))), fun ds d h => ?_⟩)
  · obtain ⟨l, n, m, h1, h2, h3, rfl, rfl⟩ := h
    exact ⟨rfl, rfl, rfl⟩
  · obtain ⟨l, n, m, h1, h2, h3, rfl, rfl⟩ := h
    refine go_ifret (et_or (et_not (et_b (ev_call (ea_cons (ev_var rfl) ea_nil) ⟨_, .inl rfl, rfl⟩))) fun _ => et_test (ev_op (ev_cb (ea_cons (ev_var rfl) ea_nil) ec_len_l) (ev_var rfl) er_gt)) (fun e => ?_) (fun e => ?_)
    · rw [List.length_map, decide_eq_false (show ¬ (m : Int) < (l.length : Int) by omega)] at e
      cases e
    · exact go_retp (ev_allT (xs := l) (enc := PyData.tuple) (ei_list (ev_var rfl)) (by omega) fun x hx => ⟨_, eg_name (by decide), ev_is (ev_andV (ev_cb (ea_cons (ev_var rfl) (ea_cons ev_cls ea_nil)) (ec_isi rfl rfl)) fun _ => ev_op (ev_cb (ea_cons (ev_var rfl) ea_nil) ec_len_t) (ev_var rfl) er_eqI) (by rw [h3 x hx, decide_eq_true rfl]; rfl)⟩) rfl
theorem tups_SI (l : List (Str × Int)) : l.map enSI = (l.map fun p => [PyData.str p.1, PyData.int p.2]).map PyData.tuple := by rw [List.map_map]; rfl
theorem tups_II (l : List (Int × Int)) : l.map enII = (l.map fun p => [PyData.int p.1, PyData.int p.2]).map PyData.tuple := by rw [List.map_map]; rfl
theorem tups_SS (l : List (Str × Str)) : l.map enSS = (l.map fun p => [PyData.str p.1, PyData.str p.2]).map PyData.tuple := by rw [List.map_map]; rfl
theorem are_SI (l : List (Str × Int)) (m : Nat) (h : l.length ≤ m) (hm : m ≤ 1000) : F_are_tuples [.py (.list (l.map enSI)), .py (.int 2), .py (.int m)] (.py (.bool true)) := ⟨l.map fun p => [PyData.str p.1, PyData.int p.2], 2, m, by rw [List.length_map]; exact h, hm, (fun x hx => by
  obtain ⟨p, _, rfl⟩ := List.mem_map.mp hx
  rfl), by rw [tups_SI]; rfl, rfl⟩
theorem are_II (l : List (Int × Int)) (m : Nat) (h : l.length ≤ m) (hm : m ≤ 1000) : F_are_tuples [.py (.list (l.map enII)), .py (.int 2), .py (.int m)] (.py (.bool true)) := ⟨l.map fun p => [PyData.int p.1, PyData.int p.2], 2, m, by rw [List.length_map]; exact h, hm, (fun x hx => by
  obtain ⟨p, _, rfl⟩ := List.mem_map.mp hx
  rfl), by rw [tups_II]; rfl, rfl⟩
theorem are_SS (l : List (Str × Str)) (m : Nat) (h : l.length ≤ m) (hm : m ≤ 1000) : F_are_tuples [.py (.list (l.map enSS)), .py (.int 2), .py (.int m)] (.py (.bool true)) := ⟨l.map fun p => [PyData.str p.1, PyData.str p.2], 2, m, by rw [List.length_map]; exact h, hm, (fun x hx => by
  obtain ⟨p, _, rfl⟩ := List.mem_map.mp hx
  rfl), by rw [tups_SS]; rfl, rfl⟩
def F_are_skills (ds : List Dd) (d : Dd) : Prop := ∃ b : Lb, b.Ok ∧ ds = [.py (.list (b.skills.map enSI))] ∧ d = .py (.bool true)
theorem c_are_skills (W : Wt T mg) : Cal P w T.K mg base 3 "are_skills" (spF T F_are_skills) [] := by
  refine cal_pure (k := 2) W.fn_are_skills sc_are_skills bn_are_skills F_are_skills (fun ds d h => ?_) (fun f cdv A outer s H E hr => ⟨_, (pss_cons (ps_if (PW.pt (pw_or (pt_not (pt_val (pe_c (c_are_tuples W) hr (by decide) (by rfl) (pa_cons (pv 0) (pa_cons pe_int (pa_cons (C8.pe_gc (by rfl) W.m_MOST_SKILLS) pa_nil)))))) (pw_or1 (pt_cmpR op_eq (pe_callB (r := rLen T.K) cz_len (by rfl) W.m_len bt_len (pa_cons (pv 0) pa_nil)) pe_int (nomark _))))) (pss_one (ps_ret pe_bl)) pss_nil)
      (pss_cons (ps_if (pt_not (pt_val (pe_callB (r := rAll T.K) (cr_all rfl) (by rfl) W.m_all bt_all (pa_cons (pe_lc (own := [("name", 1), ("tier", 2)]) (g := gTup T.K 2 (gCons (gName 1) (gCons (gName 2) (gNil)))) (tt := tYes) rfl sc_are_skills.nd  (ki_list T.K (pv 0)) (blkOk_by (own := [("name", 1), ("tier", 2)]) (N := N_are_skills) (sc := defScope s_are_skills) (by decide +kernel)) (fun _ _ _ _ _ => (kg_tup T.K rfl (pgs_cons (pg_name (i := 1) sc_are_skills.nd rfl (Or.inl rfl)) (pgs_cons (pg_name (i := 2) sc_are_skills.nd rfl (Or.inl rfl)) pgs_nil)))) (fun _ _ _ _ _ => pts_nil) (fun _ _ _ _ _ => (pe_and (pe_c (c_is_word W) hr (by decide) (by rfl) (pa_cons (pv 1) pa_nil)) (pe_one (pe_c (c_is_number W) hr (by decide) (by rfl) (pa_cons (pv 2) (pa_cons pe_int (pa_cons (C8.pe_gc (by rfl) W.m_MOST_TIERS) pa_nil)))))))) pa_nil)))) (pss_one (ps_ret pe_bl)) pss_nil)
      (pss_cons (ps_setLc (i := 3) (own := [("name", 1), ("tier", 2)]) (g := gTup T.K 2 (gCons (gName 1) (gCons (gName 2) (gNil)))) (tt := tYes) rfl sc_are_skills.nd rfl rfl (sw_true rfl rfl rfl (by decide +kernel)) (ki_list T.K (pv 0)) (blkOk_by (own := [("name", 1), ("tier", 2)]) (N := N_are_skills) (sc := defScope s_are_skills) (by decide +kernel)) (fun _ _ _ _ _ => (kg_tup T.K rfl (pgs_cons (pg_name (i := 1) sc_are_skills.nd rfl (Or.inl rfl)) (pgs_cons (pg_name (i := 2) sc_are_skills.nd rfl (Or.inl rfl)) pgs_nil)))) (fun _ _ _ _ _ => pts_nil) (fun _ _ _ _ _ => (pe_callTy (r := rIntC) cz_int (by rfl) W.m_int bt_int (pa_cons (pv 2) pa_nil))))
      (pss_one (ps_ret (pe_and (pe_c (c_are_unlike W) hr (by decide) (by rfl) (pa_cons (pe_lc (own := [("name", 1), ("tier", 2)]) (g := gTup T.K 2 (gCons (gName 1) (gCons (gName 2) (gNil)))) (tt := tYes) rfl sc_are_skills.nd  (ki_list T.K (pv 0)) (blkOk_by (own := [("name", 1), ("tier", 2)]) (N := N_are_skills) (sc := defScope s_are_skills) (by decide +kernel)) (fun _ _ _ _ _ => (kg_tup T.K rfl (pgs_cons (pg_name (i := 1) sc_are_skills.nd rfl (Or.inl rfl)) (pgs_cons (pg_name (i := 2) sc_are_skills.nd rfl (Or.inl rfl)) pgs_nil)))) (fun _ _ _ _ _ => pts_nil) (fun _ _ _ _ _ => (pv 1))) pa_nil)) (pe_one (pe_cmpR (r := rEqD T.K) (op_eqD hr.units) (pv 3) (pe_callB (r := rSorted T.K) cr_sorted (by rfl) W.m_sorted bt_sorted (pa_cons (pv 3) pa_nil)) (nomark _))))))))), fun ds d h => ?_⟩)
  · obtain ⟨b, hb, rfl, rfl⟩ := h
    exact ⟨rfl, rfl, rfl⟩
  · obtain ⟨b, hb, rfl, rfl⟩ := h
    have h5 := hb.n5
    have hpos : b.skills.length ≠ 0 := fun z => hb.n0 (List.length_eq_zero_iff.mp z)
    have hw : ∀ p ∈ b.skills, p.1 ∈ words13 := fun p hp => hb.word p.1 (List.mem_map_of_mem hp)
    refine go_ifret (et_or (et_not (et_b (ev_call (ea_cons (ev_var rfl) (ea_cons ev_int (ea_cons ev_int ea_nil))) (are_SI b.skills 12 (by omega) (by decide))))) fun _ => et_test (ev_op (ev_cb (ea_cons (ev_var rfl) ea_nil) ec_len_l) ev_int er_eqI)) (fun e => ?_) (fun e => ?_)
    · rw [List.length_map, decide_eq_false (show ¬ (b.skills.length : Int) = 0 by omega)] at e
      cases e
    refine go_ifret (et_not (et_b (ev_allT (xs := b.skills) (enc := enSI) (ei_list (ev_var rfl)) (by omega) fun p hp => ⟨_, eg_two (by decide) (by decide), ev_is (ev_andV (ev_call (ea_cons (ev_var rfl) ea_nil) ⟨p.1, hw p hp, rfl, rfl⟩) fun _ => ev_call (ea_cons (ev_var rfl) (ea_cons ev_int (ea_cons ev_int ea_nil))) ⟨p.2, 1, 4, (hb.tiers p hp).1, (hb.tiers p hp).2, rfl, rfl⟩) rfl⟩))) (fun e => by cases e) (fun e => ?_)
    refine go_letp (EvN.ev (en_is (en_lc0 (xs := b.skills) (enc := enSI) (fun p => PyData.int p.2) (ei_list (ev_var rfl)) (ok_len hb) fun p hp => ⟨_, eg_two (by decide) (by decide), ev_cb (ea_cons (ev_var rfl) ea_nil) ec_int⟩) (show _ = (b.skills.map (·.2)).map PyData.int by rw [List.map_map]; rfl))) ?_
    refine go_retp (ev_is (ev_andV (ev_call (ea_cons (EvN.ev (en_is (en_lc0 (xs := b.skills) (enc := enSI) (fun p => PyData.str p.1) (ei_list (ev_var rfl)) (ok_len hb) fun p hp => ⟨_, eg_two (by decide) (by decide), ev_var rfl⟩) (show _ = tStrs b.names by unfold tStrs Lb.names; rw [List.map_map]; rfl))) ea_nil) (unlike_s hb.nd (by rw [b.names_len]; omega))) fun _ => ev_op (ev_var rfl) (EvN.ev (en_cb (ea_cons (ev_var rfl) ea_nil) (ecn_sorted (by rw [List.length_map]; omega) hb.mono))) er_eqIs) rfl) rfl
def F_are_needs (ds : List Dd) (d : Dd) : Prop := ∃ b : Lb, b.Ok ∧ ds = [.py (.list (b.needs.map enII))] ∧ d = .py (.bool true)
theorem c_are_needs (W : Wt T mg) : Cal P w T.K mg base 3 "are_needs" (spF T F_are_needs) [] := by
  refine cal_pure (k := 2) W.fn_are_needs sc_are_needs bn_are_needs F_are_needs (fun ds d h => ?_) (fun f cdv A outer s H E hr => ⟨_, (pss_cons (ps_if (pt_not (pt_val (pe_c (c_are_tuples W) hr (by decide) (by rfl) (pa_cons (pv 0) (pa_cons pe_int (pa_cons (pe_op op_sub (C8.pe_gc (by rfl) W.m_MOST_TIERS) pe_int) pa_nil)))))) (pss_one (ps_ret pe_bl)) pss_nil)
      (pss_cons (ps_if (pt_not (pt_val (pe_callB (r := rAll T.K) (cr_all rfl) (by rfl) W.m_all bt_all (pa_cons (pe_lc (own := [("tier", 1), ("many", 2)]) (g := gTup T.K 2 (gCons (gName 1) (gCons (gName 2) (gNil)))) (tt := tYes) rfl sc_are_needs.nd  (ki_list T.K (pv 0)) (blkOk_by (own := [("tier", 1), ("many", 2)]) (N := N_are_needs) (sc := defScope s_are_needs) (by decide +kernel)) (fun _ _ _ _ _ => (kg_tup T.K rfl (pgs_cons (pg_name (i := 1) sc_are_needs.nd rfl (Or.inl rfl)) (pgs_cons (pg_name (i := 2) sc_are_needs.nd rfl (Or.inl rfl)) pgs_nil)))) (fun _ _ _ _ _ => pts_nil) (fun _ _ _ _ _ => (pe_and (pe_c (c_is_number W) hr (by decide) (by rfl) (pa_cons (pv 1) (pa_cons pe_int (pa_cons (C8.pe_gc (by rfl) W.m_MOST_TIERS) pa_nil)))) (pe_one (pe_c (c_is_number W) hr (by decide) (by rfl) (pa_cons (pv 2) (pa_cons pe_int (pa_cons (C8.pe_gc (by rfl) W.m_MOST_SKILLS) pa_nil)))))))) pa_nil)))) (pss_one (ps_ret pe_bl)) pss_nil)
      (pss_cons (ps_setLc (i := 3) (own := [("tier", 1), ("many", 2)]) (g := gTup T.K 2 (gCons (gName 1) (gCons (gName 2) (gNil)))) (tt := tYes) rfl sc_are_needs.nd rfl rfl (sw_true rfl rfl rfl (by decide +kernel)) (ki_list T.K (pv 0)) (blkOk_by (own := [("tier", 1), ("many", 2)]) (N := N_are_needs) (sc := defScope s_are_needs) (by decide +kernel)) (fun _ _ _ _ _ => (kg_tup T.K rfl (pgs_cons (pg_name (i := 1) sc_are_needs.nd rfl (Or.inl rfl)) (pgs_cons (pg_name (i := 2) sc_are_needs.nd rfl (Or.inl rfl)) pgs_nil)))) (fun _ _ _ _ _ => pts_nil) (fun _ _ _ _ _ => (pe_callTy (r := rIntC) cz_int (by rfl) W.m_int bt_int (pa_cons (pv 1) pa_nil))))
      (pss_one (ps_ret (pe_and (pe_c (c_are_unlike W) hr (by decide) (by rfl) (pa_cons (pv 3) pa_nil)) (pe_one (pe_cmpR (r := rEqD T.K) (op_eqD hr.units) (pv 3) (pe_callB (r := rSorted T.K) cr_sorted (by rfl) W.m_sorted bt_sorted (pa_cons (pv 3) pa_nil)) (nomark _))))))))), fun ds d h => ?_⟩)
  · obtain ⟨b, hb, rfl, rfl⟩ := h
    exact ⟨rfl, rfl, rfl⟩
  · obtain ⟨b, hb, rfl, rfl⟩ := h
    have h3 := hb.needs3
    refine go_ifret (et_not (et_b (ev_call (ea_cons (ev_var rfl) (ea_cons ev_int (ea_cons (ev_op ev_int ev_int er_sub) ea_nil))) (are_II b.needs 3 h3 (by decide))))) (fun e => by cases e) (fun e => ?_)
    refine go_ifret (et_not (et_b (ev_allT (xs := b.needs) (enc := enII) (ei_list (ev_var rfl)) (by omega) fun p hp => ⟨_, eg_two (by decide) (by decide), ev_is (ev_andV (ev_call (ea_cons (ev_var rfl) (ea_cons ev_int (ea_cons ev_int ea_nil))) ⟨p.1, 2, 4, (hb.needs p hp).1.1, (hb.needs p hp).1.2, rfl, rfl⟩) fun _ => ev_call (ea_cons (ev_var rfl) (ea_cons ev_int (ea_cons ev_int ea_nil))) ⟨p.2, 0, 12, (hb.needs p hp).2.1, (hb.needs p hp).2.2, rfl, rfl⟩) rfl⟩))) (fun e => by cases e) (fun e => ?_)
    refine go_letp (EvN.ev (en_is (en_lc0 (xs := b.needs) (enc := enII) (fun p => PyData.int p.1) (ei_list (ev_var rfl)) (by omega) fun p hp => ⟨_, eg_two (by decide) (by decide), ev_cb (ea_cons (ev_var rfl) ea_nil) ec_int⟩) (show _ = (b.needs.map (·.1)).map PyData.int by rw [List.map_map]; rfl))) ?_
    refine go_retp (ev_is (ev_andV (ev_call (ea_cons (ev_var rfl) ea_nil) (unlike_i (hb.needsUp.imp fun {a c} h => by omega) (by rw [List.length_map]; omega))) fun _ => ev_op (ev_var rfl) (EvN.ev (en_cb (ea_cons (ev_var rfl) ea_nil) (ecn_sorted (by rw [List.length_map]; omega) (hb.needsUp.imp fun {a c} h => by omega)))) er_eqIs) rfl) rfl
theorem ixw0 (u : Want) : atI u.row 0 = some (.str u.kind.word) := by
  obtain ⟨k, s, ns⟩ := u
  cases k <;> rfl
theorem ixw2 (u : Want) : atI u.row 2 = some (.tuple (tStrs u.names)) := by
  obtain ⟨k, s, ns⟩ := u
  cases k <;> rfl
theorem row_len (u : Want) : (u.row.length : Int) = 3 + (if decide (u.kind.word = "count") = true then 1 else 0) := by
  obtain ⟨k, s, ns⟩ := u
  cases k with
  | all => 
    have e : decide (Wk.all.word = ("count" : Str)) = false := by decide +kernel
    show ((3 : Nat) : Int) = 3 + (if decide (Wk.all.word = ("count" : Str)) = true then 1 else 0)
    rw [e]
    rfl
  | any =>
    have e : decide (Wk.any.word = ("count" : Str)) = false := by decide +kernel
    show ((3 : Nat) : Int) = 3 + (if decide (Wk.any.word = ("count" : Str)) = true then 1 else 0)
    rw [e]
    rfl
  | count n =>
    have e : decide ((Wk.count n).word = ("count" : Str)) = true := decide_eq_true rfl
    show ((4 : Nat) : Int) = 3 + (if decide ((Wk.count n).word = ("count" : Str)) = true then 1 else 0)
    rw [e]
    rfl
theorem row_len2 (u : Want) : 3 ≤ u.row.length ∧ u.row.length ≤ 4 := by
  obtain ⟨k, s, ns⟩ := u
  cases k with
  | all => exact ⟨Nat.le_refl 3, by show 3 ≤ 4; decide⟩
  | any => exact ⟨Nat.le_refl 3, by show 3 ≤ 4; decide⟩
  | count n => exact ⟨by show 3 ≤ 4; decide, Nat.le_refl 4⟩
theorem kind_in (u : Want) : u.kind.word ∈ (["all", "any", "count"] : List Str) := by
  obtain ⟨k, s, ns⟩ := u
  cases k <;> simp [Wk.word]
def F_is_want (ds : List Dd) (d : Dd) : Prop := ∃ (b : Lb) (u : Want), b.Ok ∧ u ∈ b.wants ∧ ds = [.py (.list (tStrs b.names)), .py (enW u)] ∧ d = .py (.bool true)
theorem c_is_want (W : Wt T mg) : Cal P w T.K mg base 3 "is_want" (spF T F_is_want) [] := by
  refine cal_pure (k := 2) W.fn_is_want sc_is_want bn_is_want F_is_want (fun ds d h => ?_) (fun f cdv A outer s H E hr => ⟨_, (pss_cons (ps_if (PW.pt (pw_or (pt_not (pt_val (pe_callB (r := rIsi T.K) call_isi (by rfl) W.m_isinstance bt_isinstance (pa_cons (pv 1) (pa_cons (pe_bltn (v := .ty "tuple") (by rfl) W.m_tuple (by decide +kernel) rfl) pa_nil))))) (pw_or (pt_not (pt_chain op_le op_le pe_int (pe_callB (r := rLen T.K) cz_len (by rfl) W.m_len bt_len (pa_cons (pv 1) pa_nil)) pe_int)) (pw_or1 (pt_not (pt_val (pe_callB (r := rIsi T.K) call_isi (by rfl) W.m_isinstance bt_isinstance (pa_cons (pe_ix (r := rIxT T.K) ix_tup (pv 1) pe_int (fun _ _ => rfl)) (pa_cons (pe_bltn (v := .ty "str") (by rfl) W.m_str (by decide +kernel) rfl) pa_nil))))))))) (pss_one (ps_ret pe_bl)) pss_nil)
      (pss_cons (ps_if (PW.pt (pw_or (pt_cmpR (r := rIn T.K true) op_notIn_seq (pe_ix (r := rIxT T.K) ix_tup (pv 1) pe_int (fun _ _ => rfl)) (pe_tup (pa_cons pe_str (pa_cons pe_str (pa_cons pe_str pa_nil)))) (by rfl)) (pw_or1 (pt_cmpR op_ne (pe_callB (r := rLen T.K) cz_len (by rfl) W.m_len bt_len (pa_cons (pv 1) pa_nil)) (pe_op op_add pe_int (pe_callTy (r := rIntC) cz_int (by rfl) W.m_int bt_int (pa_cons (pe_cmpR op_eq (pe_ix (r := rIxT T.K) ix_tup (pv 1) pe_int (fun _ _ => rfl)) pe_str (nomark _)) pa_nil))) (nomark _))))) (pss_one (ps_ret pe_bl)) pss_nil)
      (pss_cons (ps_if (PW.pt (pw_or (pt_not (pt_val (pe_c (c_is_word W) hr (by decide) (by rfl) (pa_cons (pe_ix (r := rIxT T.K) ix_tup (pv 1) pe_int (fun _ _ => rfl)) pa_nil)))) (pw_or (pt_cmpR (r := rIn T.K true) op_notIn_seq (pe_ix (r := rIxT T.K) ix_tup (pv 1) pe_int (fun _ _ => rfl)) (pv 0) (by rfl)) (pw_or (pt_not (pt_val (pe_callB (r := rIsi T.K) call_isi (by rfl) W.m_isinstance bt_isinstance (pa_cons (pe_ix (r := rIxT T.K) ix_tup (pv 1) pe_int (fun _ _ => rfl)) (pa_cons (pe_bltn (v := .ty "tuple") (by rfl) W.m_tuple (by decide +kernel) rfl) pa_nil))))) (pw_or1 (pt_cmpR op_eq (pe_callB (r := rLen T.K) cz_len (by rfl) W.m_len bt_len (pa_cons (pe_ix (r := rIxT T.K) ix_tup (pv 1) pe_int (fun _ _ => rfl)) pa_nil)) pe_int (nomark _))))))) (pss_one (ps_ret pe_bl)) pss_nil)
      (pss_cons (ps_if (pt_not (pt_val (pe_callB (r := rAll T.K) (cr_all rfl) (by rfl) W.m_all bt_all (pa_cons (pe_lc (own := [("name", 2)]) (g := gName 2) (tt := tYes) rfl sc_is_want.nd  (ki_tup T.K (pe_ix (r := rIxT T.K) ix_tup (pv 1) pe_int (fun _ _ => rfl))) (blkOk_by (own := [("name", 2)]) (N := N_is_want) (sc := defScope s_is_want) (by decide +kernel)) (fun _ _ _ _ _ => (pg_name (i := 2) sc_is_want.nd rfl (Or.inl rfl))) (fun _ _ _ _ _ => pts_nil) (fun _ _ _ _ _ => (pe_and (pe_c (c_is_word W) hr (by decide) (by rfl) (pa_cons (pv 2) pa_nil)) (pe_and (pe_cmpR (r := rIn T.K false) op_in_seq (pv 2) (pv 0) (by rfl)) (pe_one (pe_cmpR op_ne (pv 2) (pe_ix (r := rIxT T.K) ix_tup (pv 1) pe_int (fun _ _ => rfl)) (nomark _))))))) pa_nil)))) (pss_one (ps_ret pe_bl)) pss_nil)
      (pss_one (ps_ret (pe_and (pe_c (c_are_unlike W) hr (by decide) (by rfl) (pa_cons (pe_ix (r := rIxT T.K) ix_tup (pv 1) pe_int (fun _ _ => rfl)) pa_nil)) (pe_one (pe_or (pe_cmpR op_eq (pe_callB (r := rLen T.K) cz_len (by rfl) W.m_len bt_len (pa_cons (pv 1) pa_nil)) pe_int (nomark _)) (pe_one (pe_c (c_is_number W) hr (by decide) (by rfl) (pa_cons (pe_ix (r := rIxT T.K) ix_tup (pv 1) pe_int (fun _ _ => rfl)) (pa_cons pe_int (pa_cons (pe_callB (r := rLen T.K) cz_len (by rfl) W.m_len bt_len (pa_cons (pe_ix (r := rIxT T.K) ix_tup (pv 1) pe_int (fun _ _ => rfl)) pa_nil)) pa_nil)))))))))))))), fun ds d h => ?_⟩)
  · obtain ⟨b, u, hb, hu, rfl, rfl⟩ := h
    exact ⟨rfl, rfl, rfl⟩
  · obtain ⟨b, u, hb, hu, rfl, rfl⟩ := h
    have ho := hb.wants u hu
    have hl := row_len2 u
    have hlen := ho.len
    have hne : u.names.length ≠ 0 := fun z => ho.ne (List.length_eq_zero_iff.mp z)
    have tl : (tStrs u.names).length = u.names.length := List.length_map ..
    refine go_ifret (et_or (et_not (et_b (ev_cb (ea_cons (ev_var rfl) (ea_cons ev_cls ea_nil)) (ec_isi rfl rfl)))) fun _ => et_or (et_not (et_test (ev_chain ev_int (ev_cb (ea_cons (ev_var rfl) ea_nil) ec_len_t) ev_int er_le (fun _ => er_le)))) fun _ => et_not (et_b (ev_cb (ea_cons (ev_op (ev_var rfl) ev_int (er_ixT (ixw0 u))) (ea_cons ev_cls ea_nil)) (ec_isi rfl rfl)))) (fun e => ?_) (fun e => ?_)
    · rw [decide_eq_true (show (3 : Int) ≤ (u.row.length : Int) by omega), decide_eq_true (show (u.row.length : Int) ≤ 4 by omega)] at e
      cases e
    refine go_ifret (et_or (et_test (ev_op (ev_op (ev_var rfl) ev_int (er_ixT (ixw0 u))) (ev_tup (ds := tStrs ["all", "any", "count"]) (ea_cons ev_str (ea_cons ev_str (ea_cons ev_str ea_nil))) (by decide)) er_niT)) fun _ => et_test (ev_op (ev_cb (ea_cons (ev_var rfl) ea_nil) ec_len_t) (ev_op ev_int (ev_cb (ea_cons (ev_op (ev_op (ev_var rfl) ev_int (er_ixT (ixw0 u))) ev_str er_eqS) ea_nil) ec_intb) er_add) er_neI)) (fun e => ?_) (fun e => ?_)
    · rw [decide_eq_true (kind_in u), ← row_len u, decide_eq_true rfl] at e
      cases e
    refine go_ifret (et_or (et_not (et_b (ev_call (ea_cons (ev_op (ev_var rfl) ev_int (er_ixT (ixw u))) ea_nil) ⟨u.skill, hb.word _ ho.sk, rfl, rfl⟩))) fun _ => et_or (et_test (ev_op (ev_op (ev_var rfl) ev_int (er_ixT (ixw u))) (ev_var rfl) er_niL)) fun _ => et_or (et_not (et_b (ev_cb (ea_cons (ev_op (ev_var rfl) ev_int (er_ixT (ixw2 u))) (ea_cons ev_cls ea_nil)) (ec_isi rfl rfl)))) fun _ => et_test (ev_op (ev_cb (ea_cons (ev_op (ev_var rfl) ev_int (er_ixT (ixw2 u))) ea_nil) ec_len_t) ev_int er_eqI)) (fun e => ?_) (fun e => ?_)
    · rw [decide_eq_true ho.sk, tl, decide_eq_false (show ¬ (u.names.length : Int) = 0 by omega)] at e
      cases e
    refine go_ifret (et_not (et_b (ev_allT (xs := u.names) (enc := PyData.str) (ei_tup (ev_op (ev_var rfl) ev_int (er_ixT (ixw2 u)))) (by omega) fun x hx => ⟨_, eg_name (by decide), ev_is (ev_andV (ev_call (ea_cons (ev_var rfl) ea_nil) ⟨x, hb.word x (ho.mem x hx).1, rfl, rfl⟩) fun _ => ev_andV (ev_op (ev_var rfl) (ev_var rfl) er_inL) fun _ => ev_op (ev_var rfl) (ev_op (ev_var rfl) ev_int (er_ixT (ixw u))) er_neS) (by rw [decide_eq_true (ho.mem x hx).1, decide_eq_false (ho.mem x hx).2]; rfl)⟩))) (fun e => by cases e) (fun e => ?_)
    refine go_retp (ev_is (ev_andV (ev_call (ea_cons (ev_op (ev_var rfl) ev_int (er_ixT (ixw2 u))) ea_nil) (unlike_st ho.nd (by omega))) fun _ => ev_orV (c := true) (ev_op (ev_cb (ea_cons (ev_var rfl) ea_nil) ec_len_t) ev_int er_eqI) fun e => ?_) (by rw [Bool.or_true]; rfl)) rfl
    obtain ⟨k, s, ns⟩ := u
    cases k with
    | all => cases e
    | any => cases e
    | count n =>
      have hc := ho.cnt n rfl
      exact ev_call (ea_cons (ev_op (ev_var rfl) ev_int (er_ixT (d := .int n) rfl)) (ea_cons ev_int (ea_cons (ev_cb (ea_cons (ev_op (ev_var rfl) ev_int (er_ixT rfl)) ea_nil) ec_len_t) ea_nil))) ⟨n, 1, _, hc.1, by rw [tl]; exact hc.2, rfl, rfl⟩
def F_are_bars (ds : List Dd) (d : Dd) : Prop := ∃ b : Lb, b.Ok ∧ ds = [.py (.list (tStrs b.names)), .py (.list (b.bars.map enSS))] ∧ d = .py (.bool true)
theorem c_are_bars (W : Wt T mg) : Cal P w T.K mg base 3 "are_bars" (spF T F_are_bars) [] := by
  refine cal_pure (k := 2) W.fn_are_bars sc_are_bars bn_are_bars F_are_bars (fun ds d h => ?_) (fun f cdv A outer s H E hr => ⟨_, (pss_cons (ps_if (pt_not (pt_val (pe_c (c_are_tuples W) hr (by decide) (by rfl) (pa_cons (pv 1) (pa_cons pe_int (pa_cons (C8.pe_gc (by rfl) W.m_MOST_BARS) pa_nil)))))) (pss_one (ps_ret pe_bl)) pss_nil)
      (pss_cons (ps_if (pt_not (pt_val (pe_callB (r := rAll T.K) (cr_all rfl) (by rfl) W.m_all bt_all (pa_cons (pe_lc (own := [("one", 2), ("other", 3)]) (g := gTup T.K 2 (gCons (gName 2) (gCons (gName 3) (gNil)))) (tt := tYes) rfl sc_are_bars.nd  (ki_list T.K (pv 1)) (blkOk_by (own := [("one", 2), ("other", 3)]) (N := N_are_bars) (sc := defScope s_are_bars) (by decide +kernel)) (fun _ _ _ _ _ => (kg_tup T.K rfl (pgs_cons (pg_name (i := 2) sc_are_bars.nd rfl (Or.inl rfl)) (pgs_cons (pg_name (i := 3) sc_are_bars.nd rfl (Or.inl rfl)) pgs_nil)))) (fun _ _ _ _ _ => pts_nil) (fun _ _ _ _ _ => (pe_and (pe_c (c_is_word W) hr (by decide) (by rfl) (pa_cons (pv 2) pa_nil)) (pe_and (pe_c (c_is_word W) hr (by decide) (by rfl) (pa_cons (pv 3) pa_nil)) (pe_and (pe_cmpR (r := rIn T.K false) op_in_seq (pv 2) (pv 0) (by rfl)) (pe_one (pe_cmpR (r := rIn T.K false) op_in_seq (pv 3) (pv 0) (by rfl)))))))) pa_nil)))) (pss_one (ps_ret pe_bl)) pss_nil)
      (pss_cons (ps_setLc (i := 4) (own := [("one", 2), ("other", 3)]) (g := gTup T.K 2 (gCons (gName 2) (gCons (gName 3) (gNil)))) (tt := tYes) rfl sc_are_bars.nd rfl rfl (sw_true rfl rfl rfl (by decide +kernel)) (ki_list T.K (pv 1)) (blkOk_by (own := [("one", 2), ("other", 3)]) (N := N_are_bars) (sc := defScope s_are_bars) (by decide +kernel)) (fun _ _ _ _ _ => (kg_tup T.K rfl (pgs_cons (pg_name (i := 2) sc_are_bars.nd rfl (Or.inl rfl)) (pgs_cons (pg_name (i := 3) sc_are_bars.nd rfl (Or.inl rfl)) pgs_nil)))) (fun _ _ _ _ _ => pts_nil) (fun _ _ _ _ _ => (pe_callTy (r := rTupC T.K) cz_tup (by rfl) W.m_tuple bt_tuple (pa_cons (pe_callB (r := rSortedS T.K) cr_sortedS (by rfl) W.m_sorted bt_sorted (pa_cons (pe_lst (pa_cons (pe_callTy (r := rStrC) cz_str (by rfl) W.m_str bt_str (pa_cons (pv 2) pa_nil)) (pa_cons (pe_callTy (r := rStrC) cz_str (by rfl) W.m_str bt_str (pa_cons (pv 3) pa_nil)) pa_nil))) pa_nil)) pa_nil))))
      (pss_one (ps_ret (pe_and (pe_c (c_are_unlike W) hr (by decide) (by rfl) (pa_cons (pv 4) pa_nil)) (pe_one (pe_callB (r := rAll T.K) (cr_all rfl) (by rfl) W.m_all bt_all (pa_cons (pe_lc (own := [("one", 2), ("other", 3)]) (g := gTup T.K 2 (gCons (gName 2) (gCons (gName 3) (gNil)))) (tt := tYes) rfl sc_are_bars.nd  (ki_list T.K (pv 1)) (blkOk_by (own := [("one", 2), ("other", 3)]) (N := N_are_bars) (sc := defScope s_are_bars) (by decide +kernel)) (fun _ _ _ _ _ => (kg_tup T.K rfl (pgs_cons (pg_name (i := 2) sc_are_bars.nd rfl (Or.inl rfl)) (pgs_cons (pg_name (i := 3) sc_are_bars.nd rfl (Or.inl rfl)) pgs_nil)))) (fun _ _ _ _ _ => pts_nil) (fun _ _ _ _ _ => (pe_cmpR op_ne (pv 2) (pv 3) (nomark _)))) pa_nil))))))))), fun ds d h => ?_⟩)
  · obtain ⟨b, hb, rfl, rfl⟩ := h
    exact ⟨rfl, rfl, rfl⟩
  · obtain ⟨b, hb, rfl, rfl⟩ := h
    have h6 := hb.bars6
    refine go_ifret (et_not (et_b (ev_call (ea_cons (ev_var rfl) (ea_cons ev_int (ea_cons ev_int ea_nil))) (are_SS b.bars 6 h6 (by decide))))) (fun e => by cases e) (fun e => ?_)
    refine go_ifret (et_not (et_b (ev_allT (xs := b.bars) (enc := enSS) (ei_list (ev_var rfl)) (by omega) fun p hp => ⟨_, eg_two (by decide) (by decide), ev_is (ev_andV (ev_call (ea_cons (ev_var rfl) ea_nil) ⟨p.1, hb.word _ (hb.bars p hp).1, rfl, rfl⟩) fun _ => ev_andV (ev_call (ea_cons (ev_var rfl) ea_nil) ⟨p.2, hb.word _ (hb.bars p hp).2.1, rfl, rfl⟩) fun _ => ev_andV (ev_op (ev_var rfl) (ev_var rfl) er_inL) fun _ => ev_op (ev_var rfl) (ev_var rfl) er_inL) (by rw [decide_eq_true (hb.bars p hp).1, decide_eq_true (hb.bars p hp).2.1]; rfl)⟩))) (fun e => by cases e) (fun e => ?_)
    refine go_letp (EvN.ev (en_is (en_lc0 (xs := b.bars) (enc := enSS) (fun p => PyData.tuple (tStrs (srt2 p))) (ei_list (ev_var rfl)) (by omega) fun p hp => ⟨_, eg_two (by decide) (by decide), ev_cb (ea_cons (EvN.ev (en_cb (ea_cons (EvN.ev (en_lst (ds := [.str p.1, .str p.2]) (ea_cons (ev_cb (ea_cons (ev_var rfl) ea_nil) ec_str) (ea_cons (ev_cb (ea_cons (ev_var rfl) ea_nil) ec_str) ea_nil)) (by show 2 ≤ 1000; decide))) ea_nil) ecn_srt2)) ea_nil) ec_tup_l⟩) (show _ = (b.bars.map srt2).map fun x => PyData.tuple (tStrs x) by rw [List.map_map]; rfl))) ?_
    exact go_retp (ev_is (ev_andV (ev_call (ea_cons (ev_var rfl) ea_nil) (unlike_p hb.barsNd (by rw [List.length_map]; omega))) fun _ => ev_allT (xs := b.bars) (enc := enSS) (ei_list (ev_var rfl)) (by omega) fun p hp => ⟨_, eg_two (by decide) (by decide), ev_is (ev_op (ev_var rfl) (ev_var rfl) er_neS) (by rw [decide_eq_false (hb.bars p hp).2.2]; rfl)⟩) rfl) rfl
def F_are_numbered (ds : List Dd) (d : Dd) : Prop := ∃ (b : Lb) (l : List (Str × Int)) (lo hi : Int), b.Ok ∧ l.length ≤ 12 ∧ (∀ p ∈ l, p.1 ∈ b.names ∧ lo ≤ p.2 ∧ p.2 ≤ hi) ∧ (l.map (·.1)).Nodup ∧ ds = [.py (.list (tStrs b.names)), .py (.list (l.map enSI)), .py (.int lo), .py (.int hi)] ∧ d = .py (.bool true)
theorem c_are_numbered (W : Wt T mg) : Cal P w T.K mg base 3 "are_numbered" (spF T F_are_numbered) [] := by
  refine cal_pure (k := 2) W.fn_are_numbered sc_are_numbered bn_are_numbered F_are_numbered (fun ds d h => ?_) (fun f cdv A outer s H E hr => ⟨_, (pss_cons (ps_if (pt_not (pt_val (pe_c (c_are_tuples W) hr (by decide) (by rfl) (pa_cons (pv 1) (pa_cons pe_int (pa_cons (C8.pe_gc (by rfl) W.m_MOST_SKILLS) pa_nil)))))) (pss_one (ps_ret pe_bl)) pss_nil)
      (pss_cons (ps_if (pt_not (pt_val (pe_callB (r := rAll T.K) (cr_all rfl) (by rfl) W.m_all bt_all (pa_cons (pe_lc (own := [("name", 4), ("many", 5)]) (g := gTup T.K 2 (gCons (gName 4) (gCons (gName 5) (gNil)))) (tt := tYes) rfl sc_are_numbered.nd  (ki_list T.K (pv 1)) (blkOk_by (own := [("name", 4), ("many", 5)]) (N := N_are_numbered) (sc := defScope s_are_numbered) (by decide +kernel)) (fun _ _ _ _ _ => (kg_tup T.K rfl (pgs_cons (pg_name (i := 4) sc_are_numbered.nd rfl (Or.inl rfl)) (pgs_cons (pg_name (i := 5) sc_are_numbered.nd rfl (Or.inl rfl)) pgs_nil)))) (fun _ _ _ _ _ => pts_nil) (fun _ _ _ _ _ => (pe_and (pe_c (c_is_word W) hr (by decide) (by rfl) (pa_cons (pv 4) pa_nil)) (pe_and (pe_cmpR (r := rIn T.K false) op_in_seq (pv 4) (pv 0) (by rfl)) (pe_one (pe_c (c_is_number W) hr (by decide) (by rfl) (pa_cons (pv 5) (pa_cons (pv 2) (pa_cons (pv 3) pa_nil))))))))) pa_nil)))) (pss_one (ps_ret pe_bl)) pss_nil)
      (pss_one (ps_ret (pe_c (c_are_unlike W) hr (by decide) (by rfl) (pa_cons (pe_lc (own := [("name", 4), ("many", 5)]) (g := gTup T.K 2 (gCons (gName 4) (gCons (gName 5) (gNil)))) (tt := tYes) rfl sc_are_numbered.nd  (ki_list T.K (pv 1)) (blkOk_by (own := [("name", 4), ("many", 5)]) (N := N_are_numbered) (sc := defScope s_are_numbered) (by decide +kernel)) (fun _ _ _ _ _ => (kg_tup T.K rfl (pgs_cons (pg_name (i := 4) sc_are_numbered.nd rfl (Or.inl rfl)) (pgs_cons (pg_name (i := 5) sc_are_numbered.nd rfl (Or.inl rfl)) pgs_nil)))) (fun _ _ _ _ _ => pts_nil) (fun _ _ _ _ _ => (pv 4))) pa_nil)))))), fun ds d h => ?_⟩)
  · obtain ⟨b, l, lo, hi, hb, h1, h2, h3, rfl, rfl⟩ := h
    exact ⟨rfl, rfl, rfl⟩
  · obtain ⟨b, l, lo, hi, hb, h1, h2, h3, rfl, rfl⟩ := h
    refine go_ifret (et_not (et_b (ev_call (ea_cons (ev_var rfl) (ea_cons ev_int (ea_cons ev_int ea_nil))) (are_SI l 12 h1 (by decide))))) (fun e => by cases e) (fun e => ?_)
    refine go_ifret (et_not (et_b (ev_allT (xs := l) (enc := enSI) (ei_list (ev_var rfl)) (by omega) fun p hp => ⟨_, eg_two (by decide) (by decide), ev_is (ev_andV (ev_call (ea_cons (ev_var rfl) ea_nil) ⟨p.1, hb.word _ (h2 p hp).1, rfl, rfl⟩) fun _ => ev_andV (ev_op (ev_var rfl) (ev_var rfl) er_inL) fun _ => ev_call (ea_cons (ev_var rfl) (ea_cons (ev_var rfl) (ea_cons (ev_var rfl) ea_nil))) ⟨p.2, lo, hi, (h2 p hp).2.1, (h2 p hp).2.2, rfl, rfl⟩) (by rw [decide_eq_true (h2 p hp).1]; rfl)⟩))) (fun e => by cases e) (fun e => ?_)
    exact go_retp (ev_call (ea_cons (EvN.ev (en_is (en_lc0 (xs := l) (enc := enSI) (fun p => PyData.str p.1) (ei_list (ev_var rfl)) (by omega) fun p hp => ⟨_, eg_two (by decide) (by decide), ev_var rfl⟩) (show _ = tStrs (l.map (·.1)) by unfold tStrs; rw [List.map_map]; rfl))) ea_nil) (unlike_s h3 (by rw [List.length_map]; omega))) rfl
end
end Rt
namespace Rt
open PySem PySem.Spec PyProof.Rows L2
open C8 (Cal Met Mak pe_c pe_mt pe_mt0 pe_mk)
section
variable {P : Program} {w : World} {T : Tx} {mg : Str → Option Value} {base : Heap}
def parts7 : List Str := ["points", "needs", "wants", "bars", "gives", "prices", "reset"]
def okRow (s : Str) : PyData := .tuple [.str s, .bool true]
def F_look_at_parts (ds : List Dd) (d : Dd) : Prop := ∃ b : Lb, b.Ok ∧ ds = [.dic b.dic] ∧ d = .py .none
theorem c_look_at_parts (W : Wt T mg) : Cal P w T.K mg base 4 "look_at_parts" (spF T F_look_at_parts) [] := by
  refine cal_pure (k := 3) W.fn_look_at_parts sc_look_at_parts bn_look_at_parts F_look_at_parts (fun ds d h => ?_) (fun f cdv A outer s H E hr => ⟨_, (pss_cons (ps_if (pt_not (pt_val (pe_c (c_are_skills W) hr (by decide) (by rfl) (pa_cons (pe_dget (hu_of hr) (pv 0) pe_str (fun _ _ => rfl)) pa_nil)))) (pss_one ps_never) pss_nil)
      (pss_cons (ps_set (i := 1) sc_look_at_parts.nd rfl (Or.inr rfl) (pe_lc (own := [("name", 2), ("tier", 3)]) (g := gTup T.K 2 (gCons (gName 2) (gCons (gName 3) (gNil)))) (tt := tYes) rfl sc_look_at_parts.nd  (ki_list T.K (pe_dget (hu_of hr) (pv 0) pe_str (fun _ _ => rfl))) (blkOk_by (own := [("name", 2), ("tier", 3)]) (N := N_look_at_parts) (sc := defScope s_look_at_parts) (by decide +kernel)) (fun _ _ _ _ _ => (kg_tup T.K rfl (pgs_cons (pg_name (i := 2) sc_look_at_parts.nd rfl (Or.inl rfl)) (pgs_cons (pg_name (i := 3) sc_look_at_parts.nd rfl (Or.inl rfl)) pgs_nil)))) (fun _ _ _ _ _ => pts_nil) (fun _ _ _ _ _ => (pv 2))))
      (pss_cons (ps_set (i := 4) sc_look_at_parts.nd rfl (Or.inl rfl) (pe_dget (hu_of hr) (pv 0) pe_str (fun _ _ => rfl)))
      (pss_cons (ps_set (i := 5) sc_look_at_parts.nd rfl (Or.inl rfl) (pe_lst (pa_cons (pe_tup (pa_cons pe_str (pa_cons (pe_c (c_is_number W) hr (by decide) (by rfl) (pa_cons (pe_dget (hu_of hr) (pv 0) pe_str (fun _ _ => rfl)) (pa_cons pe_int (pa_cons (C8.pe_gc (by rfl) W.m_MOST_POINTS) pa_nil)))) pa_nil))) (pa_cons (pe_tup (pa_cons pe_str (pa_cons (pe_c (c_are_needs W) hr (by decide) (by rfl) (pa_cons (pe_dget (hu_of hr) (pv 0) pe_str (fun _ _ => rfl)) pa_nil)) pa_nil))) pa_nil))))
      (pss_cons (ps_set (i := 6) sc_look_at_parts.nd rfl (Or.inl rfl) (pe_and (pe_c (c_is_row W) hr (by decide) (by rfl) (pa_cons (pv 4) pa_nil)) (pe_and (pe_cmpR op_le (pe_callB (r := rLen T.K) cz_len (by rfl) W.m_len bt_len (pa_cons (pv 4) pa_nil)) (C8.pe_gc (by rfl) W.m_MOST_WANTS) (nomark _)) (pe_one (pe_callB (r := rAll T.K) (cr_all rfl) (by rfl) W.m_all bt_all (pa_cons (pe_lc (own := [("want", 7)]) (g := gName 7) (tt := tYes) rfl sc_look_at_parts.nd  (ki_list T.K (pv 4)) (blkOk_by (own := [("want", 7)]) (N := N_look_at_parts) (sc := defScope s_look_at_parts) (by decide +kernel)) (fun _ _ _ _ _ => (pg_name (i := 7) sc_look_at_parts.nd rfl (Or.inl rfl))) (fun _ _ _ _ _ => pts_nil) (fun _ _ _ _ _ => (pe_c (c_is_want W) hr (by decide) (by rfl) (pa_cons (pv 1) (pa_cons (pv 7) pa_nil))))) pa_nil))))))
      (pss_cons (ps_expr (kbm T.K PySem.F.plainAttrs_list PySem.F.slot_list_extend PySem.F.type_list_extend mt_extend (pv 5) (pa_cons (pe_lst (pa_cons (pe_tup (pa_cons pe_str (pa_cons (pv 6) pa_nil))) (pa_cons (pe_tup (pa_cons pe_str (pa_cons (pe_c (c_are_bars W) hr (by decide) (by rfl) (pa_cons (pv 1) (pa_cons (pe_dget (hu_of hr) (pv 0) pe_str (fun _ _ => rfl)) pa_nil))) pa_nil))) pa_nil))) pa_nil)))
      (pss_cons (ps_expr (kbm T.K PySem.F.plainAttrs_list PySem.F.slot_list_append PySem.F.type_list_append mt_append (pv 5) (pa_cons (pe_tup (pa_cons pe_str (pa_cons (pe_c (c_are_numbered W) hr (by decide) (by rfl) (pa_cons (pv 1) (pa_cons (pe_dget (hu_of hr) (pv 0) pe_str (fun _ _ => rfl)) (pa_cons pe_int (pa_cons (C8.pe_gc (by rfl) W.m_MOST_GIVEN) pa_nil))))) pa_nil))) pa_nil)))
      (pss_cons (ps_expr (kbm T.K PySem.F.plainAttrs_list PySem.F.slot_list_append PySem.F.type_list_append mt_append (pv 5) (pa_cons (pe_tup (pa_cons pe_str (pa_cons (pe_c (c_are_numbered W) hr (by decide) (by rfl) (pa_cons (pv 1) (pa_cons (pe_dget (hu_of hr) (pv 0) pe_str (fun _ _ => rfl)) (pa_cons pe_int (pa_cons (C8.pe_gc (by rfl) W.m_MOST_PRICE) pa_nil))))) pa_nil))) pa_nil)))
      (pss_cons (ps_expr (kbm T.K PySem.F.plainAttrs_list PySem.F.slot_list_append PySem.F.type_list_append mt_append (pv 5) (pa_cons (pe_tup (pa_cons pe_str (pa_cons (pe_or (pe_cmpR oz_isN (pe_dget (hu_of hr) (pv 0) pe_str (fun _ _ => rfl)) pe_non (nomark _)) (pe_one (pe_c (c_is_number W) hr (by decide) (by rfl) (pa_cons (pe_dget (hu_of hr) (pv 0) pe_str (fun _ _ => rfl)) (pa_cons pe_int (pa_cons (C8.pe_gc (by rfl) W.m_MOST_PRICE) pa_nil)))))) pa_nil))) pa_nil)))
      (pss_one (ps_for PassesOwn.never rfl (ki_list T.K (pv 5)) (kg_tup T.K rfl (pgs_cons (pg_name (i := 2) sc_look_at_parts.nd rfl (Or.inl rfl)) (pgs_cons (pg_name (i := 8) sc_look_at_parts.nd rfl (Or.inl rfl)) pgs_nil))) (pss_one (ps_if (pt_not (pt_val (pv 8))) (pss_one ps_never) pss_nil))))))))))))), fun ds d h => ?_⟩)
  · obtain ⟨b, hb, rfl, rfl⟩ := h
    exact ⟨rfl, rfl, rfl⟩
  · obtain ⟨b, hb, rfl, rfl⟩ := h
    have hl := hb.n5
    have h12 := hb.wants12
    have rowT : ∀ {te : TE} {ρ : En} {s : Str}, Ev T te ρ (.py (.bool true)) → Ev T (tTup (tCons (tC (.str s)) (tCons te tNil))) ρ (.py (okRow s)) := fun {te ρ s} h => ev_tup (ds := [.str s, .bool true]) (ea_cons ev_str (ea_cons h ea_nil)) (by show 2 ≤ 1000; decide)
    refine go_ifret (et_not (et_b (ev_call (ea_cons (ev_dget (k := .inr "skills") (ev_var rfl) ev_str (lk_skills b)) ea_nil) ⟨b, hb, rfl, rfl⟩))) (fun e => by cases e) (fun e => ?_)
    refine go_letp (EvN.ev (en_is (en_lc0 (xs := b.skills) (enc := enSI) (fun p => PyData.str p.1) (ei_list (ev_dget (k := .inr "skills") (ev_var rfl) ev_str (lk_skills b))) (ok_len hb) fun p hp => ⟨_, eg_two (by decide) (by decide), ev_var rfl⟩) (show _ = tStrs b.names by unfold tStrs Lb.names; rw [List.map_map]; rfl))) ?_
    refine go_letp (ev_dget (k := .inr "wants") (ev_var rfl) ev_str (lk_wants b)) ?_
    refine go_newlp (ds := [okRow "points", okRow "needs"]) (en_lst (ea_cons (rowT (ev_call (ea_cons (ev_dget (k := .inr "points") (ev_var rfl) ev_str (lk_points b)) (ea_cons ev_int (ea_cons ev_int ea_nil))) ⟨b.points, 0, 12, hb.pts.1, hb.pts.2, rfl, rfl⟩)) (ea_cons (rowT (ev_call (ea_cons (ev_dget (k := .inr "needs") (ev_var rfl) ev_str (lk_needs b)) ea_nil) ⟨b, hb, rfl, rfl⟩)) ea_nil)) (by show 2 ≤ 1000; decide)) (Nat.le_refl _) ?_
    refine go_letp (ev_is (ev_andV (ev_call (ea_cons (ev_var rfl) ea_nil) ⟨_, .inl rfl, rfl⟩) fun _ => ev_andV (ev_op (ev_cb (ea_cons (ev_var rfl) ea_nil) ec_len_l) ev_int er_le) fun _ => ev_allT (xs := b.wants) (enc := enW) (ei_list (ev_var rfl)) (by omega) fun u hu => ⟨_, eg_name (by decide), ev_call (ea_cons (ev_var rfl) (ea_cons (ev_var rfl) ea_nil)) ⟨b, u, hb, hu, rfl, rfl⟩⟩) (show _ = Dd.py (.bool true) by rw [List.length_map, decide_eq_true (show (b.wants.length : Int) ≤ 12 by omega)]; rfl)) ?_
    refine go_extendp (k := 0) (es := [okRow "wants", okRow "bars"]) (EvN.ev (en_lst (ea_cons (rowT (ev_var rfl)) (ea_cons (rowT (ev_call (ea_cons (ev_var rfl) (ea_cons (ev_dget (k := .inr "bars") (ev_var rfl) ev_str (lk_bars b)) ea_nil)) ⟨b, hb, rfl, rfl⟩)) ea_nil)) (by show 2 ≤ 1000; decide))) rfl rfl (by show 4 ≤ 1000; decide) ?_
    refine go_appendp (k := 0) (x := okRow "gives") (rowT (ev_call (ea_cons (ev_var rfl) (ea_cons (ev_dget (k := .inr "gives") (ev_var rfl) ev_str (lk_gives b)) (ea_cons ev_int (ea_cons ev_int ea_nil)))) ⟨b, b.gives, 1, 3, hb, hb.gives12, hb.gives, hb.givesNd, rfl, rfl⟩)) rfl rfl (by show 4 ≤ 1000; decide) ?_
    refine go_appendp (k := 0) (x := okRow "prices") (rowT (ev_call (ea_cons (ev_var rfl) (ea_cons (ev_dget (k := .inr "prices") (ev_var rfl) ev_str (lk_prices b)) (ea_cons ev_int (ea_cons ev_int ea_nil)))) ⟨b, b.prices, 0, 99, hb, hb.prices12, hb.prices, hb.pricesNd, rfl, rfl⟩)) rfl rfl (by show 5 ≤ 1000; decide) ?_
    refine go_appendp (k := 0) (x := okRow "reset") (rowT (ev_is (ev_orV (c := true) (ev_op (ev_dget (k := .inr "reset") (ev_var rfl) ev_str (lk_reset b)) ev_non er_isN) fun e => ?_) (show Dd.py (.bool (_ || true)) = _ by rw [Bool.or_true]))) rfl rfl (by show 6 ≤ 1000; decide) ?_
    · cases hr : b.reset with
      | none =>
        rw [hr] at e
        cases e
      | some i =>
        obtain ⟨h1, h2⟩ := hb.reset i hr
        exact ev_call (ea_cons (ev_is (ev_dget (k := .inr "reset") (ev_var rfl) ev_str (lk_reset b)) (show _ = Dd.py (.int i) by rw [hr]; rfl)) (ea_cons ev_int (ea_cons ev_int ea_nil))) ⟨i, 0, 99, h1, h2, rfl, rfl⟩
    refine go_frz (ω := []) (o := .lst (parts7.map okRow)) (fun z => nomatch z) (Nat.le_refl _) ?_
    refine go_forp (vs := [2, 8]) parts7 okRow (fun i ρ' => ∃ y2 y8, ρ' = [some (.dic b.dic), some (.py (.list (tStrs b.names))), y2, none, some (.py (.list (b.wants.map enW))), some (.py (.list (parts7.map okRow))), some (.py (.bool true)), none, y8]) (ei_list (ev_var rfl)) ⟨_, _, rfl⟩ ?_ (fun ρ1 _ => rfl)
    rintro i x ρ1 hx ⟨y2, y8, rfl⟩
    exact ⟨_, eg_two (by decide) (by decide), go_if (et_not (et_b (ev_var rfl))) (fun e => by cases e) fun _ => go_next ⟨rfl, _, _, rfl⟩⟩
end
end Rt
/-! masks: one bit for each name -/
namespace Rt
open PySem PySem.Spec PyProof.Rows L2
def vb : List Bool → Nat
  | [] => 0
  | c :: cs => c.toNat + 2 * vb cs
theorem vb_bit : ∀ (cs : List Bool) (i : Nat), (vb cs).testBit i = (cs[i]?).getD false
  | [], i => by
    show (0 : Nat).testBit i = _
    rw [Nat.zero_testBit]
    rfl
  | c :: cs, 0 => by
    show (c.toNat + 2 * vb cs).testBit 0 = c
    rw [Nat.testBit_zero]
    cases c
    · simp
    · simp
  | c :: cs, i + 1 => by
    show (c.toNat + 2 * vb cs).testBit (i + 1) = ((c :: cs)[i + 1]?).getD false
    rw [Nat.testBit_add_one, List.getElem?_cons_succ, ← vb_bit cs i]
    have : (c.toNat + 2 * vb cs) / 2 = vb cs := by
      cases c
      · simp
      · simp only [Bool.toNat_true]
        omega
    rw [this]
def mkf (N : List Str) (f : Str → Bool) : Nat := vb (N.map f)
theorem mkf_cons (a : Str) (N : List Str) (f : Str → Bool) : mkf (a :: N) f = (f a).toNat + 2 * mkf N f := rfl
theorem mkf_bit (N : List Str) (f : Str → Bool) (i : Nat) : (mkf N f).testBit i = ((N[i]?).map f).getD false := by
  unfold mkf
  rw [vb_bit, List.getElem?_map]
theorem mkf_congr {N : List Str} {f g : Str → Bool} (h : ∀ x ∈ N, f x = g x) : mkf N f = mkf N g := by
  unfold mkf
  rw [List.map_congr_left h]
theorem mkf_and (N : List Str) (f g : Str → Bool) : mkf N f &&& mkf N g = mkf N fun x => f x && g x := by
  refine Nat.eq_of_testBit_eq fun i => ?_
  rw [Nat.testBit_and, mkf_bit, mkf_bit, mkf_bit]
  cases N[i]? <;> rfl
theorem mkf_or (N : List Str) (f g : Str → Bool) : mkf N f ||| mkf N g = mkf N fun x => f x || g x := by
  refine Nat.eq_of_testBit_eq fun i => ?_
  rw [Nat.testBit_or, mkf_bit, mkf_bit, mkf_bit]
  cases N[i]? <;> rfl
theorem mkf_add {f g : Str → Bool} : ∀ {N : List Str}, (∀ x ∈ N, (f x && g x) = false) → mkf N f + mkf N g = mkf N fun x => f x || g x
  | [], _ => rfl
  | a :: N, h => by
    have ih := mkf_add (f := f) (g := g) (N := N) fun x hx => h x (List.mem_cons_of_mem _ hx)
    have ha := h a List.mem_cons_self
    rw [mkf_cons, mkf_cons, mkf_cons, ← ih]
    revert ha
    cases f a <;> cases g a <;> intro ha <;> simp only [Bool.toNat_true, Bool.toNat_false, Bool.or_true, Bool.or_false, Bool.true_or, Bool.false_or] <;> first | omega | cases ha
theorem mkf_inj {f g : Str → Bool} : ∀ {N : List Str}, mkf N f = mkf N g → ∀ x ∈ N, f x = g x
  | [], _, x, hx => by cases hx
  | a :: N, h, x, hx => by
    rw [mkf_cons, mkf_cons] at h
    have h0 : f a = g a := by
      cases hf : f a <;> cases hg : g a
      · rfl
      · rw [hf, hg] at h
        have h' : 0 + 2 * mkf N f = 1 + 2 * mkf N g := h
        omega
      · rw [hf, hg] at h
        have h' : 1 + 2 * mkf N f = 0 + 2 * mkf N g := h
        omega
      · rfl
    have h1 : f a = g a ∧ mkf N f = mkf N g := ⟨h0, by
      rw [h0] at h
      omega⟩
    rcases List.mem_cons.mp hx with rfl | hx
    · exact h1.1
    · exact mkf_inj h1.2 x hx
theorem mkf_none {N : List Str} : mkf N (fun _ => false) = 0 := by
  induction N with
  | nil => rfl
  | cons a N ih => rw [mkf_cons, ih]; rfl
theorem mkf_zero {N : List Str} {f : Str → Bool} : mkf N f = 0 ↔ ∀ x ∈ N, f x = false := ⟨fun h => mkf_inj (h.trans mkf_none.symm), fun h => (mkf_congr h).trans mkf_none⟩
theorem mkf_sub {N : List Str} {f g : Str → Bool} (h : ∀ x ∈ N, g x = true → f x = true) : mkf N f = mkf N g + mkf N fun x => f x && !g x := by
  rw [mkf_add fun x _ => by cases f x <;> cases g x <;> rfl]
  refine mkf_congr fun x hx => ?_
  have := h x hx
  revert this
  cases f x <;> cases g x <;> simp
/-- the lowest bit is taken away -/
def clr : List Bool → List Bool
  | [] => []
  | true :: cs => false :: cs
  | false :: cs => false :: clr cs
theorem vb_clr : ∀ cs : List Bool, 0 < vb cs → vb cs &&& (vb cs - 1) = vb (clr cs) ∧ (clr cs).count true + 1 = cs.count true
  | [], h => by cases h
  | true :: cs, _ => by
    constructor
    · show (1 + 2 * vb cs) &&& (1 + 2 * vb cs - 1) = 0 + 2 * vb cs
      refine Nat.eq_of_testBit_eq fun i => ?_
      rw [Nat.testBit_and]
      cases i with
      | zero =>
        rw [Nat.testBit_zero, Nat.testBit_zero, Nat.testBit_zero]
        have : (1 + 2 * vb cs - 1) % 2 = 0 := by omega
        have h2 : (0 + 2 * vb cs) % 2 = 0 := by omega
        rw [this, h2]
        simp
      | succ i =>
        rw [Nat.testBit_add_one, Nat.testBit_add_one, Nat.testBit_add_one]
        have e1 : (1 + 2 * vb cs) / 2 = vb cs := by omega
        have e2 : (1 + 2 * vb cs - 1) / 2 = vb cs := by omega
        have e3 : (0 + 2 * vb cs) / 2 = vb cs := by omega
        rw [e1, e2, e3, Bool.and_self]
    · show (false :: cs).count true + 1 = (true :: cs).count true
      rw [List.count_cons_self, List.count_cons_of_ne (by decide)]
  | false :: cs, h => by
    have h0 : 0 < vb cs := by
      have h' : 0 < 0 + 2 * vb cs := h
      omega
    obtain ⟨e1, e2⟩ := vb_clr cs h0
    constructor
    · show (0 + 2 * vb cs) &&& (0 + 2 * vb cs - 1) = 0 + 2 * vb (clr cs)
      rw [← e1]
      refine Nat.eq_of_testBit_eq fun i => ?_
      rw [Nat.testBit_and]
      cases i with
      | zero =>
        rw [Nat.testBit_zero, Nat.testBit_zero, Nat.testBit_zero]
        have h2 : (0 + 2 * vb cs) % 2 = 0 := by omega
        have h3 : (0 + 2 * (vb cs &&& (vb cs - 1))) % 2 = 0 := by omega
        rw [h2, h3]
        simp
      | succ i =>
        rw [Nat.testBit_add_one, Nat.testBit_add_one, Nat.testBit_add_one]
        have e4 : (0 + 2 * vb cs) / 2 = vb cs := by omega
        have e5 : (0 + 2 * vb cs - 1) / 2 = vb cs - 1 := by omega
        have e6 : (0 + 2 * (vb cs &&& (vb cs - 1))) / 2 = vb cs &&& (vb cs - 1) := by omega
        rw [e4, e5, e6, Nat.testBit_and]
    · show (false :: clr cs).count true + 1 = (false :: cs).count true
      rw [List.count_cons_of_ne (by decide), List.count_cons_of_ne (by decide), e2]
theorem vb_zero : ∀ cs : List Bool, vb cs = 0 → cs.count true = 0
  | [], _ => rfl
  | true :: cs, h => by
    have h' : 1 + 2 * vb cs = 0 := h
    omega
  | false :: cs, h => by
    have h' : 0 + 2 * vb cs = 0 := h
    rw [List.count_cons_of_ne (by decide)]
    exact vb_zero cs (by omega)
theorem count_map (N : List Str) (f : Str → Bool) : (N.map f).count true = (N.filter f).length := by
  induction N with
  | nil => rfl
  | cons a N ih =>
    rw [List.map_cons, List.filter_cons]
    cases h : f a with
    | true => rw [List.count_cons_self, if_pos rfl, List.length_cons, ih]
    | false => rw [List.count_cons_of_ne (by decide), if_neg Bool.false_ne_true, ih]
theorem vb_count : ∀ {cs es : List Bool}, vb cs = vb es → cs.count true = es.count true
  | [], es, h => (vb_zero es (by rw [← h]; rfl)).symm
  | c :: cs, [], h => vb_zero (c :: cs) h
  | c :: cs, e :: es, h => by
    have h' : c.toNat + 2 * vb cs = e.toNat + 2 * vb es := h
    have hc : c = e := by
      cases c <;> cases e
      · rfl
      · have h2 : 0 + 2 * vb cs = 1 + 2 * vb es := h'
        omega
      · have h2 : 1 + 2 * vb cs = 0 + 2 * vb es := h'
        omega
      · rfl
    subst hc
    have ih := vb_count (cs := cs) (es := es) (by omega)
    rw [List.count_cons, List.count_cons, ih]
theorem vb_lt : ∀ cs : List Bool, vb cs < 2 ^ cs.length
  | [] => by decide
  | c :: cs => by
    have ih := vb_lt cs
    show c.toNat + 2 * vb cs < 2 ^ (cs.length + 1)
    rw [Nat.pow_succ]
    cases c
    · simp only [Bool.toNat_false]
      omega
    · simp only [Bool.toNat_true]
      omega
/-! ### of a book -/
def Lb.bit (b : Lb) (x : Str) : Nat := mkf b.names fun y => decide (y = x)
def Lb.msk (b : Lb) (S : List Str) : Nat := mkf b.names fun y => decide (y ∈ S)
theorem bit_at : ∀ {N : List Str} {i : Nat} {x : Str}, N.Nodup → N[i]? = some x → mkf N (fun y => decide (y = x)) = 2 ^ i
  | [], i, x, _, h => by cases h
  | a :: N, 0, x, hn, h => by
    cases Option.some.inj h
    have hn2 := List.nodup_cons.mp hn
    rw [mkf_cons]
    have : mkf N (fun y => decide (y = a)) = 0 := mkf_zero.mpr fun y hy => decide_eq_false fun e => hn2.1 (e ▸ hy)
    rw [this, decide_eq_true rfl]
    rfl
  | a :: N, i + 1, x, hn, h => by
    have hn2 := List.nodup_cons.mp hn
    have h' : N[i]? = some x := h
    rw [mkf_cons, bit_at hn2.2 h', decide_eq_false (fun e : a = x => hn2.1 (by rw [e]; exact List.mem_of_getElem? h'))]
    rw [Nat.pow_succ]
    show 0 + 2 * 2 ^ i = 2 ^ i * 2
    omega
theorem sum_bits (b : Lb) : ∀ {L : List Str}, L.Nodup → (L.map fun x => (b.bit x : Int)).sum = (b.msk L : Int)
  | [], _ => by
    show (0 : Int) = ((mkf b.names fun y => decide (y ∈ [])) : Int)
    rw [mkf_zero.mpr fun x _ => by simp]
    rfl
  | a :: L, h => by
    have h2 := List.nodup_cons.mp h
    rw [List.map_cons, List.sum_cons, sum_bits b h2.2]
    unfold Lb.bit Lb.msk
    rw [← Int.natCast_add, mkf_add fun x _ => by
      by_cases e : x = a
      · subst e
        simp [h2.1]
      · simp [e]]
    congr 1
    refine mkf_congr fun x _ => ?_
    by_cases e : x = a <;> simp [e]
theorem and_bit {b : Lb} {S : List Str} {x : Str} (hx : x ∈ b.names) : ((b.msk S &&& b.bit x) != 0) = decide (x ∈ S) := by
  unfold Lb.msk Lb.bit
  rw [mkf_and]
  by_cases h : x ∈ S
  · rw [decide_eq_true h]
    refine bne_iff_ne.mpr fun z => ?_
    have := mkf_zero.mp z x hx
    simp [h] at this
  · rw [decide_eq_false h]
    refine bne_eq_false_iff_eq.mpr (mkf_zero.mpr fun y _ => ?_)
    by_cases e : y = x
    · subst e
      simp [h]
    · simp [e]
theorem and_pair {b : Lb} {S : List Str} {x y : Str} (hx : x ∈ b.names) (hy : y ∈ b.names) (hne : x ≠ y) : decide ((b.msk S &&& (b.bit x + b.bit y)) = b.bit x + b.bit y) = (decide (x ∈ S) && decide (y ∈ S)) := by
  have e0 : b.bit x + b.bit y = mkf b.names fun z => decide (z = x) || decide (z = y) := mkf_add fun z _ => by
    by_cases e : z = x
    · subst e
      simp [hne]
    · simp [e]
  unfold Lb.msk
  rw [e0, mkf_and]
  by_cases h : x ∈ S ∧ y ∈ S
  · rw [decide_eq_true h.1, decide_eq_true h.2]
    refine decide_eq_true (mkf_congr fun z _ => ?_)
    by_cases e1 : z = x
    · subst e1
      simp [h.1]
    · by_cases e2 : z = y
      · subst e2
        simp [h.2]
      · simp [e1, e2]
  · rw [decide_eq_false (fun z => ?_)]
    · by_cases h1 : x ∈ S
      · have h2 : y ∉ S := fun h2 => h ⟨h1, h2⟩
        simp [h2]
      · simp [h1]
    · have h1 := mkf_inj z x hx
      have h2 := mkf_inj z y hy
      simp at h1 h2
      exact h ⟨h1, h2⟩
/-- how many of them: the mask of a build and another mask -/
theorem size_and (b : Lb) (S : List Str) (f : Str → Bool) : ((b.names.map fun x => decide (x ∈ S) && f x).count true) = ((b.order S).filter f).length := by
  rw [count_map]
  unfold Lb.order
  rw [List.filter_filter]
  congr 1
  refine List.filter_congr fun x _ => ?_
  rw [Bool.and_comm]
end Rt
/-! dict(zip(a, b)) of two lists, of two tuples; a[::-1] of a tuple -/
namespace Rt
open PySem PySem.Spec PyProof.Rows L2
section
variable {prog : Program} {w : World} {A : Around} {E : Value → Shared → Prop} {s : Shared}
/-- the next pair of a zip of tuples, while the one before is out -/
theorem zt_next {z tI tO t p q a b : Addr} {f : Bool} {ot : Obj} {m n : Nat} {us vs : Array Value} {x y : Value} {Q : Value → Shared → Prop} (D : ZipApart z tI tO p q a b)
    (ez : IsZipHeld s.heap z tI tO t f) (et : s.heap.get? t = some ot) (eI : IsPair s.heap tI (.ref p) (.ref q))
    (e1 : s.heap.IsTupleIter p a m) (e2 : s.heap.IsTupleIter q b n) (ea : s.heap.IsTuple a us) (eb : s.heap.IsTuple b vs) (ex : us[m]? = some x) (ey : vs[n]? = some y)
    (go : ∀ g, IsZipHeld g z tI tO t true → g.IsTupleIter p a (m + 1) → g.IsTupleIter q b (n + 1) → IsPair g s.heap.objs.size x y → (∀ c o, c ≠ z → c ≠ p → c ≠ q → s.heap.get? c = some o → g.get? c = some o) → Q (.ref s.heap.objs.size) { s with heap := g }) :
    wpAny (model prog w) A (Builtin.«zip.__next__» ⟨[.ref z], []⟩) (fun fin s' => ∃ v, fin = .done (.ret v) ∧ Q v s') E s := by
  show wpAny _ _ (field (.ref z) 2 >>= _) _ _ _; refine wpAny_bind (wpAny_field ez rfl (x := .bool false) rfl ?_)
  show wpAny _ _ (field (.ref z) 3 >>= _) _ _ _; refine wpAny_bind (wpAny_field ez rfl (x := .ref tI) rfl ?_)
  refine wpAny_bind (wpAny_seqItems eI rfl ?_); show wpAny _ _ (Builtin.SmallTypes.ownedTupleIsFree (.ref z) >>= _) _ _ _
  refine wpAny_bind (wpAny_tupleHeld_zip ez et fun g1 z1 k1 => ?_); simp only [Bool.false_eq_true, if_false]
  refine wpAny_bind ?_; rw [← Array.forIn_toList]; simp only [List.forIn_cons, List.forIn_nil]
  refine wpAny_bind (wpAny_bind (wpAny_holding ?_)); show wpAny _ _ (Builtin.SmallTypes.nextOf (.ref p) >>= _) _ _ _
  refine wpAny_bind (RZ.nextOf_tuple_item (s := { s with heap := g1 }) (e1.extBut k1.extBut D.i1z) (ea.extBut k1.extBut D.l1z) ex fun g2 j1 k2 => wpAny_pure ?_); refine wpAny_pure ?_
  refine wpAny_bind (wpAny_bind (wpAny_holding ?_)); show wpAny _ _ (Builtin.SmallTypes.nextOf (.ref q) >>= _) _ _ _
  refine wpAny_bind (RZ.nextOf_tuple_item (s := { s with heap := g2 }) ((e2.extBut k1.extBut D.i2z).extBut k2.extBut D.i12.symm) ((eb.extBut k1.extBut D.l2z).extBut k2.extBut D.l2i1) ey fun g3 j2 k3 => wpAny_pure ?_)
  refine wpAny_pure (wpAny_pure ?_); show wpAny _ _ (newTuple [x, y] >>= _) _ _ _
  refine wpAny_bind (wpAny_newTuple ?_)
  have sz : g3.objs.size = s.heap.objs.size := by rw [k3.1, k2.1, k1.1]
  have kp : ∀ c o, c ≠ z → c ≠ p → c ≠ q → s.heap.get? c = some o → g3.get? c = some o := fun c o c1 c2 c3 e => k3.extBut _ _ c3 (k2.extBut _ _ c2 (k1.extBut _ _ c1 e))
  have zz : IsZipHeld g3 z tI tO t true := k3.extBut _ _ D.i2z.symm (k2.extBut _ _ D.i1z.symm z1)
  have j1' : g3.IsTupleIter p a (m + 1) := j1.extBut k3.extBut D.i12
  have pr : IsPair (g3.push { cls := .type "tuple", data := .seq #[x, y] }) g3.objs.size x y := Heap.get?_push_size _ rfl
  refine wpAny_pure ⟨_, rfl, ?_⟩
  show Q (.ref g3.objs.size) _
  rw [sz] at pr ⊢
  exact go _ (Heap.get?_push_of_some _ zz) (j1'.at fun o e => Heap.get?_push_of_some _ e) (j2.at fun o e => Heap.get?_push_of_some _ e) pr fun c o c1 c2 c3 e => Heap.get?_push_of_some _ (kp c o c1 c2 c3 e)
theorem zt_item {z tI tO t p q a b : Addr} {f : Bool} {ot : Obj} {m n : Nat} {us vs : Array Value} {x y : Value} {Q : Option Value → Shared → Prop} (D : ZipApart z tI tO p q a b)
    (ez : IsZipHeld s.heap z tI tO t f) (et : s.heap.get? t = some ot) (eI : IsPair s.heap tI (.ref p) (.ref q))
    (e1 : s.heap.IsTupleIter p a m) (e2 : s.heap.IsTupleIter q b n) (ea : s.heap.IsTuple a us) (eb : s.heap.IsTuple b vs) (ex : us[m]? = some x) (ey : vs[n]? = some y)
    (go : ∀ g, IsZipHeld g z tI tO t true → g.IsTupleIter p a (m + 1) → g.IsTupleIter q b (n + 1) → IsPair g s.heap.objs.size x y → (∀ c o, c ≠ z → c ≠ p → c ≠ q → s.heap.get? c = some o → g.get? c = some o) → Q (some (.ref s.heap.objs.size)) { s with heap := g }) :
    wpAny (model prog w) A (pyNext (.ref z)) Q E s := by
  have ty : s.TypeIs (.ref z) "zip" := ⟨_, ez, rfl⟩
  unfold pyNext
  exact wpAny_bind (wpAny_attempt (wpAny_callSpecial?_slot (name := Str.ofString "__next__") ty F.slot_zip_next (wpAny_call_entry F.slot_zip_next ty F.entry_zip_next (zt_next D ez et eI e1 e2 ea eb ex ey fun g a1 a2 a3 a4 a5 => wpAny_pure (go g a1 a2 a3 a4 a5)) (F.args_zip_next_1 _))))
theorem zt_stop {z tI tO t p q a b : Addr} {f : Bool} {ot : Obj} {m n : Nat} {us vs : Array Value} {Q : Fin → Shared → Prop} (hh : A.handled = none) (D : ZipApart z tI tO p q a b)
    (ez : IsZipHeld s.heap z tI tO t f) (et : s.heap.get? t = some ot) (eI : IsPair s.heap tI (.ref p) (.ref q))
    (e1 : s.heap.IsTupleIter p a m) (e2 : s.heap.IsTupleIter q b n) (ea : s.heap.IsTuple a us) (eb : s.heap.IsTuple b vs) (ex : us[m]? = none)
    (go : ∀ g e, (∀ c o, c ≠ z → c ≠ p → c ≠ q → s.heap.get? c = some o → g.get? c = some o) → (∃ o, g.get? e = some o ∧ o.cls = .type "StopIteration") → E (.ref e) { s with heap := g }) :
    wpAny (model prog w) A (Builtin.«zip.__next__» ⟨[.ref z], []⟩) Q E s := by
  show wpAny _ _ (field (.ref z) 2 >>= _) _ _ _; refine wpAny_bind (wpAny_field ez rfl (x := .bool false) rfl ?_)
  show wpAny _ _ (field (.ref z) 3 >>= _) _ _ _; refine wpAny_bind (wpAny_field ez rfl (x := .ref tI) rfl ?_)
  refine wpAny_bind (wpAny_seqItems eI rfl ?_); show wpAny _ _ (Builtin.SmallTypes.ownedTupleIsFree (.ref z) >>= _) _ _ _
  refine wpAny_bind (wpAny_tupleHeld_zip ez et fun g1 z1 k1 => ?_); simp only [Bool.false_eq_true, if_false]
  refine wpAny_bind ?_; rw [← Array.forIn_toList]; simp only [List.forIn_cons, List.forIn_nil]
  refine wpAny_bind (wpAny_bind (wpAny_holding ?_)); show wpAny _ _ (Builtin.SmallTypes.nextOf (.ref p) >>= _) _ _ _
  refine wpAny_bind (RZ.nextOf_tuple_end (s := { s with heap := g1 }) hh (e1.extBut k1.extBut D.i1z) (ea.extBut k1.extBut D.l1z) ex fun g2 e k2 he => ?_)
  exact go g2 e (fun c o c1 c2 _ h => k2 _ _ c2 (k1.extBut _ _ c1 h)) he
theorem zt_done {z tI tO t p q a b : Addr} {f : Bool} {ot : Obj} {m n : Nat} {us vs : Array Value} {Q : Option Value → Shared → Prop} (hh : A.handled = none) (D : ZipApart z tI tO p q a b)
    (ez : IsZipHeld s.heap z tI tO t f) (et : s.heap.get? t = some ot) (eI : IsPair s.heap tI (.ref p) (.ref q))
    (e1 : s.heap.IsTupleIter p a m) (e2 : s.heap.IsTupleIter q b n) (ea : s.heap.IsTuple a us) (eb : s.heap.IsTuple b vs) (ex : us[m]? = none)
    (go : ∀ g, (∀ c o, c ≠ z → c ≠ p → c ≠ q → s.heap.get? c = some o → g.get? c = some o) → Q none { s with heap := g }) : wpAny (model prog w) A (pyNext (.ref z)) Q E s := by
  have ty : s.TypeIs (.ref z) "zip" := ⟨_, ez, rfl⟩
  unfold pyNext
  refine wpAny_bind (wpAny_attempt (wpAny_callSpecial?_slot (name := Str.ofString "__next__") ty F.slot_zip_next (wpAny_call_entry F.slot_zip_next ty F.entry_zip_next (zt_stop hh D ez et eI e1 e2 ea eb ex fun g e k1 he => ?_) (F.args_zip_next_1 _))))
  obtain ⟨o, ho, hc⟩ := he
  exact wpAny_bind (wpAny_isInstance (T := "StopIteration") (b := true) ⟨o, ho, hc⟩ isSubtype_stop (wpAny_pure (go _ k1)))
end
section
variable {prog : Program} {w : World}
/-- what a zip of two tuples of one length is for dict() -/
theorem zt_arg (z tI tO p q a b : Addr) (D : ZipApart z tI tO p q a b) (us vs : Array Value) (hl : us.size = vs.size) : PairArg prog w "zip" z [z, tI, tO, p, q, a, b] [z, tO, p, q] us.size (fun i k v => us[i]? = some k ∧ vs[i]? = some v)
    (fun h => IsZip h z tI tO .none ∧ IsPair h tI (.ref p) (.ref q) ∧ (∃ x y, IsPair h tO x y) ∧ h.IsTupleIter p a 0 ∧ h.IsTupleIter q b 0 ∧ h.IsTuple a us ∧ h.IsTuple b vs) where
  type := fun s ok => ⟨_, ok.1, rfl⟩
  notDict := by decide
  keep := fun h g ok k => let ⟨u1, u2, ⟨x, y, u3⟩, u4, u5, u6, u7⟩ := ok; ⟨k _ _ u1, k _ _ u2, ⟨x, y, k _ _ u3⟩, u4.at fun o e => k _ o e, u5.at fun o e => k _ o e, u6.at fun o e => k _ o e, u7.at fun o e => k _ o e⟩
  there := fun h ok c hc => by
    obtain ⟨u1, u2, ⟨x, y, u3⟩, ⟨o1, u4, _⟩, ⟨o2, u5, _⟩, ⟨o3, u6, _⟩, ⟨o4, u7, _⟩⟩ := ok
    simp only [List.mem_cons, List.not_mem_nil, or_false] at hc
    rcases hc with rfl | rfl | rfl | rfl | rfl | rfl | rfl <;> first | exact ⟨_, u1⟩ | exact ⟨_, u2⟩ | exact ⟨_, u3⟩ | exact ⟨_, u4⟩ | exact ⟨_, u5⟩ | exact ⟨_, u6⟩ | exact ⟨_, u7⟩
  sub := fun c hc => by
    simp only [List.mem_cons, List.not_mem_nil, or_false] at hc ⊢
    rcases hc with rfl | rfl | rfl | rfl <;> simp
  noKeys := fun A s Q E hA ok go => getAttrOr_miss_zip ok.1 rfl rfl rfl zip_no_keys (by decide +kernel) hA go
  iter := fun A s d Q E hA ok hd off go => by
    obtain ⟨u1, u2, ⟨x0, y0, u3⟩, u4, u5, u6, u7⟩ := ok
    simp only [List.mem_cons, List.not_mem_nil, or_false, not_or] at off
    obtain ⟨d1, d2, d3, d4, d5, d6, d7⟩ := off
    refine wpAny_pyIter_zip u1 (go z [z, tO, p, q] (fun i h => IsPair h tI (.ref p) (.ref q) ∧ h.IsTupleIter p a i ∧ h.IsTupleIter q b i ∧ h.IsTuple a us ∧ h.IsTuple b vs ∧ ((IsZip h z tI tO .none ∧ ∃ x y, IsPair h tO x y) ∨ ∃ t f o, IsZipHeld h z tI tO t f ∧ h.get? t = some o ∧ t ≠ z ∧ t ≠ p ∧ t ≠ q ∧ t ≠ d)) s.heap s.toks ?_ ⟨u2, u4, u5, u6, u7, .inl ⟨u1, x0, y0, u3⟩⟩ (fun _ _ e => e) fun c hc => .inl hc)
    refine ⟨fun hm => ?_, fun i h g st k => ?_, fun i s1 Q1 E1 hi st hds hQ => ?_, fun s1 Q1 E1 st hQ => ?_⟩
    · simp only [List.mem_cons, List.not_mem_nil, or_false] at hm
      rcases hm with e | e | e | e
      · exact d1 e
      · exact d3 e
      · exact d4 e
      · exact d5 e
    · obtain ⟨v2, v4, v5, v6, v7, v8⟩ := st
      refine ⟨k _ _ (Ne.symm d2) v2, v4.at fun o e => k _ o (Ne.symm d4) e, v5.at fun o e => k _ o (Ne.symm d5) e, v6.at fun o e => k _ o (Ne.symm d6) e, v7.at fun o e => k _ o (Ne.symm d7) e, ?_⟩
      rcases v8 with ⟨v1, x, y, v3⟩ | ⟨t, f, o, v1, v3, r1, r2, r3, r4⟩
      · exact .inl ⟨k _ _ (Ne.symm d1) v1, x, y, k _ _ (Ne.symm d3) v3⟩
      · exact .inr ⟨t, f, o, k _ _ (Ne.symm d1) v1, k _ _ r4 v3, r1, r2, r3, r4⟩
    · obtain ⟨v2, v4, v5, v6, v7, v8⟩ := st
      have fx := Array.getElem?_eq_getElem hi
      have fy := Array.getElem?_eq_getElem (show i < vs.size by omega)
      have up : ∀ {c o}, s1.heap.get? c = some o → s1.heap.objs.size ≠ c := fun e => Nat.ne_of_gt (Heap.lt_size e)
      have np : s1.heap.objs.size ≠ p := let ⟨_, e, _⟩ := v4; up e
      have nq : s1.heap.objs.size ≠ q := let ⟨_, e, _⟩ := v5; up e
      rcases v8 with ⟨v1, x, y, v3⟩ | ⟨t, f, o, v1, v3, r1, r2, r3, r4⟩
      · exact RZ.pyNext_zipT_item D v1 v2 v3 v4 v5 v6 v7 fx fy fun g a1 a2 a3 a4 a5 a6 k => hQ s1.heap.objs.size _ _ g s1.toks ⟨fx, fy⟩ (.inl ⟨_, a5, rfl, _, rfl⟩) ⟨k _ _ D.TIz D.TITO D.TIi1 D.TIi2 v2, a3, a4, v6.at fun o e => k _ o D.l1z D.l1TO D.l1i1 D.l1i2 e, v7.at fun o e => k _ o D.l2z D.l2TO D.l2i1 D.l2i2 e, .inr ⟨s1.heap.objs.size, false, _, a1, a5, up v1, np, nq, Nat.ne_of_gt hds⟩⟩ fun c o hc e => k c o (fun x => hc (by simp [x])) (fun x => hc (by simp [x])) (fun x => hc (by simp [x])) (fun x => hc (by simp [x])) e
      · exact zt_item D v1 v3 v2 v4 v5 v6 v7 fx fy fun g a1 a3 a4 a5 k => hQ s1.heap.objs.size _ _ g s1.toks ⟨fx, fy⟩ (.inl ⟨_, a5, rfl, _, rfl⟩) ⟨k _ _ D.TIz D.TIi1 D.TIi2 v2, a3, a4, v6.at fun o e => k _ o D.l1z D.l1i1 D.l1i2 e, v7.at fun o e => k _ o D.l2z D.l2i1 D.l2i2 e, .inr ⟨t, true, o, a1, k _ _ r1 r2 r3 v3, r1, r2, r3, r4⟩⟩ fun c o hc e => k c o (fun x => hc (by simp [x])) (fun x => hc (by simp [x])) (fun x => hc (by simp [x])) e
    · obtain ⟨v2, v4, v5, v6, v7, v8⟩ := st
      have fin : us[us.size]? = none := Array.getElem?_eq_none (Nat.le_refl _)
      rcases v8 with ⟨v1, x, y, v3⟩ | ⟨t, f, o, v1, v3, r1, r2, r3, r4⟩
      · exact RZ.pyNext_zipT_end hA D v1 v2 v3 v4 v5 v6 v7 (.inl fin) fun g k => hQ g s1.toks fun c o hc e => k c o (fun x => hc (by simp [x])) (fun x => hc (by simp [x])) (fun x => hc (by simp [x])) (fun x => hc (by simp [x])) e
      · exact zt_done hA D v1 v3 v2 v4 v5 v6 v7 fin fun g k => hQ g s1.toks fun c o hc e => k c o (fun x => hc (by simp [x])) (fun x => hc (by simp [x])) (fun x => hc (by simp [x])) e
end
/-- dict(zip(a, b)) -/
def tDZ (K : PySem.W.Frag) (ta : TA) : TE := fun σ H Q => ta σ H fun vs H1 => ∃ (a b : Addr) (ks : List Key) (ys : List V), vs = [.ref a, .ref b] ∧ ks.length = ys.length ∧ ((SqL K H1 a (ks.map kV) ∧ SqL K H1 b ys) ∨ (SqT K H1 a (ks.map kV) ∧ SqT K H1 b ys)) ∧ ∀ p, H1 p = none → Q (.ref p) (upd H1 p (.dK (mergeK [] (ks.zip ys))))
theorem kv_zip : ∀ {ks : List Key} {ys : List V} {vs : List Value}, Vals ys vs → KV (ks.zip ys) (ks.zip vs)
  | [], _, _, _ => .nil
  | _ :: _, _, _, .nil => .nil
  | k :: ks, _, _, .cons h t => .cons ⟨rfl, h⟩ (kv_zip t)
theorem vals_at {P : Program} {w : World} : ∀ {ks : List Key} {us : List Value} {i : Nat} {u : Value}, Vals (ks.map kV) us → us[i]? = some u → ∃ k, ks[i]? = some k ∧ keyIs k u = true
  | [], _, i, u, .nil, h => by cases h
  | k :: ks, _, 0, u, .cons r t, h => by
    cases Option.some.inj h
    exact ⟨k, rfl, kV_is (P := P) (w := w) r⟩
  | k :: ks, _, i + 1, u, .cons r t, h => vals_at (P := P) (w := w) t (i := i) h
section
variable {X : Cx} {K : PySem.W.Frag} {e e2 : Expr} {ta : TA} {p p2 pos pos2 : Pos}
theorem pe_dictzip (hg : Gl X "dict") (hm : X.mg "dict" = none) (hg2 : Gl X "zip") (hm2 : X.mg "zip" = none) (ha : PA X [e, e2] ta) (hc : X.calm = true := by rfl)
    (hs : starEach [e, e2] X.env = (false, eval e X.env) :: starEach [e2] X.env := by rfl) (hpl : (backTo pos2 (starEach [e2] X.env)).any (·.1) = false := by rfl)
    (hs2 : starEach [.Call (.Name "zip" p2) [e, e2] [] pos2] X.env = [(false, eval (.Call (.Name "zip" p2) [e, e2] [] pos2) X.env)] := by rfl) (hK : X.K = K := by rfl) :
    PE X (.Call (.Name "dict" p) [.Call (.Name "zip" p2) [e, e2] [] pos2] [] pos) (tDZ K ta) := by
  subst hK
  refine ⟨fun pins s σ H Q I h => ?_⟩
  have done : ∀ {s1 : Shared} {H1 : Hp} {ks : List Key} {ys : List V} {us vs : List Value} {h' : Heap} {z : Addr} {fp wr : List Addr} {n : Nat} {OK : Heap → Prop}, Inv X pins σ H1 s1 → (∀ c o, s1.heap.get? c = some o → h'.get? c = some o) → s1.heap.objs.size ≤ h'.objs.size → Vals (ks.map kV) us → Vals ys vs → ks.length = ys.length → (∀ q, H1 q = none → Q (.ref q) (upd H1 q (.dK (mergeK [] (ks.zip ys))))) →
      PairArg X.prog X.w "zip" z fp wr n (fun i k v => us.toArray[i]? = some k ∧ vs.toArray[i]? = some v) OK → OK h' → n = ks.length → (∀ c ∈ wr, s1.heap.objs.size ≤ c) → ys.length ≤ sizeLine → wpAny (model X.prog X.w) X.A (call (.type "dict") [.ref z]) (EP X pins σ Q) X.xe { s1 with heap := h' } := by
    intro s1 H1 ks ys us vs h' z fp wr n OK I1 kp le r1 r2 hl q P ok hn hw hz
    have l1 := r1.length
    have l2 := r2.length
    rw [List.length_map] at l1
    refine PySem.call_dict_pairs (knd := mixKind X.prog X.w) (kvs := ks.zip vs) P (I1.ok.hd hc) ok ⟨by rw [List.length_zip]; omega, fun i key v hr => ?_⟩ (by omega) fun g tk hd k => ?_
    · obtain ⟨f1, f2⟩ := hr
      rw [List.getElem?_toArray] at f1 f2
      obtain ⟨k, g1, g2⟩ := vals_at (P := X.prog) (w := X.w) r1 f1
      exact ⟨k, List.getElem?_zip_eq_some.mpr ⟨g1, f2⟩, g2⟩
    · have big : (h'.objs.size == sysModules) = false := beq_eq_false_iff_ne.mpr (Nat.ne_of_gt (Nat.lt_of_lt_of_le I1.big le))
      have hlen : (mergeK [] (ks.zip ys)).length ≤ sizeLine := by
        refine Nat.le_trans (length_mergeK _ []) ?_
        rw [List.length_nil, List.length_zip]
        omega
      exact ⟨.ref h'.objs.size, _, I1.laid (t' := tk) (fun c o ec => k c o (fun hc2 => Nat.lt_irrefl _ (Nat.lt_of_lt_of_le (Heap.lt_size ec) (hw c hc2))) (kp c o ec)) le (show ObjOk X.prog X.w _ _ _ (.dK (mergeK [] (ks.zip ys))) from ⟨hlen, big, merged [] (ks.zip vs), KV.merge (kv_zip r2) .nil, hd⟩), rfl, q _ (I1.hok.fresh le)⟩
  refine wpAny_Call_Name_kw (ld_blt I hg hm (show bootBuiltins "dict" = some (.type "dict") by decide +kernel) ?_)
  refine PyProof.Rows.callWith_type1 ?_ hs2 rfl
  rw [hs2]
  refine Calls.spliced_cons ?_
  refine Call_ (ld_blt I hg2 hm2 PyProof.Rows.boot_zip (PyProof.Rows.callWith_type1 (thn (ha.run pos2 pins s σ H _ I h) fun us s1 ⟨vs, H1, I1, r1, q1⟩ => ?_) hs hpl))
  obtain ⟨a, b, ks, ys, ev, hl, hsq, q⟩ := q1
  subst ev
  cases r1 with
  | cons r rr =>
    cases rr with
    | cons r' rr =>
      cases rr
      cases r
      cases r'
      rcases hsq with ⟨qa, qb⟩ | ⟨qa, qb⟩
      · obtain ⟨i1, v1, p1, z1⟩ := I1.list qa
        obtain ⟨i2, v2, p2, z2⟩ := I1.list qb
        refine call_zip_2 p1.isList p2.isList fun h' hz hTI hTO h1 h2 hsz hk => Calls.spliced_nil ?_
        refine done I1 hk (by omega) v1 v2 hl q (PairArg.zip _ _ _ _ _ a b (PySem.W.ktu_apart s1.heap.objs.size a b p1.lt p2.lt) i1.toArray i2.toArray) ⟨hz, hTI, ⟨_, _, hTO⟩, h1, h2, p1.isList.at fun o e => hk _ o e, p2.isList.at fun o e => hk _ o e⟩ ?_ (fun c hc => ?_) ?_
        · have := v1.length
          have := v2.length
          rw [List.length_map] at *
          simp only [List.size_toArray]
          omega
        · rcases List.mem_cons.mp hc with z | hc
          · rw [z]; exact Nat.le_add_right _ _
          rcases List.mem_cons.mp hc with z | hc
          · rw [z]; exact Nat.le_add_right _ _
          rcases List.mem_cons.mp hc with z | hc
          · rw [z]; exact Nat.le_refl _
          rw [List.mem_singleton.mp hc]; exact Nat.le_add_right _ _
        · have := v2.length
          omega
      · obtain ⟨i1, v1, p1, z1⟩ := I1.tuple qa
        obtain ⟨i2, v2, p2, z2⟩ := I1.tuple qb
        have t1 : s1.heap.IsTuple a i1.toArray := p1
        have t2 : s1.heap.IsTuple b i2.toArray := p2
        obtain ⟨o1, ho1, _⟩ := id p1
        obtain ⟨o2, ho2, _⟩ := id p2
        have l1 := v1.length
        have l2 := v2.length
        rw [List.length_map] at l1
        refine RZ.call_zipT t1 t2 fun h' hz hTI hTO h1 h2 hsz hk => Calls.spliced_nil ?_
        refine done I1 hk (by omega) v1 v2 hl q (zt_arg _ _ _ _ _ a b (PySem.W.ktu_apart s1.heap.objs.size a b (Heap.lt_size ho1) (Heap.lt_size ho2)) i1.toArray i2.toArray (by simp only [List.size_toArray]; omega)) ⟨hz, hTI, ⟨_, _, hTO⟩, h1, h2, t1.at fun o e => hk _ o e, t2.at fun o e => hk _ o e⟩ (by simp only [List.size_toArray]; omega) (fun c hc => ?_) (by omega)
        rcases List.mem_cons.mp hc with z | hc
        · rw [z]; exact Nat.le_add_right _ _
        rcases List.mem_cons.mp hc with z | hc
        · rw [z]; exact Nat.le_add_right _ _
        rcases List.mem_cons.mp hc with z | hc
        · rw [z]; exact Nat.le_refl _
        rw [List.mem_singleton.mp hc]; exact Nat.le_add_right _ _
end
end Rt
/-! displays of dicts, loops that change what is owned, methods, instances made -/
namespace Rt
open PySem PySem.Spec PyProof.Rows L2
open C8 (Cal Met Mak pe_c pe_mt pe_mt0 pe_mk)
section
variable {T : Tx} {te ta tb tv : TE} {tt tu : TT} {ρ ρ' : En} {ω : List Ow} {d x y z : Dd} {r : R2} {S : Dd → List Ow → Prop} {b : Nat} {N N1 : En → List Ow → Prop} {R : Dd → List Ow → Prop} {t1 t2 ts : TS} {wi : TI} {g : TG} {vs : List Nat} {tas tks : TA}
theorem go_forw {α : Type} (xs : List α) (enc : α → PyData) (Inv : Nat → En → List Ow → Prop) (hi : EvI T wi ρ (xs.map enc)) (h0 : Inv 0 ρ ω)
    (hs : ∀ i x ρ1 o, xs[i]? = some x → Inv i ρ1 o → ∃ ρ2, EvG T g (.py (enc x)) ρ1 ρ2 vs ∧ Go T ts ρ2 b o (Inv (i + 1)) R) (hd : ∀ ρ1 o, Inv xs.length ρ1 o → N ρ1 o) : Go T (tFor wi g ts) ρ b ω N R :=
  go_for (S0 := fun ds o => ds = xs.map enc ∧ o = ω) (vs := vs) (fun ds i ρ1 o => ds = xs.map enc ∧ Inv i ρ1 o) (hi.w ⟨rfl, rfl⟩) (fun ds o ⟨e1, e2⟩ => ⟨e1, e2 ▸ h0⟩)
    (fun ds i d ρ1 o hdi ⟨e1, hI⟩ => by
      subst e1
      rw [List.getElem?_map] at hdi
      cases hx : xs[i]? with
      | none =>
        rw [hx] at hdi
        cases hdi
      | some x =>
        rw [hx] at hdi
        cases Option.some.inj hdi
        obtain ⟨ρ2, h1, h2⟩ := hs i x ρ1 o hx hI
        exact ⟨ρ2, h1, go_is h2 (fun ρ' o' h => ⟨rfl, h⟩) fun _ _ h => h⟩)
    (fun ds ρ1 o ⟨e1, hI⟩ => by
      subst e1
      rw [List.length_map] at hI
      exact hd ρ1 o hI)
theorem go_appendn {i k : Nat} {x : PyData} {ds : List PyData} (hv : Ev T tv ρ (.py x)) (hi : ρ[i]? = some (some (.own k))) (ho : ω[k]? = some (.lst ds)) (hl : ds.length ≤ 1000) (n : N ρ (ω.set k (.lst (ds ++ [x])))) : Go T (tDrop (tBM T.K "list" rAppend (tVar i) (tCons tv tNil))) ρ b ω N R :=
  go_append (S := fun d o => d = .py x ∧ o = ω) (hv.w ⟨rfl, rfl⟩) hi ⟨ds, ho⟩ fun d o ⟨e1, e2⟩ => ⟨x, ds, e1, e2 ▸ ho, hl, by rw [e2]; exact n⟩
theorem go_setfn {i k : Nat} {f : Str} {x : Fl} {fs : List (Str × Fl)} (hv : EvW T tv ρ ω fun d o => d = .fl x ∧ o = ω) (hi : ρ[i]? = some (some (.own k))) (c : Cls T.K T.C) (n : NoAttr T.K T.C f) (ho : ω[k]? = some (.ins fs)) (hl : fs.length < 1000) (n' : N ρ (ω.set k (.ins (putFl f x fs)))) : Go T (sFld T.K (tVar i) tv f) ρ b ω N R :=
  go_setf hv hi c n fun d o ⟨e1, e2⟩ => ⟨x, fs, e1, e2 ▸ ho, hl, by rw [e2]; exact n'⟩
/-! ### {k: v, ..} -/
def EvPs (T : Tx) (trs : List (TE × TE)) (ρ : En) (kvs : List (Key × PyData)) : Prop := ∀ as σ G H, RepE T as G ρ σ → Same G H → ∀ Q : List (V × V) → Hp → Prop, (∀ ks G2 H2, Stq G H G2 H2 → KvR T.K G2 ks kvs → Q (ks.map fun kv => (kV kv.1, kv.2)) H2) → tPairs trs σ H Q
theorem eps_nil : EvPs T [] ρ [] := fun as σ G H e g Q q => q [] G H (.refl g) .nil
theorem eps_cons {tk : TE} {trs : List (TE × TE)} {k : Key} {dd : PyData} {kvs : List (Key × PyData)} (hk : Ev T tk ρ (.py (kD k))) (hv : Ev T tv ρ (.py dd)) (hr : EvPs T trs ρ kvs) : EvPs T ((tk, tv) :: trs) ρ ((k, dd) :: kvs) := fun as σ G H e g Q q =>
  hk as σ G H e g _ fun v G1 H1 s1 r1 => hv as σ G1 H1 (e.up s1.gg) s1.gh _ fun u G2 H2 s2 r2 => hr as σ G2 H2 ((e.up s1.gg).up s2.gg) s2.gh _ fun ks G3 H3 s3 r3 => by
    have := q ((k, u) :: ks) G3 H3 ((s1.trans s2).trans s3) (.cons ⟨rfl, Dq.up s3.gg r2⟩ r3)
    rw [kD_rep r1]
    exact this
theorem upd_er {H : Hp} {p : Addr} {o : HO} : upd (er p H) p o = upd H p o := by
  funext a
  by_cases e : a = p
  · subst e
    rw [upd_same, upd_same]
  · rw [upd_ne e, upd_ne e]
    exact if_neg e
theorem ev_disp {trs : List (TE × TE)} {kvs : List (Key × PyData)} (h : EvPs T trs ρ kvs) (nd : (kvs.map (·.1)).Nodup) (hl : kvs.length ≤ 15) : Ev T (tDisp trs) ρ (.dic kvs) := fun as σ G H e g Q q p hp => by
  have gp : G p = none := g.free hp
  have s0 : Stq G H G (upd H p (.dK [])) := (Stp.refl g).hid hp
  refine h as σ G _ e s0.gh _ fun ks G2 H2 s r => ?_
  have st := s0.trans s
  have h2 : H2 p = some (.dK []) := Stq.hs s _ _ upd_same
  have g2 : G2 p = none := s.fr p List.not_mem_nil gp (by rw [upd_same]; intro z; cases z)
  refine ⟨h2, ks, rfl, by rw [Paired.length r]; exact hl, ?_⟩
  have em : mergeK [] ks = ks := by
    have := mergeK_self ks [] (by rw [List.nil_append, kvR_keys r]; exact nd)
    rw [List.nil_append] at this
    exact this
  rw [em]
  have s2 := (st.er hp g2).new (o := .dK ks) (if_pos rfl)
  rw [upd_er] at s2
  exact q _ _ _ s2 ⟨p, ks, rfl, upd_same, KvR.up (same_new g2) r⟩
/-! ### methods -/
theorem fsR_none {K : PySem.W.Frag} {H : Hp} {f : Str} : ∀ {vs : List (Str × V)} {fs : List (Str × Fl)}, FsR K H vs fs → fs.lookup f = none → vs.lookup f = none
  | _, _, .nil, _ => rfl
  | (a, v) :: vs, (c, y) :: fs, .cons h t, e => by
    have h1 : a = c := h.1
    subst h1
    rw [List.lookup_cons] at e ⊢
    cases z : (f == a) with
    | true =>
      rw [z] at e
      cases e
    | false =>
      rw [z] at e
      exact fsR_none t e
theorem ev_meth {F : List Dd → Dd → Prop} {E : XK} {m : Str} {fs : List (Str × Fl)} {ds : List Dd} (h : Ev T ta ρ (.ins fs)) (hm : fs.lookup m = none) (ha : EvA T tas ρ ds) (hF : F (.ins fs :: ds) d) : Ev T (tMeth T.C m (spF T F) [] E ta tas) ρ d := fun as σ G H e g Q q => h as σ G H e g _ fun v G1 H1 s1 r1 => by
  obtain ⟨a, dx, vs, rfl, h1, h2⟩ := r1
  refine ⟨a, dx, vs, rfl, s1.gh _ _ h1, fsR_none h2 hm, ha as σ G1 H1 (e.up s1.gg) s1.gh _ fun us G2 H2 s2 r2 => ?_⟩
  rw [List.append_nil]
  exact ⟨as, _, d, G2, hF, .cons ⟨a, dx, vs, rfl, s2.gg _ _ h1, FsR.up s2.gg h2⟩ r2, s2.gh, fun v G3 H3 s3 r3 => q v G3 H3 ((s1.trans s2).trans s3) r3⟩
end
section
variable {P : Program} {w : World} {T : Tx} {mg : Str → Option Value} {base : Heap}
/-- how the arguments of a method bind -/
def BindM (x qual : Str) (st : Stmt) (ps : List Str) : Prop := ∀ (kV doc pm : Value) (an : Option Addr) (cdv ct : Value) (us : List Value), us.length = ps.length → bindArgs (PySem.W.fnOf x qual (defArgs st) (defBody st) (defScope st) .none kV doc pm an cdv ct) ⟨us, []⟩ = pure (ps.zip us)
theorem met_pure {x qual : Str} {st : Stmt} {N ps : List Str} {k : Nat} {C : Addr} (hc : Cls T.K C) (hF : ∃ f fd, Meth T.K C x f ∧ FunD T.K x qual (defArgs st) (defBody st) (defScope st) [] [] f fd) (S : FnScope N ps (defScope st)) (hb : BindM x qual st ps) (Fs : List Dd → Dd → Prop) (hl : ∀ ds d, Fs ds d → ds.length = ps.length ∧ ds.all Dd.free = true ∧ d.free = true)
    (body : ∀ (f : Addr) (cdv : Value) (A : Around) (outer : List Env) (s : Shared) (H : Hp) (E : XK), Room k (A.deeper (envOfC qual (defScope st) s.heap.objs.size f cdv)) →
      ∃ t, PSs (cxOf CX0 P w T.K mg base N qual (defScope st) f cdv A outer s H E).nox (defBody st) t ∧ ∀ ds d, Fs ds d → Go T t (startD N ds) 0 [] (fun _ _ => d = .py .none) (fun d' _ => d' = d)) : Met P w T.K mg base (k + 1) C x (spF T Fs) [] := by
  obtain ⟨f, fd, M, F⟩ := hF
  refine ⟨f, fd, ps, [], hc, M, ?_, FunD.bindsN F hb, .nil⟩
  refine F.ok S (fun vs H Q E h => ?_) (fun cdv A outer s H vs Q E hr h => ?_)
  · obtain ⟨as, ds, d, G, hf, r, _⟩ := h
    rw [← Paired.length r]
    exact (hl ds d hf).1
  · obtain ⟨t, ht, go⟩ := body f cdv A outer s H E hr
    obtain ⟨as, ds, d, G, hf, r, sg, q⟩ := h
    obtain ⟨_, fr, fd'⟩ := hl ds d hf
    refine ⟨t, PSs.nox ht, ?_⟩
    refine go ds d hf [] (L2.start N vs) G H (start_rep (RepL.move fr r)) sg .nil _ (fun as' ρ' o σ' G2 H2 n _ w2 tk s2 => ?_) (fun as' d' o v G2 H2 e r2 w2 tk s2 => ?_)
    · subst n
      have s3 : Stq G H G2 H2 := ⟨s2.gg, s2.gh, s2.hh, s2.ha, s2.fr, fun _ h => absurd h List.not_mem_nil⟩
      exact q .non G2 H2 s3 .non
    · subst e
      have s3 : Stq G H G2 H2 := ⟨s2.gg, s2.gh, s2.hh, s2.ha, s2.fr, fun _ h => absurd h List.not_mem_nil⟩
      exact q v G2 H2 s3 (r2.move fd')
/-- a maker: self is owned and bare, then has the fields fs -/
def spI (T : Tx) (F : List Dd → List (Str × Fl) → Prop) : Sp := fun vs H Q _ => ∃ p vs' ds fs G, vs = .ref p :: vs' ∧ F ds fs ∧ RepL T [p] G ds vs' ∧ Same G H ∧ Own T [p] [.ins []] G H ∧ ∀ G2 H2, Own T [p] [.ins fs] G2 H2 → Stp [p] [p] G H G2 H2 → Q .non H2
theorem init_ok {qual : Str} {st : Stmt} {N ps : List Str} {k : Nat} {kws : List (Str × V)} {f : Addr} {fd : FuncData} (F : FunD T.K "__init__" qual (defArgs st) (defBody st) (defScope st) [] kws f fd) (S : FnScope N ps (defScope st)) (Fs : List Dd → List (Str × Fl) → Prop) (hl : ∀ ds fs, Fs ds fs → ds.length + 1 = ps.length)
    (body : ∀ (cdv : Value) (A : Around) (outer : List Env) (s : Shared) (H : Hp) (E : XK), Room k (A.deeper (envOfC qual (defScope st) s.heap.objs.size f cdv)) →
      ∃ t, PSs (cxOf CX0 P w T.K mg base N qual (defScope st) f cdv A outer s H E).nox (defBody st) t ∧ ∀ ds fs, Fs ds fs → Go T t (startD N (.own 0 :: ds)) 1 [.ins []] (fun _ o => o = [.ins fs]) (fun _ _ => False)) : FnOk P w T.K mg base CX0 (k + 1) f fd ps (spI T Fs) := by
  refine F.ok S (fun vs H Q E h => ?_) (fun cdv A outer s H vs Q E hr h => ?_)
  · obtain ⟨p, vs', ds, fs, G, rfl, hf, r, _⟩ := h
    rw [List.length_cons, ← Paired.length r]
    exact hl ds fs hf
  · obtain ⟨t, ht, go⟩ := body cdv A outer s H E hr
    obtain ⟨p, vs', ds, fs, G, rfl, hf, r, sg, w0, q⟩ := h
    refine ⟨t, PSs.nox ht, ?_⟩
    refine go ds fs hf [p] (L2.start N (.ref p :: vs')) G H (start_rep (.cons ⟨p, rfl, rfl⟩ r)) sg w0 _ (fun as' ρ' o σ' G2 H2 n _ w2 tk s2 => ?_) (fun as' d' o v G2 H2 e _ _ _ _ => e.elim)
    subst n
    have hp : as' = [p] := by
      have hl := w2.len
      match as', hl, tk with
      | [a], _, tk => exact tk
    subst hp
    exact q G2 H2 w2 s2
end
section
variable {T : Tx} {ρ : En} {tas tks : TA}
theorem ev_makeK {F : List Dd → List (Str × Fl) → Prop} {E : XK} {n m : Nat} {ds es : List Dd} {fs : List (Str × Fl)} {gV : List V → List V → List V} (hg : ∀ v us ws, us.length = n → ws.length = m → gV (v :: us) ws = v :: (us ++ ws)) (h1 : EvA T tas ρ ds) (h2 : EvA T tks ρ es) (l1 : ds.length = n) (l2 : es.length = m) (hf : (ds ++ es).all Dd.free = true) (hF : F (ds ++ es) fs) : Ev T (tMakeK T.C n m (spI T F) gV E tas tks) ρ (.ins fs) := fun as σ G H e g Q q => h1 as σ G H e g _ fun vs G1 H1 s1 r1 => h2 as σ G1 H1 (e.up s1.gg) s1.gh _ fun us G2 H2 s2 r2 => by
  have k1 : vs.length = n := by rw [← Paired.length r1]; exact l1
  have k2 : us.length = m := by rw [← Paired.length r2]; exact l2
  refine ⟨k1, k2, fun p dx hp hd hne => ?_⟩
  rw [hg _ _ _ k1 k2]
  have gp : G2 p = none := s2.gh.free hp
  have st := s1.trans s2
  have sa : Stq G H G2 (upd (upd H2 dx (.own p)) p (.ins T.C dx [])) := (st.hid hd).hid (by rw [upd_ne (Ne.symm hne)]; exact hp)
  have app : ∀ {xs ys : List Dd} {us vs : List V}, RepL T as G2 xs us → RepL T as G2 ys vs → RepL T as G2 (xs ++ ys) (us ++ vs) := by
    intro xs ys us vs r
    induction r with
    | nil => exact fun s => s
    | cons h t ih => exact fun s => .cons h (ih s)
  refine ⟨p, _, _, fs, G2, rfl, hF, RepL.move hf (app (r1.up s2.gg) r2), sa.gh, ⟨by simp, rfl, fun k a o e1 e2 => ?_⟩, fun G3 H3 w3 s3 => ⟨rfl, ?_⟩⟩
  · cases k with
    | zero =>
      cases Option.some.inj e1
      cases Option.some.inj e2
      exact ⟨gp, dx, [], upd_same, .nil⟩
    | succ k => simp at e1
  · obtain ⟨g3, dx', vs', h3, h4⟩ := w3.ow 0 p _ rfl rfl
    have gs : Same G3 (upd G3 p (.ins T.C dx' vs')) := same_new g3
    refine q (.ref p) (upd G3 p (.ins T.C dx' vs')) H3 ⟨(st.gg.trans s3.gg).trans gs, fun a u h => ?_, fun a u hn h => ?_, fun a h => s3.ha a (sa.ha a h), fun a hn g1 h => ?_, fun _ h => absurd h List.not_mem_nil⟩ ⟨p, dx', vs', rfl, upd_same, FsR.up gs h4⟩
    · by_cases z : a = p
      · subst z
        rw [upd_same] at h
        cases h
        exact h3
      · rw [upd_ne z] at h
        exact s3.gh _ _ h
    · have hne2 : a ≠ p := fun z => by
        subst z
        exact st.ha a (by rw [h]; intro y; cases y) hp
      exact s3.hh a u (by simp [hne2]) (Stq.hs sa _ _ h)
    · have hne2 : a ≠ p := fun z => by
        subst z
        exact st.ha a h hp
      rw [upd_ne hne2]
      exact s3.fr a (by simp [hne2]) (st.fr a List.not_mem_nil g1 h) (sa.ha a h)
theorem ev_dz {ta : TA} {ks : List Key} {ds : List PyData} (h : EvA T ta ρ [.py (.list (ks.map kD)), .py (.list ds)]) (hl : ks.length = ds.length) (nd : ks.Nodup) : Ev T (tDZ T.K ta) ρ (.dic (ks.zip ds)) := fun as σ G H e g Q q => h as σ G H e g _ fun vs G2 H2 s r => by
  cases r with
  | cons r1 r =>
    cases r with
    | cons r2 r =>
      cases r
      obtain ⟨a, xs, rfl, h1, h2⟩ := dq_lst r1
      obtain ⟨c, ys, rfl, h3, h4⟩ := dq_lst r2
      have kx : ∀ {ks : List Key} {xs : List V}, DqA T.K G2 xs (ks.map kD) → xs = ks.map kV := by
        intro ks
        induction ks with
        | nil =>
          intro xs r
          cases r
          rfl
        | cons k ks ih =>
          intro xs r
          cases r with
          | cons h t => rw [kD_rep h, ih t]; rfl
      rw [kx h2] at h1
      have zr : ∀ {ks : List Key} {ys : List V} {ds : List PyData}, DqA T.K G2 ys ds → KvR T.K G2 (ks.zip ys) (ks.zip ds) := by
        intro ks
        induction ks with
        | nil => exact fun _ => .nil
        | cons k ks ih =>
          intro ys ds r
          cases r with
          | nil => exact .nil
          | cons h t => exact .cons ⟨rfl, h⟩ (ih t)
      have ly := dqA_len h4
      refine ⟨a, c, ks, ys, rfl, by omega, .inl ⟨.of (s.gh _ _ h1), .of (s.gh _ _ h3)⟩, fun p hp => ?_⟩
      have em : mergeK [] (ks.zip ys) = ks.zip ys := by
        have := mergeK_self (ks.zip ys) [] (by
          rw [List.nil_append, List.map_fst_zip (by omega)]
          exact nd)
        rw [List.nil_append] at this
        exact this
      rw [em]
      exact q _ _ _ (s.new (o := .dK (ks.zip ys)) hp) ⟨p, _, rfl, upd_same, KvR.up (same_new (s.gh.free hp)) (zr h4)⟩
theorem ev_dzK {ta : TA} {xs : List Str} {ds : List PyData} (h : EvA T ta ρ [.ktup xs, .py (.tuple ds)]) (hl : xs.length = ds.length) (nd : xs.Nodup) : Ev T (tDZ T.K ta) ρ (.dic ((xs.map Sum.inr).zip ds)) := fun as σ G H e g Q q => h as σ G H e g _ fun vs G2 H2 s r => by
  cases r with
  | cons r1 r =>
    cases r with
    | cons r2 r =>
      cases r
      obtain ⟨a, rfl, h1⟩ := r1
      obtain ⟨c, ys, rfl, h3, h4⟩ := dq_tup r2
      have zr : ∀ {ks : List Key} {ys : List V} {ds : List PyData}, DqA T.K G2 ys ds → KvR T.K G2 (ks.zip ys) (ks.zip ds) := by
        intro ks
        induction ks with
        | nil => exact fun _ => .nil
        | cons k ks ih =>
          intro ys ds r
          cases r with
          | nil => exact .nil
          | cons h t => exact .cons ⟨rfl, h⟩ (ih t)
      have ly := dqA_len h4
      have ek : (xs.map Sum.inr : List Key).map kV = xs.map V.str := by
        rw [List.map_map]
        rfl
      refine ⟨a, c, xs.map Sum.inr, ys, rfl, by rw [List.length_map]; omega, .inr ⟨by rw [ek]; exact h1 H2, seqT_up s.gh h3⟩, fun p hp => ?_⟩
      have em : mergeK [] ((xs.map Sum.inr : List Key).zip ys) = (xs.map Sum.inr).zip ys := by
        have := mergeK_self ((xs.map Sum.inr : List Key).zip ys) [] (by
          rw [List.nil_append, List.map_fst_zip (by rw [List.length_map]; omega)]
          exact List.pairwise_map.mpr (nd.imp fun h e => h (Sum.inr.inj e)))
        rw [List.nil_append] at this
        exact this
      rw [em]
      exact q _ _ _ (s.new (o := .dK _) hp) ⟨p, _, rfl, upd_same, KvR.up (same_new (s.gh.free hp)) (zr h4)⟩
end
end Rt
/-! the fields of a book -/
namespace Rt
open PySem PySem.Spec PyProof.Rows L2
def Lb.recD (b : Lb) : PyData := .tuple [.tuple (b.skills.map enSI), .int b.points, .tuple (b.needs.map enII), .tuple (b.wants.map enW), .tuple (b.bars.map enSS), .tuple (b.gives.map enSI), .tuple (b.prices.map enSI), enO b.reset]
def kSI (l : List (Str × Int)) : List (Key × PyData) := l.map fun p => (Sum.inr p.1, PyData.int p.2)
def kII (l : List (Int × Int)) : List (Key × PyData) := l.map fun p => (Sum.inl p.1, PyData.int p.2)
def Lb.tiersL (b : Lb) : List Int := b.skills.map (·.2)
def Lb.spots (b : Lb) : List Int := b.names.map fun x => (b.bit x : Int)
def Lb.bitDic (b : Lb) : List (Key × PyData) := (b.names.map Sum.inr).zip (b.spots.map .int)
def Lb.barL (b : Lb) : List Int := b.bars.map fun p => (b.bit p.1 : Int) + (b.bit p.2 : Int)
def Want.many (u : Want) : Int := match u.kind with
  | .all => (u.names.length : Int)
  | .any => 1
  | .count n => n
def Lb.low (b : Lb) (x : Str) : Nat := mkf b.names fun y => decide (b.tier y < b.tier x)
def Lb.rows (b : Lb) (x : Str) : List (Int × Int) := ((b.low x : Int), b.need (b.tier x)) :: (b.wants.filter fun u => decide (u.skill = x)).map fun u => ((b.msk u.names : Int), u.many)
def spD (n : Nat) : List Int := (List.range n).map fun i => ((2 ^ i : Nat) : Int)
abbrev Lb.fA (b : Lb) : List (Str × Fl) := [("record", .py b.recD), ("own_points", .py (.int b.points)), ("own_reset", .py (enO b.reset)), ("own_names", .py (.list (tStrs b.names))), ("own_tiers", .py (.list (b.tiersL.map .int))), ("tier_by", .dic (kSI b.skills))]
abbrev Lb.fB (b : Lb) (n : Nat) : List (Str × Fl) := b.fA ++ ([("spots", .py (.list ((spD n).map .int)))] : List (Str × Fl))
abbrev Lb.fC (b : Lb) : List (Str × Fl) := b.fA ++ ([("spots", .py (.list (b.spots.map .int))), ("bits", .dic b.bitDic), ("own_needs", .dic (kII b.needs)), ("own_prices", .dic (kSI b.prices)), ("own_given", .dic (kSI b.gives))] : List (Str × Fl))
abbrev Lb.fD (b : Lb) : List (Str × Fl) := b.fC ++ ([("barred", .py (.list (b.barL.map .int)))] : List (Str × Fl))
abbrev Lb.fields (b : Lb) : List (Str × Fl) := b.fD ++ ([("asked", .py (.list (b.names.map fun x => PyData.list ((b.rows x).map enII))))] : List (Str × Fl))
theorem spots_eq {b : Lb} (h : b.Ok) : b.spots = spD b.names.length := by
  unfold Lb.spots spD
  refine List.ext_getElem (by simp) fun i h1 h2 => ?_
  rw [List.getElem_map, List.getElem_map, List.getElem_range]
  rw [List.length_map] at h1
  congr 1
  exact bit_at h.nd (List.getElem?_eq_getElem h1)
theorem spD_succ (n : Nat) : spD (n + 1) = spD n ++ [((2 ^ n : Nat) : Int)] := by
  unfold spD
  rw [List.range_succ, List.map_append]
  rfl
theorem valP_zipf {κ α : Type} [DecidableEq κ] (f : Str → κ) (g : Str → α) (hf : ∀ a c, f a = f c → a = c) : ∀ (N : List Str) {x : Str}, x ∈ N → valP ((N.map f).zip (N.map g)) (f x) = some (g x)
  | [], x, h => by cases h
  | a :: N, x, h => by
    unfold valP
    rw [List.map_cons, List.map_cons, List.zip_cons_cons, List.find?_cons]
    by_cases e : a = x
    · subst e
      rw [decide_eq_true rfl]
      rfl
    · rw [decide_eq_false (fun z => e (hf _ _ z))]
      have hx : x ∈ N := by
        rcases List.mem_cons.mp h with z | z
        · exact absurd z.symm e
        · exact z
      exact valP_zipf f g hf N hx
theorem lk_bit {b : Lb} {x : Str} (hx : x ∈ b.names) : valP b.bitDic (.inr x) = some (.int (b.bit x : Int)) := by
  unfold Lb.bitDic Lb.spots
  rw [List.map_map]
  exact valP_zipf (Sum.inr : Str → Key) (fun y => PyData.int (b.bit y : Int)) (fun a c e => Sum.inr.inj e) b.names hx
theorem lk_tier {b : Lb} {x : Str} (hx : x ∈ b.names) : valP (kSI b.skills) (.inr x) = some (.int (b.tier x)) := by
  unfold kSI
  have e := valP_map (κ' := Key) (Sum.inr : Str → Key) (fun a c e => Sum.inr.inj e) PyData.int x b.skills
  rw [e]
  obtain ⟨v, e2, _⟩ := valP_mem (l := b.skills) hx
  unfold Lb.tier
  rw [e2]
  rfl
theorem lk_need (b : Lb) (t : Int) : (valP (kII b.needs) (.inl t)).getD (.int 0) = .int (b.need t) := by
  unfold kII
  have e := valP_map (κ' := Key) (Sum.inl : Int → Key) (fun a c e => Sum.inl.inj e) PyData.int t b.needs
  rw [e]
  unfold Lb.need
  cases valP b.needs t <;> rfl
theorem nd_SI {l : List (Str × Int)} (h : (l.map (·.1)).Nodup) : ((kSI l).map (·.1)).Nodup := by
  unfold kSI
  rw [List.map_map]
  have e : l.map ((fun x => x.1) ∘ fun p : Str × Int => ((Sum.inr p.1 : Key), PyData.int p.2)) = (l.map (·.1)).map Sum.inr := by
    rw [List.map_map]
    rfl
  rw [e]
  exact List.pairwise_map.mpr (h.imp fun {a c} h e => h (Sum.inr.inj e))
theorem nd_II {l : List (Int × Int)} (h : (l.map (·.1)).Nodup) : ((kII l).map (·.1)).Nodup := by
  unfold kII
  rw [List.map_map]
  have e : l.map ((fun x => x.1) ∘ fun p : Int × Int => ((Sum.inl p.1 : Key), PyData.int p.2)) = (l.map (·.1)).map Sum.inl := by
    rw [List.map_map]
    rfl
  rw [e]
  exact List.pairwise_map.mpr (h.imp fun {a c} h e => h (Sum.inl.inj e))
theorem en_kSI (l : List (Str × Int)) : l.map enSI = (kSI l).map pairD := by
  unfold kSI
  rw [List.map_map]
  rfl
theorem en_kII (l : List (Int × Int)) : l.map enII = (kII l).map pairD := by
  unfold kII
  rw [List.map_map]
  rfl
theorem sum_low {b : Lb} (h : b.Ok) (x : Str) : ((b.skills.filter fun p => decide (p.2 < b.tier x)).map fun p => (b.bit p.1 : Int)).sum = (b.low x : Int) := by
  have hsub : ((b.skills.filter fun p => decide (p.2 < b.tier x)).map (·.1)).Nodup := List.Sublist.nodup (List.Sublist.map (fun p : Str × Int => p.1) List.filter_sublist) h.nd
  have e := sum_bits b hsub
  rw [List.map_map] at e
  refine Eq.trans e ?_
  unfold Lb.msk Lb.low
  congr 1
  refine mkf_congr fun y hy => ?_
  obtain ⟨v, e1, e2⟩ := valP_mem (l := b.skills) hy
  have et : b.tier y = v := by
    unfold Lb.tier
    rw [e1]
    rfl
  by_cases hv : b.tier y < b.tier x
  · rw [decide_eq_true hv]
    exact decide_eq_true (List.mem_map.mpr ⟨(y, v), List.mem_filter.mpr ⟨e2, decide_eq_true (et ▸ hv)⟩, rfl⟩)
  · rw [decide_eq_false hv]
    refine decide_eq_false fun hm => ?_
    obtain ⟨q, hq, rfl⟩ := List.mem_map.mp hm
    obtain ⟨h1, h2⟩ := List.mem_filter.mp hq
    have : q.2 = v := by
      have key : ∀ (l : List (Str × Int)), (l.map (·.1)).Nodup → (q.1, v) ∈ l → q ∈ l → q.2 = v := by
        intro l
        induction l with
        | nil => intro _ h; cases h
        | cons a l ih =>
          intro hn m1 m2
          have hn2 := List.nodup_cons.mp hn
          rcases List.mem_cons.mp m1 with z1 | z1 <;> rcases List.mem_cons.mp m2 with z2 | z2
          · rw [← z1] at z2
            rw [z2]
          · exact absurd (List.mem_map.mpr ⟨q, z2, by rw [← z1]⟩) hn2.1
          · exact absurd (List.mem_map.mpr ⟨(q.1, v), z1, by rw [z2]⟩) hn2.1
          · exact ih hn2.2 z1 z2
      exact key b.skills h.nd e2 h1
    exact hv (by rw [et, ← this]; exact of_decide_eq_true h2)
/-- [*xs, ..] -/
theorem ea_star {T : Tx} {te : TE} {t : TA} {ρ : En} {ds es : List PyData} (h : Ev T te ρ (.py (.list ds))) (k : EvA T t ρ (es.map Dd.py)) : EvA T (StX.tStar T.K te t) ρ ((ds ++ es).map Dd.py) := fun as σ G H e g Q q => h as σ G H e g _ fun v G1 H1 s1 r1 => by
  obtain ⟨a, xs, rfl, h1, h2⟩ := dq_lst r1
  refine ⟨a, xs, rfl, .inr (.of (s1.gh _ _ h1)), k as σ G1 H1 (e.up s1.gg) s1.gh _ fun vs G2 H2 s2 r2 => q _ G2 H2 (s1.trans s2) ?_⟩
  exact dqA_reps (dqA_app (DqA.up s2.gg h2) (reps_dqA r2))
end Rt
namespace Rt
open PySem PySem.Spec PyProof.Rows L2
open C8 (Cal Met Mak pe_c pe_mt pe_mt0 pe_mk)
section
variable {P : Program} {w : World} {T : Tx} {mg : Str → Option Value} {base : Heap}
theorem bm_Book_asked_by : BindM "asked_by" "Book.asked_by" s_Book_asked_by P_Book_asked_by := fun _ _ _ _ _ _ us hl => match us, hl with | [_, _], _ => rfl
def F_asked (ds : List Dd) (d : Dd) : Prop := ∃ (b : Lb) (x : Str), b.Ok ∧ x ∈ b.names ∧ ds = [.ins b.fD, .py (.str x)] ∧ d = .py (.list ((b.rows x).map enII))
def lastD (u : Want) : PyData := match u.kind with
  | .all => .tuple (tStrs u.names)
  | .any => .tuple (tStrs u.names)
  | .count n => .int n
theorem ixwl (u : Want) : atI u.row (-1) = some (lastD u) := by
  obtain ⟨k, s, ns⟩ := u
  cases k <;> rfl
theorem lk_many (u : Want) : valP [((.inr "all" : Key), PyData.int (u.names.length : Int)), (.inr "any", .int 1), (.inr "count", lastD u)] (.inr u.kind.word) = some (.int u.many) := by
  obtain ⟨k, s, ns⟩ := u
  cases k <;> rfl
theorem asked_sum (l : List (Str × Int)) (f : Str × Int → Bool) (g : Str → Int) : ((l.filter f).map fun p => PyData.int (g p.1)) = (((l.filter f).map fun p => g p.1)).map PyData.int := by
  rw [List.map_map]
  rfl
theorem c_asked (W : Wt T mg) : Met P w T.K mg base 1 T.C "asked_by" (spF T F_asked) [] := by
  refine met_pure (k := 0) W.cB W.aB sc_Book_asked_by bm_Book_asked_by F_asked (fun ds d h => ?_) (fun f cdv A outer s H E hr => ⟨_, (pss_cons (ps_set (i := 2) sc_Book_asked_by.nd rfl (Or.inr rfl) (pe_dget (hu_of hr) (kfld T.K (pv 0) rfl) (pv 1) (fun _ _ => rfl)))
      (pss_cons (ps_set (i := 3) sc_Book_asked_by.nd rfl (Or.inl rfl) (pe_callB (r := rSum T.K) (cr_sum rfl) (by rfl) W.m_sum bt_sum (pa_cons (pe_lc (own := [("one", 4), ("other", 5)]) (g := gTup T.K 2 (gCons (gName 4) (gCons (gName 5) (gNil)))) (tt := _) rfl sc_Book_asked_by.nd  (ki_zip T.K (by rfl) W.m_zip (pa_cons (kfld T.K (pv 0) rfl) (pa_cons (kfld T.K (pv 0) rfl) pa_nil))) (blkOk_by (own := [("one", 4), ("other", 5)]) (N := N_Book_asked_by) (sc := defScope s_Book_asked_by) (by decide +kernel)) (fun _ _ _ _ _ => (kg_tup T.K rfl (pgs_cons (pg_name (i := 4) sc_Book_asked_by.nd rfl (Or.inl rfl)) (pgs_cons (pg_name (i := 5) sc_Book_asked_by.nd rfl (Or.inl rfl)) pgs_nil)))) (fun _ _ _ _ _ => pts_one (pt_cmpR op_lt (pv 5) (pv 2) (nomark _))) (fun _ _ _ _ _ => (pe_dget (hu_of hr) (kfld T.K (pv 0) rfl) (pv 4) (fun _ _ => rfl)))) pa_nil)))
      (pss_cons (ps_set (i := 6) sc_Book_asked_by.nd rfl (Or.inl rfl) (pe_lst (pa_cons (pe_tup (pa_cons (pv 3) (pa_cons (pe_dget2 (hu_of hr) (kfld T.K (pv 0) rfl) (pv 2) pe_int ⟨rfl, rfl, rfl, rfl⟩) pa_nil))) pa_nil)))
      (pss_cons (ps_for PassesOwn.never rfl (ki_tup T.K (pe_ix (r := rIxT T.K) ix_tup (kfld T.K (pv 0) rfl) pe_int (fun _ _ => rfl))) (pg_name (i := 7) sc_Book_asked_by.nd rfl (Or.inl rfl)) (pss_one (ps_if (pt_cmpR op_eq (pe_ix (r := rIxT T.K) ix_tup (pv 7) pe_int (fun _ _ => rfl)) (pv 1) (nomark _)) (pss_cons (ps_set (i := 8) sc_Book_asked_by.nd rfl (Or.inl rfl) (pe_callB (r := rSum T.K) (cr_sum rfl) (by rfl) W.m_sum bt_sum (pa_cons (pe_lc (own := [("one", 4)]) (g := gName 4) (tt := tYes) rfl sc_Book_asked_by.nd  (ki_tup T.K (pe_ix (r := rIxT T.K) ix_tup (pv 7) pe_int (fun _ _ => rfl))) (blkOk_by (own := [("one", 4)]) (N := N_Book_asked_by) (sc := defScope s_Book_asked_by) (by decide +kernel)) (fun _ _ _ _ _ => (pg_name (i := 4) sc_Book_asked_by.nd rfl (Or.inl rfl))) (fun _ _ _ _ _ => pts_nil) (fun _ _ _ _ _ => (pe_dget (hu_of hr) (kfld T.K (pv 0) rfl) (pv 4) (fun _ _ => rfl)))) pa_nil)))
      (pss_cons (ps_set (i := 9) sc_Book_asked_by.nd rfl (Or.inl rfl) (pe_dget (hu_of hr) (pe_disp (pps_cons pe_str (pe_callB (r := rLen T.K) cz_len (by rfl) W.m_len bt_len (pa_cons (pe_ix (r := rIxT T.K) ix_tup (pv 7) pe_int (fun _ _ => rfl)) pa_nil)) (pps_cons pe_str pe_int (pps_cons pe_str (pe_ix (r := rIxT T.K) ix_tup (pv 7) (pe_un un_neg pe_int) (fun _ _ => rfl)) pps_nil))) (by rfl) (by rfl) (fun z => by cases z) (by decide)) (pe_ix (r := rIxT T.K) ix_tup (pv 7) pe_int (fun _ _ => rfl)) (fun _ _ => rfl)))
      (pss_one (ps_expr (kbm T.K PySem.F.plainAttrs_list PySem.F.slot_list_append PySem.F.type_list_append mt_append (pv 6) (pa_cons (pe_tup (pa_cons (pv 8) (pa_cons (pv 9) pa_nil))) pa_nil)))))) pss_nil)))
      (pss_one (ps_ret (pv 6))))))), fun ds d h => ?_⟩)
  · obtain ⟨b, x, hb, hx, rfl, rfl⟩ := h
    exact ⟨rfl, rfl, rfl⟩
  · obtain ⟨b, x, hb, hx, rfl, rfl⟩ := h
    have h5 := hb.n5
    have h12 := hb.wants12
    have ez : ((tStrs b.names).zip (b.tiersL.map PyData.int)).map (fun p => PyData.tuple [p.1, p.2]) = b.skills.map enSI := by
      unfold tStrs Lb.names Lb.tiersL
      rw [List.map_map, List.map_map, List.zip_map', List.map_map]
      rfl
    refine go_letp (ev_dget (k := .inr x) (ev_fld (ev_var rfl) W.cB W.n_tier_by rfl) (ev_var rfl) (lk_tier hx)) ?_
    refine go_letp (d := .py (.int (b.low x : Int))) (ev_is (ev_cb (ea_cons (EvN.ev (en_is (en_lc (xs := b.skills) (enc := enSI) (fun p => decide (p.2 < b.tier x)) (fun p => .int (b.bit p.1 : Int)) (ez ▸ ei_zip (ea_cons (ev_fld (ev_var rfl) W.cB W.n_own_names rfl) (ea_cons (ev_fld (ev_var rfl) W.cB W.n_own_tiers rfl) ea_nil))) (ok_len hb) fun p hp => ⟨_, eg_two (by decide) (by decide), et_test (ev_op (ev_var rfl) (ev_var rfl) er_lt), fun _ => ev_dget (k := .inr p.1) (ev_fld (ev_var rfl) W.cB W.n_bits rfl) (ev_var rfl) (lk_bit (List.mem_map_of_mem hp))⟩) (asked_sum b.skills _ fun y => (b.bit y : Int)))) ea_nil) ec_sum) (by rw [sum_low hb])) ?_
    refine go_newlp (ds := [enII ((b.low x : Int), b.need (b.tier x))]) (en_lst (ea_cons (ev_tup (ds := [.int (b.low x : Int), .int (b.need (b.tier x))]) (ea_cons (ev_var rfl) (ea_cons (ev_is (ev_dget2 (k := .inl (b.tier x)) (ev_fld (ev_var rfl) W.cB W.n_own_needs rfl) (ev_var rfl) ev_int) (by rw [lk_need])) ea_nil)) (by show 2 ≤ 1000; decide)) ea_nil) (by show 1 ≤ 1000; decide)) (Nat.le_refl _) ?_
    refine go_seq (N1 := fun ρ' o => ∃ y4 y5 y7 y8 y9, o = [.lst ((b.rows x).map enII)] ∧ ρ' = [some (.ins b.fD), some (.py (.str x)), some (.py (.int (b.tier x))), some (.py (.int (b.low x : Int))), y4, y5, some (.own 0), y7, y8, y9]) ?_ (fun ρ' o ⟨y4, y5, y7, y8, y9, e1, e2⟩ => by
      subst e1 e2
      exact go_frz (ω := []) (fun z => nomatch z) (Nat.le_refl _) (go_retp (ev_var rfl) rfl))
    refine go_forw (vs := [7]) b.wants enW (fun i ρ' o => ∃ y4 y5 y7 y8 y9, o = [.lst ((((b.low x : Int), b.need (b.tier x)) :: ((b.wants.take i).filter fun u => decide (u.skill = x)).map fun u => ((b.msk u.names : Int), u.many)).map enII)] ∧ ρ' = [some (.ins b.fD), some (.py (.str x)), some (.py (.int (b.tier x))), some (.py (.int (b.low x : Int))), y4, y5, some (.own 0), y7, y8, y9]) (ei_tup (ev_op (ev_fld (ev_var rfl) W.cB W.n_record rfl) ev_int (er_ixT rfl))) ⟨_, _, _, _, _, rfl, rfl⟩ ?_ ?_
    · rintro i u ρ1 o hu ⟨y4, y5, y7, y8, y9, rfl, rfl⟩
      have hum := List.mem_of_getElem? hu
      have ho := hb.wants u hum
      have hlen := ho.len
      have et := take_succ_of hu
      refine ⟨_, eg_name (by decide), go_if (et_test (ev_op (ev_op (ev_var rfl) ev_int (er_ixT (ixw u))) (ev_var rfl) er_eqS)) (fun e => ?_) (fun e => ?_)⟩
      · refine go_letp (d := .py (.int (b.msk u.names : Int))) (ev_is (ev_cb (ea_cons (EvN.ev (en_is (en_lc0 (xs := u.names) (enc := PyData.str) (fun y => .int (b.bit y : Int)) (ei_tup (ev_op (ev_var rfl) ev_int (er_ixT (ixw2 u)))) (by omega) fun y hy => ⟨_, eg_name (by decide), ev_dget (k := .inr y) (ev_fld (ev_var rfl) W.cB W.n_bits rfl) (ev_var rfl) (lk_bit (ho.mem y hy).1)⟩) (show _ = (u.names.map fun y => (b.bit y : Int)).map PyData.int by rw [List.map_map]; rfl))) ea_nil) ec_sum) (by rw [sum_bits b ho.nd])) ?_
        refine go_letp (d := .py (.int u.many)) (ev_dget (k := .inr u.kind.word) (ev_disp (kvs := [((.inr "all" : Key), PyData.int (u.names.length : Int)), (.inr "any", .int 1), (.inr "count", lastD u)]) (eps_cons (k := .inr "all") ev_str (ev_is (ev_cb (ea_cons (ev_op (ev_var rfl) ev_int (er_ixT (ixw2 u))) ea_nil) ec_len_t) (by unfold tStrs; rw [List.length_map])) (eps_cons (k := .inr "any") ev_str ev_int (eps_cons (k := .inr "count") ev_str (ev_op (ev_var rfl) (ev_neg ev_int) (er_ixT (ixwl u))) eps_nil))) (show ([.inr "all", .inr "any", .inr "count"] : List Key).Nodup by decide +kernel) (by show 3 ≤ 15; decide)) (ev_op (ev_var rfl) ev_int (er_ixT (ixw0 u))) (lk_many u)) ?_
        refine go_appendn (k := 0) (x := enII ((b.msk u.names : Int), u.many)) (ev_tup (ds := [.int (b.msk u.names : Int), .int u.many]) (ea_cons (ev_var rfl) (ea_cons (ev_var rfl) ea_nil)) (by show 2 ≤ 1000; decide)) rfl rfl ?_ ⟨_, _, _, _, _, ?_, rfl⟩
        · rw [List.length_map, List.length_cons, List.length_map]
          have := List.length_filter_le (fun u => decide (u.skill = x)) (b.wants.take i)
          rw [List.length_take] at this
          omega
        · rw [et, List.filter_append, List.filter_cons, if_pos e, List.filter_nil, List.map_append]
          show [Ow.lst (_ ++ _)] = _
          rw [List.map_cons, List.map_cons, List.map_append, List.cons_append]
          rfl
      · refine go_next ⟨_, _, _, _, _, ?_, rfl⟩
        rw [et, List.filter_append, List.filter_cons, if_neg (by rw [e]; exact Bool.false_ne_true), List.filter_nil, List.append_nil]
    · rintro ρ1 o ⟨y4, y5, y7, y8, y9, rfl, rfl⟩
      rw [List.take_length]
      exact ⟨_, _, _, _, _, rfl, rfl⟩
end
end Rt
namespace Rt
open PySem PySem.Spec PyProof.Rows L2
open C8 (Cal Met Mak pe_c pe_mt pe_mt0 pe_mk)
section
variable {P : Program} {w : World} {T : Tx} {mg : Str → Option Value} {base : Heap}
def F_Book (ds : List Dd) (fs : List (Str × Fl)) : Prop := ∃ b : Lb, b.Ok ∧ ds = b.vals.map Dd.py ∧ fs = b.fields
theorem kss_nd : kss.Nodup := by decide +kernel
theorem bars_map (b : Lb) : (b.bars.map fun p => PyData.int ((b.bit p.1 : Int) + (b.bit p.2 : Int))) = b.barL.map PyData.int := by
  unfold Lb.barL
  rw [List.map_map]
  rfl
theorem ixN_last (n : Nat) : ixN (n + 1) (-1) = some n := by
  unfold ixN
  rw [if_neg (by decide), if_pos (by omega)]
  congr 1
  omega
theorem k_Book (W : Wt T mg) : ∃ f fd, Mk T.K T.C f ∧ FunD T.K "__init__" "Book.__init__" (defArgs s_Book_init) (defBody s_Book_init) (defScope s_Book_init) [] [("reset", .non)] f fd ∧ FnOk P w T.K mg base CX0 5 f fd P_Book_init (spI T F_Book) := by
  obtain ⟨f, fd, M, F⟩ := W.iB
  refine ⟨f, fd, M, F, init_ok (k := 4) F sc_Book_init F_Book (fun ds fs h => ?_) (fun cdv A outer s H E hr => ⟨_, (pss_cons (ps_expr (pe_c (c_look_at_parts W) hr (by decide) (by rfl) (pa_cons (pe_dictzip (by rfl) W.m_dict (by rfl) W.m_zip (pa_cons (C8.pe_gc (by rfl) W.m_PARTS) (pa_cons (pe_tup (pa_cons (pv 1) (pa_cons (pv 2) (pa_cons (pv 3) (pa_cons (pv 4) (pa_cons (pv 5) (pa_cons (pv 6) (pa_cons (pv 7) (pa_cons (pv 8) pa_nil))))))))) pa_nil))) pa_nil)))
      (pss_cons (ps_fld (pv 0) (pe_tup (pa_cons (pe_callTy (r := rTupC T.K) cz_tup (by rfl) W.m_tuple bt_tuple (pa_cons (pv 1) pa_nil)) (pa_cons (pv 2) (pa_cons (pe_callTy (r := rTupC T.K) cz_tup (by rfl) W.m_tuple bt_tuple (pa_cons (pv 3) pa_nil)) (pa_cons (pe_callTy (r := rTupC T.K) cz_tup (by rfl) W.m_tuple bt_tuple (pa_cons (pv 4) pa_nil)) (pa_cons (pe_callTy (r := rTupC T.K) cz_tup (by rfl) W.m_tuple bt_tuple (pa_cons (pv 5) pa_nil)) (pa_cons (pe_callTy (r := rTupC T.K) cz_tup (by rfl) W.m_tuple bt_tuple (pa_cons (pv 6) pa_nil)) (pa_cons (pe_callTy (r := rTupC T.K) cz_tup (by rfl) W.m_tuple bt_tuple (pa_cons (pv 7) pa_nil)) (pa_cons (pv 8) pa_nil))))))))) rfl)
      (pss_cons (ps_fld (pv 0) (pv 2) rfl)
      (pss_cons (ps_fld (pv 0) (pv 8) rfl)
      (pss_cons (ps_fld (pv 0) (pe_lc (own := [("name", 9), ("tier", 10)]) (g := gTup T.K 2 (gCons (gName 9) (gCons (gName 10) (gNil)))) (tt := tYes) rfl sc_Book_init.nd  (ki_list T.K (pv 1)) (blkOk_by (own := [("name", 9), ("tier", 10)]) (N := N_Book_init) (sc := defScope s_Book_init) (by decide +kernel)) (fun _ _ _ _ _ => (kg_tup T.K rfl (pgs_cons (pg_name (i := 9) sc_Book_init.nd rfl (Or.inl rfl)) (pgs_cons (pg_name (i := 10) sc_Book_init.nd rfl (Or.inl rfl)) pgs_nil)))) (fun _ _ _ _ _ => pts_nil) (fun _ _ _ _ _ => (pv 9))) rfl)
      (pss_cons (ps_fld (pv 0) (pe_lc (own := [("name", 9), ("tier", 10)]) (g := gTup T.K 2 (gCons (gName 9) (gCons (gName 10) (gNil)))) (tt := tYes) rfl sc_Book_init.nd  (ki_list T.K (pv 1)) (blkOk_by (own := [("name", 9), ("tier", 10)]) (N := N_Book_init) (sc := defScope s_Book_init) (by decide +kernel)) (fun _ _ _ _ _ => (kg_tup T.K rfl (pgs_cons (pg_name (i := 9) sc_Book_init.nd rfl (Or.inl rfl)) (pgs_cons (pg_name (i := 10) sc_Book_init.nd rfl (Or.inl rfl)) pgs_nil)))) (fun _ _ _ _ _ => pts_nil) (fun _ _ _ _ _ => (pv 10))) rfl)
      (pss_cons (ps_fld (pv 0) (pe_callTy (r := rDictP T.K) (cz_dictP rfl) (by rfl) W.m_dict bt_dict (pa_cons (pv 1) pa_nil)) rfl)
      (pss_cons (ps_fld (pv 0) (pe_lst (pa_cons pe_int pa_nil)) rfl)
      (pss_cons (ps_for PassesOwn.never rfl (ki_list T.K (pe_slice (r := rSlL T.K) sl_list (kfld T.K (pv 0) rfl) (po_some pe_int) po_none)) (pg_name (i := 9) sc_Book_init.nd rfl (Or.inl rfl)) (pss_one (ps_fld (pv 0) (pe_lst (ka_star T.K (kfld T.K (pv 0) rfl) (pa_cons (pe_op op_mul (pe_ix (r := rIxL T.K) ix_list (kfld T.K (pv 0) rfl) (pe_un un_neg pe_int) (fun _ _ => rfl)) pe_int) pa_nil))) rfl)))
      (pss_cons (ps_fld (pv 0) (pe_dictzip (by rfl) W.m_dict (by rfl) W.m_zip (pa_cons (kfld T.K (pv 0) rfl) (pa_cons (kfld T.K (pv 0) rfl) pa_nil))) rfl)
      (pss_cons (ps_fld (pv 0) (pe_callTy (r := rDictP T.K) (cz_dictP rfl) (by rfl) W.m_dict bt_dict (pa_cons (pv 3) pa_nil)) rfl)
      (pss_cons (ps_fld (pv 0) (pe_callTy (r := rDictP T.K) (cz_dictP rfl) (by rfl) W.m_dict bt_dict (pa_cons (pv 7) pa_nil)) rfl)
      (pss_cons (ps_fld (pv 0) (pe_callTy (r := rDictP T.K) (cz_dictP rfl) (by rfl) W.m_dict bt_dict (pa_cons (pv 6) pa_nil)) rfl)
      (pss_cons (ps_fld (pv 0) (pe_lc (own := [("one", 11), ("other", 12)]) (g := gTup T.K 2 (gCons (gName 11) (gCons (gName 12) (gNil)))) (tt := tYes) rfl sc_Book_init.nd  (ki_list T.K (pv 5)) (blkOk_by (own := [("one", 11), ("other", 12)]) (N := N_Book_init) (sc := defScope s_Book_init) (by decide +kernel)) (fun _ _ _ _ _ => (kg_tup T.K rfl (pgs_cons (pg_name (i := 11) sc_Book_init.nd rfl (Or.inl rfl)) (pgs_cons (pg_name (i := 12) sc_Book_init.nd rfl (Or.inl rfl)) pgs_nil)))) (fun _ _ _ _ _ => pts_nil) (fun _ _ _ _ _ => (pe_op op_add (pe_dget (hu_of hr) (kfld T.K (pv 0) rfl) (pv 11) (fun _ _ => rfl)) (pe_dget (hu_of hr) (kfld T.K (pv 0) rfl) (pv 12) (fun _ _ => rfl))))) rfl)
      (pss_one (ps_fld (pv 0) (pe_lc (own := [("name", 9)]) (g := gName 9) (tt := tYes) rfl sc_Book_init.nd  (ki_list T.K (kfld T.K (pv 0) rfl)) (blkOk_by (own := [("name", 9)]) (N := N_Book_init) (sc := defScope s_Book_init) (by decide +kernel)) (fun _ _ _ _ _ => (pg_name (i := 9) sc_Book_init.nd rfl (Or.inl rfl))) (fun _ _ _ _ _ => pts_nil) (fun _ _ _ _ _ => (pe_mt (c_asked W) hr (by decide) (pv 0) (pa_cons (pv 9) pa_nil)))) rfl)))))))))))))))), fun ds fs h => ?_⟩)⟩
  · obtain ⟨b, hb, rfl, rfl⟩ := h
    rfl
  · obtain ⟨b, hb, rfl, rfl⟩ := h
    have h5 := hb.n5
    have h6 := hb.bars6
    have hpos : b.names.length ≠ 0 := fun z => hb.n0 (List.length_eq_zero_iff.mp (b.names_len ▸ z))
    have hn5 : b.names.length ≤ 5 := by rw [b.names_len]; exact h5
    have lts : ∀ {te : TE} {ρ : En} {l : List PyData}, Ev T te ρ (.py (.list l)) → Ev T (tCB (rTupC T.K) (tCons te tNil)) ρ (.py (.tuple l)) := fun h => ev_cb (ea_cons h ea_nil) ec_tup_l
    have dS : ∀ {te : TE} {ρ : En} {l : List (Str × Int)}, (l.map (·.1)).Nodup → Ev T te ρ (.py (.list (l.map enSI))) → Ev T (tCB (rDictP T.K) (tCons te tNil)) ρ (.dic (kSI l)) := fun hn h => ev_cb (ea_cons (ev_is h (by rw [en_kSI])) ea_nil) (ec_dictP (nd_SI hn))
    have dI : ∀ {te : TE} {ρ : En} {l : List (Int × Int)}, (l.map (·.1)).Nodup → Ev T te ρ (.py (.list (l.map enII))) → Ev T (tCB (rDictP T.K) (tCons te tNil)) ρ (.dic (kII l)) := fun hn h => ev_cb (ea_cons (ev_is h (by rw [en_kII])) ea_nil) (ec_dictP (nd_II hn))
    refine go_andthen (go_dropp (d := .py .none) (ev_call (ea_cons (ev_dzK (xs := kss) (ds := b.vals) (ea_cons (ev_con fun _ _ => ⟨_, rfl, W.t_PARTS⟩) (ea_cons (ev_tup (ds := b.vals) (ea_cons (ev_var rfl) (ea_cons (ev_var rfl) (ea_cons (ev_var rfl) (ea_cons (ev_var rfl) (ea_cons (ev_var rfl) (ea_cons (ev_var rfl) (ea_cons (ev_var rfl) (ea_cons (ev_var rfl) ea_nil)))))))) (by show 8 ≤ 1000; decide)) ea_nil)) rfl kss_nd) ea_nil) ⟨b, hb, rfl, rfl⟩) ⟨rfl, rfl⟩) ?_
    refine go_setfp (k := 0) (fs := []) (x := .py b.recD) (Ev.w (ev_tup (ds := [.tuple (b.skills.map enSI), .int b.points, .tuple (b.needs.map enII), .tuple (b.wants.map enW), .tuple (b.bars.map enSS), .tuple (b.gives.map enSI), .tuple (b.prices.map enSI), enO b.reset]) (ea_cons (lts (ev_var rfl)) (ea_cons (ev_var rfl) (ea_cons (lts (ev_var rfl)) (ea_cons (lts (ev_var rfl)) (ea_cons (lts (ev_var rfl)) (ea_cons (lts (ev_var rfl)) (ea_cons (lts (ev_var rfl)) (ea_cons (ev_var rfl) ea_nil)))))))) (by show 8 ≤ 1000; decide)) ⟨rfl, rfl⟩) rfl W.cB W.n_record rfl (by decide) ?_
    refine go_setfp (k := 0) (fs := b.fA.take 1) (x := .py (.int b.points)) (Ev.w (ev_var rfl) ⟨rfl, rfl⟩) rfl W.cB W.n_own_points rfl (by show 1 < 1000; decide) ?_
    refine go_setfp (k := 0) (fs := b.fA.take 2) (x := .py (enO b.reset)) (Ev.w (ev_var rfl) ⟨rfl, rfl⟩) rfl W.cB W.n_own_reset rfl (by show 2 < 1000; decide) ?_
    refine go_setfp (k := 0) (fs := b.fA.take 3) (x := .py (.list (tStrs b.names))) (Ev.w (EvN.ev (en_is (en_lc0 (xs := b.skills) (enc := enSI) (fun p => PyData.str p.1) (ei_list (ev_var rfl)) (ok_len hb) fun p hp => ⟨_, eg_two (by decide) (by decide), ev_var rfl⟩) (show _ = tStrs b.names by unfold tStrs Lb.names; rw [List.map_map]; rfl))) ⟨rfl, rfl⟩) rfl W.cB W.n_own_names rfl (by show 3 < 1000; decide) ?_
    refine go_setfp (k := 0) (fs := b.fA.take 4) (x := .py (.list (b.tiersL.map .int))) (Ev.w (EvN.ev (en_is (en_lc0 (xs := b.skills) (enc := enSI) (fun p => PyData.int p.2) (ei_list (ev_var rfl)) (ok_len hb) fun p hp => ⟨_, eg_two (by decide) (by decide), ev_var rfl⟩) (show _ = b.tiersL.map PyData.int by unfold Lb.tiersL; rw [List.map_map]; rfl))) ⟨rfl, rfl⟩) rfl W.cB W.n_own_tiers rfl (by show 4 < 1000; decide) ?_
    refine go_setfp (k := 0) (fs := b.fA.take 5) (x := .dic (kSI b.skills)) (Ev.w (dS hb.nd (ev_var rfl)) ⟨rfl, rfl⟩) rfl W.cB W.n_tier_by rfl (by show 5 < 1000; decide) ?_
    refine go_setfp (k := 0) (fs := b.fA) (x := .py (.list ((spD 1).map .int))) (Ev.w (EvN.ev (en_lst (ds := [.int 1]) (ea_cons ev_int ea_nil) (by show 1 ≤ 1000; decide))) ⟨rfl, rfl⟩) rfl W.cB W.n_spots rfl (by show 6 < 1000; decide) ?_
    refine go_seq (N1 := fun ρ' o => ∃ y9, o = [.ins (b.fB b.names.length)] ∧ ρ' = [some (.own 0), some (.py (.list (b.skills.map enSI))), some (.py (.int b.points)), some (.py (.list (b.needs.map enII))), some (.py (.list (b.wants.map enW))), some (.py (.list (b.bars.map enSS))), some (.py (.list (b.gives.map enSI))), some (.py (.list (b.prices.map enSI))), some (.py (enO b.reset)), y9, none, none, none]) ?_ (fun ρ' o ⟨y9, e1, e2⟩ => ?_)
    · refine go_for (S0 := fun ds o => ds = (tStrs b.names).drop 1 ∧ o = [.ins (b.fB 1)]) (vs := [9]) (fun ds i ρ1 o => ds = (tStrs b.names).drop 1 ∧ i ≤ ds.length ∧ ∃ y9, o = [.ins (b.fB (i + 1))] ∧ ρ1 = [some (.own 0), some (.py (.list (b.skills.map enSI))), some (.py (.int b.points)), some (.py (.list (b.needs.map enII))), some (.py (.list (b.wants.map enW))), some (.py (.list (b.bars.map enSS))), some (.py (.list (b.gives.map enSI))), some (.py (.list (b.prices.map enSI))), some (.py (enO b.reset)), y9, none, none, none]) (eiw_list (S := fun d o => d = .py (.list ((tStrs b.names).drop 1)) ∧ o = [.ins (b.fB 1)]) (ew_view 0 (.ins (b.fB 1)) (x := .py (.list ((tStrs b.names).drop 1))) rfl (EvN.ev (en_is (en_slL (ev_fld (ev_var rfl) W.cB W.n_own_names rfl) (eo_some ev_int) eo_none) (cut_from (tStrs b.names) 1))) trivial ⟨rfl, rfl⟩) fun d o ⟨e1, e2⟩ => ⟨_, e1, rfl, e2⟩) (fun ds o ⟨e1, e2⟩ => ⟨e1, Nat.zero_le _, _, e2, rfl⟩) ?_ ?_
      · rintro ds i d ρ1 o hd ⟨rfl, hi, y9, rfl, rfl⟩
        have hlt := (List.getElem?_eq_some_iff.mp hd).1
        have htl : (tStrs b.names).length = b.names.length := List.length_map ..
        have hlen : ((spD (i + 1)).map PyData.int).length = i + 1 := by
          unfold spD
          rw [List.length_map, List.length_map, List.length_range]
        have hat : atI ((spD (i + 1)).map PyData.int) (-1) = some (.int ((2 ^ i : Nat) : Int)) := by
          rw [spD_succ, List.map_append]
          unfold atI
          have e0 : ((spD i).map PyData.int ++ [((2 ^ i : Nat) : Int)].map PyData.int).length = (spD i).length + 1 := by
            rw [List.length_append, List.length_map]
            rfl
          rw [e0]
          have e1 : ixN ((spD i).length + 1) (-1) = some (spD i).length := ixN_last _
          rw [e1]
          show ((spD i).map PyData.int ++ [((2 ^ i : Nat) : Int)].map PyData.int)[(spD i).length]? = _
          rw [List.getElem?_append_right (by rw [List.length_map]; exact Nat.le_refl _), List.length_map, Nat.sub_self]
          rfl
        have hi2 : i ≤ 5 := by
          rw [List.length_drop, htl] at hlt
          omega
        refine ⟨_, eg_name (by decide), go_setfn (k := 0) (fs := b.fB (i + 1)) (x := .py (.list ((spD (i + 2)).map .int))) (EvWN.w (S1 := fun ds o => ds = (spD (i + 2)).map PyData.int ∧ o = [.ins (b.fB (i + 1))]) (ewn_view 0 (.ins (b.fB (i + 1))) (ds := (spD (i + 2)).map PyData.int) rfl trivial (en_is (en_lst (ds := (spD (i + 1)).map PyData.int ++ [PyData.int (((2 ^ i : Nat) : Int) * 2)]) (ea_star (es := [PyData.int (((2 ^ i : Nat) : Int) * 2)]) (ev_fld (ev_var rfl) W.cB W.n_spots rfl) (ea_cons (ev_op (ev_op (ev_fld (ev_var rfl) W.cB W.n_spots rfl) (ev_neg ev_int) (er_ixL hat)) ev_int (er_mul ?_)) ea_nil)) (by rw [List.length_append, hlen]; show i + 1 + 1 ≤ 1000; omega)) ?_) ⟨rfl, rfl⟩) fun ds o ⟨e1, e2⟩ => ⟨by rw [e1], e2⟩) rfl W.cB W.n_spots rfl (by show 7 < 1000; decide) ⟨rfl, hlt, _, rfl, rfl⟩⟩
        · exact .inr ⟨by decide, by decide⟩
        · rw [spD_succ (i + 1), List.map_append]
          show _ ++ [_] = _ ++ [_]
          rw [Nat.pow_succ]
          rfl
      · rintro ds ρ1 o ⟨rfl, hi, y9, rfl, rfl⟩
        have htl : (tStrs b.names).length = b.names.length := List.length_map ..
        have e : ((tStrs b.names).drop 1).length + 1 = b.names.length := by
          rw [List.length_drop, htl]
          omega
        rw [e]
        exact ⟨_, rfl, rfl⟩
    · subst e1 e2
      have efB : b.fB b.names.length = b.fA ++ ([("spots", .py (.list (b.spots.map .int)))] : List (Str × Fl)) := by
        rw [spots_eq hb]
      rw [efB]
      have hsp : b.spots.length = b.names.length := List.length_map ..
      have bits : ∀ {te : TE} {ρ : En} {x : Str} {fs : List (Str × Fl)}, x ∈ b.names → List.lookup ("bits" : Str) fs = some (Fl.dic b.bitDic) → ρ[0]? = some (some (.ins fs)) → Ev T te ρ (.py (.str x)) → Ev T (tDGet (tFld T.K (tVar 0) "bits") te) ρ (.py (.int (b.bit x : Int))) := fun hx hl h0 h => ev_dget (k := .inr _) (ev_fld (ev_var h0) W.cB W.n_bits hl) h (lk_bit hx)
      refine go_setfp (k := 0) (fs := b.fC.take 7) (x := .dic b.bitDic) (ew_view 0 (.ins (b.fC.take 7)) rfl (ev_dz (ks := b.names.map Sum.inr) (ds := b.spots.map .int) (ea_cons (ev_is (ev_fld (ev_var rfl) W.cB W.n_own_names rfl) (by rw [List.map_map]; rfl)) (ea_cons (ev_fld (ev_var rfl) W.cB W.n_spots rfl) ea_nil)) (by rw [List.length_map, List.length_map, hsp]) (List.pairwise_map.mpr (hb.nd.imp fun h e => h (Sum.inr.inj e)))) trivial ⟨rfl, rfl⟩) rfl W.cB W.n_bits rfl (by show 7 < 1000; decide) ?_
      refine go_setfp (k := 0) (fs := b.fC.take 8) (x := .dic (kII b.needs)) (Ev.w (dI (hb.needsUp.imp fun {a c} h => by omega) (ev_var rfl)) ⟨rfl, rfl⟩) rfl W.cB W.n_own_needs rfl (by show 8 < 1000; decide) ?_
      refine go_setfp (k := 0) (fs := b.fC.take 9) (x := .dic (kSI b.prices)) (Ev.w (dS hb.pricesNd (ev_var rfl)) ⟨rfl, rfl⟩) rfl W.cB W.n_own_prices rfl (by show 9 < 1000; decide) ?_
      refine go_setfp (k := 0) (fs := b.fC.take 10) (x := .dic (kSI b.gives)) (Ev.w (dS hb.givesNd (ev_var rfl)) ⟨rfl, rfl⟩) rfl W.cB W.n_own_given rfl (by show 10 < 1000; decide) ?_
      refine go_setfp (k := 0) (fs := b.fC) (x := .py (.list (b.barL.map .int))) (EvWN.w (S1 := fun ds o => ds = b.barL.map PyData.int ∧ o = [.ins b.fC]) (ewn_view 0 (.ins b.fC) (ds := b.barL.map PyData.int) rfl trivial (en_is (en_lc0 (xs := b.bars) (enc := enSS) (fun p => PyData.int ((b.bit p.1 : Int) + (b.bit p.2 : Int))) (ei_list (ev_var rfl)) (by omega) fun p hp => ⟨_, eg_two (by decide) (by decide), ev_op (bits (hb.bars p hp).1 rfl rfl (ev_var rfl)) (bits (hb.bars p hp).2.1 rfl rfl (ev_var rfl)) er_add⟩) (bars_map b)) ⟨rfl, rfl⟩) fun ds o ⟨e1, e2⟩ => ⟨by rw [e1], e2⟩) rfl W.cB W.n_barred rfl (by show 11 < 1000; decide) ?_
      exact go_setfn (k := 0) (fs := b.fD) (x := .py (.list (b.names.map fun x => PyData.list ((b.rows x).map enII)))) (EvWN.w (S1 := fun ds o => ds = (b.names.map fun x => PyData.list ((b.rows x).map enII)) ∧ o = [.ins b.fD]) (ewn_view 0 (.ins b.fD) rfl trivial (en_lc0 (xs := b.names) (enc := PyData.str) (fun x => PyData.list ((b.rows x).map enII)) (ei_list (ev_fld (ev_var rfl) W.cB W.n_own_names rfl)) (by omega) fun x hx => ⟨_, eg_name (by decide), ev_meth (ev_var rfl) rfl (ea_cons (ev_var rfl) ea_nil) ⟨b, x, hb, hx, rfl, rfl⟩⟩) ⟨rfl, rfl⟩) fun ds o ⟨e1, e2⟩ => ⟨by rw [e1], e2⟩) rfl W.cB W.n_asked rfl (by show 12 < 1000; decide) rfl
end
end Rt
namespace Rt
open PySem PySem.Spec PyProof.Rows L2
open C8 (Cal Met Mak pe_c pe_mt pe_mt0 pe_mk)
section
variable {P : Program} {w : World} {T : Tx} {mg : Str → Option Value} {base : Heap}
def F_law_made (ds : List Dd) (d : Dd) : Prop := ∃ b : Lb, b.Ok ∧ ds = [.dic b.dic] ∧ d = .ins b.fields
theorem c_law_made (W : Wt T mg) : Cal P w T.K mg base 7 "_law_made" (spF T F_law_made) [] := by
  obtain ⟨fb, fdb, M, F, ok⟩ := k_Book (P := P) (w := w) (base := base) W
  obtain ⟨mv, hb⟩ := F.kbinds0 (ps := P_Book_init) 3 ["needs", "wants", "bars", "gives", "prices", "reset"] [] (fun us _ ws => us ++ ws) (fun z => nomatch z) (fun q h => nomatch h) (fun r1 _ r3 => r1.append r3) (fun D doc pm an cdv ct us mv ws l1 l2 l3 => by
    match us, l1, mv, l2, ws, l3 with
    | [_, _, _], _, [], _, [_, _, _, _, _, _], _ => rfl)
  refine cal_pure (k := 6) W.fn_law_made sc_law_made bn_law_made F_law_made (fun ds d h => ?_) (fun f cdv A outer s H E hr => ⟨_, pss_one (ps_ret (pe_makeK (n := 2) (E := C8.E0) M ok hr (by rfl) W.mgB hb C8.pass0 (pa_cons (pe_dget (hu_of hr) (pv 0) pe_str (fun _ _ => rfl)) (pa_cons (pe_dget (hu_of hr) (pv 0) pe_str (fun _ _ => rfl)) pa_nil)) (pk_cons (pe_dget (hu_of hr) (pv 0) pe_str (fun _ _ => rfl)) (pk_cons (pe_dget (hu_of hr) (pv 0) pe_str (fun _ _ => rfl)) (pk_cons (pe_dget (hu_of hr) (pv 0) pe_str (fun _ _ => rfl)) (pk_cons (pe_dget (hu_of hr) (pv 0) pe_str (fun _ _ => rfl)) (pk_cons (pe_dget (hu_of hr) (pv 0) pe_str (fun _ _ => rfl)) (pk_cons (pe_dget (hu_of hr) (pv 0) pe_str (fun _ _ => rfl)) pk_nil)))))))), fun ds d h => ?_⟩)
  · obtain ⟨b, hb, rfl, rfl⟩ := h
    exact ⟨rfl, rfl, rfl⟩
  · obtain ⟨b, hb, rfl, rfl⟩ := h
    exact go_retp (ev_makeK (fun _ _ _ _ _ => rfl) (ea_cons (ev_dget (k := .inr "skills") (ev_var rfl) ev_str (lk_skills b)) (ea_cons (ev_dget (k := .inr "points") (ev_var rfl) ev_str (lk_points b)) ea_nil)) (ea_cons (ev_dget (k := .inr "needs") (ev_var rfl) ev_str (lk_needs b)) (ea_cons (ev_dget (k := .inr "wants") (ev_var rfl) ev_str (lk_wants b)) (ea_cons (ev_dget (k := .inr "bars") (ev_var rfl) ev_str (lk_bars b)) (ea_cons (ev_dget (k := .inr "gives") (ev_var rfl) ev_str (lk_gives b)) (ea_cons (ev_dget (k := .inr "prices") (ev_var rfl) ev_str (lk_prices b)) (ea_cons (ev_dget (k := .inr "reset") (ev_var rfl) ev_str (lk_reset b)) ea_nil)))))) rfl rfl rfl ⟨b, hb, rfl, rfl⟩) rfl
end
end Rt
namespace Rt
open PySem PySem.Spec PyProof.Rows L2
open C8 (Cal Met Mak pe_c pe_mt pe_mt0 pe_mk)
section
variable {P : Program} {w : World} {T : Tx} {mg : Str → Option Value} {base : Heap}
/-! ### masks, by the program -/
theorem and_bitI {b : Lb} {S : List Str} {x : Str} (hx : x ∈ b.names) : (Builtin.bitAnd (b.msk S : Int) (b.bit x : Int) != 0) = decide (x ∈ S) := by
  rw [PySem.W.os_band, ← and_bit hx]
  cases h : (b.msk S &&& b.bit x) with
  | zero => rfl
  | succ n => rfl
theorem and_pairI {b : Lb} {S : List Str} {x y : Str} (hx : x ∈ b.names) (hy : y ∈ b.names) (hne : x ≠ y) : decide (Builtin.bitAnd (b.msk S : Int) ((b.bit x : Int) + (b.bit y : Int)) = (b.bit x : Int) + (b.bit y : Int)) = (decide (x ∈ S) && decide (y ∈ S)) := by
  rw [← and_pair hx hy hne, ← Int.natCast_add, PySem.W.os_band]
  refine decide_eq_decide.mpr ⟨fun h => Int.natCast_inj.mp h, fun h => congrArg _ h⟩
theorem sub_nd {b : Lb} (h : b.Ok) {S : List Str} (hS : S.Sublist b.names) : S.Nodup := hS.nodup h.nd
theorem sub_len {b : Lb} (h : b.Ok) {S : List Str} (hS : S.Sublist b.names) : S.length ≤ 5 := by
  have := hS.length_le
  rw [b.names_len] at this
  exact Nat.le_trans this h.n5
theorem fld_bit {b : Lb} (W : Wt T mg) {te : TE} {ρ : En} {i : Nat} {x : Str} (hx : x ∈ b.names) (h0 : ρ[i]? = some (some (.ins b.fields))) (h : Ev T te ρ (.py (.str x))) : Ev T (tDGet (tFld T.K (tVar i) "bits") te) ρ (.py (.int (b.bit x : Int))) := ev_dget (k := .inr _) (ev_fld (ev_var h0) W.cB W.n_bits rfl) h (lk_bit hx)
theorem et_inm {b : Lb} (W : Wt T mg) {te tm : TE} {ρ : En} {i : Nat} {x : Str} {S : List Str} (hx : x ∈ b.names) (h0 : ρ[i]? = some (some (.ins b.fields))) (hm : Ev T tm ρ (.py (.int (b.msk S : Int)))) (h : Ev T te ρ (.py (.str x))) : EvT T (tTruth T.K (tOp (rI0 fun i j => .int (Builtin.bitAnd i j)) tm (tDGet (tFld T.K (tVar i) "bits") te))) ρ (decide (x ∈ S)) := et_truth (ev_op hm (fld_bit W hx h0 h) er_and) (and_bitI hx)
def F_are_skills_of (ds : List Dd) (d : Dd) : Prop := ∃ (b : Lb) (S : List Str), b.Ok ∧ S.Sublist b.names ∧ ds = [.ins b.fields, .py (.tuple (tStrs S))] ∧ d = .py (.bool true)
theorem c_are_skills_of (W : Wt T mg) : Cal P w T.K mg base 2 "are_skills_of" (spF T F_are_skills_of) [] := by
  refine cal_pure (k := 1) W.fn_are_skills_of sc_are_skills_of bn_are_skills_of F_are_skills_of (fun ds d h => ?_) (fun f cdv A outer s H E hr => ⟨_, (pss_cons (ps_if (PW.pt (pw_or (pt_not (pt_val (pe_c (c_is_row W) hr (by decide) (by rfl) (pa_cons (pv 1) pa_nil)))) (pw_or1 (pt_not (pt_val (pe_callB (r := rAll T.K) (cr_all rfl) (by rfl) W.m_all bt_all (pa_cons (pe_lc (own := [("name", 2)]) (g := gName 2) (tt := tYes) rfl sc_are_skills_of.nd  (ki_tup T.K (pv 1)) (blkOk_by (own := [("name", 2)]) (N := N_are_skills_of) (sc := defScope s_are_skills_of) (by decide +kernel)) (fun _ _ _ _ _ => (pg_name (i := 2) sc_are_skills_of.nd rfl (Or.inl rfl))) (fun _ _ _ _ _ => pts_nil) (fun _ _ _ _ _ => (pe_and (pe_c (c_is_word W) hr (by decide) (by rfl) (pa_cons (pv 2) pa_nil)) (pe_one (pe_cmpR (r := rIn T.K false) op_in_seq (pv 2) (kfld T.K (pv 0) rfl) (by rfl)))))) pa_nil))))))) (pss_one (ps_ret pe_bl)) pss_nil)
      (pss_one (ps_ret (pe_c (c_are_unlike W) hr (by decide) (by rfl) (pa_cons (pv 1) pa_nil))))), fun ds d h => ?_⟩)
  · obtain ⟨b, S, hb, hS, rfl, rfl⟩ := h
    exact ⟨rfl, rfl, rfl⟩
  · obtain ⟨b, S, hb, hS, rfl, rfl⟩ := h
    have h5 := sub_len hb hS
    refine go_ifret (et_or (et_not (et_b (ev_call (ea_cons (ev_var rfl) ea_nil) ⟨_, .inr rfl, rfl⟩))) fun _ => et_not (et_b (ev_allT (xs := S) (enc := PyData.str) (ei_tup (ev_var rfl)) (by omega) fun x hx => ⟨_, eg_name (by decide), ev_is (ev_andV (ev_call (ea_cons (ev_var rfl) ea_nil) ⟨x, hb.word x (hS.subset hx), rfl, rfl⟩) fun _ => ev_op (ev_var rfl) (ev_fld (ev_var rfl) W.cB W.n_own_names rfl) er_inL) (by rw [decide_eq_true (hS.subset hx)]; rfl)⟩))) (fun e => by cases e) (fun e => ?_)
    exact go_retp (ev_call (ea_cons (ev_var rfl) ea_nil) (unlike_st (sub_nd hb hS) (by omega))) rfl
def F_in_order (ds : List Dd) (d : Dd) : Prop := ∃ (b : Lb) (S : List Str), b.Ok ∧ ds = [.ins b.fields, .py (.tuple (tStrs S))] ∧ d = .py (.tuple (tStrs (b.order S)))
theorem c_in_order (W : Wt T mg) : Cal P w T.K mg base 1 "in_order" (spF T F_in_order) [] := by
  refine cal_pure (k := 0) W.fn_in_order sc_in_order bn_in_order F_in_order (fun ds d h => ?_) (fun f cdv A outer s H E hr => ⟨_, (pss_one (ps_ret (pe_callTy (r := rTupC T.K) cz_tup (by rfl) W.m_tuple bt_tuple (pa_cons (pe_lc (own := [("name", 2)]) (g := gName 2) (tt := _) rfl sc_in_order.nd  (ki_list T.K (kfld T.K (pv 0) rfl)) (blkOk_by (own := [("name", 2)]) (N := N_in_order) (sc := defScope s_in_order) (by decide +kernel)) (fun _ _ _ _ _ => (pg_name (i := 2) sc_in_order.nd rfl (Or.inl rfl))) (fun _ _ _ _ _ => pts_one (pt_cmpR (r := rIn T.K false) op_in_seq (pv 2) (pv 1) (by rfl))) (fun _ _ _ _ _ => (pv 2))) pa_nil)))), fun ds d h => ?_⟩)
  · obtain ⟨b, S, hb, rfl, rfl⟩ := h
    exact ⟨rfl, rfl, rfl⟩
  · obtain ⟨b, S, hb, rfl, rfl⟩ := h
    exact go_retp (ev_cb (ea_cons (EvN.ev (en_lc (xs := b.names) (enc := PyData.str) (fun x => decide (x ∈ S)) PyData.str (ei_list (ev_fld (ev_var rfl) W.cB W.n_own_names rfl)) (by rw [b.names_len]; exact ok_len hb) fun x hx => ⟨_, eg_name (by decide), et_test (ev_op (ev_var rfl) (ev_var rfl) er_inT), fun _ => ev_var rfl⟩)) ea_nil) ec_tup_l) rfl
def F_is_build (ds : List Dd) (d : Dd) : Prop := ∃ (b : Lb) (S : List Str), b.Ok ∧ S.Sublist b.names ∧ ds = [.ins b.fields, .py (.tuple (tStrs S))] ∧ d = .py (.bool true)
theorem c_is_build (W : Wt T mg) : Cal P w T.K mg base 3 "is_build" (spF T F_is_build) [] := by
  refine cal_pure (k := 2) W.fn_is_build sc_is_build bn_is_build F_is_build (fun ds d h => ?_) (fun f cdv A outer s H E hr => ⟨_, (pss_one (ps_ret (pe_and (pe_callB (r := rIsi T.K) call_isi (by rfl) W.m_isinstance bt_isinstance (pa_cons (pv 1) (pa_cons (pe_bltn (v := .ty "tuple") (by rfl) W.m_tuple (by decide +kernel) rfl) pa_nil))) (pe_and (pe_c (c_are_skills_of W) hr (by decide) (by rfl) (pa_cons (pv 0) (pa_cons (pv 1) pa_nil))) (pe_one (pe_cmpR (r := rEqD T.K) (op_eqD hr.units) (pv 1) (pe_c (c_in_order W) hr (by decide) (by rfl) (pa_cons (pv 0) (pa_cons (pv 1) pa_nil))) (nomark _))))))), fun ds d h => ?_⟩)
  · obtain ⟨b, S, hb, hS, rfl, rfl⟩ := h
    exact ⟨rfl, rfl, rfl⟩
  · obtain ⟨b, S, hb, hS, rfl, rfl⟩ := h
    have hs : ∀ x ∈ S, PyData.strOk x = true := fun x hx => hb.str (hS.subset hx)
    exact go_retp (ev_is (ev_andV (ev_cb (ea_cons (ev_var rfl) (ea_cons ev_cls ea_nil)) (ec_isi rfl rfl)) fun _ => ev_andV (ev_call (ea_cons (ev_var rfl) (ea_cons (ev_var rfl) ea_nil)) ⟨b, S, hb, hS, rfl, rfl⟩) fun _ => ev_op (ev_var rfl) (ev_is (ev_call (ea_cons (ev_var rfl) (ea_cons (ev_var rfl) ea_nil)) ⟨b, S, hb, rfl, rfl⟩) (by rw [order_of_sublist hb hS]; rfl)) (er_eqTT (shaped_strs hs).2 (shaped_strs hs).2)) (by rw [decide_eq_true rfl]; rfl)) rfl
def F_look_at_build (ds : List Dd) (d : Dd) : Prop := ∃ (b : Lb) (S : List Str), b.Ok ∧ S.Sublist b.names ∧ ds = [.ins b.fields, .py (.tuple (tStrs S))] ∧ d = .py .none
theorem c_look_at_build (W : Wt T mg) : Cal P w T.K mg base 4 "look_at_build" (spF T F_look_at_build) [] := by
  refine cal_pure (k := 3) W.fn_look_at_build sc_look_at_build bn_look_at_build F_look_at_build (fun ds d h => ?_) (fun f cdv A outer s H E hr => ⟨_, (pss_one (ps_if (pt_not (pt_val (pe_c (c_is_build W) hr (by decide) (by rfl) (pa_cons (pv 0) (pa_cons (pv 1) pa_nil))))) (pss_one ps_never) pss_nil)), fun ds d h => ?_⟩)
  · obtain ⟨b, S, hb, hS, rfl, rfl⟩ := h
    exact ⟨rfl, rfl, rfl⟩
  · obtain ⟨b, S, hb, hS, rfl, rfl⟩ := h
    exact go_if (et_not (et_b (ev_call (ea_cons (ev_var rfl) (ea_cons (ev_var rfl) ea_nil)) ⟨b, S, hb, hS, rfl, rfl⟩))) (fun e => by cases e) (fun _ => go_next rfl)
def F_mask_of (ds : List Dd) (d : Dd) : Prop := ∃ (b : Lb) (S : List Str), b.Ok ∧ S.Sublist b.names ∧ ds = [.ins b.fields, .py (.tuple (tStrs S))] ∧ d = .py (.int (b.msk S : Int))
theorem c_mask_of (W : Wt T mg) : Cal P w T.K mg base 1 "mask_of" (spF T F_mask_of) [] := by
  refine cal_pure (k := 0) W.fn_mask_of sc_mask_of bn_mask_of F_mask_of (fun ds d h => ?_) (fun f cdv A outer s H E hr => ⟨_, (pss_one (ps_ret (pe_callB (r := rSum T.K) (cr_sum rfl) (by rfl) W.m_sum bt_sum (pa_cons (pe_lc (own := [("name", 2)]) (g := gName 2) (tt := tYes) rfl sc_mask_of.nd  (ki_tup T.K (pv 1)) (blkOk_by (own := [("name", 2)]) (N := N_mask_of) (sc := defScope s_mask_of) (by decide +kernel)) (fun _ _ _ _ _ => (pg_name (i := 2) sc_mask_of.nd rfl (Or.inl rfl))) (fun _ _ _ _ _ => pts_nil) (fun _ _ _ _ _ => (pe_dget (hu_of hr) (kfld T.K (pv 0) rfl) (pv 2) (fun _ _ => rfl)))) pa_nil)))), fun ds d h => ?_⟩)
  · obtain ⟨b, S, hb, hS, rfl, rfl⟩ := h
    exact ⟨rfl, rfl, rfl⟩
  · obtain ⟨b, S, hb, hS, rfl, rfl⟩ := h
    have h5 := sub_len hb hS
    exact go_retp (ev_is (ev_cb (ea_cons (EvN.ev (en_is (en_lc0 (xs := S) (enc := PyData.str) (fun x => .int (b.bit x : Int)) (ei_tup (ev_var rfl)) (by omega) fun x hx => ⟨_, eg_name (by decide), fld_bit W (hS.subset hx) rfl (ev_var rfl)⟩) (show _ = (S.map fun x => (b.bit x : Int)).map PyData.int by rw [List.map_map]; rfl))) ea_nil) ec_sum) (by rw [sum_bits b (sub_nd hb hS)])) rfl
def F_build_by (ds : List Dd) (d : Dd) : Prop := ∃ (b : Lb) (S : List Str), b.Ok ∧ ds = [.ins b.fields, .py (.int (b.msk S : Int))] ∧ d = .py (.tuple (tStrs (b.order S)))
theorem c_build_by (W : Wt T mg) : Cal P w T.K mg base 1 "build_by" (spF T F_build_by) [] := by
  refine cal_pure (k := 0) W.fn_build_by sc_build_by bn_build_by F_build_by (fun ds d h => ?_) (fun f cdv A outer s H E hr => ⟨_, (pss_one (ps_ret (pe_callTy (r := rTupC T.K) cz_tup (by rfl) W.m_tuple bt_tuple (pa_cons (pe_lc (own := [("name", 2)]) (g := gName 2) (tt := _) rfl sc_build_by.nd  (ki_list T.K (kfld T.K (pv 0) rfl)) (blkOk_by (own := [("name", 2)]) (N := N_build_by) (sc := defScope s_build_by) (by decide +kernel)) (fun _ _ _ _ _ => (pg_name (i := 2) sc_build_by.nd rfl (Or.inl rfl))) (fun _ _ _ _ _ => pts_one (kz_truth T.K (pe_op op_and (pv 1) (pe_dget (hu_of hr) (kfld T.K (pv 0) rfl) (pv 2) (fun _ _ => rfl))) (by intro _; rfl))) (fun _ _ _ _ _ => (pv 2))) pa_nil)))), fun ds d h => ?_⟩)
  · obtain ⟨b, S, hb, rfl, rfl⟩ := h
    exact ⟨rfl, rfl, rfl⟩
  · obtain ⟨b, S, hb, rfl, rfl⟩ := h
    exact go_retp (ev_cb (ea_cons (EvN.ev (en_lc (xs := b.names) (enc := PyData.str) (fun x => decide (x ∈ S)) PyData.str (ei_list (ev_fld (ev_var rfl) W.cB W.n_own_names rfl)) (by rw [b.names_len]; exact ok_len hb) fun x hx => ⟨_, eg_name (by decide), et_inm W hx rfl (ev_var rfl) (ev_var rfl), fun _ => ev_var rfl⟩)) ea_nil) ec_tup_l) rfl
def F_names_in (ds : List Dd) (d : Dd) : Prop := ∃ (b : Lb) (S : List Str), b.Ok ∧ ds = [.ins b.fields, .py (.int (b.msk S : Int))] ∧ d = .py (.list (tStrs (b.order S)))
theorem c_names_in (W : Wt T mg) : Cal P w T.K mg base 1 "names_in" (spF T F_names_in) [] := by
  refine cal_pure (k := 0) W.fn_names_in sc_names_in bn_names_in F_names_in (fun ds d h => ?_) (fun f cdv A outer s H E hr => ⟨_, (pss_one (ps_ret (pe_lc (own := [("name", 2)]) (g := gName 2) (tt := _) rfl sc_names_in.nd  (ki_list T.K (kfld T.K (pv 0) rfl)) (blkOk_by (own := [("name", 2)]) (N := N_names_in) (sc := defScope s_names_in) (by decide +kernel)) (fun _ _ _ _ _ => (pg_name (i := 2) sc_names_in.nd rfl (Or.inl rfl))) (fun _ _ _ _ _ => pts_one (kz_truth T.K (pe_op op_and (pv 1) (pe_dget (hu_of hr) (kfld T.K (pv 0) rfl) (pv 2) (fun _ _ => rfl))) (by intro _; rfl))) (fun _ _ _ _ _ => (pv 2))))), fun ds d h => ?_⟩)
  · obtain ⟨b, S, hb, rfl, rfl⟩ := h
    exact ⟨rfl, rfl, rfl⟩
  · obtain ⟨b, S, hb, rfl, rfl⟩ := h
    exact go_retp (EvN.ev (en_lc (xs := b.names) (enc := PyData.str) (fun x => decide (x ∈ S)) PyData.str (ei_list (ev_fld (ev_var rfl) W.cB W.n_own_names rfl)) (by rw [b.names_len]; exact ok_len hb) fun x hx => ⟨_, eg_name (by decide), et_inm W hx rfl (ev_var rfl) (ev_var rfl), fun _ => ev_var rfl⟩)) rfl
def F_size_of (ds : List Dd) (d : Dd) : Prop := ∃ cs : List Bool, ds = [.py (.int (vb cs : Int))] ∧ d = .py (.int (cs.count true : Int))
theorem c_size_of (W : Wt T mg) : Cal P w T.K mg base 1 "size_of" (spF T F_size_of) [] := by
  refine cal_pure (k := 0) W.fn_size_of sc_size_of bn_size_of F_size_of (fun ds d h => ?_) (fun f cdv A outer s H E hr => ⟨_, (pss_cons (ps_set (i := 1) sc_size_of.nd rfl (Or.inl rfl) pe_int)
      (pss_cons (ps_while PassesOwn.never (pt_cmpR op_gt (pv 0) pe_int (nomark _)) (pss_cons (ps_aug (i := 0) sc_size_of.nd rfl (Or.inl rfl) (pe_op op_sub (pv 0) pe_int) ip_andZ)
      (pss_one (ps_aug (i := 1) sc_size_of.nd rfl (Or.inl rfl) pe_int ip_add))))
      (pss_one (ps_ret (pv 1))))), fun ds d h => ?_⟩)
  · obtain ⟨cs, rfl, rfl⟩ := h
    exact ⟨rfl, rfl, rfl⟩
  · obtain ⟨cs0, rfl, rfl⟩ := h
    refine go_letp ev_int ?_
    refine go_seq (N1 := fun ρ' o => ∃ y0, o = [] ∧ ρ' = [y0, some (.py (.int (cs0.count true : Int)))]) ?_ (fun ρ' o ⟨y0, e1, e2⟩ => by
      subst e1 e2
      exact go_retp (ev_var rfl) rfl)
    refine go_whilep (fun m ρ' => ∃ (cs : List Bool) (k : Nat), cs.count true = m ∧ k + m = cs0.count true ∧ ρ' = [some (.py (.int (vb cs : Int))), some (.py (.int (k : Int)))]) (cs0.count true) ⟨cs0, 0, rfl, by omega, rfl⟩ ?_
    rintro m ρ1 ⟨cs, k, hm, hk, rfl⟩
    refine ⟨_, et_test (ev_op (ev_var rfl) ev_int er_gt), fun e => ?_, fun e => ?_⟩
    · have hpos : 0 < vb cs := by
        have := of_decide_eq_true e
        omega
      obtain ⟨e1, e2⟩ := vb_clr cs hpos
      have e3 : Builtin.bitAnd (vb cs : Int) ((vb cs : Int) - 1) = (vb (clr cs) : Int) := by
        rw [show (vb cs : Int) - 1 = ((vb cs - 1 : Nat) : Int) by omega, PySem.W.os_band, e1]
      refine go_augp (a := (vb cs : Int)) (c := (vb cs : Int) - 1) rfl (ev_op (ev_var rfl) ev_int er_sub) (go_aug (a := (k : Int)) (c := 1) rfl ev_int ⟨rfl, m - 1, by omega, clr cs, k + 1, by omega, by omega, ?_⟩)
      rw [e3]
      rfl
    · have hz : vb cs = 0 := by
        have := of_decide_eq_false e
        omega
      have := vb_zero cs hz
      have hk2 : k = cs0.count true := by omega
      exact ⟨some (.py (.int (vb cs : Int))), rfl, by rw [hk2]⟩
theorem size_pair {b : Lb} (h : b.Ok) {S ns : List Str} (hS : S.Sublist b.names) (hn : ns.Nodup) (hm : ∀ x ∈ ns, x ∈ b.names) : ((b.order S).filter fun x => decide (x ∈ ns)).length = (ns.filter fun x => decide (x ∈ S)).length := by
  rw [order_of_sublist h hS]
  refine List.Perm.length_eq ((List.perm_ext_iff_of_nodup (List.filter_sublist.nodup (sub_nd h hS)) (List.filter_sublist.nodup hn)).mpr fun x => ?_)
  rw [List.mem_filter, List.mem_filter, decide_eq_true_eq, decide_eq_true_eq, And.comm]
def F_is_let (ds : List Dd) (d : Dd) : Prop := ∃ (b : Lb) (S : List Str) (x : Str) (i : Nat), b.Ok ∧ S.Sublist b.names ∧ b.names[i]? = some x ∧ ds = [.ins b.fields, .py (.int (b.msk S : Int)), .py (.int (i : Int))] ∧ d = .py (.bool (b.met S x))
theorem met_all {b : Lb} (hb : b.Ok) {S : List Str} {x : Str} (hS : S.Sublist b.names) (cnt : Int × Int → Int) (h0 : cnt ((b.low x : Int), b.need (b.tier x)) = (((b.order S).filter fun y => decide (b.tier y < b.tier x)).length : Int)) (h1 : ∀ u ∈ b.wants, cnt ((b.msk u.names : Int), u.many) = (((b.order S).filter fun y => decide (y ∈ u.names)).length : Int)) : ((b.rows x).map fun p => decide (p.2 ≤ cnt p)).all id = b.met S x := by
  unfold Lb.rows Lb.met
  rw [List.map_cons, List.all_cons, h0]
  have e1 : decide (b.need (b.tier x) ≤ (((b.order S).filter fun y => decide (b.tier y < b.tier x)).length : Int)) = !decide (b.below S x < b.need (b.tier x)) := by
    rw [order_of_sublist hb hS]
    unfold Lb.below
    by_cases h : b.need (b.tier x) ≤ ((S.filter fun y => decide (b.tier y < b.tier x)).length : Int)
    · rw [decide_eq_true h, decide_eq_false (by omega)]
      rfl
    · rw [decide_eq_false h, decide_eq_true (by omega)]
      rfl
  rw [List.map_map]
  show (id (decide (b.need (b.tier x) ≤ (((b.order S).filter fun y => decide (b.tier y < b.tier x)).length : Int))) && _) = _
  rw [id, e1]
  congr 1
  rw [List.all_map]
  have e2 : ∀ u ∈ b.wants, decide (u.many ≤ cnt ((b.msk u.names : Int), u.many)) = u.met S := fun u hu => by
    have ho := hb.wants u hu
    rw [h1 u hu, size_pair hb hS ho.nd fun y hy => (ho.mem y hy).1]
    rfl
  have key : ∀ l : List Want, (∀ u ∈ l, decide (u.many ≤ cnt ((b.msk u.names : Int), u.many)) = u.met S) → (l.filter fun u => decide (u.skill = x)).all (id ∘ (fun p => decide (p.2 ≤ cnt p)) ∘ fun u => ((b.msk u.names : Int), u.many)) = (l.filter fun u => decide (u.skill = x) && !u.met S).isEmpty := by
    intro l
    induction l with
    | nil => intro _; rfl
    | cons u l ih =>
      intro h
      have ih' := ih fun v hv => h v (List.mem_cons_of_mem _ hv)
      have hu := h u List.mem_cons_self
      rw [List.filter_cons, List.filter_cons]
      by_cases hs : u.skill = x
      · rw [if_pos (decide_eq_true hs), List.all_cons, ih']
        show (decide (u.many ≤ cnt ((b.msk u.names : Int), u.many)) && _) = _
        rw [hu, decide_eq_true hs]
        cases u.met S
        · rfl
        · rfl
      · rw [if_neg (by simp [hs]), if_neg (by simp [hs]), ih']
  exact key b.wants e2
theorem c_is_let (W : Wt T mg) : Cal P w T.K mg base 2 "is_let" (spF T F_is_let) [] := by
  refine cal_pure (k := 1) W.fn_is_let sc_is_let bn_is_let F_is_let (fun ds d h => ?_) (fun f cdv A outer s H E hr => ⟨_, (pss_one (ps_ret (pe_callB (r := rAll T.K) (cr_all rfl) (by rfl) W.m_all bt_all (pa_cons (pe_lc (own := [("some", 3), ("many", 4)]) (g := gTup T.K 2 (gCons (gName 3) (gCons (gName 4) (gNil)))) (tt := tYes) rfl sc_is_let.nd  (ki_list T.K (pe_ix (r := rIxL T.K) ix_list (kfld T.K (pv 0) rfl) (pv 2) (fun _ _ => rfl))) (blkOk_by (own := [("some", 3), ("many", 4)]) (N := N_is_let) (sc := defScope s_is_let) (by decide +kernel)) (fun _ _ _ _ _ => (kg_tup T.K rfl (pgs_cons (pg_name (i := 3) sc_is_let.nd rfl (Or.inl rfl)) (pgs_cons (pg_name (i := 4) sc_is_let.nd rfl (Or.inl rfl)) pgs_nil)))) (fun _ _ _ _ _ => pts_nil) (fun _ _ _ _ _ => (pe_cmpR op_ge (pe_c (c_size_of W) hr (by decide) (by rfl) (pa_cons (pe_op op_and (pv 1) (pv 3)) pa_nil)) (pv 4) (nomark _)))) pa_nil)))), fun ds d h => ?_⟩)
  · obtain ⟨b, S, x, i, hb, hS, hx, rfl, rfl⟩ := h
    exact ⟨rfl, rfl, rfl⟩
  · obtain ⟨b, S, x, i, hb, hS, hx, rfl, rfl⟩ := h
    have h12 := hb.wants12
    have hix : atI (b.names.map fun y => PyData.list ((b.rows y).map enII)) (i : Int) = some (.list ((b.rows x).map enII)) := atI_nat (j := i) (by rw [List.getElem?_map, hx]; rfl)
    have hrl : (b.rows x).length ≤ 100 := by
      unfold Lb.rows
      rw [List.length_cons, List.length_map]
      have := List.length_filter_le (fun u : Want => decide (u.skill = x)) b.wants
      omega
    have hsz : ∀ p ∈ b.rows x, ∃ f : Str → Bool, p.1 = (mkf b.names f : Int) := fun p hp => by
      rcases List.mem_cons.mp hp with rfl | hp
      · exact ⟨_, rfl⟩
      · obtain ⟨u, hu, rfl⟩ := List.mem_map.mp hp
        exact ⟨_, rfl⟩
    let cnt : Int × Int → Int := fun p => @dite Int (∃ cs : List Bool, Builtin.bitAnd (b.msk S : Int) p.1 = (vb cs : Int)) (Classical.propDecidable _) (fun h => ((Classical.choose h).count true : Int)) (fun _ => 0)
    have hc : ∀ (p : Int × Int) (f : Str → Bool), p.1 = (mkf b.names f : Int) → (∃ cs : List Bool, Builtin.bitAnd (b.msk S : Int) p.1 = (vb cs : Int) ∧ cnt p = (cs.count true : Int)) ∧ cnt p = (((b.order S).filter f).length : Int) := fun p f hf => by
      have e0 : Builtin.bitAnd (b.msk S : Int) p.1 = (vb (b.names.map fun y => decide (y ∈ S) && f y) : Int) := by
        rw [hf, PySem.W.os_band]
        unfold Lb.msk
        rw [mkf_and]
        rfl
      have he : ∃ cs : List Bool, Builtin.bitAnd (b.msk S : Int) p.1 = (vb cs : Int) := ⟨_, e0⟩
      have hcnt : cnt p = ((Classical.choose he).count true : Int) := dif_pos he
      have hval := Classical.choose_spec he
      have hcc : (Classical.choose he).count true = (b.names.map fun y => decide (y ∈ S) && f y).count true := vb_count (Int.natCast_inj.mp (hval.symm.trans e0))
      refine ⟨⟨_, hval, hcnt⟩, ?_⟩
      rw [hcnt, hcc, size_and]
    refine go_retp (ev_is (ev_cb (ea_cons (EvN.ev (en_is (en_lc0 (xs := b.rows x) (enc := enII) (fun p => .bool (decide (p.2 ≤ cnt p))) (ei_list (ev_op (ev_fld (ev_var rfl) W.cB W.n_asked rfl) (ev_var rfl) (er_ixL hix))) (by omega) fun p hp => ⟨_, eg_two (by decide) (by decide), ?_⟩) (show _ = ((b.rows x).map fun p => decide (p.2 ≤ cnt p)).map PyData.bool by rw [List.map_map]; rfl))) ea_nil) ec_all) ?_) rfl
    · obtain ⟨f, hf⟩ := hsz p hp
      obtain ⟨⟨cs, e1, e2⟩, _⟩ := hc p f hf
      rw [e2]
      exact ev_op (ev_call (ea_cons (ev_is (ev_op (ev_var rfl) (ev_var rfl) er_and) (by rw [e1])) ea_nil) ⟨cs, rfl, rfl⟩) (ev_var rfl) er_ge
    · rw [met_all hb hS cnt (hc ((b.low x : Int), b.need (b.tier x)) _ rfl).2 fun u hu => (hc ((b.msk u.names : Int), u.many) _ rfl).2]
end
end Rt
/-! carrying over by masks: the mathematics -/
namespace Rt
open PySem PySem.Spec PyProof.Rows L2
variable {b : Lb}
theorem any_filter {α : Type} (f : α → Bool) : ∀ l : List α, (l.map f).any id = !(l.filter f).isEmpty
  | [] => rfl
  | a :: l => by
    rw [List.map_cons, List.any_cons, List.filter_cons, any_filter f l]
    cases h : f a
    · rw [if_neg Bool.false_ne_true]
      rfl
    · rw [if_pos rfl]
      rfl
theorem all_filter {α : Type} (f : α → Bool) : ∀ l : List α, (l.map f).all id = (l.filter fun x => !f x).isEmpty
  | [] => rfl
  | a :: l => by
    rw [List.map_cons, List.all_cons, List.filter_cons, all_filter f l]
    cases h : f a
    · rw [if_pos (by rfl)]
      rfl
    · rw [if_neg (by simp)]
      rfl
theorem msk_sub {S G : List Str} (h : ∀ x ∈ b.names, x ∈ G → x ∈ S) : (b.msk S : Int) - (b.msk G : Int) = (b.msk (S.filter fun x => !decide (x ∈ G)) : Int) := by
  unfold Lb.msk
  have e := mkf_sub (N := b.names) (f := fun y => decide (y ∈ S)) (g := fun y => decide (y ∈ G)) fun x hx hg => by
    simp only [decide_eq_true_eq] at hg ⊢
    exact h x hx hg
  have e2 : mkf b.names (fun x => decide (x ∈ S) && !decide (x ∈ G)) = mkf b.names fun y => decide (y ∈ S.filter fun x => !decide (x ∈ G)) := by
    refine mkf_congr fun x _ => ?_
    by_cases h1 : x ∈ S <;> by_cases h2 : x ∈ G <;> simp [h1, h2]
  rw [e2] at e
  omega
theorem msk_one (x : Str) : b.bit x = b.msk [x] := by
  unfold Lb.bit Lb.msk
  refine mkf_congr fun y _ => ?_
  by_cases h : y = x <;> simp [h]
theorem msk_two {x y : Str} (h : x ≠ y) : (b.bit x : Int) + (b.bit y : Int) = (b.msk [x, y] : Int) := by
  rw [← Int.natCast_add]
  congr 1
  unfold Lb.bit Lb.msk
  rw [mkf_add fun z _ => by
    by_cases e : z = x
    · subst e
      simp [h]
    · simp [e]]
  refine mkf_congr fun z _ => ?_
  by_cases e1 : z = x <;> by_cases e2 : z = y <;> simp [e1, e2]
theorem msk_add {S : List Str} {x : Str} (h : x ∉ S) : (b.msk S : Int) + (b.bit x : Int) = (b.msk (S ++ [x]) : Int) := by
  rw [← Int.natCast_add]
  congr 1
  unfold Lb.bit Lb.msk
  rw [mkf_add fun z _ => by
    by_cases e : z = x
    · subst e
      simp [h]
    · simp [e]]
  refine mkf_congr fun z _ => ?_
  by_cases e1 : z = x <;> by_cases e2 : z ∈ S <;> simp [e1, e2]
theorem msk_order (S : List Str) : b.msk (b.order S) = b.msk S := by
  unfold Lb.msk
  refine mkf_congr fun x hx => ?_
  by_cases h : x ∈ S
  · rw [decide_eq_true h, decide_eq_true (mem_order.mpr ⟨hx, h⟩)]
  · rw [decide_eq_false h, decide_eq_false fun z => h (mem_order.mp z).2]
theorem msk_inj (hb : b.Ok) {S S' : List Str} (h1 : S.Sublist b.names) (h2 : S'.Sublist b.names) (h : b.msk S = b.msk S') : S = S' := by
  rw [← order_of_sublist hb h1, ← order_of_sublist hb h2]
  unfold Lb.order
  refine List.filter_congr fun x hx => ?_
  exact mkf_inj h x hx
theorem msk_nil : b.msk [] = 0 := mkf_zero.mpr fun x _ => by simp
theorem sum_nonneg : ∀ {l : List Int}, (∀ i ∈ l, 0 ≤ i) → 0 ≤ l.sum
  | [], _ => by decide
  | a :: l, h => by
    rw [List.sum_cons]
    have h1 := h a List.mem_cons_self
    have h2 := sum_nonneg fun i hi => h i (List.mem_cons_of_mem _ hi)
    omega
theorem size_nonneg (hb : b.Ok) (S : List Str) : 0 ≤ b.sizeLet S := by
  unfold Lb.sizeLet
  have h1 := hb.pts.1
  have h2 : 0 ≤ ((b.gives.filter fun p => decide (p.1 ∈ S)).map (·.2)).sum := sum_nonneg fun i hi => by
    obtain ⟨p, hp, rfl⟩ := List.mem_map.mp hi
    have := (hb.gives p (List.mem_filter.mp hp).1).2.1
    omega
  omega
theorem next_of_gone_nil {S : List Str} (h : (b.gone S).isEmpty = true) : b.next S = S := by
  unfold Lb.next
  rw [List.isEmpty_iff.mp h]
  exact List.filter_eq_self.mpr fun x _ => by simp
theorem fallN_fix {S : List Str} (h : (b.gone S).isEmpty = true) : ∀ m, b.fallN m S = S
  | 0 => rfl
  | m + 1 => by
    show (if (b.gone S).isEmpty = true then S else b.fallN m (b.next S)) = S
    rw [if_pos h]
theorem fallN_sub (hb : b.Ok) : ∀ (m : Nat) {S : List Str}, S.Sublist b.names → (b.fallN m S).Sublist b.names
  | 0, S, h => h
  | m + 1, S, h => by
    show (if (b.gone S).isEmpty = true then S else b.fallN m (b.next S)).Sublist b.names
    by_cases e : (b.gone S).isEmpty = true
    · rw [if_pos e]
      exact h
    · rw [if_neg e]
      exact fallN_sub hb m ((next_sublist b S).trans h)
theorem growN_sub : ∀ (n : Nat) (S F : List Str), F.Sublist b.names → (b.growN S n F).Sublist b.names
  | 0, _, _, h => h
  | n + 1, S, F, _ => growN_sub n S _ (order_sublist b _)
theorem carried_sub (hb : b.Ok) (S : List Str) (k : Str) : (b.carried S k).Sublist b.names := by
  unfold Lb.carried
  by_cases h1 : k = "keep"
  · rw [if_pos h1]
    exact order_sublist b S
  · rw [if_neg h1]
    by_cases h2 : k = "fall"
    · rw [if_pos h2]
      exact fallN_sub hb _ (order_sublist b S)
    · rw [if_neg h2]
      exact growN_sub _ _ _ (List.nil_sublist _)
/-! ### by grown -/
theorem order_cons {F : List Str} {x : Str} (hb : b.Ok) (hF : F.Sublist b.names) (hx : x ∈ b.names) (hn : x ∉ F) : (b.order (F ++ [x])).length = F.length + 1 := by
  have p : (b.order (F ++ [x])).Perm (F ++ [x]) := (List.perm_ext_iff_of_nodup ((order_sublist b _).nodup hb.nd) (List.nodup_append.mpr ⟨hF.nodup hb.nd, by simp, fun a ha c hc e => by
    rw [List.mem_singleton.mp hc] at e
    exact hn (e ▸ ha)⟩)).mpr fun y => by
    rw [mem_order]
    refine ⟨fun h => h.2, fun h => ⟨?_, h⟩⟩
    rcases List.mem_append.mp h with z | z
    · exact hF.subset z
    · rw [List.mem_singleton.mp z]
      exact hx
  rw [p.length_eq, List.length_append]
  rfl
theorem sub_le {S F : List Str} (hb : b.Ok) (hS : S.Sublist b.names) (hF : F.Sublist b.names) (h : ∀ x ∈ F, x ∈ S) : F.length ≤ S.length := by
  have e : S.filter (fun x => decide (x ∈ F)) = F := by
    have e1 : S.filter (fun x => decide (x ∈ F)) = b.names.filter fun x => decide (x ∈ F) := by
      have e2 : S = b.names.filter fun x => decide (x ∈ S) := (filter_sublist_eq hb.nd hS).symm
      rw [e2, List.filter_filter]
      refine List.filter_congr fun x _ => ?_
      by_cases h1 : x ∈ F
      · simp [h1, h x h1]
      · simp [h1]
    rw [e1]
    exact filter_sublist_eq hb.nd hF
  rw [← e]
  exact List.length_filter_le _ _
theorem growN_add (S : List Str) : ∀ (n m : Nat) (F : List Str), b.growN S (n + m) F = b.growN S m (b.growN S n F)
  | 0, m, F => by rw [Nat.zero_add]; rfl
  | n + 1, m, F => by
    rw [Nat.succ_add]
    exact growN_add S n m (b.grow1 S F)
theorem growN_fix {S F : List Str} (h : b.grow1 S F = F) : ∀ n, b.growN S n F = F
  | 0 => rfl
  | n + 1 => by
    show b.growN S n (b.grow1 S F) = F
    rw [h]
    exact growN_fix h n
theorem grow1_nil (hb : b.Ok) {S F : List Str} (hF : F.Sublist b.names) (h : b.can S F = []) : b.grow1 S F = F := by
  unfold Lb.grow1
  rw [h]
  show b.order (F ++ []) = F
  rw [List.append_nil]
  exact order_of_sublist hb hF
end Rt
namespace Rt
open PySem PySem.Spec PyProof.Rows L2
open C8 (Cal Met Mak pe_c pe_mt pe_mt0 pe_mk)
section
variable {P : Program} {w : World} {T : Tx} {mg : Str → Option Value} {base : Heap}
def F_points_let (ds : List Dd) (d : Dd) : Prop := ∃ (b : Lb) (S : List Str), b.Ok ∧ ds = [.ins b.fields, .py (.int (b.msk S : Int))] ∧ d = .py (.int (b.sizeLet S))
theorem c_points_let (W : Wt T mg) : Cal P w T.K mg base 1 "points_let" (spF T F_points_let) [] := by
  refine cal_pure (k := 0) W.fn_points_let sc_points_let bn_points_let F_points_let (fun ds d h => ?_) (fun f cdv A outer s H E hr => ⟨_, (pss_one (ps_ret (pe_op op_add (kfld T.K (pv 0) rfl) (pe_callB (r := rSum T.K) (cr_sum rfl) (by rfl) W.m_sum bt_sum (pa_cons (pe_lc (own := [("name", 2), ("many", 3)]) (g := gTup T.K 2 (gCons (gName 2) (gCons (gName 3) (gNil)))) (tt := _) rfl sc_points_let.nd  (ki_tup T.K (pe_ix (r := rIxT T.K) ix_tup (kfld T.K (pv 0) rfl) pe_int (fun _ _ => rfl))) (blkOk_by (own := [("name", 2), ("many", 3)]) (N := N_points_let) (sc := defScope s_points_let) (by decide +kernel)) (fun _ _ _ _ _ => (kg_tup T.K rfl (pgs_cons (pg_name (i := 2) sc_points_let.nd rfl (Or.inl rfl)) (pgs_cons (pg_name (i := 3) sc_points_let.nd rfl (Or.inl rfl)) pgs_nil)))) (fun _ _ _ _ _ => pts_one (kz_truth T.K (pe_op op_and (pv 1) (pe_dget (hu_of hr) (kfld T.K (pv 0) rfl) (pv 2) (fun _ _ => rfl))) (by intro _; rfl))) (fun _ _ _ _ _ => (pv 3))) pa_nil))))), fun ds d h => ?_⟩)
  · obtain ⟨b, S, hb, rfl, rfl⟩ := h
    exact ⟨rfl, rfl, rfl⟩
  · obtain ⟨b, S, hb, rfl, rfl⟩ := h
    have h12 := hb.gives12
    exact go_retp (ev_op (ev_fld (ev_var rfl) W.cB W.n_own_points rfl) (ev_cb (ea_cons (EvN.ev (en_is (en_lc (xs := b.gives) (enc := enSI) (fun p => decide (p.1 ∈ S)) (fun p => PyData.int p.2) (ei_tup (ev_op (ev_fld (ev_var rfl) W.cB W.n_record rfl) ev_int (er_ixT rfl))) (by omega) fun p hp => ⟨_, eg_two (by decide) (by decide), et_inm W (hb.gives p hp).1 rfl (ev_var rfl) (ev_var rfl), fun _ => ev_var rfl⟩) (show _ = ((b.gives.filter fun p => decide (p.1 ∈ S)).map (·.2)).map PyData.int by rw [List.map_map]; rfl))) ea_nil) ec_sum) er_add) rfl
def Lb.nm (b : Lb) (i : Nat) : Str := (b.names[i]?).getD ""
theorem nm_at {b : Lb} {i : Nat} (h : i < b.names.length) : b.names[i]? = some (b.nm i) := by
  unfold Lb.nm
  rw [List.getElem?_eq_getElem h]
  rfl
theorem nm_range (b : Lb) : (List.range b.names.length).map b.nm = b.names := by
  refine List.ext_getElem (by simp) fun i h1 h2 => ?_
  rw [List.getElem_map, List.getElem_range]
  have := nm_at h2
  rw [List.getElem?_eq_getElem h2] at this
  exact (Option.some.inj this).symm
theorem size_msk {b : Lb} (hb : b.Ok) {S : List Str} (hS : S.Sublist b.names) : ((b.names.map fun x => decide (x ∈ S)).count true : Int) = (S.length : Int) := by
  rw [count_map]
  have e : b.names.filter (fun x => decide (x ∈ S)) = S := order_of_sublist hb hS
  rw [e]
def F_does_hold (ds : List Dd) (d : Dd) : Prop := ∃ (b : Lb) (S : List Str), b.Ok ∧ S.Sublist b.names ∧ ds = [.ins b.fields, .py (.int (b.msk S : Int))] ∧ d = .py (.bool (b.holds S))
theorem c_does_hold (W : Wt T mg) : Cal P w T.K mg base 3 "does_hold" (spF T F_does_hold) [] := by
  refine cal_pure (k := 2) W.fn_does_hold sc_does_hold bn_does_hold F_does_hold (fun ds d h => ?_) (fun f cdv A outer s H E hr => ⟨_, (pss_cons (ps_if (PW.pt (pw_or (pt_cmpR op_gt (pe_c (c_size_of W) hr (by decide) (by rfl) (pa_cons (pv 1) pa_nil)) (pe_c (c_points_let W) hr (by decide) (by rfl) (pa_cons (pv 0) (pa_cons (pv 1) pa_nil))) (nomark _)) (pw_or1 (pt_val (pe_callB (r := rAny T.K) (cr_any rfl) (by rfl) W.m_any bt_any (pa_cons (pe_lc (own := [("pair", 2)]) (g := gName 2) (tt := tYes) rfl sc_does_hold.nd  (ki_list T.K (kfld T.K (pv 0) rfl)) (blkOk_by (own := [("pair", 2)]) (N := N_does_hold) (sc := defScope s_does_hold) (by decide +kernel)) (fun _ _ _ _ _ => (pg_name (i := 2) sc_does_hold.nd rfl (Or.inl rfl))) (fun _ _ _ _ _ => pts_nil) (fun _ _ _ _ _ => (pe_cmpR op_eq (pe_op op_and (pv 1) (pv 2)) (pv 2) (nomark _)))) pa_nil)))))) (pss_one (ps_ret pe_bl)) pss_nil)
      (pss_one (ps_ret (pe_callB (r := rAll T.K) (cr_all rfl) (by rfl) W.m_all bt_all (pa_cons (pe_lc (own := [("spot", 3)]) (g := gName 3) (tt := _) rfl sc_does_hold.nd  (pi_range1 (by rfl) W.m_range (pa_cons (pe_callB (r := rLen T.K) cz_len (by rfl) W.m_len bt_len (pa_cons (kfld T.K (pv 0) rfl) pa_nil)) pa_nil)) (blkOk_by (own := [("spot", 3)]) (N := N_does_hold) (sc := defScope s_does_hold) (by decide +kernel)) (fun _ _ _ _ _ => (pg_name (i := 3) sc_does_hold.nd rfl (Or.inl rfl))) (fun _ _ _ _ _ => pts_one (kz_truth T.K (pe_op op_and (pv 1) (pe_ix (r := rIxL T.K) ix_list (kfld T.K (pv 0) rfl) (pv 3) (fun _ _ => rfl))) (by intro _; rfl))) (fun _ _ _ _ _ => (pe_c (c_is_let W) hr (by decide) (by rfl) (pa_cons (pv 0) (pa_cons (pv 1) (pa_cons (pv 3) pa_nil)))))) pa_nil))))), fun ds d h => ?_⟩)
  · obtain ⟨b, S, hb, hS, rfl, rfl⟩ := h
    exact ⟨rfl, rfl, rfl⟩
  · obtain ⟨b, S, hb, hS, rfl, rfl⟩ := h
    have h6 := hb.bars6
    have hn5 : b.names.length ≤ 5 := by rw [b.names_len]; exact hb.n5
    have tl : (tStrs b.names).length = b.names.length := List.length_map ..
    refine go_ifret (et_or (et_test (ev_op (ev_call (ea_cons (ev_var rfl) ea_nil) ⟨b.names.map fun x => decide (x ∈ S), rfl, rfl⟩) (ev_call (ea_cons (ev_var rfl) (ea_cons (ev_var rfl) ea_nil)) ⟨b, S, hb, rfl, rfl⟩) er_gt)) fun _ => et_b (ev_cb (ea_cons (EvN.ev (en_is (en_lc0 (xs := b.bars) (enc := fun p => PyData.int ((b.bit p.1 : Int) + (b.bit p.2 : Int))) (fun p => .bool (decide (p.1 ∈ S) && decide (p.2 ∈ S))) (ei_list (ev_is (ev_fld (ev_var rfl) W.cB W.n_barred rfl) (by rw [bars_map]))) (by omega) fun p hp => ⟨_, eg_name (by decide), ev_is (ev_op (ev_op (ev_var rfl) (ev_var rfl) er_and) (ev_var rfl) er_eqI) (by rw [and_pairI (hb.bars p hp).1 (hb.bars p hp).2.1 (hb.bars p hp).2.2])⟩) (show _ = (b.bars.map fun p => decide (p.1 ∈ S) && decide (p.2 ∈ S)).map PyData.bool by rw [List.map_map]; rfl))) ea_nil) ec_any)) (fun e => go_retp ev_bl ?_) (fun e => ?_)
    · rw [size_msk hb hS, any_filter] at e
      unfold Lb.holds Lb.barred
      cases h1 : decide (b.sizeLet S < (S.length : Int)) with
      | true => rfl
      | false =>
        rw [h1, Bool.false_or] at e
        cases h2 : (b.bars.filter fun p => decide (p.1 ∈ S) && decide (p.2 ∈ S)).isEmpty with
        | true =>
          rw [h2] at e
          cases e
        | false => rfl
    · rw [size_msk hb hS, any_filter] at e
      have e1 : decide (b.sizeLet S < (S.length : Int)) = false := by
        cases h1 : decide (b.sizeLet S < (S.length : Int)) with
        | true =>
          rw [h1] at e
          cases e
        | false => rfl
      have e2 : (b.barred S).isEmpty = true := by
        rw [e1, Bool.false_or] at e
        unfold Lb.barred
        cases h2 : (b.bars.filter fun p => decide (p.1 ∈ S) && decide (p.2 ∈ S)).isEmpty with
        | true => rfl
        | false =>
          rw [h2] at e
          cases e
      refine go_retp (ev_is (ev_cb (ea_cons (EvN.ev (en_is (en_lc (xs := List.range b.names.length) (enc := fun (i : Nat) => PyData.int (i : Int)) (fun i => decide (b.nm i ∈ S)) (fun i => .bool (b.met S (b.nm i))) (ei_rng (ea_cons (ev_is (ev_cb (ea_cons (ev_fld (ev_var rfl) W.cB W.n_own_names rfl) ea_nil) ec_len_l) (by rw [tl])) ea_nil) (by omega)) (by rw [List.length_range]; omega) fun i hi => ⟨_, eg_name (by decide), et_truth (ev_op (ev_var rfl) (ev_op (ev_fld (ev_var rfl) W.cB W.n_spots rfl) (ev_var rfl) (er_ixL (d := .int (b.bit (b.nm i) : Int)) ?_)) er_and) (and_bitI ?_), fun _ => ev_call (ea_cons (ev_var rfl) (ea_cons (ev_var rfl) (ea_cons (ev_var rfl) ea_nil))) ⟨b, S, b.nm i, i, hb, hS, nm_at (List.mem_range.mp hi), rfl, rfl⟩⟩) (show _ = (S.map fun x => b.met S x).map PyData.bool from ?_))) ea_nil) ec_all) ?_) rfl
      · refine atI_nat (j := i) ?_
        unfold Lb.spots
        rw [List.getElem?_map, List.getElem?_map, nm_at (List.mem_range.mp hi)]
        rfl
      · exact List.mem_of_getElem? (nm_at (List.mem_range.mp hi))
      · have e3 : (b.names.filter fun x => decide (x ∈ S)) = S := order_of_sublist hb hS
        have e4 : ((List.range b.names.length).filter fun i => decide (b.nm i ∈ S)).map (fun i => PyData.bool (b.met S (b.nm i))) = (((List.range b.names.length).map b.nm).filter fun x => decide (x ∈ S)).map fun x => PyData.bool (b.met S x) := by
          rw [List.filter_map, List.map_map]
          rfl
        rw [e4, nm_range, e3, List.map_map]
        rfl
      · rw [all_filter]
        unfold Lb.holds
        rw [e1, e2]
        rfl
def F_holds (ds : List Dd) (d : Dd) : Prop := ∃ (b : Lb) (S : List Str), b.Ok ∧ S.Sublist b.names ∧ ds = [.ins b.fields, .py (.tuple (tStrs S))] ∧ d = .py (.bool (b.holds S))
theorem c_holds (W : Wt T mg) : Cal P w T.K mg base 5 "holds" (spF T F_holds) [] := by
  refine cal_pure (k := 4) W.fn_holds sc_holds bn_holds F_holds (fun ds d h => ?_) (fun f cdv A outer s H E hr => ⟨_, (pss_cons (ps_expr (pe_c (c_look_at_build W) hr (by decide) (by rfl) (pa_cons (pv 0) (pa_cons (pv 1) pa_nil))))
      (pss_one (ps_ret (pe_c (c_does_hold W) hr (by decide) (by rfl) (pa_cons (pv 0) (pa_cons (pe_c (c_mask_of W) hr (by decide) (by rfl) (pa_cons (pv 0) (pa_cons (pv 1) pa_nil))) pa_nil)))))), fun ds d h => ?_⟩)
  · obtain ⟨b, S, hb, hS, rfl, rfl⟩ := h
    exact ⟨rfl, rfl, rfl⟩
  · obtain ⟨b, S, hb, hS, rfl, rfl⟩ := h
    exact go_andthen (go_dropp (d := .py .none) (ev_call (ea_cons (ev_var rfl) (ea_cons (ev_var rfl) ea_nil)) ⟨b, S, hb, hS, rfl, rfl⟩) ⟨rfl, rfl⟩) (go_retp (ev_call (ea_cons (ev_var rfl) (ea_cons (ev_call (ea_cons (ev_var rfl) (ea_cons (ev_var rfl) ea_nil)) ⟨b, S, hb, hS, rfl, rfl⟩) ea_nil)) ⟨b, S, hb, hS, rfl, rfl⟩) rfl)
def F_look_at_good (ds : List Dd) (d : Dd) : Prop := ∃ (b : Lb) (S : List Str), b.Ok ∧ S.Sublist b.names ∧ b.holds S = true ∧ ds = [.ins b.fields, .py (.tuple (tStrs S))] ∧ d = .py .none
theorem c_look_at_good (W : Wt T mg) : Cal P w T.K mg base 4 "look_at_good" (spF T F_look_at_good) [] := by
  refine cal_pure (k := 3) W.fn_look_at_good sc_look_at_good bn_look_at_good F_look_at_good (fun ds d h => ?_) (fun f cdv A outer s H E hr => ⟨_, (pss_one (ps_if (PW.pt (pw_or (pt_not (pt_val (pe_c (c_is_build W) hr (by decide) (by rfl) (pa_cons (pv 0) (pa_cons (pv 1) pa_nil))))) (pw_or1 (pt_not (pt_val (pe_c (c_does_hold W) hr (by decide) (by rfl) (pa_cons (pv 0) (pa_cons (pe_c (c_mask_of W) hr (by decide) (by rfl) (pa_cons (pv 0) (pa_cons (pv 1) pa_nil))) pa_nil)))))))) (pss_one ps_never) pss_nil)), fun ds d h => ?_⟩)
  · obtain ⟨b, S, hb, hS, hh, rfl, rfl⟩ := h
    exact ⟨rfl, rfl, rfl⟩
  · obtain ⟨b, S, hb, hS, hh, rfl, rfl⟩ := h
    exact go_if (et_or (et_not (et_b (ev_call (ea_cons (ev_var rfl) (ea_cons (ev_var rfl) ea_nil)) ⟨b, S, hb, hS, rfl, rfl⟩))) fun _ => et_not (et_b (ev_call (ea_cons (ev_var rfl) (ea_cons (ev_call (ea_cons (ev_var rfl) (ea_cons (ev_var rfl) ea_nil)) ⟨b, S, hb, hS, rfl, rfl⟩) ea_nil)) ⟨b, S, hb, hS, rfl, rfl⟩))) (fun e => by
      rw [hh] at e
      cases e) (fun _ => go_next rfl)
def kinds : List Str := ["fall", "grown", "keep"]
def F_look_at_kind (ds : List Dd) (d : Dd) : Prop := ∃ k : Str, k ∈ kinds ∧ ds = [.py (.str k)] ∧ d = .py .none
theorem c_look_at_kind (W : Wt T mg) : Cal P w T.K mg base 1 "look_at_kind" (spF T F_look_at_kind) [] := by
  refine cal_pure (k := 0) W.fn_look_at_kind sc_look_at_kind bn_look_at_kind F_look_at_kind (fun ds d h => ?_) (fun f cdv A outer s H E hr => ⟨_, (pss_one (ps_if (PW.pt (pw_or (pt_not (pt_val (pe_callB (r := rIsi T.K) call_isi (by rfl) W.m_isinstance bt_isinstance (pa_cons (pv 0) (pa_cons (pe_bltn (v := .ty "str") (by rfl) W.m_str (by decide +kernel) rfl) pa_nil))))) (pw_or1 (pt_cmpR (r := rIn T.K true) op_notIn_seq (pv 0) (C8.pe_gc (by rfl) W.m_KINDS) (by rfl))))) (pss_one ps_never) pss_nil)), fun ds d h => ?_⟩)
  · obtain ⟨k, hk, rfl, rfl⟩ := h
    exact ⟨rfl, rfl, rfl⟩
  · obtain ⟨k, hk, rfl, rfl⟩ := h
    exact go_if (et_or (et_not (et_b (ev_cb (ea_cons (ev_var rfl) (ea_cons ev_cls ea_nil)) (ec_isi rfl rfl)))) fun _ => et_test (ev_op (ev_var rfl) (ev_con (d := .ktup kinds) fun _ _ => ⟨_, rfl, W.t_KINDS⟩) er_niK)) (fun e => by
      rw [decide_eq_true hk] at e
      cases e) (fun _ => go_next rfl)
theorem atI_last {α : Type} (l : List α) (x : α) : atI (l ++ [x]) (-1) = some x := by
  unfold atI
  rw [List.length_append]
  show (ixN (l.length + 1) (-1)).bind _ = _
  rw [ixN_last]
  show (l ++ [x])[l.length]? = _
  rw [List.getElem?_append_right (Nat.le_refl _), Nat.sub_self]
  rfl
theorem shaped_int2 {ds : List PyData} (h : ∀ d ∈ ds, ∃ i : Int, d = .int i) : SeqAt.shaped (.list ds) = true := (shaped_of fun d hd => by
  obtain ⟨i, rfl⟩ := h d hd
  exact ⟨rfl, by show 0 ≤ 10; decide⟩).1
def F_fallen_once (ds : List Dd) (d : Dd) : Prop := ∃ (b : Lb) (S : List Str), b.Ok ∧ S.Sublist b.names ∧ ds = [.ins b.fields, .py (.int (b.msk S : Int))] ∧ d = .py (.int (b.msk (b.next S) : Int))
theorem c_fallen_once (W : Wt T mg) : Cal P w T.K mg base 3 "fallen_once" (spF T F_fallen_once) [] := by
  refine cal_pure (k := 2) W.fn_fallen_once sc_fallen_once bn_fallen_once F_fallen_once (fun ds d h => ?_) (fun f cdv A outer s H E hr => ⟨_, (pss_cons (ps_set (i := 2) sc_fallen_once.nd rfl (Or.inl rfl) (pe_c (c_names_in W) hr (by decide) (by rfl) (pa_cons (pv 0) (pa_cons (pv 1) pa_nil))))
      (pss_cons (ps_setLc (i := 3) (own := [("name", 4)]) (g := gName 4) (tt := _) rfl sc_fallen_once.nd rfl rfl (sw_true rfl rfl rfl (by decide +kernel)) (ki_list T.K (pv 2)) (blkOk_by (own := [("name", 4)]) (N := N_fallen_once) (sc := defScope s_fallen_once) (by decide +kernel)) (fun _ _ _ _ _ => (pg_name (i := 4) sc_fallen_once.nd rfl (Or.inl rfl))) (fun _ _ _ _ _ => pts_one (pt_not (pt_val (pe_c (c_is_let W) hr (by decide) (by rfl) (pa_cons (pv 0) (pa_cons (pv 1) (pa_cons (kbm T.K PySem.F.plainAttrs_list PySem.F.slot_list_index PySem.F.type_list_index (r := rIndex T.K) mt_index (kfld T.K (pv 0) rfl) (pa_cons (pv 4) pa_nil)) pa_nil))))))) (fun _ _ _ _ _ => (pv 4)))
      (pss_cons (ps_if (pt_cmpR (r := rNeD T.K) (op_neD hr.units) (pv 3) (pe_lst pa_nil) (nomark _)) (pss_one (ps_ret (pe_op op_sub (pv 1) (pe_callB (r := rSum T.K) (cr_sum rfl) (by rfl) W.m_sum bt_sum (pa_cons (pe_lc (own := [("name", 4)]) (g := gName 4) (tt := tYes) rfl sc_fallen_once.nd  (ki_list T.K (pv 3)) (blkOk_by (own := [("name", 4)]) (N := N_fallen_once) (sc := defScope s_fallen_once) (by decide +kernel)) (fun _ _ _ _ _ => (pg_name (i := 4) sc_fallen_once.nd rfl (Or.inl rfl))) (fun _ _ _ _ _ => pts_nil) (fun _ _ _ _ _ => (pe_dget (hu_of hr) (kfld T.K (pv 0) rfl) (pv 4) (fun _ _ => rfl)))) pa_nil))))) pss_nil)
      (pss_cons (ps_setLc (i := 5) (own := [("pair", 6)]) (g := gName 6) (tt := _) rfl sc_fallen_once.nd rfl rfl (sw_true rfl rfl rfl (by decide +kernel)) (ki_list T.K (kfld T.K (pv 0) rfl)) (blkOk_by (own := [("pair", 6)]) (N := N_fallen_once) (sc := defScope s_fallen_once) (by decide +kernel)) (fun _ _ _ _ _ => (pg_name (i := 6) sc_fallen_once.nd rfl (Or.inl rfl))) (fun _ _ _ _ _ => pts_one (pt_cmpR op_eq (pe_op op_and (pv 1) (pv 6)) (pv 6) (nomark _))) (fun _ _ _ _ _ => (pv 6)))
      (pss_cons (ps_if (pt_cmpR (r := rNeD T.K) (op_neD hr.units) (pv 5) (pe_lst pa_nil) (nomark _)) (pss_one (ps_ret (pe_op op_sub (pv 1) (pe_dget (hu_of hr) (kfld T.K (pv 0) rfl) (pe_ix (r := rIxL T.K) ix_list (pe_c (c_names_in W) hr (by decide) (by rfl) (pa_cons (pv 0) (pa_cons (pe_ix (r := rIxL T.K) ix_list (pv 5) pe_int (fun _ _ => rfl)) pa_nil))) (pe_un un_neg pe_int) (fun _ _ => rfl)) (fun _ _ => rfl))))) pss_nil)
      (pss_one (ps_ret (pe_ifExp (pt_cmpR op_gt (pe_c (c_size_of W) hr (by decide) (by rfl) (pa_cons (pv 1) pa_nil)) (pe_c (c_points_let W) hr (by decide) (by rfl) (pa_cons (pv 0) (pa_cons (pv 1) pa_nil))) (nomark _)) (pe_op op_sub (pv 1) (pe_dget (hu_of hr) (kfld T.K (pv 0) rfl) (pe_ix (r := rIxL T.K) ix_list (pv 2) (pe_un un_neg pe_int) (fun _ _ => rfl)) (fun _ _ => rfl))) (pv 1))))))))), fun ds d h => ?_⟩)
  · obtain ⟨b, S, hb, hS, rfl, rfl⟩ := h
    exact ⟨rfl, rfl, rfl⟩
  · obtain ⟨b, S, hb, hS, rfl, rfl⟩ := h
    have h5 := sub_len hb hS
    have h6 := hb.bars6
    have hs : ∀ x ∈ S, PyData.strOk x = true := fun x hx => hb.str (hS.subset hx)
    have nx : ∀ {G : List Str}, b.gone S = G → (∀ x ∈ G, x ∈ S) → (b.msk S : Int) - (b.msk G : Int) = (b.msk (b.next S) : Int) := fun {G} e hG => by
      rw [msk_sub fun x _ h => hG x h]
      unfold Lb.next
      rw [e]
    refine go_letp (d := .py (.list (tStrs S))) (ev_is (ev_call (ea_cons (ev_var rfl) (ea_cons (ev_var rfl) ea_nil)) ⟨b, S, hb, rfl, rfl⟩) (by rw [order_of_sublist hb hS])) ?_
    refine go_letp (EvN.ev (en_lc (xs := S) (enc := PyData.str) (fun x => !b.met S x) PyData.str (ei_list (ev_var rfl)) (by omega) fun x hx => ⟨_, eg_name (by decide), et_not (et_b (ev_call (ea_cons (ev_var rfl) (ea_cons (ev_var rfl) (ea_cons (ev_index (xs := b.names) (ev_fld (ev_var rfl) W.cB W.n_own_names rfl) (ev_var rfl) (hS.subset hx)) ea_nil))) ⟨b, S, x, b.names.idxOf x, hb, hS, by rw [List.getElem?_eq_getElem (List.idxOf_lt_length_iff.mpr (hS.subset hx)), List.getElem_idxOf], rfl, rfl⟩)), fun _ => ev_var rfl⟩)) ?_
    refine go_ifret (et_test (ev_op (ev_var rfl) (EvN.ev (en_lst (ds := []) ea_nil (by decide))) (er_neD (shaped_strs fun x hx => hs x (List.mem_filter.mp hx).1).1 shaped_nil))) (fun e => ?_) (fun e => ?_)
    · rw [eqv_nil, List.isEmpty_map] at e
      have eg : b.gone S = b.loose S := by
        unfold Lb.gone
        rw [if_pos (by unfold Lb.loose; simpa using e)]
      have lsub : (b.loose S).Sublist b.names := List.filter_sublist.trans hS
      have llen : (b.loose S).length ≤ 5 := sub_len hb lsub
      refine go_retp (ev_is (ev_op (ev_var rfl) (ev_cb (ea_cons (EvN.ev (en_is (en_lc0 (xs := b.loose S) (enc := PyData.str) (fun x => .int (b.bit x : Int)) (ei_list (ev_var rfl)) (by omega) fun x hx => ⟨_, eg_name (by decide), fld_bit W (lsub.subset hx) rfl (ev_var rfl)⟩) (show _ = ((b.loose S).map fun x => (b.bit x : Int)).map PyData.int by rw [List.map_map]; rfl))) ea_nil) ec_sum) er_sub) ?_) rfl
      rw [sum_bits b (sub_nd hb lsub), nx eg fun x hx => (List.mem_filter.mp hx).1]
    · rw [eqv_nil, List.isEmpty_map] at e
      have e1 : ¬ (b.loose S).isEmpty = false := by
        unfold Lb.loose
        simpa using e
      refine go_letp (EvN.ev (en_lc (xs := b.bars) (enc := fun p => PyData.int ((b.bit p.1 : Int) + (b.bit p.2 : Int))) (fun p => decide (p.1 ∈ S) && decide (p.2 ∈ S)) (fun p => PyData.int ((b.bit p.1 : Int) + (b.bit p.2 : Int))) (ei_list (ev_is (ev_fld (ev_var rfl) W.cB W.n_barred rfl) (by rw [bars_map]))) (by omega) fun p hp => ⟨_, eg_name (by decide), et_is (et_test (ev_op (ev_op (ev_var rfl) (ev_var rfl) er_and) (ev_var rfl) er_eqI)) (by rw [and_pairI (hb.bars p hp).1 (hb.bars p hp).2.1 (hb.bars p hp).2.2]), fun _ => ev_var rfl⟩)) ?_
      refine go_ifret (et_test (ev_op (ev_var rfl) (EvN.ev (en_lst (ds := []) ea_nil (by decide))) (er_neD (shaped_int2 fun d hd => by
        obtain ⟨p, _, rfl⟩ := List.mem_map.mp hd
        exact ⟨_, rfl⟩) shaped_nil))) (fun e2 => ?_) (fun e2 => ?_)
      · rw [eqv_nil, List.isEmpty_map] at e2
        cases z : b.barred S with
        | nil =>
          unfold Lb.barred at z
          rw [z] at e2
          cases e2
        | cons p l =>
          have z2 : (b.bars.filter fun p => decide (p.1 ∈ S) && decide (p.2 ∈ S)) = p :: l := z
          rw [z2]
          have hp : p ∈ b.barred S := by rw [z]; exact List.mem_cons_self
          obtain ⟨hpb, hps⟩ := List.mem_filter.mp hp
          simp only [Bool.and_eq_true, decide_eq_true_eq] at hps
          obtain ⟨hb1, hb2, hb3⟩ := hb.bars p hpb
          obtain ⟨x, y, hxy, hyn, hyS⟩ : ∃ x y, b.order [p.1, p.2] = [x] ++ [y] ∧ y ∈ b.names ∧ y ∈ S := by
            rcases order_pair hb hpb with q | q
            · exact ⟨_, _, q, hb2, hps.2⟩
            · exact ⟨_, _, q, hb1, hps.1⟩
          have eg : b.gone S = [y] := by
            unfold Lb.gone
            rw [if_neg e1, z]
            show (b.order [p.1, p.2]).drop 1 = [y]
            rw [hxy]
            rfl
          refine go_retp (ev_is (ev_op (ev_var rfl) (fld_bit W (x := y) hyn rfl (ev_op (ev_call (ea_cons (ev_var rfl) (ea_cons (ev_is (ev_op (ev_var rfl) ev_int (er_ixL (d := PyData.int ((b.bit p.1 : Int) + (b.bit p.2 : Int))) (atI_nat (j := 0) rfl))) (by rw [msk_two hb3])) ea_nil)) ⟨b, [p.1, p.2], hb, rfl, rfl⟩) (ev_neg ev_int) (er_ixL (d := .str y) ?_))) er_sub) ?_) rfl
          · rw [hxy]
            exact atI_last [PyData.str x] (PyData.str y)
          · rw [msk_one, nx eg fun x hx => by rw [List.mem_singleton.mp hx]; exact hyS]
      · rw [eqv_nil, List.isEmpty_map] at e2
        have z : b.barred S = [] := by
          unfold Lb.barred
          exact List.isEmpty_iff.mp (by simpa using e2)
        have eg0 : b.gone S = if b.sizeLet S < (S.length : Int) then S.drop (S.length - 1) else [] := by
          unfold Lb.gone
          rw [if_neg e1, z]
        refine go_retp (ev_if (et_test (ev_op (ev_call (ea_cons (ev_var rfl) ea_nil) ⟨b.names.map fun x => decide (x ∈ S), rfl, rfl⟩) (ev_call (ea_cons (ev_var rfl) (ea_cons (ev_var rfl) ea_nil)) ⟨b, S, hb, rfl, rfl⟩) er_gt)) (fun e3 => ?_) (fun e3 => ?_)) rfl
        · rw [size_msk hb hS] at e3
          have hlt := of_decide_eq_true e3
          have h0 := size_nonneg hb S
          obtain ⟨S0, y, rfl⟩ : ∃ S0 y, S = S0 ++ [y] := by
            rcases List.eq_nil_or_concat S with q | ⟨S0, y, q⟩
            · subst q
              exact absurd hlt (by show ¬ b.sizeLet [] < 0; omega)
            · exact ⟨S0, y, by rw [q, List.concat_eq_append]⟩
          have hy : y ∈ S0 ++ [y] := by simp
          have eg : b.gone (S0 ++ [y]) = [y] := by
            rw [eg0, if_pos hlt, List.length_append]
            show (S0 ++ [y]).drop (S0.length + 1 - 1) = [y]
            rw [Nat.add_sub_cancel, List.drop_left]
          refine ev_is (ev_op (ev_var rfl) (fld_bit W (x := y) (hS.subset hy) rfl (ev_op (ev_var rfl) (ev_neg ev_int) (er_ixL (d := .str y) ?_))) er_sub) ?_
          · show atI (tStrs (S0 ++ [y])) (-1) = _
            unfold tStrs
            rw [List.map_append]
            exact atI_last (S0.map PyData.str) (PyData.str y)
          · rw [msk_one, nx eg fun x hx => by rw [List.mem_singleton.mp hx]; exact hy]
        · rw [size_msk hb hS] at e3
          have eg : b.gone S = [] := by
            rw [eg0, if_neg (of_decide_eq_false e3)]
          exact ev_is (ev_var rfl) (by rw [next_of_gone_nil (by rw [eg]; rfl)])
def F_fallen (ds : List Dd) (d : Dd) : Prop := ∃ (b : Lb) (S : List Str), b.Ok ∧ S.Sublist b.names ∧ ds = [.ins b.fields, .py (.int (b.msk S : Int))] ∧ d = .py (.int (b.msk (b.fallen S) : Int))
theorem c_fallen (W : Wt T mg) : Cal P w T.K mg base 4 "fallen" (spF T F_fallen) [] := by
  refine cal_pure (k := 3) W.fn_fallen sc_fallen bn_fallen F_fallen (fun ds d h => ?_) (fun f cdv A outer s H E hr => ⟨_, (pss_cons (ps_set (i := 2) sc_fallen.nd rfl (Or.inl rfl) (pe_c (c_fallen_once W) hr (by decide) (by rfl) (pa_cons (pv 0) (pa_cons (pv 1) pa_nil))))
      (pss_cons (ps_while PassesOwn.never (pt_cmpR op_ne (pv 2) (pv 1) (nomark _)) (pss_one (ps_par (i := 1) (j := 2) (by rfl) sc_fallen.nd rfl rfl (by decide) rfl rfl (pa_cons (pv 2) (pa_cons (pe_c (c_fallen_once W) hr (by decide) (by rfl) (pa_cons (pv 0) (pa_cons (pv 2) pa_nil))) pa_nil)) (by rfl))))
      (pss_one (ps_ret (pv 1))))), fun ds d h => ?_⟩)
  · obtain ⟨b, S, hb, hS, rfl, rfl⟩ := h
    exact ⟨rfl, rfl, rfl⟩
  · obtain ⟨b, S0, hb, hS0, rfl, rfl⟩ := h
    refine go_letp (ev_call (ea_cons (ev_var rfl) (ea_cons (ev_var rfl) ea_nil)) ⟨b, S0, hb, hS0, rfl, rfl⟩) ?_
    refine go_seq (N1 := fun ρ' o => ∃ y2, o = [] ∧ ρ' = [some (.ins b.fields), some (.py (.int (b.msk (b.fallen S0) : Int))), y2]) ?_ (fun ρ' o ⟨y2, e1, e2⟩ => by
      subst e1 e2
      exact go_retp (ev_var rfl) rfl)
    refine go_whilep (fun m ρ' => ∃ S, S.Sublist b.names ∧ b.fallen S0 = b.fallN m S ∧ S.length ≤ m ∧ ρ' = [some (.ins b.fields), some (.py (.int (b.msk S : Int))), some (.py (.int (b.msk (b.next S) : Int)))]) S0.length ⟨S0, hS0, rfl, Nat.le_refl _, rfl⟩ ?_
    rintro m ρ1 ⟨S, hS, hf, hm, rfl⟩
    have hnS := (next_sublist b S).trans hS
    refine ⟨_, et_test (ev_op (ev_var rfl) (ev_var rfl) er_neI), fun e => ?_, fun e => ?_⟩
    · have hne : b.next S ≠ S := fun z => by
        rw [z, decide_eq_true rfl] at e
        cases e
      have hg : (b.gone S).isEmpty = false := by
        cases z : (b.gone S).isEmpty with
        | true => exact absurd (next_of_gone_nil z) hne
        | false => rfl
      have hsh := next_shorter hb hg
      refine go_par (ea_cons (ev_var rfl) (ea_cons (ev_call (ea_cons (ev_var rfl) (ea_cons (ev_var rfl) ea_nil)) ⟨b, b.next S, hb, hnS, rfl, rfl⟩) ea_nil)) ⟨rfl, m - 1, by omega, b.next S, hnS, ?_, by omega, rfl⟩
      rw [hf]
      cases m with
      | zero => omega
      | succ m =>
        show (if (b.gone S).isEmpty = true then S else b.fallN m (b.next S)) = b.fallN m (b.next S)
        rw [if_neg (by rw [hg]; exact Bool.false_ne_true)]
    · have heq : (b.msk (b.next S) : Int) = (b.msk S : Int) := by
        cases z : decide ((b.msk (b.next S) : Int) = (b.msk S : Int)) with
        | true => exact of_decide_eq_true z
        | false =>
          rw [z] at e
          cases e
      have hns : b.next S = S := msk_inj hb hnS hS (Int.natCast_inj.mp heq)
      have hg : (b.gone S).isEmpty = true := by
        cases z : (b.gone S).isEmpty with
        | true => rfl
        | false =>
          have := next_shorter hb z
          rw [hns] at this
          omega
      refine ⟨some (.py (.int (b.msk (b.next S) : Int))), rfl, ?_⟩
      rw [hf, fallN_fix hg]
def F_regrown (ds : List Dd) (d : Dd) : Prop := ∃ (b : Lb) (S : List Str), b.Ok ∧ S.Sublist b.names ∧ ds = [.ins b.fields, .py (.int (b.msk S : Int))] ∧ d = .py (.int (b.msk (b.regrown S) : Int))
theorem c_regrown (W : Wt T mg) : Cal P w T.K mg base 4 "regrown" (spF T F_regrown) [] := by
  refine cal_pure (k := 3) W.fn_regrown sc_regrown bn_regrown F_regrown (fun ds d h => ?_) (fun f cdv A outer s H E hr => ⟨_, (pss_cons (ps_asg (pe_tup (pa_cons pe_int (pa_cons pe_bl pa_nil))) (kg_tup T.K rfl (pgs_cons (pg_name (i := 2) sc_regrown.nd rfl (Or.inl rfl)) (pgs_cons (pg_name (i := 3) sc_regrown.nd rfl (Or.inl rfl)) pgs_nil))))
      (pss_cons (ps_while PassesOwn.never (pt_val (pv 3)) (pss_cons (ps_set (i := 3) sc_regrown.nd rfl (Or.inl rfl) pe_bl)
      (pss_one (ps_for PassesOwn.never rfl (ki_list T.K (pe_c (c_names_in W) hr (by decide) (by rfl) (pa_cons (pv 0) (pa_cons (pe_op op_sub (pv 1) (pv 2)) pa_nil)))) (pg_name (i := 4) sc_regrown.nd rfl (Or.inl rfl)) (pss_one (ps_if (PW.pt (pw_and (pt_not (pt_val (pv 3))) (pw_and1 (pt_val (pe_c (c_does_hold W) hr (by decide) (by rfl) (pa_cons (pv 0) (pa_cons (pe_op op_add (pv 2) (pe_dget (hu_of hr) (kfld T.K (pv 0) rfl) (pv 4) (fun _ _ => rfl))) pa_nil))))))) (pss_cons (ps_aug (i := 2) sc_regrown.nd rfl (Or.inl rfl) (pe_dget (hu_of hr) (kfld T.K (pv 0) rfl) (pv 4) (fun _ _ => rfl)) ip_add)
      (pss_one (ps_set (i := 3) sc_regrown.nd rfl (Or.inl rfl) pe_bl))) pss_nil))))))
      (pss_one (ps_ret (pv 2))))), fun ds d h => ?_⟩)
  · obtain ⟨b, S, hb, hS, rfl, rfl⟩ := h
    exact ⟨rfl, rfl, rfl⟩
  · obtain ⟨b, S, hb, hS, rfl, rfl⟩ := h
    have h5 := sub_len hb hS
    refine go_seq (N1 := fun ρ' o => o = [] ∧ ρ' = [some (.ins b.fields), some (.py (.int (b.msk S : Int))), some (.py (.int 0)), some (.py (.bool true)), none]) (go_asgG (vs := [2, 3]) (S := fun d o => d = .py (.tuple [.int 0, .bool true]) ∧ o = []) (Ev.w (ev_tup (ds := [.int 0, .bool true]) (ea_cons ev_int (ea_cons ev_bl ea_nil)) (by show 2 ≤ 1000; decide)) ⟨rfl, rfl⟩) fun d o ⟨e1, e2⟩ => by
      subst e1 e2
      exact ⟨_, eg_two (by decide) (by decide), rfl, rfl⟩) fun ρ' o ⟨e1, e2⟩ => ?_
    subst e1 e2
    refine go_seq (N1 := fun ρ' o => ∃ y3 y4, o = [] ∧ ρ' = [some (.ins b.fields), some (.py (.int (b.msk S : Int))), some (.py (.int (b.msk (b.regrown S) : Int))), y3, y4]) ?_ (fun ρ' o ⟨y3, y4, e1, e2⟩ => by
      subst e1 e2
      exact go_retp (ev_var rfl) rfl)
    refine go_whilep (fun m ρ' => ∃ (F : List Str) (k : Nat) (fl : Bool) (y4 : Option Dd), F = b.growN S k [] ∧ F.length = k ∧ F.Sublist b.names ∧ (∀ x ∈ F, x ∈ S) ∧ (fl = false → b.can S F = []) ∧ m = (if fl = true then S.length + 1 - k else 0) ∧ ρ' = [some (.ins b.fields), some (.py (.int (b.msk S : Int))), some (.py (.int (b.msk F : Int))), some (.py (.bool fl)), y4]) (S.length + 1) ⟨[], 0, true, none, rfl, rfl, List.nil_sublist _, (fun x h => nomatch h), (fun z => nomatch z), rfl, by rw [msk_nil]; rfl⟩ ?_
    rintro m ρ1 ⟨F, k, fl, y4, hF, hk, hFs, hFS, hfl, hm, rfl⟩
    refine ⟨fl, et_b (ev_var rfl), fun e => ?_, fun e => ?_⟩
    · subst e
      have hkS := sub_le hb hS hFs hFS
      refine go_letp ev_bl ?_
      have hL : (S.filter fun x => !decide (x ∈ F)).Sublist b.names := List.filter_sublist.trans hS
      have hLl := sub_len hb hL
      have hsubI : (b.msk S : Int) - (b.msk F : Int) = (b.msk (S.filter fun x => !decide (x ∈ F)) : Int) := msk_sub fun x _ h => hFS x h
      have hcan : b.can S F = (S.filter fun x => !decide (x ∈ F)).filter fun x => b.holds (b.order (F ++ [x])) := by
        unfold Lb.can
        rw [List.filter_filter]
        refine List.filter_congr fun x _ => ?_
        rw [Bool.and_comm]
      refine go_forp (vs := [4]) (S.filter fun x => !decide (x ∈ F)) PyData.str (fun i ρ' => ∃ y4, ρ' = [some (.ins b.fields), some (.py (.int (b.msk S : Int))), some (.py (.int (b.msk (b.order (F ++ ((((S.filter fun x => !decide (x ∈ F)).take i).filter fun x => b.holds (b.order (F ++ [x]))).take 1))) : Int))), some (.py (.bool (!(((S.filter fun x => !decide (x ∈ F)).take i).filter fun x => b.holds (b.order (F ++ [x]))).isEmpty))), y4]) (ei_list (ev_is (ev_call (ea_cons (ev_var rfl) (ea_cons (ev_is (ev_op (ev_var rfl) (ev_var rfl) er_sub) (by rw [hsubI])) ea_nil)) ⟨b, _, hb, rfl, rfl⟩) (by rw [order_of_sublist hb hL]; rfl))) ⟨_, by
        show _ = [_, _, some (Dd.py (.int (b.msk (b.order (F ++ [])) : Int))), _, _]
        rw [List.append_nil, order_of_sublist hb hFs]
        rfl⟩ ?_ ?_
      · rintro i x ρ1 hx ⟨y4, rfl⟩
        have et := take_succ_of hx
        have hxL := List.mem_of_getElem? hx
        have hxS := (List.mem_filter.mp hxL).1
        have hxF : x ∉ F := by
          have := (List.mem_filter.mp hxL).2
          simpa using this
        have hxn := hS.subset hxS
        refine ⟨_, eg_name (by decide), ?_⟩
        rw [et, List.filter_append]
        cases z : ((S.filter fun x => !decide (x ∈ F)).take i).filter fun x => b.holds (b.order (F ++ [x])) with
        | cons c l =>
          exact go_if (et_and (c := false) (et_not (et_b (ev_var rfl))) (fun h => by cases h)) (fun e => by cases e) (fun e => go_next ⟨rfl, _, rfl⟩)
        | nil =>
          have hadd : (b.msk F : Int) + (b.bit x : Int) = (b.msk (b.order (F ++ [x])) : Int) := by
            rw [msk_order, msk_add hxF]
          have e0 : b.order (F ++ List.take 1 ([] : List Str)) = F := by
            show b.order (F ++ []) = F
            rw [List.append_nil, order_of_sublist hb hFs]
          rw [e0]
          refine go_if (et_and (et_not (et_b (ev_var rfl))) (fun _ => et_b (ev_call (ea_cons (ev_var rfl) (ea_cons (ev_is (ev_op (ev_var rfl) (fld_bit W hxn rfl (ev_var rfl)) er_add) (by rw [hadd])) ea_nil)) ⟨b, b.order (F ++ [x]), hb, order_sublist b _, rfl, rfl⟩))) (fun e => ?_) (fun e => ?_)
          · have e : b.holds (b.order (F ++ [x])) = true := e
            refine go_augp (a := (b.msk F : Int)) (c := (b.bit x : Int)) rfl (fld_bit W hxn rfl (ev_var rfl)) (go_asgp ev_bl ⟨rfl, some (.py (.str x)), ?_⟩)
            rw [List.nil_append, List.filter_cons, if_pos e, List.filter_nil, hadd]
            rfl
          · have e : b.holds (b.order (F ++ [x])) = false := e
            refine go_next ⟨rfl, some (.py (.str x)), ?_⟩
            rw [List.nil_append, List.filter_cons, if_neg (by rw [e]; exact Bool.false_ne_true), List.filter_nil, e0]
            rfl
      · rintro ρ1 ⟨y4, rfl⟩
        rw [List.take_length, ← hcan]
        cases z : b.can S F with
        | nil =>
          refine ⟨rfl, 0, by rw [hm, if_pos rfl]; omega, F, k, false, y4, hF, hk, hFs, hFS, fun _ => z, rfl, ?_⟩
          show [_, _, some (Dd.py (.int (b.msk (b.order (F ++ [])) : Int))), _, _] = _
          rw [List.append_nil, order_of_sublist hb hFs]
          rfl
        | cons c l =>
          have hc : c ∈ b.can S F := by rw [z]; exact List.mem_cons_self
          obtain ⟨hcS, hcc⟩ := List.mem_filter.mp hc
          rw [Bool.and_eq_true] at hcc
          have hcF : c ∉ F := by simpa using hcc.1
          have hg1 : b.grow1 S F = b.order (F ++ [c]) := by
            unfold Lb.grow1
            rw [z]
            rfl
          have hl1 := order_cons hb hFs (hS.subset hcS) hcF
          have hle1 : (b.order (F ++ [c])).length ≤ S.length := sub_le hb hS (order_sublist b _) fun x hx => by
            rcases List.mem_append.mp (mem_order.mp hx).2 with q | q
            · exact hFS x q
            · rw [List.mem_singleton.mp q]
              exact hcS
          refine ⟨rfl, S.length + 1 - (k + 1), by rw [hm, if_pos rfl]; omega, b.order (F ++ [c]), k + 1, true, y4, ?_, by omega, order_sublist b _, fun x hx => ?_, fun q => (nomatch q), rfl, rfl⟩
          · rw [growN_succ, ← hF, hg1]
          · rcases List.mem_append.mp (mem_order.mp hx).2 with q | q
            · exact hFS x q
            · rw [List.mem_singleton.mp q]
              exact hcS
    · subst e
      have hz := hfl rfl
      have hfix := grow1_nil hb hFs hz
      have hkS := sub_le hb hS hFs hFS
      have er : b.regrown S = F := by
        unfold Lb.regrown
        have e1 : S.length = k + (S.length - k) := by omega
        rw [e1, growN_add, ← hF]
        exact growN_fix hfix _
      exact ⟨some (.py (.bool false)), y4, rfl, by rw [er]⟩
def F_carried_mask (ds : List Dd) (d : Dd) : Prop := ∃ (b : Lb) (S : List Str) (k : Str), b.Ok ∧ ds = [.ins b.fields, .py (.tuple (tStrs S)), .py (.str k)] ∧ d = .py (.int (b.msk (b.carried S k) : Int))
theorem c_carried_mask (W : Wt T mg) : Cal P w T.K mg base 5 "carried_mask" (spF T F_carried_mask) [] := by
  refine cal_pure (k := 4) W.fn_carried_mask sc_carried_mask bn_carried_mask F_carried_mask (fun ds d h => ?_) (fun f cdv A outer s H E hr => ⟨_, (pss_cons (ps_set (i := 3) sc_carried_mask.nd rfl (Or.inl rfl) (pe_c (c_mask_of W) hr (by decide) (by rfl) (pa_cons (pv 0) (pa_cons (pe_c (c_in_order W) hr (by decide) (by rfl) (pa_cons (pv 0) (pa_cons (pv 1) pa_nil))) pa_nil))))
      (pss_cons (ps_if (pt_cmpR op_eq (pv 2) pe_str (nomark _)) (pss_one (ps_ret (pv 3))) pss_nil)
      (pss_one (ps_ret (pe_ifExp (pt_cmpR op_eq (pv 2) pe_str (nomark _)) (pe_c (c_fallen W) hr (by decide) (by rfl) (pa_cons (pv 0) (pa_cons (pv 3) pa_nil))) (pe_c (c_regrown W) hr (by decide) (by rfl) (pa_cons (pv 0) (pa_cons (pv 3) pa_nil)))))))), fun ds d h => ?_⟩)
  · obtain ⟨b, S, k, hb, rfl, rfl⟩ := h
    exact ⟨rfl, rfl, rfl⟩
  · obtain ⟨b, S, k, hb, rfl, rfl⟩ := h
    have ho := order_sublist b S
    refine go_letp (ev_call (ea_cons (ev_var rfl) (ea_cons (ev_call (ea_cons (ev_var rfl) (ea_cons (ev_var rfl) ea_nil)) ⟨b, S, hb, rfl, rfl⟩) ea_nil)) ⟨b, b.order S, hb, ho, rfl, rfl⟩) ?_
    refine go_ifret (et_test (ev_op (ev_var rfl) ev_str er_eqS)) (fun e => go_retp (ev_var rfl) ?_) (fun e => go_retp (ev_if (et_test (ev_op (ev_var rfl) ev_str er_eqS)) (fun e2 => ev_is (ev_call (ea_cons (ev_var rfl) (ea_cons (ev_var rfl) ea_nil)) ⟨b, b.order S, hb, ho, rfl, rfl⟩) ?_) (fun e2 => ev_is (ev_call (ea_cons (ev_var rfl) (ea_cons (ev_var rfl) ea_nil)) ⟨b, b.order S, hb, ho, rfl, rfl⟩) ?_)) rfl)
    · unfold Lb.carried
      rw [if_pos (of_decide_eq_true e)]
    · unfold Lb.carried
      rw [if_neg (of_decide_eq_false e), if_pos (of_decide_eq_true e2)]
    · unfold Lb.carried
      rw [if_neg (of_decide_eq_false e), if_neg (of_decide_eq_false e2)]
def F_carried (ds : List Dd) (d : Dd) : Prop := ∃ (b c : Lb) (S : List Str) (k : Str), b.Ok ∧ c.Ok ∧ S.Sublist b.names ∧ b.holds S = true ∧ k ∈ kinds ∧ ds = [.ins b.fields, .ins c.fields, .py (.tuple (tStrs S)), .py (.str k)] ∧ d = .py (.tuple (tStrs (c.carried S k)))
theorem c_carried (W : Wt T mg) : Cal P w T.K mg base 6 "carried" (spF T F_carried) [] := by
  refine cal_pure (k := 5) W.fn_carried sc_carried bn_carried F_carried (fun ds d h => ?_) (fun f cdv A outer s H E hr => ⟨_, (pss_cons (ps_expr (pe_c (c_look_at_good W) hr (by decide) (by rfl) (pa_cons (pv 0) (pa_cons (pv 2) pa_nil))))
      (pss_cons (ps_expr (pe_c (c_look_at_kind W) hr (by decide) (by rfl) (pa_cons (pv 3) pa_nil)))
      (pss_one (ps_ret (pe_c (c_build_by W) hr (by decide) (by rfl) (pa_cons (pv 1) (pa_cons (pe_c (c_carried_mask W) hr (by decide) (by rfl) (pa_cons (pv 1) (pa_cons (pv 2) (pa_cons (pv 3) pa_nil)))) pa_nil))))))), fun ds d h => ?_⟩)
  · obtain ⟨b, c, S, k, hb, hc, hS, hh, hk, rfl, rfl⟩ := h
    exact ⟨rfl, rfl, rfl⟩
  · obtain ⟨b, c, S, k, hb, hc, hS, hh, hk, rfl, rfl⟩ := h
    refine go_andthen (go_dropp (d := .py .none) (ev_call (ea_cons (ev_var rfl) (ea_cons (ev_var rfl) ea_nil)) ⟨b, S, hb, hS, hh, rfl, rfl⟩) ⟨rfl, rfl⟩) ?_
    refine go_andthen (go_dropp (d := .py .none) (ev_call (ea_cons (ev_var rfl) ea_nil) ⟨k, hk, rfl, rfl⟩) ⟨rfl, rfl⟩) ?_
    exact go_retp (ev_is (ev_call (ea_cons (ev_var rfl) (ea_cons (ev_call (ea_cons (ev_var rfl) (ea_cons (ev_var rfl) (ea_cons (ev_var rfl) ea_nil))) ⟨c, S, k, hc, rfl, rfl⟩) ea_nil)) ⟨c, c.carried S k, hc, rfl, rfl⟩) (by rw [order_of_sublist hc (carried_sub hc S k)])) rfl
def F_lost (ds : List Dd) (d : Dd) : Prop := ∃ (b c : Lb) (S : List Str) (k : Str), b.Ok ∧ c.Ok ∧ S.Sublist b.names ∧ b.holds S = true ∧ k ∈ kinds ∧ ds = [.ins b.fields, .ins c.fields, .py (.tuple (tStrs S)), .py (.str k)] ∧ d = .py (.list (tStrs (S.filter fun x => !decide (x ∈ c.carried S k))))
theorem c_lost (W : Wt T mg) : Cal P w T.K mg base 7 "lost" (spF T F_lost) [] := by
  refine cal_pure (k := 6) W.fn_lost sc_lost bn_lost F_lost (fun ds d h => ?_) (fun f cdv A outer s H E hr => ⟨_, (pss_cons (ps_set (i := 4) sc_lost.nd rfl (Or.inr rfl) (pe_c (c_carried W) hr (by decide) (by rfl) (pa_cons (pv 0) (pa_cons (pv 1) (pa_cons (pv 2) (pa_cons (pv 3) pa_nil))))))
      (pss_one (ps_ret (pe_lc (own := [("name", 5)]) (g := gName 5) (tt := _) rfl sc_lost.nd  (ki_tup T.K (pv 2)) (blkOk_by (own := [("name", 5)]) (N := N_lost) (sc := defScope s_lost) (by decide +kernel)) (fun _ _ _ _ _ => (pg_name (i := 5) sc_lost.nd rfl (Or.inl rfl))) (fun _ _ _ _ _ => pts_one (pt_cmpR (r := rIn T.K true) op_notIn_seq (pv 5) (pv 4) (by rfl))) (fun _ _ _ _ _ => (pv 5)))))), fun ds d h => ?_⟩)
  · obtain ⟨b, c, S, k, hb, hc, hS, hh, hk, rfl, rfl⟩ := h
    exact ⟨rfl, rfl, rfl⟩
  · obtain ⟨b, c, S, k, hb, hc, hS, hh, hk, rfl, rfl⟩ := h
    have h5 := sub_len hb hS
    refine go_letp (ev_call (ea_cons (ev_var rfl) (ea_cons (ev_var rfl) (ea_cons (ev_var rfl) (ea_cons (ev_var rfl) ea_nil)))) ⟨b, c, S, k, hb, hc, hS, hh, hk, rfl, rfl⟩) ?_
    exact go_retp (EvN.ev (en_lc (xs := S) (enc := PyData.str) (fun x => !decide (x ∈ c.carried S k)) PyData.str (ei_tup (ev_var rfl)) (by omega) fun x hx => ⟨_, eg_name (by decide), et_test (ev_op (ev_var rfl) (ev_var rfl) er_niT), fun _ => ev_var rfl⟩)) rfl
end
end Rt
/-! the search: readings of an instance that holds a dict that is changed; what is reached -/
namespace Rt
open PySem PySem.Spec PyProof.Rows L2
open C8 (Cal Met Mak pe_c pe_mt pe_mt0 pe_mk)
section
variable {T : Tx} {te ta tb tv td ty : TE} {tt tu : TT} {ρ ρ' : En} {ω : List Ow} {d x y z : Dd} {r : R2} {S : Dd → List Ow → Prop} {b : Nat} {N N1 : En → List Ow → Prop} {R : Dd → List Ow → Prop} {t1 t2 ts : TS} {wi : TI} {g : TG} {vs : List Nat} {tas tks : TA} {fs : List (Str × Fl)} {goal : Int}
theorem ev_groB (h : Ev T ta ρ (.gro fs goal)) (c : Cls T.K T.CG) (n : NoAttr T.K T.CG "book") : Ev T (tFld T.K ta "book") ρ (.ins fs) := fun as σ G H e g Q q => h as σ G H e g _ fun v G2 H2 s r => by
  obtain ⟨a, dx, vb, p, rfl, h1, h2, h3⟩ := r
  exact ⟨a, T.CG, dx, _, vb, rfl, s.gh _ _ h1, c, n, rfl, q vb G2 H2 s h3⟩
theorem ev_groG (h : Ev T ta ρ (.gro fs goal)) (c : Cls T.K T.CG) (n : NoAttr T.K T.CG "goal") : Ev T (tFld T.K ta "goal") ρ (.py (.int goal)) := fun as σ G H e g Q q => h as σ G H e g _ fun v G2 H2 s r => by
  obtain ⟨a, dx, vb, p, rfl, h1, h2, h3⟩ := r
  exact ⟨a, T.CG, dx, _, .int goal, rfl, s.gh _ _ h1, c, n, rfl, q _ G2 H2 s (.int _)⟩
theorem ev_groD (h : Ev T ta ρ (.gro fs goal)) (c : Cls T.K T.CG) (n : NoAttr T.K T.CG "dead") : Ev T (tFld T.K ta "dead") ρ (.own 0) := fun as σ G H e g Q q => h as σ G H e g _ fun v G2 H2 s r => by
  obtain ⟨a, dx, vb, p, rfl, h1, h2, h3⟩ := r
  exact ⟨a, T.CG, dx, _, .ref p, rfl, s.gh _ _ h1, c, n, rfl, q _ G2 H2 s ⟨p, h2, rfl⟩⟩
theorem ew_notin {k : Nat} {ky : Key} {kvs : List (Key × PyData)} (hy : Ev T ty ρ (.py (kD ky))) (hd : Ev T td ρ (.own k)) (ho : ω[k]? = some (.dic kvs)) (s : S (.py (.bool (!(valP kvs ky).isSome))) ω) : EvW T (tDNotIn ty td) ρ ω S := fun as σ G H e g w Q q => hy as σ G H e g _ fun v G1 H1 s1 r1 => hd as σ G1 H1 (e.up s1.gg) s1.gh _ fun u G2 H2 s2 r2 => by
  obtain ⟨p, h1, rfl⟩ := r2
  have w2 := w.step (s1.trans s2)
  obtain ⟨gp, ys, h3, h4⟩ := w2.ow k p _ h1 ho
  rw [kD_rep r1]
  refine ⟨p, _, rfl, DGet.k h3, ?_⟩
  have e : (valV ys ky).isSome = (valP kvs ky).isSome := by
    cases z : valP kvs ky with
    | none =>
      rw [(kvR_val h4).1 z]
      rfl
    | some d =>
      obtain ⟨v, e1, _⟩ := (kvR_val h4).2 d z
      rw [e1]
      rfl
  rw [e]
  exact q _ _ ω G2 H2 s (.bl _) w2 (Stq.any (s1.trans s2))
theorem go_dputO {k : Nat} {ky : Key} {x : PyData} {kvs : List (Key × PyData)} (hv : Ev T tv ρ (.py x)) (hd : Ev T td ρ (.own k)) (hk : Ev T ty ρ (.py (kD ky))) (ho : ω[k]? = some (.dic kvs)) (hl : kvs.length ≤ 1000) (n : N ρ (ω.set k (.dic (putD kvs ky x)))) : Go T (sDPut td ty tv) ρ b ω N R := fun as σ G H e g w D q _ => hv as σ G H e g _ fun v G1 H1 s1 r1 => hd as σ G1 H1 (e.up s1.gg) s1.gh _ fun u G2 H2 s2 r2 => hk as σ G2 H2 ((e.up s1.gg).up s2.gg) s2.gh _ fun y G3 H3 s3 r3 => by
  obtain ⟨p, h1, rfl⟩ := r2
  have st := (s1.trans s2).trans s3
  have w3 := w.step st
  obtain ⟨gp, ys, h3, h4⟩ := w3.ow k p _ h1 ho
  rw [kD_rep r3]
  refine ⟨p, _, rfl, DPut.k h3 (by rw [Paired.length h4]; exact Nat.lt_of_le_of_lt hl (by decide)), ?_⟩
  exact q as ρ _ σ G3 _ n (e.up st.gg) (w3.put h1 ⟨_, upd_same, kvR_put (Dq.up (s2.gg.trans s3.gg) r1) h4⟩) rfl ((Stq.any st).put (List.mem_of_getElem? h1) gp)
theorem ew_andI {i : Int} (h1 : Ev T ta ρ (.py (.int i))) (h2 : i ≠ 0 → EvW T tb ρ ω S) (h0 : i = 0 → S (.py (.int 0)) ω) : EvW T (tAndT T.K ta tb) ρ ω S := fun as σ G H e g w Q q => h1 as σ G H e g _ fun v G1 H1 s1 r1 => by
  rw [dq_int r1]
  refine ⟨i != 0, rfl, ?_⟩
  by_cases hi : i = 0
  · rw [if_neg (by simp [hi]), hi]
    exact q _ _ ω G1 H1 (h0 hi) (.int 0) (w.step s1) s1.any
  · rw [if_pos (by simp [hi])]
    exact h2 hi as σ G1 H1 (e.up s1.gg) s1.gh (w.step s1) Q fun v d o G2 H2 h r w2 s2 => q v d o G2 H2 h r w2 (s1.any.trans s2)
theorem ew_andB {c : Bool} (h1 : Ev T ta ρ (.py (.bool c))) (h2 : c = true → EvW T tb ρ ω S) (h0 : c = false → S (.py (.bool false)) ω) : EvW T (tAndT T.K ta tb) ρ ω S := fun as σ G H e g w Q q => h1 as σ G H e g _ fun v G1 H1 s1 r1 => by
  rw [dq_bl r1]
  refine ⟨c, rfl, ?_⟩
  cases c with
  | false =>
    rw [if_neg Bool.false_ne_true]
    exact q _ _ ω G1 H1 (h0 rfl) (.bl false) (w.step s1) s1.any
  | true =>
    rw [if_pos rfl]
    exact h2 rfl as σ G1 H1 (e.up s1.gg) s1.gh (w.step s1) Q fun v d o G2 H2 h r w2 s2 => q v d o G2 H2 h r w2 (s1.any.trans s2)
theorem et_truthB {c : Bool} (h : Ev T te ρ (.py (.bool c))) : EvT T (tTruth T.K te) ρ c := et_trub h
/-! ### promises -/
def spG (T : Tx) (F : List Dd → Ow → (Dd → Ow → Prop) → Prop) : Sp := fun vs H Q _ => ∃ p ds o S G, F ds o S ∧ RepL T [p] G ds vs ∧ Same G H ∧ Own T [p] [o] G H ∧ ∀ v d o' G2 H2, S d o' → Rep T [p] G2 d v → Own T [p] [o'] G2 H2 → Stp [p] [p] G H G2 H2 → Q v H2
theorem gro_move {as : List Addr} {p : Addr} {G : Hp} {v : V} {es : List Addr} (e : as = p :: es) (h : Rep T as G (.gro fs goal) v) : Rep T [p] G (.gro fs goal) v := by
  subst e
  obtain ⟨a, dx, vb, q, h1, h2, h3, h4⟩ := h
  cases Option.some.inj h3
  exact ⟨a, dx, vb, p, h1, h2, rfl, h4⟩
theorem own_head {p : Addr} {es : List Addr} {o : Ow} {ω' : List Ow} {G H : Hp} (w1 : Own T (p :: es) (o :: ω') G H) : Own T [p] [o] G H := ⟨by simp, rfl, fun k a u f1 f2 => by
  cases k with
  | zero =>
    cases Option.some.inj f1
    cases Option.some.inj f2
    exact w1.ow 0 p o rfl rfl
  | succ k => simp at f1⟩
theorem stp_head {p : Addr} {es : List Addr} {G H G2 H2 : Hp} (s2 : Stp [p] [p] G H G2 H2) : Stp (p :: es) (p :: es) G H G2 H2 := ⟨s2.gg, s2.gh, fun a u n h => s2.hh a u (fun z => n (by rw [List.mem_singleton.mp z]; exact List.mem_cons_self)) h, s2.ha, fun a n g h => s2.fr a (fun z => n (by rw [List.mem_singleton.mp z]; exact List.mem_cons_self)) g h, fun _ h n => absurd h n⟩
theorem own_back {p : Addr} {es : List Addr} {o o' : Ow} {ω' : List Ow} {G H G2 H2 : Hp} (w1 : Own T (p :: es) (o :: ω') G H) (w2 : Own T [p] [o'] G2 H2) (s2 : Stp [p] [p] G H G2 H2) : Own T (p :: es) (o' :: ω') G2 H2 := ⟨w1.nd, by rw [List.length_cons]; exact w1.len, fun k a u f1 f2 => by
  have hnd : p ∉ es := (List.nodup_cons.mp w1.nd).1
  cases k with
  | zero =>
    cases Option.some.inj f1
    cases Option.some.inj f2
    exact w2.ow 0 p o' rfl rfl
  | succ k =>
    have hm : a ∈ es := List.mem_of_getElem? (show es[k]? = some a from f1)
    have hne : a ∉ [p] := fun z => hnd (by rw [← List.mem_singleton.mp z]; exact hm)
    obtain ⟨g1, o1⟩ := w1.ow (k + 1) a u f1 f2
    exact ⟨s2.fr a hne g1 o1.there, o1.up s2.gg fun v hv => s2.hh a v hne hv⟩⟩
theorem ew_methG {F : List Dd → Ow → (Dd → Ow → Prop) → Prop} {E : XK} {m : Str} {ds : List Dd} {o : Ow} {ω' : List Ow} {S1 : Dd → Ow → Prop} (h : Ev T ta ρ (.gro fs goal)) (hm : ∀ u v w : V, List.lookup m [("book", u), ("goal", v), ("dead", w)] = none) (ha : EvA T tas ρ ds) (hf : ds.all Dd.free = true) (hF : F (.gro fs goal :: ds) o S1) (k : ∀ d o', S1 d o' → d.free = true ∧ S d (o' :: ω')) : EvW T (tMeth T.CG m (spG T F) [] E ta tas) ρ (o :: ω') S := fun as σ G H e g w Q q => h as σ G H e g _ fun v G1 H1 s1 r1 => by
  have r1' := r1
  obtain ⟨a, dx, vb, p, rfl, h1, h2, h3⟩ := r1
  refine ⟨a, dx, _, rfl, s1.gh _ _ h1, hm _ _ _, ha as σ G1 H1 (e.up s1.gg) s1.gh _ fun us G2 H2 s2 r2 => ?_⟩
  rw [List.append_nil]
  have st := s1.trans s2
  have w2 := w.step st
  cases as with
  | nil => simp at h2
  | cons p' es =>
    cases Option.some.inj h2
    refine ⟨p, _, o, S1, G2, hF, .cons (gro_move rfl (Rep.up s2.gg r1')) (RepL.move hf r2), s2.gh, own_head w2, fun v d o' G3 H3 hS r3 w3 s3 => ?_⟩
    obtain ⟨hfr, hs⟩ := k d o' hS
    exact q v d (o' :: ω') G3 H3 hs (r3.move hfr) (own_back w2 w3 s3) (Stp.trans (Stq.any st) (stp_head s3))
end
section
variable {P : Program} {w : World} {T : Tx} {mg : Str → Option Value} {base : Heap}
theorem met_G {x qual : Str} {st : Stmt} {N ps : List Str} {k : Nat} (hc : Cls T.K T.CG) (hF : ∃ f fd, Meth T.K T.CG x f ∧ FunD T.K x qual (defArgs st) (defBody st) (defScope st) [] [] f fd) (S : FnScope N ps (defScope st)) (hb : BindM x qual st ps) (Fs : List Dd → Ow → (Dd → Ow → Prop) → Prop) (hl : ∀ ds o S, Fs ds o S → ds.length = ps.length)
    (body : ∀ (f : Addr) (cdv : Value) (A : Around) (outer : List Env) (s : Shared) (H : Hp) (E : XK), Room k (A.deeper (envOfC qual (defScope st) s.heap.objs.size f cdv)) →
      ∃ t, PSs (cxOf CX0 P w T.K mg base N qual (defScope st) f cdv A outer s H E).nox (defBody st) t ∧ ∀ ds o S, Fs ds o S → Go T t (startD N ds) 1 [o] (fun _ _ => False) (fun d' ω => ∃ o' ω', ω = o' :: ω' ∧ S d' o' ∧ d'.free = true)) : Met P w T.K mg base (k + 1) T.CG x (spG T Fs) [] := by
  obtain ⟨f, fd, M, F⟩ := hF
  refine ⟨f, fd, ps, [], hc, M, ?_, FunD.bindsN F hb, .nil⟩
  refine F.ok S (fun vs H Q E h => ?_) (fun cdv A outer s H vs Q E hr h => ?_)
  · obtain ⟨p, ds, o, S, G, hf, r, _⟩ := h
    rw [← Paired.length r]
    exact hl ds o S hf
  · obtain ⟨t, ht, go⟩ := body f cdv A outer s H E hr
    obtain ⟨p, ds, o, S, G, hf, r, sg, w0, q⟩ := h
    refine ⟨t, PSs.nox ht, ?_⟩
    refine go ds o S hf [p] (L2.start N vs) G H (start_rep r) sg w0 _ (fun as' ρ' o σ' G2 H2 n => n.elim) (fun as' d' ω v G2 H2 e r2 w2 tk s2 => ?_)
    obtain ⟨o', ω', rfl, hS, hfree⟩ := e
    have hp : ∃ es, as' = p :: es := by
      cases as' with
      | nil => cases w2.len
      | cons a es =>
        have tk' : [a] = [p] := tk
        cases tk'
        exact ⟨es, rfl⟩
    obtain ⟨es, rfl⟩ := hp
    exact q v d' o' G2 H2 hS (r2.move hfree) (own_head w2) ⟨s2.gg, s2.gh, s2.hh, s2.ha, s2.fr, fun _ h n => absurd h n⟩
/-- a def that changes nothing; what it hands back is told by a property -/
def spX (T : Tx) (F : List Dd → (Dd → Prop) → Prop) : Sp := fun vs H Q _ => ∃ as ds S G, F ds S ∧ RepL T as G ds vs ∧ Same G H ∧ ∀ v d G2 H2, S d → Stq G H G2 H2 → Rep T as G2 d v → Q v H2
theorem cal_px {x : Str} {st : Stmt} {N ps : List Str} {k : Nat} (hF : FnP T.K mg x st) (S : FnScope N ps (defScope st)) (hb : BindN x st ps) (Fs : List Dd → (Dd → Prop) → Prop) (hl : ∀ ds S, Fs ds S → ds.length = ps.length ∧ ds.all Dd.free = true)
    (body : ∀ (f : Addr) (cdv : Value) (A : Around) (outer : List Env) (s : Shared) (H : Hp) (E : XK), Room k (A.deeper (envOfC x (defScope st) s.heap.objs.size f cdv)) →
      ∃ t, PSs (cxOf CX0 P w T.K mg base N x (defScope st) f cdv A outer s H E).nox (defBody st) t ∧ ∀ ds S, Fs ds S → Go T t (startD N ds) 0 [] (fun _ _ => False) (fun d' _ => S d' ∧ d'.free = true)) : Cal P w T.K mg base (k + 1) x (spX T Fs) [] := by
  obtain ⟨f, fd, F, hm⟩ := hF
  refine ⟨f, fd, ps, [], ?_, hm, F.kp, FunD.bindsN F hb, .nil⟩
  refine F.ok S (fun vs H Q E h => ?_) (fun cdv A outer s H vs Q E hr h => ?_)
  · obtain ⟨as, ds, S, G, hf, r, _⟩ := h
    rw [← Paired.length r]
    exact (hl ds S hf).1
  · obtain ⟨t, ht, go⟩ := body f cdv A outer s H E hr
    obtain ⟨as, ds, S, G, hf, r, sg, q⟩ := h
    obtain ⟨_, fr⟩ := hl ds S hf
    refine ⟨t, PSs.nox ht, ?_⟩
    refine go ds S hf [] (L2.start N vs) G H (start_rep (RepL.move fr r)) sg .nil _ (fun as' ρ' o σ' G2 H2 n => n.elim) (fun as' d' o v G2 H2 ⟨hS, hfr⟩ r2 w2 tk s2 => ?_)
    have s3 : Stq G H G2 H2 := ⟨s2.gg, s2.gh, s2.hh, s2.ha, s2.fr, fun _ h => absurd h List.not_mem_nil⟩
    exact q v d' G2 H2 hS s3 (r2.move hfr)
theorem ew_callX {tas : TA} {ρ : En} {ω : List Ow} {F : List Dd → (Dd → Prop) → Prop} {E : XK} {ds : List Dd} {S0 : Dd → Prop} {S : Dd → List Ow → Prop} (h : EvA T tas ρ ds) (hF : F ds S0) (k : ∀ d, S0 d → S d ω) : EvW T (tCall (spX T F) [] E tas) ρ ω S := fun as σ G H e g w Q q => h as σ G H e g _ fun vs G1 H1 s1 r1 => by
  show spX T F (vs ++ []) H1 Q E
  rw [List.append_nil]
  exact ⟨as, ds, S0, G1, hF, r1, s1.gh, fun v d G2 H2 hS s2 r2 => q v d ω G2 H2 (k d hS) r2 (w.step (s1.trans s2)) (Stq.any (s1.trans s2))⟩
/-! ### a search made and run -/
/-- what Growth.__init__ does -/
def spGI (T : Tx) : Sp := fun vs H Q _ => ∃ (a dx : Addr) (vb : V) (g : Int), vs = [.ref a, vb, .int g] ∧ H a = some (.ins T.CG dx []) ∧ ∀ d H3, H3 = upd (upd H a (.ins T.CG dx [("book", vb)])) a (.ins T.CG dx [("book", vb), ("goal", .int g)]) → H3 d = none → Q .non (upd (upd H3 d (.dK [])) a (.ins T.CG dx [("book", vb), ("goal", .int g), ("dead", .ref d)]))
theorem ew_grow {tas t0 : TA} {ρ : En} {ω : List Ow} {F : List Dd → Ow → (Dd → Ow → Prop) → Prop} {E E' : XK} {m : Str} {fs : List (Str × Fl)} {goal : Int} {ds : List Dd} {S1 : Dd → Ow → Prop} {S : Dd → List Ow → Prop} (h : EvA T tas ρ [.ins fs, .py (.int goal)]) (h0 : EvA T t0 ρ ds) (hf : ds.all Dd.free = true) (hm : ∀ u v w : V, List.lookup m [("book", u), ("goal", v), ("dead", w)] = none) (hF : F (.gro fs goal :: ds) (.dic []) S1) (k : ∀ d o', S1 d o' → d.free = true ∧ S d ω) : EvW T (tMeth T.CG m (spG T F) [] E (tMake T.CG (spGI T) [] E' tas) t0) ρ ω S := fun as σ G H e g w Q q => h as σ G H e g _ fun vs G1 H1 s1 r1 => by
  cases r1 with
  | cons ra r1 =>
    cases r1 with
    | cons rb r1 =>
      cases r1
      rename_i vb vg
      have w1 := w.step s1
      intro a dx ha hdx hne
      rw [List.append_nil]
      refine ⟨a, dx, vb, goal, by rw [dq_int rb], upd_same, fun d H3 e3 hd => ⟨rfl, ?_⟩⟩
      -- the heap with the instance known, the dict owned
      have hda : d ≠ a := fun z => by
        subst z
        rw [e3, upd_same] at hd
        cases hd
      have hd0 : H1 d = none := by
        rw [e3, upd_ne hda, upd_ne hda, upd_ne hda] at hd
        by_cases z : d = dx
        · subst z
          rw [upd_same] at hd
          cases hd
        · rw [upd_ne z] at hd
          exact hd
      have hddx : d ≠ dx := fun z => by
        subst z
        rw [e3, upd_ne hda, upd_ne hda, upd_ne hda, upd_same] at hd
        cases hd
      have g1a : G1 a = none := s1.gh.free ha
      have g1d : G1 d = none := s1.gh.free hd0
      obtain ⟨HF, hHF⟩ : ∃ HF, HF = upd (upd H3 d (.dK [])) a (.ins T.CG dx [("book", vb), ("goal", .int goal), ("dead", .ref d)]) := ⟨_, rfl⟩
      have eHF : ∀ c, c ≠ a → c ≠ dx → c ≠ d → HF c = H1 c := fun c c1 c2 c3 => by
        rw [hHF, upd_ne c1, upd_ne c3, e3, upd_ne c1, upd_ne c1, upd_ne c1, upd_ne c2]
      have eHa : HF a = some (.ins T.CG dx [("book", vb), ("goal", .int goal), ("dead", .ref d)]) := by rw [hHF, upd_same]
      have eHd : HF d = some (.dK []) := by rw [hHF, upd_ne hda, upd_same]
      have eHx : HF dx = some (.own a) := by rw [hHF, upd_ne hne, upd_ne (Ne.symm hddx), e3, upd_ne hne, upd_ne hne, upd_ne hne, upd_same]
      rw [← hHF]
      obtain ⟨GF, hGF⟩ : ∃ GF, GF = upd G1 a (.ins T.CG dx [("book", vb), ("goal", .int goal), ("dead", .ref d)]) := ⟨_, rfl⟩
      have gg : Same G1 GF := hGF ▸ same_new g1a
      have gh : Same GF HF := fun c u hc => by
        by_cases z : c = a
        · subst z
          rw [hGF, upd_same] at hc
          cases hc
          exact eHa
        · rw [hGF, upd_ne z] at hc
          have hH := s1.gh _ _ hc
          rw [eHF c z (fun y => by subst y; rw [hH] at hdx; cases hdx) (fun y => by subst y; rw [hH] at hd0; cases hd0)]
          exact hH
      have keep : ∀ c u, H1 c = some u → HF c = some u := fun c u hc => by
        rw [eHF c (fun y => by subst y; rw [hc] at ha; cases ha) (fun y => by subst y; rw [hc] at hdx; cases hdx) (fun y => by subst y; rw [hc] at hd0; cases hd0)]
        exact hc
      have kh : ∀ c, H1 c ≠ none → HF c ≠ none := fun c hc => by
        cases z : H1 c with
        | none => exact absurd z hc
        | some u =>
          rw [keep c u z]
          intro y
          cases y
      have kf : ∀ c, c ∉ ([] : List Addr) → G1 c = none → H1 c ≠ none → GF c = none := fun c _ g1 h1 => by
        rw [hGF, upd_ne (fun y : c = a => by
          subst y
          exact h1 ha)]
        exact g1
      have sF : Stq G1 H1 GF HF := ⟨gg, gh, fun c u _ hc => keep c u hc, kh, kf, fun c hc _ => absurd hc List.not_mem_nil⟩
      have st := s1.trans sF
      refine ⟨a, dx, _, rfl, eHa, hm _ _ _, h0 as σ GF HF (e.up st.gg) gh _ fun us G4 H4 s4 r4 => ?_⟩
      rw [List.append_nil]
      have g4d : G4 d = none := s4.fr d List.not_mem_nil (by rw [hGF, upd_ne hda]; exact g1d) (by rw [eHd]; intro z; cases z)
      have h4d : H4 d = some (.dK []) := Stq.hs s4 _ _ eHd
      have st4 := st.trans s4
      have w4 := w.step st4
      have dnew : H d = none := by
        cases z : H d with
        | none => rfl
        | some u => exact absurd hd0 (s1.ha d (by rw [z]; intro y; cases y))
      have dnas : d ∉ as := fun hm => by
        obtain ⟨j, hj, e1⟩ := List.mem_iff_getElem.mp hm
        have hj2 : j < ω.length := by rw [← w.len]; exact hj
        exact ((w.ow j d ω[j] (by rw [List.getElem?_eq_getElem hj, e1]) (List.getElem?_eq_getElem hj2)).2.there) dnew
      refine ⟨d, _, .dic [], S1, G4, hF, .cons ⟨a, dx, vb, d, rfl, s4.gg _ _ (by rw [hGF, upd_same]), rfl, InsR.up (gg.trans s4.gg) ra⟩ (RepL.move hf r4), s4.gh, ⟨by simp, rfl, fun j c u f1 f2 => ?_⟩, fun v dd o' G5 H5 hS r5 w5 s5 => ?_⟩
      · cases j with
        | zero =>
          cases Option.some.inj f1
          cases Option.some.inj f2
          exact ⟨g4d, [], h4d, .nil⟩
        | succ j => simp at f1
      · obtain ⟨hfr, hs⟩ := k dd o' hS
        have nd' : ∀ c ∈ as, c ∉ [d] := fun c hc z => dnas (by rw [← List.mem_singleton.mp z]; exact hc)
        refine q v dd ω G5 H5 hs (r5.move hfr) ⟨w.nd, w.len, fun j c u f1 f2 => ?_⟩ ⟨st4.gg.trans s5.gg, s5.gh, fun c u hn hc => ?_, fun c hc => s5.ha c (st4.ha c hc), fun c hn gc hc => ?_, fun c hc hn => absurd hc hn⟩
        · have hne := nd' c (List.mem_of_getElem? f1)
          obtain ⟨g1, o1⟩ := w4.ow j c u f1 f2
          exact ⟨s5.fr c hne g1 o1.there, o1.up s5.gg fun v hv => s5.hh c v hne hv⟩
        · have hcd : c ≠ d := fun z => by subst z; rw [dnew] at hc; cases hc
          exact s5.hh c u (by simp [hcd]) (Stq.hs st4 _ _ hc)
        · have hcd : c ≠ d := fun z => by subst z; exact hc dnew
          exact s5.fr c (by simp [hcd]) (st4.fr c List.not_mem_nil gc hc) (st4.ha c hc)
end
/-! ### what is reached -/
inductive Reach (b : Lb) (S : List Str) : List Str → Prop
  | done : Reach b S S
  | step {F : List Str} {x : Str} : x ∈ S → x ∉ F → b.holds (b.order (F ++ [x])) = true → Reach b S (b.order (F ++ [x])) → Reach b S F
theorem growN_mem {b : Lb} (hb : b.Ok) {S : List Str} : ∀ (n : Nat) {F : List Str}, F.Sublist b.names → ∀ x ∈ F, x ∈ b.growN S n F
  | 0, F, _, x, hx => hx
  | n + 1, F, hF, x, hx => by
    refine growN_mem hb n (order_sublist b _) x ?_
    exact mem_order.mpr ⟨hF.subset hx, List.mem_append_left _ hx⟩
theorem growN_reach {b : Lb} (hb : b.Ok) {S : List Str} (hS : ∀ x ∈ S, x ∈ b.names) : ∀ (n : Nat) {F : List Str}, F.Sublist b.names → Reach b (b.growN S n F) F
  | 0, F, _ => .done
  | n + 1, F, hF => by
    show Reach b (b.growN S n (b.grow1 S F)) F
    have ih := growN_reach hb hS n (F := b.grow1 S F) (order_sublist b _)
    cases z : b.can S F with
    | nil =>
      rw [grow1_nil hb hF z] at ih ⊢
      exact ih
    | cons c l =>
      have hc : c ∈ b.can S F := by rw [z]; exact List.mem_cons_self
      obtain ⟨hcS, hcc⟩ := List.mem_filter.mp hc
      rw [Bool.and_eq_true] at hcc
      have e : b.grow1 S F = b.order (F ++ [c]) := by
        unfold Lb.grow1
        rw [z]
        rfl
      rw [e] at ih ⊢
      exact .step (growN_mem hb n (order_sublist b _) c (mem_order.mpr ⟨hS c hcS, by simp⟩)) (by simpa using hcc.1) hcc.2 ih
theorem small_nodup : ∀ (n : Nat) (l : List Nat), l.Nodup → (∀ x ∈ l, x < n) → l.length ≤ n
  | 0, l, _, h => by
    cases l with
    | nil => exact Nat.le_refl 0
    | cons a l => exact absurd (h a List.mem_cons_self) (Nat.not_lt_zero a)
  | n + 1, l, hn, h => by
    have ih := small_nodup n (l.erase n) (hn.erase n) fun x hx => by
      have h1 := h x (List.mem_of_mem_erase hx)
      have h2 : x ≠ n := fun e => by
        subst e
        exact hn.not_mem_erase hx
      omega
    by_cases hm : n ∈ l
    · rw [List.length_erase_of_mem hm] at ih
      omega
    · rw [List.erase_of_not_mem hm] at ih
      omega
end Rt
namespace Rt
open PySem PySem.Spec PyProof.Rows L2
open C8 (Cal Met Mak pe_c pe_mt pe_mt0 pe_mk)
section
variable {P : Program} {w : World} {T : Tx} {mg : Str → Option Value} {base : Heap}
/-! ### the search -/
def later (b : Lb) (F : List Str) (x : Str) : List Str := b.order (F ++ [x])
theorem or_bit {b : Lb} {F : List Str} {x : Str} : Builtin.bitOr (b.msk F : Int) (b.bit x : Int) = (b.msk (later b F x) : Int) := by
  rw [bitOr_nn (Int.natCast_nonneg _) (Int.natCast_nonneg _), Int.toNat_natCast, Int.toNat_natCast]
  congr 1
  unfold later
  rw [msk_order]
  unfold Lb.msk Lb.bit
  rw [mkf_or]
  refine mkf_congr fun y _ => ?_
  by_cases h1 : y ∈ F <;> by_cases h2 : y = x <;> simp [h1, h2]
theorem later_ne {b : Lb} {F : List Str} {x : Str} (hx : x ∈ b.names) : (!decide ((b.msk (later b F x) : Int) = (b.msk F : Int))) = !decide (x ∈ F) := by
  congr 1
  refine decide_eq_decide.mpr ⟨fun h => ?_, fun h => ?_⟩
  · have h2 : b.msk (later b F x) = b.msk F := Int.natCast_inj.mp h
    unfold later at h2
    rw [msk_order] at h2
    have := mkf_inj h2 x hx
    simpa using this
  · congr 1
    unfold later
    rw [msk_order]
    refine mkf_congr fun y _ => ?_
    by_cases e : y = x
    · subst e
      simp [h]
    · simp [e]
structure DeadOk (b : Lb) (S : List Str) (kvs : List (Key × PyData)) : Prop where
  nd : (kvs.map (·.1)).Nodup
  ok : ∀ p ∈ kvs, ∃ F' : List Str, F'.Sublist b.names ∧ p.1 = Sum.inl (b.msk F' : Int) ∧ ¬ Reach b S F'
theorem DeadOk.nil {b : Lb} {S : List Str} : DeadOk b S [] := ⟨List.nodup_nil, fun p h => nomatch h⟩
theorem msk_lt {b : Lb} (hb : b.Ok) (S : List Str) : b.msk S < 32 := by
  unfold Lb.msk mkf
  refine Nat.lt_of_lt_of_le (vb_lt _) ?_
  rw [List.length_map]
  have h5 : b.names.length ≤ 5 := by rw [b.names_len]; exact hb.n5
  exact Nat.pow_le_pow_right (by decide) h5
def keyN : Key → Nat
  | .inl i => i.toNat
  | .inr _ => 0
theorem DeadOk.len {b : Lb} (hb : b.Ok) {S : List Str} {kvs : List (Key × PyData)} (h : DeadOk b S kvs) : kvs.length ≤ 1000 := by
  have h1 : (kvs.map fun p => keyN p.1).Nodup := by
    have h2 := List.pairwise_map.mp h.nd
    refine List.pairwise_map.mpr (List.Pairwise.imp_of_mem (fun {p q} hp hq hne e => hne ?_) h2)
    obtain ⟨F1, _, e1, _⟩ := h.ok p hp
    obtain ⟨F2, _, e2, _⟩ := h.ok q hq
    rw [e1, e2] at e ⊢
    have e' : ((b.msk F1 : Int)).toNat = ((b.msk F2 : Int)).toNat := e
    rw [Int.toNat_natCast, Int.toNat_natCast] at e'
    rw [e']
  have h3 := small_nodup 32 _ h1 fun x hx => by
    obtain ⟨p, hp, rfl⟩ := List.mem_map.mp hx
    obtain ⟨F1, _, e1, _⟩ := h.ok p hp
    rw [e1]
    show ((b.msk F1 : Int)).toNat < 32
    rw [Int.toNat_natCast]
    exact msk_lt hb F1
  rw [List.length_map] at h3
  omega
theorem DeadOk.put {b : Lb} {S F : List Str} {kvs : List (Key × PyData)} (h : DeadOk b S kvs) (hF : F.Sublist b.names) (hr : ¬ Reach b S F) : DeadOk b S (putD kvs (Sum.inl (b.msk F : Int)) (.bool true)) := by
  unfold putD
  by_cases c : (kvs.any fun kv => decide (kv.1 = Sum.inl (b.msk F : Int))) = true
  · rw [if_pos c]
    have e : ∀ p : Key × PyData, (if p.1 = Sum.inl (b.msk F : Int) then (p.1, PyData.bool true) else p).1 = p.1 := fun p => by
      by_cases z : p.1 = Sum.inl (b.msk F : Int)
      · rw [if_pos z]
      · rw [if_neg z]
    refine ⟨?_, fun p hp => ?_⟩
    · rw [List.map_map]
      have e2 : kvs.map ((fun x => x.1) ∘ fun kv => if kv.1 = Sum.inl (b.msk F : Int) then (kv.1, PyData.bool true) else kv) = kvs.map (·.1) := List.map_congr_left fun p _ => e p
      rw [e2]
      exact h.nd
    · obtain ⟨q, hq, rfl⟩ := List.mem_map.mp hp
      rw [e q]
      exact h.ok q hq
  · rw [if_neg c]
    have hn : ∀ p ∈ kvs, p.1 ≠ Sum.inl (b.msk F : Int) := fun p hp e => c (List.any_eq_true.mpr ⟨p, hp, decide_eq_true e⟩)
    refine ⟨?_, fun p hp => ?_⟩
    · rw [List.map_append]
      refine List.nodup_append.mpr ⟨h.nd, by simp, fun a ha d hd e => ?_⟩
      obtain ⟨p, hp, rfl⟩ := List.mem_map.mp ha
      rw [List.mem_singleton.mp hd] at e
      exact hn p hp e
    · rcases List.mem_append.mp hp with z | z
      · exact h.ok p z
      · rw [List.mem_singleton.mp z]
        exact ⟨F, hF, rfl, hr⟩
theorem DeadOk.dead {b : Lb} (hb : b.Ok) {S F : List Str} {kvs : List (Key × PyData)} (h : DeadOk b S kvs) (hF : F.Sublist b.names) (hs : (valP kvs (Sum.inl (b.msk F : Int))).isSome = true) : ¬ Reach b S F := by
  unfold valP at hs
  rw [Option.isSome_map] at hs
  obtain ⟨p, hp⟩ := Option.isSome_iff_exists.mp hs
  have h1 := List.find?_some hp
  have h2 := List.mem_of_find?_eq_some hp
  obtain ⟨F', hF', e, hr⟩ := h.ok p h2
  have e1 : p.1 = Sum.inl (b.msk F : Int) := of_decide_eq_true h1
  rw [e1] at e
  have e2 : b.msk F = b.msk F' := Int.natCast_inj.mp (Sum.inl.inj e)
  rw [msk_inj hb hF hF' e2]
  exact hr
def ordRes (b : Lb) (S F : List Str) (d : Dd) (o' : Ow) : Prop := (∃ kvs, o' = .dic kvs ∧ DeadOk b S kvs) ∧ ((∃ l : List Nat, d = .py (.list (l.map fun (i : Nat) => PyData.int (i : Int))) ∧ (∀ i ∈ l, i < b.names.length) ∧ l.length + F.length ≤ S.length) ∨ (d = .py .none ∧ ¬ Reach b S F))
def FO (n : Nat) (ds : List Dd) (o : Ow) (S1 : Dd → Ow → Prop) : Prop := ∃ (b : Lb) (S F : List Str) (kvs : List (Key × PyData)), b.Ok ∧ S.Sublist b.names ∧ F.Sublist b.names ∧ (∀ x ∈ F, x ∈ S) ∧ S.length ≤ F.length + n ∧ ds = [.gro b.fields (b.msk S : Int), .py (.int (b.msk F : Int))] ∧ o = .dic kvs ∧ DeadOk b S kvs ∧ S1 = ordRes b S F
theorem bm_Growth_order : BindM "order" "Growth.order" s_Growth_order P_Growth_order := fun _ _ _ _ _ _ us hl => match us, hl with | [_, _], _ => rfl
theorem same_of_len {b : Lb} (hb : b.Ok) {S F : List Str} (hS : S.Sublist b.names) (hF : F.Sublist b.names) (h : ∀ x ∈ F, x ∈ S) (hl : S.length ≤ F.length) : F = S := by
  have e : S.filter (fun x => decide (x ∈ F)) = F := by
    have e1 : S.filter (fun x => decide (x ∈ F)) = b.names.filter fun x => decide (x ∈ F) := by
      have e2 : S = b.names.filter fun x => decide (x ∈ S) := (filter_sublist_eq hb.nd hS).symm
      rw [e2, List.filter_filter]
      refine List.filter_congr fun x _ => ?_
      by_cases h1 : x ∈ F
      · simp [h1, h x h1]
      · simp [h1]
    rw [e1]
    exact filter_sublist_eq hb.nd hF
  rw [← e]
  exact List.Sublist.eq_of_length_le List.filter_sublist (by rw [e]; exact hl)
theorem c_order (W : Wt T mg) : ∀ n : Nat, Met P w T.K mg base (4 + n) T.CG "order" (spG T (FO n)) []
  | 0 => by
    refine met_G (k := 3) W.cG W.oG sc_Growth_order bm_Growth_order (FO 0) (fun ds o S h => ?_) (fun f cdv A outer s H E hr => ⟨_, (pss_cons (ps_if (pt_cmpR op_eq (pv 1) (kfld T.K (pv 0) rfl) (nomark _)) (pss_one (ps_ret (pe_lst pa_nil))) pss_nil) pss_never), fun ds o S1 h => ?_⟩)
    · obtain ⟨b, S, F, kvs, hb, hS, hF, hFS, hl, rfl, rfl, hd, rfl⟩ := h
      rfl
    · obtain ⟨b, S, F, kvs, hb, hS, hF, hFS, hl, rfl, rfl, hd, rfl⟩ := h
      have e := same_of_len hb hS hF hFS (by omega)
      subst e
      refine go_ifret (et_test (ev_op (ev_var rfl) (ev_groG (ev_var rfl) W.cG W.g_goal) er_eqI)) (fun e => go_retp (EvN.ev (en_lst (ds := []) ea_nil (by decide))) ⟨_, [], rfl, ⟨⟨kvs, rfl, hd⟩, .inl ⟨[], rfl, (fun i h => nomatch h), by show 0 + F.length ≤ F.length; omega⟩⟩, rfl⟩) (fun e => ?_)
      rw [decide_eq_true rfl] at e
      cases e
  | n + 1 => by
    have mt_order := c_order W n
    refine met_G (k := 4 + n) W.cG W.oG sc_Growth_order bm_Growth_order (FO (n + 1)) (fun ds o S h => ?_) (fun f cdv A outer s H E hr => ⟨_, (pss_cons (ps_if (pt_cmpR op_eq (pv 1) (kfld T.K (pv 0) rfl) (nomark _)) (pss_one (ps_ret (pe_lst pa_nil))) pss_nil)
      (pss_cons (ps_for PassesOwn.never rfl (pi_range1 (by rfl) W.m_range (pa_cons (pe_callB (r := rLen T.K) cz_len (by rfl) W.m_len bt_len (pa_cons (kfld T.K (kfld T.K (pv 0) rfl) rfl) pa_nil)) pa_nil)) (pg_name (i := 2) sc_Growth_order.nd rfl (Or.inl rfl)) (pss_cons (ps_set (i := 3) sc_Growth_order.nd rfl (Or.inl rfl) (pe_op op_or (pv 1) (pe_ix (r := rIxL T.K) ix_list (kfld T.K (kfld T.K (pv 0) rfl) rfl) (pv 2) (fun _ _ => rfl))))
      (pss_cons (ps_set (i := 4) sc_Growth_order.nd rfl (Or.inl rfl) (kandT T.K (pe_op op_and (kfld T.K (pv 0) rfl) (pe_ix (r := rIxL T.K) ix_list (kfld T.K (kfld T.K (pv 0) rfl) rfl) (pv 2) (fun _ _ => rfl))) (kandT T.K (pe_cmpR op_ne (pv 3) (pv 1) (nomark _)) (pe_one (pe_cmp (pc_dnotin (hu_of hr) (pv 3) (kfld T.K (pv 0) rfl)) rfl)))))
      (pss_one (ps_if (PW.pt (pw_and (kz_truth T.K (pv 4) (by intro _; rfl)) (pw_and1 (pt_val (pe_c (c_does_hold W) hr (by omega) (by rfl) (pa_cons (kfld T.K (pv 0) rfl) (pa_cons (pv 3) pa_nil))))))) (pss_cons (ps_set (i := 5) sc_Growth_order.nd rfl (Or.inl rfl) (pe_mt mt_order hr (Nat.le_refl _) (pv 0) (pa_cons (pv 3) pa_nil)))
      (pss_one (ps_if (pt_cmpR oz_notN (pv 5) pe_non (nomark _)) (pss_one (ps_ret (pe_lst (pa_cons (pv 2) (ka_star T.K (pv 5) pa_nil))))) pss_nil))) pss_nil)))))
      (pss_cons (ps_dput (hu_of hr) (kfld T.K (pv 0) rfl) (pv 1) pe_bl rfl)
      (pss_one (ps_ret pe_non))))), fun ds o S1 h => ?_⟩)
    · obtain ⟨b, S, F, kvs, hb, hS, hF, hFS, hl, rfl, rfl, hd, rfl⟩ := h
      rfl
    · obtain ⟨b, S, F, kvs, hb, hS, hF, hFS, hl, rfl, rfl, hd, rfl⟩ := h
      have hn5 : b.names.length ≤ 5 := by rw [b.names_len]; exact hb.n5
      have hS5 := sub_len hb hS
      have tl : (tStrs b.names).length = b.names.length := List.length_map ..
      refine go_ifret (et_test (ev_op (ev_var rfl) (ev_groG (ev_var rfl) W.cG W.g_goal) er_eqI)) (fun e => go_retp (EvN.ev (en_lst (ds := []) ea_nil (by decide))) ⟨_, [], rfl, ⟨⟨kvs, rfl, hd⟩, .inl ⟨[], rfl, (fun i h => nomatch h), ?_⟩⟩, rfl⟩) (fun e => ?_)
      · have := sub_le hb hS hF hFS
        show 0 + F.length ≤ S.length
        omega
      have hne : F ≠ S := fun z => by
        rw [z, decide_eq_true rfl] at e
        cases e
      refine go_seq (N1 := fun ρ' o => ∃ kvs y2 y3 y4 y5, o = [.dic kvs] ∧ DeadOk b S kvs ∧ ¬ Reach b S F ∧ ρ' = [some (.gro b.fields (b.msk S : Int)), some (.py (.int (b.msk F : Int))), y2, y3, y4, y5]) ?_ (fun ρ' o ⟨kvs, y2, y3, y4, y5, e1, hd, hr, e2⟩ => ?_)
      · refine go_forw (vs := [2]) (List.range b.names.length) (fun (i : Nat) => PyData.int (i : Int)) (fun i ρ1 o => ∃ kvs y2 y3 y4 y5, o = [.dic kvs] ∧ DeadOk b S kvs ∧ (∀ j, j < i → j < b.names.length → b.nm j ∈ S → b.nm j ∉ F → b.holds (later b F (b.nm j)) = true → ¬ Reach b S (later b F (b.nm j))) ∧ ρ1 = [some (.gro b.fields (b.msk S : Int)), some (.py (.int (b.msk F : Int))), y2, y3, y4, y5]) (ei_rng (ea_cons (ev_is (ev_cb (ea_cons (ev_fld (ev_groB (ev_var rfl) W.cG W.g_book) W.cB W.n_own_names rfl) ea_nil) ec_len_l) (by rw [tl])) ea_nil) (by omega)) ⟨kvs, _, _, _, _, rfl, hd, (fun j hj => absurd hj (Nat.not_lt_zero j)), rfl⟩ ?_ ?_
        · rintro i j ρ1 o hj ⟨kvs, y2, y3, y4, y5, rfl, hd, hI, rfl⟩
          have hji : j = i := by
            obtain ⟨h1, h2⟩ := List.getElem?_eq_some_iff.mp hj
            rw [List.getElem_range] at h2
            exact h2.symm
          subst hji
          have hlt : j < b.names.length := by
            have := (List.getElem?_eq_some_iff.mp hj).1
            rwa [List.length_range] at this
          obtain ⟨x, hx⟩ : ∃ x, x = b.nm j := ⟨_, rfl⟩
          have hxa := nm_at hlt
          rw [← hx] at hxa
          have hxn : x ∈ b.names := List.mem_of_getElem? hxa
          have spot : ∀ {te tj : TE} {ρ : En}, Ev T te ρ (.gro b.fields (b.msk S : Int)) → Ev T tj ρ (.py (.int (j : Int))) → Ev T (tOp (rIxL T.K) (tFld T.K (tFld T.K te "book") "spots") tj) ρ (.py (.int (b.bit x : Int))) := fun h h2 => ev_op (ev_fld (ev_groB h W.cG W.g_book) W.cB W.n_spots rfl) h2 (er_ixL (by
            refine atI_nat (j := j) ?_
            unfold Lb.spots
            rw [List.getElem?_map, List.getElem?_map, hxa]
            rfl))
          have next : (x ∈ S → x ∉ F → b.holds (later b F x) = true → ¬ Reach b S (later b F x)) → ∀ k, k < j + 1 → k < b.names.length → b.nm k ∈ S → b.nm k ∉ F → b.holds (later b F (b.nm k)) = true → ¬ Reach b S (later b F (b.nm k)) := fun h k hk => by
            by_cases z : k = j
            · subst z
              rw [← hx]
              exact fun _ => h
            · exact hI k (by omega)
          refine ⟨_, eg_name (by decide), ?_⟩
          refine go_letp (d := .py (.int (b.msk (later b F x) : Int))) (ev_is (ev_op (ev_var rfl) (spot (ev_var rfl) (ev_var rfl)) er_or) (by rw [or_bit])) ?_
          refine go_let (S := fun d o => o = [.dic kvs] ∧ ∃ c : Bool, (d = .py (.bool c) ∨ (d = .py (.int 0) ∧ c = false)) ∧ c = (decide (x ∈ S) && (!decide (x ∈ F) && !(valP kvs (Sum.inl (b.msk (later b F x) : Int))).isSome))) (ew_andI (ev_op (ev_groG (ev_var rfl) W.cG W.g_goal) (spot (ev_var rfl) (ev_var rfl)) er_and) (fun hz => ew_andB (ev_is (ev_op (ev_var rfl) (ev_var rfl) er_neI) (by rw [later_ne hxn])) (fun hc => ew_notin (k := 0) (kvs := kvs) (ky := Sum.inl (b.msk (later b F x) : Int)) (ev_var rfl) (ev_groD (ev_var rfl) W.cG W.g_dead) rfl ⟨rfl, _, .inl rfl, ?_⟩) (fun hc => ⟨rfl, _, .inl rfl, ?_⟩)) (fun hz => ⟨rfl, _, .inr ⟨rfl, rfl⟩, ?_⟩)) ?_
          · have h1 : decide (x ∈ S) = true := by
              rw [← and_bitI hxn]
              exact bne_iff_ne.mpr hz
            rw [h1, hc]
            rfl
          · rw [hc]
            simp
          · have h1 : decide (x ∈ S) = false := by
              rw [← and_bitI hxn, hz]
              rfl
            rw [h1]
            rfl
          · rintro d o ⟨rfl, c, hdc, hc⟩
            have ht : EvT T (tTruth T.K (tVar 4)) (([some (Dd.gro b.fields (b.msk S : Int)), some (.py (.int (b.msk F : Int))), some (.py (.int (j : Int))), some (.py (.int (b.msk (later b F x) : Int))), y4, y5] : En).set 4 (some d)) c := by
              rcases hdc with rfl | ⟨rfl, rfl⟩
              · exact et_truthB (ev_var rfl)
              · exact et_truth (ev_var rfl) rfl
            refine go_if (et_and ht fun _ => et_b (ev_call (ea_cons (ev_groB (ev_var rfl) W.cG W.g_book) (ea_cons (ev_var rfl) ea_nil)) ⟨b, later b F x, hb, order_sublist b _, rfl, rfl⟩)) (fun e => ?_) (fun e => ?_)
            · rw [Bool.and_eq_true] at e
              obtain ⟨ec, eh⟩ := e
              rw [ec] at hc
              have hc' := hc.symm
              rw [Bool.and_eq_true, Bool.and_eq_true] at hc'
              obtain ⟨c1, c2, c3⟩ := hc'
              have hxS : x ∈ S := of_decide_eq_true c1
              have hxF : x ∉ F := by simpa using c2
              have hlen : (later b F x).length = F.length + 1 := order_cons hb hF hxn hxF
              have hsub : ∀ y ∈ later b F x, y ∈ S := fun y hy => by
                rcases List.mem_append.mp (mem_order.mp hy).2 with q | q
                · exact hFS y q
                · rw [List.mem_singleton.mp q]
                  exact hxS
              refine go_let (S := fun d o => ∃ o', o = [o'] ∧ ordRes b S (later b F x) d o') (ew_methG (fs := b.fields) (goal := (b.msk S : Int)) (ev_var rfl) (fun _ _ _ => rfl) (ea_cons (ev_var rfl) ea_nil) rfl ⟨b, S, later b F x, kvs, hb, hS, order_sublist b _, hsub, by omega, rfl, rfl, hd, rfl⟩ fun d o' h => ⟨?_, o', rfl, h⟩) ?_
              · rcases h.2 with ⟨l, rfl, _⟩ | ⟨rfl, _⟩ <;> rfl
              · rintro d2 o ⟨o', rfl, ⟨kvs2, rfl, hd2⟩, hres⟩
                rcases hres with ⟨l, rfl, hl1, hl2⟩ | ⟨rfl, hr⟩
                · refine go_if (et_test (ev_op (ev_var rfl) ev_non er_notN)) (fun _ => go_retp (EvN.ev (en_lst (ds := PyData.int (j : Int) :: ((l.map fun (i : Nat) => PyData.int (i : Int)) ++ [])) (ea_cons (ev_var rfl) (ea_star (es := []) (ev_var rfl) ea_nil)) ?_)) ⟨_, [], rfl, ⟨⟨kvs2, rfl, hd2⟩, .inl ⟨j :: l, ?_, ?_, ?_⟩⟩, rfl⟩) (fun e => by cases e)
                  · rw [List.length_cons, List.append_nil, List.length_map]
                    omega
                  · rw [List.append_nil]
                    rfl
                  · intro i hi
                    rcases List.mem_cons.mp hi with rfl | hi
                    · exact hlt
                    · exact hl1 i hi
                  · rw [List.length_cons]
                    omega
                · exact go_if (et_test (ev_op (ev_var rfl) ev_non er_notN)) (fun e => by cases e) (fun _ => go_next ⟨kvs2, _, _, _, _, rfl, hd2, next fun _ _ _ => hr, rfl⟩)
            · refine go_next ⟨kvs, _, _, _, _, rfl, hd, next fun h1 h2 h3 => ?_, rfl⟩
              rw [h3, Bool.and_true] at e
              rw [e, decide_eq_true h1, decide_eq_false h2] at hc
              have h4 : (valP kvs (Sum.inl (b.msk (later b F x) : Int))).isSome = true := by
                cases z : (valP kvs (Sum.inl (b.msk (later b F x) : Int))).isSome with
                | true => rfl
                | false =>
                  rw [z] at hc
                  cases hc
              exact hd.dead hb (order_sublist b _) h4
        · rintro ρ1 o ⟨kvs, y2, y3, y4, y5, rfl, hd, hI, rfl⟩
          rw [List.length_range] at hI
          refine ⟨kvs, _, _, _, _, rfl, hd, fun hr => ?_, rfl⟩
          cases hr with
          | done => exact hne rfl
          | step hxS hxF hh hr =>
            rename_i x
            obtain ⟨j, hj, ej⟩ := List.mem_iff_getElem.mp (hS.subset hxS)
            have hnm : b.nm j = x := by
              have := nm_at hj
              rw [List.getElem?_eq_getElem hj, ej] at this
              exact (Option.some.inj this).symm
            exact hI j hj hj (hnm ▸ hxS) (hnm ▸ hxF) (hnm ▸ hh) (hnm ▸ hr)
      · subst e1 e2
        refine go_andthen (o' := [.dic (putD kvs (Sum.inl (b.msk F : Int)) (.bool true))]) (go_dputO (k := 0) (ky := Sum.inl (b.msk F : Int)) ev_bl (ev_groD (ev_var rfl) W.cG W.g_dead) (ev_var rfl) rfl (hd.len hb) ⟨rfl, rfl⟩) ?_
        exact go_retp ev_non ⟨_, [], rfl, ⟨⟨_, rfl, hd.put hF hr⟩, .inr ⟨rfl, hr⟩⟩, rfl⟩
theorem bm_Growth_init : BindM "__init__" "Growth.__init__" s_Growth_init P_Growth_init := fun _ _ _ _ _ _ us hl => match us, hl with | [_, _, _], _ => rfl
theorem k_Growth (W : Wt T mg) : Mak P w T.K mg base 1 "Growth" T.CG (spGI T) [] := by
  obtain ⟨f, fd, M, F⟩ := W.iG
  refine ⟨f, fd, P_Growth_init, [], M, ?_, W.mgG, FunD.bindsN F bm_Growth_init, .nil⟩
  refine F.ok (k := 0) sc_Growth_init (fun vs H Q E h => ?_) (fun cdv A outer s H vs Q E hr h => ⟨_, PSs.nox (pss_cons (ps_fld (pv 0) (pv 1) rfl) (pss_cons (ps_fld (pv 0) (pv 2) rfl) (pss_one (ps_fld (pv 0) pe_dnewK rfl)))), ?_⟩)
  · obtain ⟨a, dx, vb, g, rfl, _⟩ := h
    rfl
  · obtain ⟨a, dx, vb, g, rfl, ha, q⟩ := h
    refine ⟨vb, rfl, .ref a, rfl, a, T.CG, dx, [], rfl, ha, W.cG, W.g_book, by decide, ?_⟩
    refine ⟨.int g, rfl, .ref a, rfl, a, T.CG, dx, _, rfl, upd_same, W.cG, W.g_goal, by show 1 < 1000; decide, ?_⟩
    intro d hd
    have hda : a ≠ d := fun z => by
      subst z
      rw [upd_same] at hd
      cases hd
    exact ⟨.ref a, rfl, a, T.CG, dx, [("book", vb), ("goal", .int g)], rfl, by rw [upd_ne hda]; exact upd_same, W.cG, W.g_dead, by show 2 < 1000; decide, q d _ rfl hd⟩
def F_growth (ds : List Dd) (S : Dd → Prop) : Prop := ∃ (b : Lb) (B : List Str), b.Ok ∧ B.Sublist b.names ∧ Reach b B [] ∧ ds = [.ins b.fields, .py (.tuple (tStrs B))] ∧ S = fun d => ∃ l : List PyData, d = .py (.list l)
theorem c_growth (W : Wt T mg) : Cal P w T.K mg base 13 "growth" (spX T F_growth) [] := by
  have mt := c_order (P := P) (w := w) (base := base) W 5
  refine cal_px (k := 12) W.fn_growth sc_growth bn_growth F_growth (fun ds S h => ?_) (fun f cdv A outer s H E hr => ⟨_, (pss_cons (ps_expr (pe_c (c_look_at_build W) hr (by decide) (by rfl) (pa_cons (pv 0) (pa_cons (pv 1) pa_nil))))
      (pss_cons (ps_set (i := 2) sc_growth.nd rfl (Or.inl rfl) (pe_mt mt hr (by decide) (pe_mk (k_Growth W) hr (by decide) (by rfl) (pa_cons (pv 0) (pa_cons (pe_c (c_mask_of W) hr (by decide) (by rfl) (pa_cons (pv 0) (pa_cons (pv 1) pa_nil))) pa_nil))) (pa_cons pe_int pa_nil)))
      (pss_one (ps_ret (pe_ifExp (pt_cmpR oz_isN (pv 2) pe_non (nomark _)) pe_non (pe_lc (own := [("spot", 3)]) (g := gName 3) (tt := tYes) rfl sc_growth.nd  (ki_list T.K (pv 2)) (blkOk_by (own := [("spot", 3)]) (N := N_growth) (sc := defScope s_growth) (by decide +kernel)) (fun _ _ _ _ _ => (pg_name (i := 3) sc_growth.nd rfl (Or.inl rfl))) (fun _ _ _ _ _ => pts_nil) (fun _ _ _ _ _ => (pe_ix (r := rIxL T.K) ix_list (kfld T.K (pv 0) rfl) (pv 3) (fun _ _ => rfl))))))))), fun ds S h => ?_⟩)
  · obtain ⟨b, B, hb, hB, hr, rfl, rfl⟩ := h
    exact ⟨rfl, rfl⟩
  · obtain ⟨b, B, hb, hB, hr, rfl, rfl⟩ := h
    have hB5 := sub_len hb hB
    have hn5 : b.names.length ≤ 5 := by rw [b.names_len]; exact hb.n5
    refine go_andthen (go_dropp (d := .py .none) (ev_call (ea_cons (ev_var rfl) (ea_cons (ev_var rfl) ea_nil)) ⟨b, B, hb, hB, rfl, rfl⟩) ⟨rfl, rfl⟩) ?_
    refine go_let (S := fun d o => o = [] ∧ ∃ l : List Nat, d = .py (.list (l.map fun (i : Nat) => PyData.int (i : Int))) ∧ (∀ i ∈ l, i < b.names.length) ∧ l.length ≤ 5) (ew_grow (F := FO 5) (S1 := ordRes b B []) (fs := b.fields) (goal := (b.msk B : Int)) (ds := [.py (.int 0)]) (ea_cons (ev_var rfl) (ea_cons (ev_call (ea_cons (ev_var rfl) (ea_cons (ev_var rfl) ea_nil)) ⟨b, B, hb, hB, rfl, rfl⟩) ea_nil)) (ea_cons ev_int ea_nil) rfl (fun _ _ _ => rfl) ⟨b, B, [], [], hb, hB, List.nil_sublist _, (fun x h => nomatch h), by show B.length ≤ 0 + 5; omega, by rw [msk_nil]; rfl, rfl, DeadOk.nil, rfl⟩ fun d o' h => ?_) ?_
    · obtain ⟨_, ⟨l, rfl, h1, h2⟩ | ⟨rfl, hn⟩⟩ := h
      · exact ⟨rfl, rfl, l, rfl, h1, by
          have h3 : l.length + 0 ≤ B.length := h2
          omega⟩
      · exact absurd hr hn
    · rintro d o ⟨rfl, l, rfl, h1, h2⟩
      refine go_retp (ev_if (et_test (ev_op (ev_var rfl) ev_non er_isN)) (fun e => by cases e) (fun _ => EvN.ev (en_lc0 (xs := l) (enc := fun (i : Nat) => PyData.int (i : Int)) (fun i => PyData.str (b.nm i)) (ei_list (ev_var rfl)) (by omega) fun i hi => ⟨_, eg_name (by decide), ev_op (ev_fld (ev_var rfl) W.cB W.n_own_names rfl) (ev_var rfl) (er_ixL ?_)⟩))) ⟨⟨_, rfl⟩, rfl⟩
      refine atI_nat (j := i) ?_
      unfold tStrs
      rw [List.getElem?_map, nm_at (h1 i hi)]
      rfl
def F_is_grown (ds : List Dd) (d : Dd) : Prop := ∃ (b : Lb) (B : List Str), b.Ok ∧ B.Sublist b.names ∧ Reach b B [] ∧ ds = [.ins b.fields, .py (.tuple (tStrs B))] ∧ d = .py (.bool true)
theorem c_is_grown (W : Wt T mg) : Cal P w T.K mg base 14 "is_grown" (spF T F_is_grown) [] := by
  refine cal_pure (k := 13) W.fn_is_grown sc_is_grown bn_is_grown F_is_grown (fun ds d h => ?_) (fun f cdv A outer s H E hr => ⟨_, (pss_one (ps_ret (pe_cmpR oz_notN (pe_c (c_growth W) hr (by decide) (by rfl) (pa_cons (pv 0) (pa_cons (pv 1) pa_nil))) pe_non (nomark _)))), fun ds d h => ?_⟩)
  · obtain ⟨b, B, hb, hB, hr, rfl, rfl⟩ := h
    exact ⟨rfl, rfl, rfl⟩
  · obtain ⟨b, B, hb, hB, hr, rfl, rfl⟩ := h
    refine go_ret (ew_op (S1 := fun d o => o = [] ∧ ∃ l : List PyData, d = .py (.list l)) (ew_callX (ea_cons (ev_var rfl) (ea_cons (ev_var rfl) ea_nil)) ⟨b, B, hb, hB, hr, rfl, rfl⟩ fun d h => ⟨rfl, h⟩) fun x ω1 ⟨e1, l, e2⟩ => ?_)
    subst e1 e2
    exact Ev.w ev_non ⟨_, er_notN, rfl⟩
end
end Rt
/-! what draws: the pool, new lists that are owned, calls with what is owned -/
namespace Rt
open PySem PySem.Spec PyProof.Rows L2
open C8 (Cal Met Mak pe_c pe_mt pe_mt0 pe_mk)
section
variable {T : Tx} {te ta tb tv td ty : TE} {tt tu : TT} {ρ ρ' : En} {ω : List Ow} {d x y z : Dd} {r : R2} {S : Dd → List Ow → Prop} {b : Nat} {N N1 : En → List Ow → Prop} {R : Dd → List Ow → Prop} {t1 t2 ts : TS} {wi : TI} {g : TG} {vs : List Nat} {tas tks : TA} {fs : List (Str × Fl)} {goal : Int}
/-! ### the script -/
theorem ec_lenK {ns : List Int} : EvC T (rLen T.K) [.klst ns] (.py (.int (ns.length : Int))) := fun as G H vs r s Q q => by
  cases r with
  | cons r1 r2 =>
    cases r2
    obtain ⟨a, rfl, h⟩ := r1
    exact ⟨_, ns.length, rfl, .inl ⟨_, seqL_up s h, by rw [List.length_map]⟩, q _ G H (.refl s) (.int _)⟩
theorem er_ixK {ns : List Int} {k : Nat} {n : Int} (h : ns[k]? = some n) : EvR T (rIxL T.K) (.klst ns) (.py (.int (k : Int))) (.py (.int n)) := fun as G H v w r1 r2 s Q q => by
  obtain ⟨a, rfl, h1⟩ := r1
  exact ⟨a, _, (k : Int), .int n, rfl, dq_int r2, seqL_up s h1, atI_nat (j := k) (by rw [List.getElem?_map, h]; rfl), q _ G H (.refl s) (.int _)⟩
/-! ### the pool -/
theorem ew_pool0 {i k : Nat} (hi : ρ[i]? = some (some (.own k))) (ho : ω[k]? = some .pool) (s : ∀ v : Int, 0 ≤ v → S (.py (.int v)) ω) : EvW T (tOp (rIxL T.K) (tVar i) (tC (.int 0))) ρ ω S := fun as σ G H e g w Q q => by
  obtain ⟨p, h1, h2⟩ := own_at (H := H) e hi
  obtain ⟨gp, v, u, h3, h4, _⟩ := w.ow k p _ h2 ho
  exact ⟨.ref p, h1, p, _, 0, .int v, rfl, rfl, .of h3, rfl, q _ _ ω G H (s v h4) (.int v) w (.refl g)⟩
theorem ew_pool1 {i k : Nat} (hi : ρ[i]? = some (some (.own k))) (ho : ω[k]? = some .pool) (s : ∀ v : Int, 0 ≤ v → v < 2147483647 → S (.py (.int v)) ω) : EvW T (tOp (rIxL T.K) (tVar i) (tC (.int 1))) ρ ω S := fun as σ G H e g w Q q => by
  obtain ⟨p, h1, h2⟩ := own_at (H := H) e hi
  obtain ⟨gp, v, u, h3, _, h4, h5⟩ := w.ow k p _ h2 ho
  exact ⟨.ref p, h1, p, _, 1, .int u, rfl, rfl, .of h3, rfl, q _ _ ω G H (s u h4 h5) (.int u) w (.refl g)⟩
theorem go_pool0 {i k : Nat} (hv : EvW T tv ρ ω S) (hi : ρ[i]? = some (some (.own k))) (hs : ∀ d o, S d o → ∃ v : Int, 0 ≤ v ∧ d = .py (.int v) ∧ o[k]? = some .pool ∧ N ρ (o.set k .pool)) : Go T (tAsg tv (gSub (tVar i) (tC (.int 0)) rSetL)) ρ b ω N R := fun as σ G H e g w D q _ => hv as σ G H e g w _ fun v d o G2 H2 s r w2 s2 => by
  obtain ⟨n, hn, rfl, ho, hN⟩ := hs d o s
  obtain ⟨p, h1, h2⟩ := own_at (H := H) e hi
  obtain ⟨gp, a, c, h3, h4⟩ := w2.ow k p _ h2 ho
  refine ⟨.ref p, h1, p, _, 0, 0, rfl, rfl, h3, rfl, ?_⟩
  rw [dq_int r]
  exact q as ρ _ σ G2 _ hN (e.up s2.gg) (w2.put h2 ⟨n, c, upd_same, hn, h4.2⟩) rfl (s2.put (List.mem_of_getElem? h2) gp)
theorem go_pool1 {i k : Nat} (hv : EvW T tv ρ ω S) (hi : ρ[i]? = some (some (.own k))) (hs : ∀ d o, S d o → ∃ v : Int, 0 ≤ v ∧ v < 2147483647 ∧ d = .py (.int v) ∧ o[k]? = some .pool ∧ N ρ (o.set k .pool)) : Go T (tAsg tv (gSub (tVar i) (tC (.int 1)) rSetL)) ρ b ω N R := fun as σ G H e g w D q _ => hv as σ G H e g w _ fun v d o G2 H2 s r w2 s2 => by
  obtain ⟨n, hn, hn2, rfl, ho, hN⟩ := hs d o s
  obtain ⟨p, h1, h2⟩ := own_at (H := H) e hi
  obtain ⟨gp, a, c, h3, h4⟩ := w2.ow k p _ h2 ho
  refine ⟨.ref p, h1, p, _, 1, 1, rfl, rfl, h3, rfl, ?_⟩
  rw [dq_int r]
  exact q as ρ _ σ G2 _ hN (e.up s2.gg) (w2.put h2 ⟨a, n, upd_same, h4.1, hn, hn2⟩) rfl (s2.put (List.mem_of_getElem? h2) gp)
/-- xs.append(..) -/
theorem go_appendL {i k : Nat} (hv : EvW T tv ρ ω S) (hi : ρ[i]? = some (some (.own k))) (h0 : ∃ ds, ω[k]? = some (.lst ds)) (hs : ∀ d o, S d o → ∃ x ds, d = .py x ∧ o[k]? = some (.lst ds) ∧ ds.length ≤ 100000 ∧ N ρ (o.set k (.lst (ds ++ [x])))) : Go T (tDrop (tBM T.K "list" rAppend (tVar i) (tCons tv tNil))) ρ b ω N R := fun as σ G H e g w D q _ => by
  obtain ⟨p, h1, h2⟩ := own_at (H := H) e hi
  obtain ⟨ds0, hd0⟩ := h0
  obtain ⟨gp0, xs0, f1, f2⟩ := w.ow k p _ h2 hd0
  refine ⟨.ref p, h1, .inl ⟨rfl, xs0, .of f1⟩, hv as σ G H e g w _ fun v d o G2 H2 s r w2 s2 => ?_⟩
  obtain ⟨x, ds, rfl, ho, hl, hn⟩ := hs d o s
  obtain ⟨gp, ys, h3, h4⟩ := w2.ow k p _ h2 ho
  refine ⟨p, ys, v, rfl, rfl, h3, by rw [dqA_len h4]; exact Nat.lt_of_le_of_lt hl (by decide), ?_⟩
  exact q as ρ _ σ G2 _ hn (e.up s2.gg) (w2.put h2 ⟨_, upd_same, dqA_app h4 (.cons r .nil)⟩) rfl (s2.put (List.mem_of_getElem? h2) gp)
/-- xs.pop(i) -/
theorem ew_popL {i k : Nat} {S1 : Dd → List Ow → Prop} (hv : EvW T tv ρ ω S) (hi : ρ[i]? = some (some (.own k))) (h0 : ∃ ds, ω[k]? = some (.lst ds)) (hs : ∀ d o, S d o → ∃ (j : Nat) (ds : List PyData) (x : PyData), d = .py (.int j) ∧ j < 100000 ∧ o[k]? = some (.lst ds) ∧ ds[j]? = some x ∧ S1 (.py x) (o.set k (.lst (ds.eraseIdx j)))) : EvW T (tBM T.K "list" rPopAt (tVar i) (tCons tv tNil)) ρ ω S1 := fun as σ G H e g w Q q => by
  obtain ⟨p, h1, h2⟩ := own_at (H := H) e hi
  obtain ⟨ds0, hd0⟩ := h0
  obtain ⟨gp0, xs0, f1, f2⟩ := w.ow k p _ h2 hd0
  refine ⟨.ref p, h1, .inl ⟨rfl, xs0, .of f1⟩, hv as σ G H e g w _ fun v d o G2 H2 s r w2 s2 => ?_⟩
  obtain ⟨j, ds, x, rfl, hj, ho, hx, hn⟩ := hs d o s
  obtain ⟨gp, ys, h3, h4⟩ := w2.ow k p _ h2 ho
  obtain ⟨y, hy, ry⟩ := dqA_get h4 hx
  have hl := (List.getElem?_eq_some_iff.mp hy).1
  refine ⟨p, ys, (j : Int), j, y, rfl, by rw [dq_int r], h3, by omega, by omega, ?_, hy, ?_⟩
  · have e1 : ¬ (j : Int) < 0 := by omega
    have e2 : (j : Int) < (ys.length : Int) := by omega
    have e3 : (0 : Int) ≤ (j : Int) := by omega
    simp only [seqIndex?, e1, if_false, e2, e3, decide_true, Bool.and_self, if_true, Int.toNat_natCast]
  · exact q y _ _ G2 _ hn ry (w2.put h2 ⟨_, upd_same, dqA_erase j h4⟩) (s2.put (List.mem_of_getElem? h2) gp)
/-! ### with one that draws -/
theorem ewa_nil {S : List Dd → List Ow → Prop} (s : S [] ω) : EvWA T tNil ρ ω S := ea_nil.w s
/-- one argument that draws -/
theorem ewa_one {S : List Dd → List Ow → Prop} {S1 : Dd → List Ow → Prop} (h : EvW T te ρ ω S1) (k : ∀ d o, S1 d o → S [d] o) : EvWA T (tCons te tNil) ρ ω S := ewa_cons h fun d o hd => ewa_nil (k d o hd)
/-- arguments, the last of which draws -/
theorem ewa_two {S : List Dd → List Ow → Prop} {S1 : Dd → List Ow → Prop} (h1 : Ev T ta ρ x) (h : EvW T te ρ ω S1) (k : ∀ d o, S1 d o → S [x, d] o) : EvWA T (tCons ta (tCons te tNil)) ρ ω S := ewa_cons (S1 := fun d o => d = x ∧ o = ω) (h1.w ⟨rfl, rfl⟩) fun d o ⟨e1, e2⟩ => by
  subst e1 e2
  exact ewa_one h k
theorem ew_op2 {S1 : Dd → List Ow → Prop} (ha : Ev T ta ρ x) (hb : EvW T tb ρ ω S1) (k : ∀ y o, S1 y o → ∃ z, EvR T r x y z ∧ S z o) : EvW T (tOp r ta tb) ρ ω S := ew_op (S1 := fun d o => d = x ∧ o = ω) (ha.w ⟨rfl, rfl⟩) fun d o ⟨e1, e2⟩ => by
  subst e1 e2
  exact ew_is hb k
theorem ew_op1 {S1 : Dd → List Ow → Prop} (ha : EvW T ta ρ ω S1) (hb : Ev T tb ρ y) (k : ∀ x o, S1 x o → ∃ z, EvR T r x y z ∧ S z o) : EvW T (tOp r ta tb) ρ ω S := ew_op ha fun x o h => (hb.w (S := fun y' o' => y' = y ∧ o' = o) ⟨rfl, rfl⟩) |> fun w => ew_is w fun y' o' ⟨e1, e2⟩ => by
  subst e1 e2
  exact k x _ h
theorem ew_callQw {F : List Dd → Ow → (Dd → Ow → Prop) → Prop} {E : XK} (h : EvWA T tas ρ ω fun ds' o1 => ∃ ds o ω'' S1, ds' = .own 0 :: ds ∧ ds.all Dd.free = true ∧ o1 = o :: ω'' ∧ F ds o S1 ∧ ∀ d o', S1 d o' → d.free = true ∧ S d (o' :: ω'')) : EvW T (tCall (spQ T F) [] E tas) ρ ω S := fun as σ G H e g w Q q => h as σ G H e g w _ fun vs ds' o1 G1 H1 ⟨ds, o, ω'', S1, e1, hf, e2, hF, k⟩ r1 w1 s1 => by
  subst e1 e2
  show spQ T F (vs ++ []) H1 Q E
  rw [List.append_nil]
  cases r1 with
  | cons r0 r1 =>
    rename_i v0 vs'
    obtain ⟨p, e1, rfl⟩ := r0
    cases as with
    | nil => simp at e1
    | cons a es =>
      cases Option.some.inj e1
      refine ⟨p, vs', ds, o, S1, G1, rfl, hF, RepL.move hf r1, s1.gh, own_head w1, fun v d o' G2 H2 hS r2 w2 s2 => ?_⟩
      obtain ⟨hfr, hs⟩ := k d o' hS
      exact q v d (o' :: ω'') G2 H2 hs (r2.move hfr) (own_back w1 w2 s2) (Stp.trans s1 (stp_head s2))
/-! ### new lists, handed back as owned -/
theorem go_retnew {S1 : List PyData → List Ow → Prop} (h : EvWN T te ρ ω S1) (hb : b ≤ ω.length) (k : ∀ ds o, S1 ds o → R (.own o.length) (o ++ [.lst ds])) : Go T (tRet te) ρ b ω N R := by
  intro as σ G H e g w D _ q2
  refine h as σ G H e g w _ fun p xs ds o G2 H2 hs w2 s2 hp r2 => ?_
  have gp : G2 p = none := s2.gh.free hp
  have nas : p ∉ as := fun ha => by
    obtain ⟨k, hk, e1⟩ := List.mem_iff_getElem.mp ha
    have hk2 : k < o.length := by rw [← w2.len]; exact hk
    exact ((w2.ow k p o[k] (by rw [List.getElem?_eq_getElem hk, e1]) (List.getElem?_eq_getElem hk2)).2.there) hp
  have s4 := s2.hid (o := .lst xs) hp
  refine q2 (as ++ [p]) _ _ (.ref p) G2 _ (k ds o hs) ⟨p, ?_, rfl⟩ ⟨List.nodup_append.mpr ⟨w2.nd, by simp, fun a ha c hc z => ?_⟩, by rw [List.length_append, List.length_append, w2.len]; rfl, fun k a v e1 e2 => ?_⟩ (List.take_append_of_le_length (by rw [w.len]; exact hb)) ⟨s4.gg, s4.gh, s4.hh, s4.ha, s4.fr, fun a ha n => ?_⟩
  · rw [← w2.len, List.getElem?_append_right (Nat.le_refl _), Nat.sub_self]
    rfl
  · rw [List.mem_singleton.mp hc] at z
    exact nas (z ▸ ha)
  · by_cases hk : k < as.length
    · rw [List.getElem?_append_left hk] at e1
      rw [List.getElem?_append_left (by rw [← w2.len]; exact hk)] at e2
      obtain ⟨g1, o1⟩ := w2.ow k a v e1 e2
      refine ⟨g1, o1.up (Same.refl _) fun v hv => ?_⟩
      rw [upd_ne (ne_of_none hv hp)]
      exact hv
    · have hk2 : k = as.length := by
        have := (List.getElem?_eq_some_iff.mp e1).1
        rw [List.length_append] at this
        simp at this
        omega
      subst hk2
      rw [List.getElem?_append_right (Nat.le_refl _), Nat.sub_self] at e1
      rw [w2.len, List.getElem?_append_right (Nat.le_refl _), Nat.sub_self] at e2
      cases Option.some.inj e1
      cases Option.some.inj e2
      exact ⟨gp, xs, upd_same, r2⟩
  · rcases List.mem_append.mp ha with z | z
    · exact absurd z n
    · rw [List.mem_singleton.mp z]
      cases y : H p with
      | none => rfl
      | some u => exact absurd hp (s2.ha p (by rw [y]; intro z; cases z))
/-- a def that hands back a new thing, owned -/
def spN (T : Tx) (F : List Dd → Prop) (O : Ow → Prop) : Sp := fun vs H Q _ => ∃ as ds G, F ds ∧ RepL T as G ds vs ∧ Same G H ∧ ∀ p o G2 H2, O o → Own T [p] [o] G2 H2 → Stp [] [p] G H G2 H2 → Q (.ref p) H2
theorem new_call {F : List Dd → Prop} {O : Ow → Prop} {E : XK} {ds : List Dd} {S : Ow → List Ow → Prop} (h : EvA T tas ρ ds) (hF : F ds) (k : ∀ o, O o → S o ω) : EvWO' T (tCall (spN T F O) [] E tas) ρ ω S := fun as σ G H e g w Q q => h as σ G H e g _ fun vs G1 H1 s1 r1 => by
  show spN T F O (vs ++ []) H1 Q E
  rw [List.append_nil]
  refine ⟨as, ds, G1, hF, r1, s1.gh, fun p o G2 H2 ho w2 s2 => ?_⟩
  have w1 := w.step s1
  obtain ⟨g2, o2⟩ := w2.ow 0 p o rfl rfl
  have hp1 : H1 p = none := s2.nw p (by simp) List.not_mem_nil
  have hp0 : H p = none := by
    cases z : H p with
    | none => rfl
    | some u => exact absurd hp1 (s1.ha p (by rw [z]; intro y; cases y))
  have hne : ∀ a, H1 a ≠ none → a ≠ p := fun a ha z => by
    subst z
    exact ha hp1
  obtain ⟨u, hu⟩ : ∃ u, H2 p = some u := by
    cases z : H2 p with
    | none => exact absurd z o2.there
    | some u => exact ⟨u, rfl⟩
  have sA : Stp as as G1 H1 G2 H2 := ⟨s2.gg, s2.gh, fun a v _ hv => s2.hh a v List.not_mem_nil hv, s2.ha, fun a _ ga ha => s2.fr a List.not_mem_nil ga ha, fun _ h n => absurd h n⟩
  have := q p u o ω G2 (Rt.er p H2) (k o ho) ⟨w1.nd, w1.len, fun j a v f1 f2 => ?_⟩ ((Stq.any s1).trans (sA.er hp1 g2)) (if_pos rfl) (by
    rw [upd_er]
    exact o2.up (Same.refl _) fun v hv => by
      rw [hu] at hv
      cases hv
      exact upd_same)
  · rw [upd_er] at this
    have e2 : upd H2 p u = H2 := by
      funext a
      by_cases z : a = p
      · subst z
        rw [upd_same, hu]
      · rw [upd_ne z]
    rw [e2] at this
    exact this
  · obtain ⟨ga, oa⟩ := w1.ow j a v f1 f2
    have na := hne a oa.there
    refine ⟨s2.fr a List.not_mem_nil ga oa.there, oa.up s2.gg fun v hv => ?_⟩
    show (if a = p then none else H2 a) = some v
    rw [if_neg na]
    exact s2.hh a v List.not_mem_nil hv
/-- x, y = new list, new list -/
theorem go_par_nn {i j : Nat} {ds es : List PyData} (h1 : EvN T ta ρ ds) (h2 : EvN T tb ρ es) (hb : b ≤ ω.length) (k : Go T t2 ((ρ.set i (some (.own ω.length))).set j (some (.own (ω.length + 1)))) b (ω ++ [.lst ds, .lst es]) N R) : Go T (tSeq (tPar i j (tCons ta (tCons tb tNil))) t2) ρ b ω N R := by
  have step : ∀ (D : Ends) as σ G H, RepE T as G ρ σ → Same G H → Own T as ω G H → (∀ p q xs ys G2 H2, p ≠ q → Stq G H G2 H2 → H2 p = none → H2 q = none → DqA T.K G2 xs ds → DqA T.K G2 ys es → D.nx ((σ.set i (some (.ref p))).set j (some (.ref q))) (upd (upd H2 p (.lst xs)) q (.lst ys))) → tPar i j (tCons ta (tCons tb tNil)) D σ H := by
    intro D as σ G H e g w q
    refine h1 as σ G H e g _ fun p xs G1 H1 s1 hp r1 => ?_
    have s1' := s1.hid (o := .lst xs) hp
    refine h2 as σ G1 _ (e.up s1.gg) s1'.gh _ fun p2 ys G2 H2 s2 hp2 r2 => ?_
    refine ⟨.ref p, .ref p2, rfl, ?_⟩
    have hpp : H2 p = some (.lst xs) := Stq.hs s2 _ _ upd_same
    have hne : p ≠ p2 := fun z => by
      rw [← z, hpp] at hp2
      cases hp2
    have g1p : G1 p = none := s1.gh.free hp
    have g2p : G2 p = none := s2.fr p List.not_mem_nil g1p (by rw [upd_same]; intro z; cases z)
    have h0p : H p = none := by
      cases z : H p with
      | none => rfl
      | some u => exact absurd hp (s1.ha p (by rw [z]; intro y; cases y))
    have st : Stq G H G2 H2 := s1'.trans s2
    have e2 : upd (upd (Rt.er p H2) p (.lst xs)) p2 (.lst ys) = upd H2 p2 (.lst ys) := by
      rw [upd_er]
      funext a
      by_cases z : a = p2
      · rw [z, upd_same, upd_same]
      · rw [upd_ne z, upd_ne z]
        by_cases y : a = p
        · rw [y, upd_same, hpp]
        · rw [upd_ne y]
    have hp2' : Rt.er p H2 p2 = none := by
      show (if p2 = p then none else H2 p2) = none
      rw [if_neg (Ne.symm hne)]
      exact hp2
    have := q p p2 xs ys G2 (Rt.er p H2) hne (st.er h0p g2p) (if_pos rfl) hp2' (DqA.up s2.gg r1) r2
    rw [e2] at this
    exact this
  intro as σ G H e g w D q q2
  refine step { D with nx := t2 D } as σ G H e g w fun p p2 xs ys G2 H2 hne st hp hp2 r1 r2 => ?_
  have gp : G2 p = none := st.gh.free hp
  have gp2 : G2 p2 = none := st.gh.free hp2
  have w2 := w.step st
  have old : ∀ (a : Addr) (k : Nat), as[k]? = some a → H2 a ≠ none := fun a k h => by
    have hk := (List.getElem?_eq_some_iff.mp h).1
    have hk2 : k < ω.length := by rw [← w.len]; exact hk
    exact (w2.ow k a ω[k] h (List.getElem?_eq_getElem hk2)).2.there
  have nas : p ∉ as := fun ha => by
    obtain ⟨k, hk⟩ := List.mem_iff_getElem?.mp ha
    exact old p k hk hp
  have nas2 : p2 ∉ as := fun ha => by
    obtain ⟨k, hk⟩ := List.mem_iff_getElem?.mp ha
    exact old p2 k hk hp2
  have hp2' : upd H2 p (.lst xs) p2 = none := by
    rw [upd_ne (Ne.symm hne)]
    exact hp2
  have s3 : Stp as (as ++ [p, p2]) G H G2 (upd (upd H2 p (.lst xs)) p2 (.lst ys)) := by
    have s4 := ((Stq.any (as := as) st).hid (o := .lst xs) hp).hid (o := .lst ys) hp2'
    refine ⟨s4.gg, s4.gh, s4.hh, s4.ha, s4.fr, fun a ha n => ?_⟩
    have new : ∀ c, H2 c = none → H c = none := fun c hc => by
      cases z : H c with
      | none => rfl
      | some u => exact absurd hc (st.ha c (by rw [z]; intro y; cases y))
    rcases List.mem_append.mp ha with z | z
    · exact absurd z n
    · rcases List.mem_cons.mp z with z | z
      · rw [z]
        exact new p hp
      · rw [List.mem_singleton.mp z]
        exact new p2 hp2
  have la : as.length = ω.length := w.len
  have w3 : Own T (as ++ [p, p2]) (ω ++ [.lst ds, .lst es]) G2 (upd (upd H2 p (.lst xs)) p2 (.lst ys)) := by
    refine ⟨List.nodup_append.mpr ⟨w.nd, by simp [hne], fun a ha c hc z => ?_⟩, by rw [List.length_append, List.length_append, la]; rfl, fun k a u e1 e2 => ?_⟩
    · subst z
      rcases List.mem_cons.mp hc with z | z
      · exact nas (z ▸ ha)
      · exact nas2 (List.mem_singleton.mp z ▸ ha)
    · by_cases hk : k < as.length
      · rw [List.getElem?_append_left hk] at e1
        rw [List.getElem?_append_left (by rw [← la]; exact hk)] at e2
        obtain ⟨g1, o1⟩ := w2.ow k a u e1 e2
        refine ⟨g1, o1.up (Same.refl _) fun v hv => ?_⟩
        rw [upd_ne (ne_of_none hv hp2), upd_ne (ne_of_none hv hp)]
        exact hv
      · rw [List.getElem?_append_right (by omega)] at e1
        rw [List.getElem?_append_right (by omega)] at e2
        rw [← la] at e2
        have : k - as.length = 0 ∨ k - as.length = 1 := by
          have := (List.getElem?_eq_some_iff.mp e1).1
          simp at this
          omega
        rcases this with z | z
        · rw [z] at e1 e2
          cases Option.some.inj e1
          cases Option.some.inj e2
          exact ⟨gp, xs, by rw [upd_ne hne, upd_same], r1⟩
        · rw [z] at e1 e2
          cases Option.some.inj e1
          cases Option.some.inj e2
          exact ⟨gp2, ys, upd_same, r2⟩
  have e3 : RepE T (as ++ [p, p2]) G2 ρ σ := ⟨e.len, fun j d hj => by
    obtain ⟨v, f1, f2⟩ := e.at_ j d hj
    refine ⟨v, f1, ?_⟩
    have f3 := f2.up st.gg
    cases d with
    | fl x => exact f3
    | ins fs => exact f3
    | cls n => exact f3
    | ktup n => exact f3
    | klst n => exact f3
    | gro fs gl =>
      obtain ⟨a, dx, b, d, h1, h2, h3, h4⟩ := f3
      refine ⟨a, dx, b, d, h1, h2, ?_, h4⟩
      rw [List.getElem?_append_left (List.getElem?_eq_some_iff.mp h3).1]
      exact h3
    | own k =>
      obtain ⟨a, h1, h2⟩ := f3
      refine ⟨a, ?_, h2⟩
      rw [List.getElem?_append_left (List.getElem?_eq_some_iff.mp h1).1]
      exact h1⟩
  have e4 := (e3.set i (d := .own ω.length) (v := .ref p) ⟨p, by
    rw [List.getElem?_append_right (by omega), la, Nat.sub_self]
    rfl, rfl⟩).set j (d := .own (ω.length + 1)) (v := .ref p2) ⟨p2, by
    rw [List.getElem?_append_right (by omega), la, show ω.length + 1 - ω.length = 1 by omega]
    rfl, rfl⟩
  have tkb : (as ++ [p, p2]).take b = as.take b := List.take_append_of_le_length (by rw [la]; exact hb)
  exact k (as ++ [p, p2]) _ G2 _ e4 s3.gh w3 D (fun as4 ρ4 o4 σ4 G4 H4 hn e4 w4 tk4 s4 => q as4 ρ4 o4 σ4 G4 H4 hn e4 w4 (tk4.trans tkb) (s3.trans s4)) (fun as4 d o4 v G4 H4 hr r4 w4 tk4 s4 => q2 as4 d o4 v G4 H4 hr r4 w4 (tk4.trans tkb) (s3.trans s4))
/-- x, y = a value, a new list -/
theorem go_par_vn {i j : Nat} {es : List PyData} {S1 : Dd → List Ow → Prop} (h1 : EvW T ta ρ ω S1) (h2 : EvN T tb ρ es) (hb : b ≤ ω.length) (hl : ∀ d o, S1 d o → d.free = true ∧ o.length = ω.length) (k : ∀ d o, S1 d o → Go T t2 ((ρ.set i (some d)).set j (some (.own ω.length))) b (o ++ [.lst es]) N R) : Go T (tSeq (tPar i j (tCons ta (tCons tb tNil))) t2) ρ b ω N R := by
  intro as σ G H e g w D q q2
  show ta σ H fun x H1 => tb σ H1 fun y H2 => ∃ v w, [x, y] = [v, w] ∧ t2 D ((σ.set i (some v)).set j (some w)) H2
  refine h1 as σ G H e g w _ fun v d o G1 H1 hs r1 w1 s1 => h2 as σ G1 H1 (e.up s1.gg) s1.gh _ fun p ys G2 H2 s2 hp r2 => ⟨v, .ref p, rfl, ?_⟩
  obtain ⟨hfr, hol⟩ := hl d o hs
  have w2 := w1.step s2
  have st := s1.trans (Stq.any s2)
  have gp : G2 p = none := st.gh.free hp
  have la : as.length = ω.length := w.len
  have nas : p ∉ as := fun ha => by
    obtain ⟨k, hk⟩ := List.mem_iff_getElem?.mp ha
    have hk1 := (List.getElem?_eq_some_iff.mp hk).1
    have hk2 : k < o.length := by rw [hol, ← la]; exact hk1
    exact (w2.ow k p o[k] hk (List.getElem?_eq_getElem hk2)).2.there hp
  have s3 : Stp as (as ++ [p]) G H G2 (upd H2 p (.lst ys)) := by
    have s4 := st.hid (o := .lst ys) hp
    refine ⟨s4.gg, s4.gh, s4.hh, s4.ha, s4.fr, fun a ha n => ?_⟩
    rcases List.mem_append.mp ha with z | z
    · exact absurd z n
    · rw [List.mem_singleton.mp z]
      cases y : H p with
      | none => rfl
      | some u => exact absurd hp (st.ha p (by rw [y]; intro z; cases z))
  have w3 : Own T (as ++ [p]) (o ++ [.lst es]) G2 (upd H2 p (.lst ys)) := by
    refine ⟨List.nodup_append.mpr ⟨w.nd, by simp, fun a ha c hc z => ?_⟩, by rw [List.length_append, List.length_append, la, hol]; rfl, fun k a u e1 e2 => ?_⟩
    · rw [List.mem_singleton.mp hc] at z
      exact nas (z ▸ ha)
    · by_cases hk : k < as.length
      · rw [List.getElem?_append_left hk] at e1
        rw [List.getElem?_append_left (by omega)] at e2
        obtain ⟨g1, o1⟩ := w2.ow k a u e1 e2
        refine ⟨g1, o1.up (Same.refl _) fun v hv => ?_⟩
        rw [upd_ne (ne_of_none hv hp)]
        exact hv
      · have hk2 : k = as.length := by
          have := (List.getElem?_eq_some_iff.mp e1).1
          rw [List.length_append] at this
          simp at this
          omega
        subst hk2
        rw [List.getElem?_append_right (Nat.le_refl _), Nat.sub_self] at e1
        rw [List.getElem?_append_right (by omega), show as.length - o.length = 0 by omega] at e2
        cases Option.some.inj e1
        cases Option.some.inj e2
        exact ⟨gp, ys, upd_same, r2⟩
  have e3 : RepE T (as ++ [p]) G2 ρ σ := ⟨e.len, fun j d hj => by
    obtain ⟨v, f1, f2⟩ := e.at_ j d hj
    refine ⟨v, f1, ?_⟩
    have f3 := f2.up st.gg
    cases d with
    | fl x => exact f3
    | ins fs => exact f3
    | cls n => exact f3
    | ktup n => exact f3
    | klst n => exact f3
    | gro fs gl =>
      obtain ⟨a, dx, b, d, h1, h2, h3, h4⟩ := f3
      refine ⟨a, dx, b, d, h1, h2, ?_, h4⟩
      rw [List.getElem?_append_left (List.getElem?_eq_some_iff.mp h3).1]
      exact h3
    | own k =>
      obtain ⟨a, h1, h2⟩ := f3
      refine ⟨a, ?_, h2⟩
      rw [List.getElem?_append_left (List.getElem?_eq_some_iff.mp h1).1]
      exact h1⟩
  have e4 := (e3.set i (d := d) (v := v) ((r1.up s2.gg).move hfr)).set j (d := .own ω.length) (v := .ref p) ⟨p, by
    rw [List.getElem?_append_right (by omega), la, Nat.sub_self]
    rfl, rfl⟩
  have tkb : (as ++ [p]).take b = as.take b := List.take_append_of_le_length (by rw [la]; exact hb)
  exact k d o hs (as ++ [p]) _ G2 _ e4 s3.gh w3 D (fun as4 ρ4 o4 σ4 G4 H4 hn e4 w4 tk4 s4 => q as4 ρ4 o4 σ4 G4 H4 hn e4 w4 (tk4.trans tkb) (s3.trans s4)) (fun as4 d o4 v G4 H4 hr r4 w4 tk4 s4 => q2 as4 d o4 v G4 H4 hr r4 w4 (tk4.trans tkb) (s3.trans s4))
end
section
variable {P : Program} {w : World} {T : Tx} {mg : Str → Option Value} {base : Heap}
theorem cal_new {x : Str} {st : Stmt} {N ps : List Str} {k : Nat} (hF : FnP T.K mg x st) (S : FnScope N ps (defScope st)) (hb : BindN x st ps) (Fs : List Dd → Prop) (O : Ow → Prop) (hl : ∀ ds, Fs ds → ds.length = ps.length ∧ ds.all Dd.free = true)
    (body : ∀ (f : Addr) (cdv : Value) (A : Around) (outer : List Env) (s : Shared) (H : Hp) (E : XK), Room k (A.deeper (envOfC x (defScope st) s.heap.objs.size f cdv)) →
      ∃ t, PSs (cxOf CX0 P w T.K mg base N x (defScope st) f cdv A outer s H E).nox (defBody st) t ∧ ∀ ds, Fs ds → Go T t (startD N ds) 0 [] (fun _ _ => False) (fun d' ω => ∃ ds', d' = .own 0 ∧ ω = [.lst ds'] ∧ ∃ i j : Int, ds' = [.int i, .int j] ∧ 0 ≤ i ∧ 0 ≤ j ∧ j < 2147483647)) : Cal P w T.K mg base (k + 1) x (spN T Fs fun o => o = .pool) [] := by
  obtain ⟨f, fd, F, hm⟩ := hF
  refine ⟨f, fd, ps, [], ?_, hm, F.kp, FunD.bindsN F hb, .nil⟩
  refine F.ok S (fun vs H Q E h => ?_) (fun cdv A outer s H vs Q E hr h => ?_)
  · obtain ⟨as, ds, G, hf, r, _⟩ := h
    rw [← Paired.length r]
    exact (hl ds hf).1
  · obtain ⟨t, ht, go⟩ := body f cdv A outer s H E hr
    obtain ⟨as, ds, G, hf, r, sg, q⟩ := h
    obtain ⟨_, fr⟩ := hl ds hf
    refine ⟨t, PSs.nox ht, ?_⟩
    refine go ds hf [] (L2.start N vs) G H (start_rep (RepL.move fr r)) sg .nil _ (fun as' ρ' o σ' G2 H2 n => n.elim) (fun as' d' o v G2 H2 ⟨ds', e1, e2, i, j, e3, hi, hj, hj2⟩ r2 w2 tk s2 => ?_)
    subst e1 e2 e3
    obtain ⟨p, hp, rfl⟩ := r2
    have : as' = [p] := by
      have hl := w2.len
      match as', hl, hp with
      | [a], _, hp =>
        cases Option.some.inj hp
        rfl
    subst this
    obtain ⟨g2, xs, h1, h2⟩ := w2.ow 0 p _ rfl rfl
    have h2' : DqA T.K G2 xs ([i, j].map PyData.int) := h2
    rw [dqA_ints h2'] at h1
    exact q p .pool G2 H2 rfl ⟨w2.nd, rfl, fun k a u f1 f2 => by
      cases k with
      | zero =>
        cases Option.some.inj f1
        cases Option.some.inj f2
        exact ⟨g2, i, j, h1, hi, hj, hj2⟩
      | succ k => simp at f1⟩ s2
end
end Rt
namespace Rt
open PySem PySem.Spec PyProof.Rows L2
open C8 (Cal Met Mak pe_c pe_mt pe_mt0 pe_mk)
section
variable {P : Program} {w : World} {T : Tx} {mg : Str → Option Value} {base : Heap}
/-! ### what the law draws -/
def F_law_pool (ds : List Dd) : Prop := ∃ (ns : List Int) (k : Nat), k < 4 ∧ ds = [.klst ns, .py (.int (k : Int))]
theorem c_law_pool (W : Wt T mg) : Cal P w T.K mg base 1 "_law_pool" (spN T F_law_pool fun o => o = .pool) [] := by
  refine cal_new (k := 0) W.fn_law_pool sc_law_pool bn_law_pool F_law_pool (fun o => o = .pool) (fun ds h => ?_) (fun f cdv A outer s H E hr => ⟨_, (pss_cons (ps_set (i := 2) sc_law_pool.nd rfl (Or.inl rfl) pe_int)
      (pss_cons (ps_if (pt_cmpR op_lt (pv 1) (pe_callB (r := rLen T.K) cz_len (by rfl) W.m_len bt_len (pa_cons (pv 0) pa_nil)) (nomark _)) (pss_one (ps_set (i := 2) sc_law_pool.nd rfl (Or.inl rfl) (pe_ix (r := rIxL T.K) ix_list (pv 0) (pv 1) (fun _ _ => rfl)))) pss_nil)
      (pss_cons (ps_set (i := 3) sc_law_pool.nd rfl (Or.inl rfl) (pe_callB (r := rMaxC) (cz_max rfl) (by rfl) W.m_max bt_max (pa_cons (pe_callTy (r := rIntC) cz_int (by rfl) W.m_int bt_int (pa_cons (pv 2) pa_nil)) (pa_cons (pe_callTy (r := rIntC) cz_int (by rfl) W.m_int bt_int (pa_cons (pe_op op_sub (pe_un un_neg pe_int) (pv 2)) pa_nil)) pa_nil))))
      (pss_cons (ps_set (i := 4) sc_law_pool.nd rfl (Or.inl rfl) (pe_op op_mod (pe_callTy (r := rIntC) cz_int (by rfl) W.m_int bt_int (pa_cons (pe_op op_mul (pe_op op_add (pe_op op_add (pe_op op_add (pe_op op_mod (pe_callTy (r := rIntC) cz_int (by rfl) W.m_int bt_int (pa_cons (pv 3) pa_nil)) pe_int) (pe_op op_mul (pe_op op_mul pe_int (pv 1)) (pv 1))) (pe_op op_mul pe_int (pv 1))) pe_int) pe_int) pa_nil)) pe_int))
      (pss_one (ps_ret (pe_lst (pa_cons (pe_op op_mul (pv 3) (pe_callTy (r := rIntC) cz_int (by rfl) W.m_int bt_int (pa_cons (pe_cmpR op_ge (pv 3) (pe_op op_pow pe_int pe_int) (nomark _)) pa_nil))) (pa_cons (pv 4) pa_nil))))))))), fun ds h => ?_⟩)
  · obtain ⟨ns, k, hk, rfl⟩ := h
    exact ⟨rfl, rfl⟩
  · obtain ⟨ns, k, hk, rfl⟩ := h
    refine go_letp (d := .py (.int 0)) ev_int ?_
    refine go_seq (N1 := fun ρ' o => ∃ c : Int, o = [] ∧ ρ' = [some (.klst ns), some (.py (.int (k : Int))), some (.py (.int c)), none, none]) ?_ (fun ρ' o ⟨c, e1, e2⟩ => ?_)
    · refine go_if (et_test (ev_op (ev_var rfl) (ev_cb (ea_cons (ev_var rfl) ea_nil) ec_lenK) er_lt)) (fun e => ?_) (fun e => go_next ⟨0, rfl, rfl⟩)
      have hlt : k < ns.length := by
        have := of_decide_eq_true e
        omega
      refine go_asgp (d := .py (.int ns[k])) (ev_op (ev_var rfl) (ev_var rfl) (er_ixK (List.getElem?_eq_getElem hlt))) ⟨_, rfl, rfl⟩
    · subst e1 e2
      have hbig : 0 ≤ (if (-1 - c) > c then (-1 - c) else c) := by
        by_cases h : (-1 - c) > c
        · rw [if_pos h]
          omega
        · rw [if_neg h]
          omega
      obtain ⟨g, hg⟩ : ∃ g, g = (if (-1 - c) > c then (-1 - c) else c) := ⟨_, rfl⟩
      rw [← hg] at hbig
      refine go_letp (d := .py (.int g)) (ev_is (ev_cb (ea_cons (ev_cb (ea_cons (ev_var rfl) ea_nil) ec_int) (ea_cons (ev_cb (ea_cons (ev_op (ev_neg ev_int) (ev_var rfl) er_sub) ea_nil) ec_int) ea_nil)) ec_max) (by rw [hg])) ?_
      refine go_letp (ev_op (ev_cb (ea_cons (ev_op (ev_op (ev_op (ev_op (ev_op (ev_cb (ea_cons (ev_var rfl) ea_nil) ec_int) ev_int (er_mod (by decide))) (ev_op (ev_op ev_int (ev_var rfl) (er_mul (.inl ⟨by decide, by decide⟩))) (ev_var rfl) (er_mul (.inr ⟨by omega, by omega⟩))) er_add) (ev_op ev_int (ev_var rfl) (er_mul (.inl ⟨by decide, by decide⟩))) er_add) ev_int er_add) ev_int (er_mul (.inr ⟨by decide, by decide⟩))) ea_nil) ec_int) ev_int (er_mod (by decide))) ?_
      refine go_retnew (S1 := fun ds o => o = [] ∧ ∃ i j : Int, ds = [.int i, .int j] ∧ 0 ≤ i ∧ 0 ≤ j ∧ j < 2147483647) (EvN.w (en_lst (ds := [.int (g * (if decide ((10 : Int) ^ (18 : Int).toNat ≤ g) = true then 1 else 0)), .int _]) (ea_cons (ev_op (ev_var rfl) (ev_cb (ea_cons (ev_op (ev_var rfl) (ev_op ev_int ev_int (er_pow ⟨by decide, by decide, by decide⟩)) er_ge) ea_nil) ec_intb) (er_mul ?_)) (ea_cons (ev_var rfl) ea_nil)) (by show 2 ≤ 1000; decide)) ⟨rfl, _, _, rfl, ?_, Int.emod_nonneg _ (by decide), Int.emod_lt_of_pos _ (by decide)⟩) (Nat.le_refl _) fun ds o ⟨e1, i, j, e2, h1, h2, h3⟩ => ?_
      · right
        by_cases h : decide ((10 : Int) ^ (18 : Int).toNat ≤ g) = true
        · rw [if_pos h]
          exact ⟨by decide, by decide⟩
        · rw [if_neg h]
          exact ⟨by decide, by decide⟩
      · by_cases h : decide ((10 : Int) ^ (18 : Int).toNat ≤ g) = true
        · rw [if_pos h]
          omega
        · rw [if_neg h]
          omega
      · subst e1
        exact ⟨ds, rfl, rfl, i, j, e2, h1, h2, h3⟩
def F_law_take (ds : List Dd) (o : Ow) (S : Dd → Ow → Prop) : Prop := ∃ n : Nat, 1 ≤ n ∧ n ≤ 100000 ∧ ds = [.py (.int (n : Int))] ∧ o = .pool ∧ S = fun d o' => o' = .pool ∧ ∃ j : Nat, j < n ∧ d = .py (.int (j : Int))
theorem c_law_take (W : Wt T mg) : Cal P w T.K mg base 1 "_law_take" (spQ T F_law_take) [] := by
  refine cal_pool (k := 0) W.fn_law_take sc_law_take bn_law_take F_law_take (fun ds o S h => ?_) (fun f cdv A outer s H E hr => ⟨_, (pss_cons (ps_if (pt_cmpR op_gt (pe_ix (r := rIxL T.K) ix_list (pv 0) pe_int (fun _ _ => rfl)) pe_int (nomark _)) (pss_cons (ps_set (i := 2) sc_law_take.nd rfl (Or.inl rfl) (pe_op op_mod (pe_callTy (r := rIntC) cz_int (by rfl) W.m_int bt_int (pa_cons (pe_ix (r := rIxL T.K) ix_list (pv 0) pe_int (fun _ _ => rfl)) pa_nil)) (pv 1)))
      (pss_cons (ps_asg (pe_op op_fdiv (pe_ix (r := rIxL T.K) ix_list (pv 0) pe_int (fun _ _ => rfl)) (pv 1)) (pg_sub (pv 0) pe_int set_list))
      (pss_one (ps_ret (pv 2))))) pss_nil)
      (pss_cons (ps_asg (pe_op op_mod (pe_callTy (r := rIntC) cz_int (by rfl) W.m_int bt_int (pa_cons (pe_op op_add (pe_op op_mul (pe_ix (r := rIxL T.K) ix_list (pv 0) pe_int (fun _ _ => rfl)) pe_int) pe_int) pa_nil)) pe_int) (pg_sub (pv 0) pe_int set_list))
      (pss_one (ps_ret (pe_op op_mod (pe_callTy (r := rIntC) cz_int (by rfl) W.m_int bt_int (pa_cons (pe_op op_fdiv (pe_op op_mod (pe_callTy (r := rIntC) cz_int (by rfl) W.m_int bt_int (pa_cons (pe_op op_mul (pe_ix (r := rIxL T.K) ix_list (pv 0) pe_int (fun _ _ => rfl)) (pe_ix (r := rIxL T.K) ix_list (pv 0) pe_int (fun _ _ => rfl))) pa_nil)) pe_int) pe_int) pa_nil)) (pv 1)))))), fun ds o S h => ?_⟩)
  · obtain ⟨n, h1, h2, rfl, rfl, rfl⟩ := h
    rfl
  · obtain ⟨n, h1, h2, rfl, rfl, rfl⟩ := h
    have hn : (0 : Int) < (n : Int) := by omega
    have res : ∀ v : Int, ∃ j : Nat, j < n ∧ Dd.py (.int (v % (n : Int))) = .py (.int (j : Int)) := fun v => by
      have a1 := Int.emod_nonneg v (show (n : Int) ≠ 0 by omega)
      have a2 := Int.emod_lt_of_pos v hn
      refine ⟨(v % (n : Int)).toNat, by omega, ?_⟩
      rw [Int.toNat_of_nonneg a1]
    let G0 : Dd → List Ow → Prop := fun d o => o = [.pool] ∧ ∃ v : Int, 0 ≤ v ∧ d = .py (.int v)
    let G1 : Dd → List Ow → Prop := fun d o => o = [.pool] ∧ ∃ v : Int, 0 ≤ v ∧ v < 2147483647 ∧ d = .py (.int v)
    have g0 : ∀ {ρ : En}, ρ[0]? = some (some (.own 0)) → EvW T (tOp (rIxL T.K) (tVar 0) (tC (.int 0))) ρ [.pool] G0 := fun h => ew_pool0 h rfl fun v hv => ⟨rfl, v, hv, rfl⟩
    have g1 : ∀ {ρ : En}, ρ[0]? = some (some (.own 0)) → EvW T (tOp (rIxL T.K) (tVar 0) (tC (.int 1))) ρ [.pool] G1 := fun h => ew_pool1 h rfl fun v hv hv2 => ⟨rfl, v, hv, hv2, rfl⟩
    refine go_seq (N1 := fun ρ' o => o = [.pool] ∧ ρ' = [some (.own 0), some (.py (.int (n : Int))), none]) ?_ (fun ρ' o ⟨e1, e2⟩ => ?_)
    · refine go_ifw (S1 := fun c o => o = [.pool]) (ewt_test (S := fun d o => o = [.pool] ∧ ∃ c : Bool, d = .py (.bool c)) (ew_op1 (g0 rfl) ev_int fun x o ⟨e1, v, hv, e2⟩ => by subst e2; exact ⟨_, er_gt, e1, _, rfl⟩) fun d o ⟨e1, c, e2⟩ => ⟨c, e2, e1⟩) (fun o e => ?_) (fun o e => go_next ⟨e, rfl⟩)
      subst e
      refine go_let (S := fun d o => o = [.pool] ∧ ∃ j : Nat, j < n ∧ d = .py (.int (j : Int))) (ew_op1 (S1 := G0) (ew_cb (S1 := fun ds o => o = [.pool] ∧ ∃ v : Int, 0 ≤ v ∧ ds = [.py (.int v)]) (ewa_one (g0 rfl) fun d o ⟨e1, v, hv, e2⟩ => ⟨e1, v, hv, by rw [e2]⟩) fun ds o ⟨e1, v, hv, e2⟩ => ⟨.py (.int v), (by rw [e2]; exact ec_int), e1, v, hv, rfl⟩) (ev_var rfl) fun x o ⟨e1, v, hv, e2⟩ => by subst e2; exact ⟨_, er_mod hn, e1, res v⟩) ?_
      rintro d o ⟨rfl, j, hj, rfl⟩
      refine go_andthen (o' := [.pool]) (go_pool0 (k := 0) (S := G0) (ew_op1 (S1 := G0) (g0 rfl) (ev_var rfl) fun x o ⟨e1, v, hv, e2⟩ => by subst e2; exact ⟨_, er_fdiv ⟨hn, by omega⟩, e1, _, Int.ediv_nonneg hv (by omega), rfl⟩) rfl fun d o ⟨e1, v, hv, e2⟩ => ⟨v, hv, e2, by rw [e1]; rfl, rfl, by rw [e1]; rfl⟩) ?_
      exact go_retp (ev_var rfl) ⟨.pool, [], rfl, ⟨rfl, j, hj, rfl⟩, .inl rfl⟩
    · subst e1 e2
      refine go_andthen (o' := [.pool]) (go_pool1 (k := 0) (S := G1) (ew_op1 (S1 := fun d o => o = [.pool] ∧ ∃ v : Int, d = .py (.int v)) (ew_cb (S1 := fun ds o => o = [.pool] ∧ ∃ v : Int, ds = [.py (.int v)]) (ewa_one (S1 := fun d o => o = [.pool] ∧ ∃ v : Int, d = .py (.int v)) (ew_op1 (S1 := fun d o => o = [.pool] ∧ ∃ v : Int, d = .py (.int v)) (ew_op1 (S1 := G1) (g1 rfl) ev_int fun x o ⟨e1, v, h1, h2, e2⟩ => by subst e2; exact ⟨_, er_mul (.inr ⟨by decide, by decide⟩), e1, _, rfl⟩) ev_int fun x o ⟨e1, v, e2⟩ => by subst e2; exact ⟨_, er_add, e1, _, rfl⟩) fun d o ⟨e1, v, e2⟩ => ⟨e1, v, by rw [e2]⟩) fun ds o ⟨e1, v, e2⟩ => ⟨.py (.int v), (by rw [e2]; exact ec_int), e1, v, rfl⟩) ev_int fun x o ⟨e1, v, e2⟩ => by subst e2; exact ⟨_, er_mod (by decide), e1, _, Int.emod_nonneg _ (by decide), Int.emod_lt_of_pos _ (by decide), rfl⟩) rfl fun d o ⟨e1, v, hv, hv2, e2⟩ => ⟨v, hv, hv2, e2, by rw [e1]; rfl, rfl, by rw [e1]; rfl⟩) ?_
      let GI : Dd → List Ow → Prop := fun d o => o = [.pool] ∧ ∃ v : Int, d = .py (.int v)
      have ci : ∀ {te : TE} {ρ : En}, EvW T te ρ [.pool] GI → EvW T (tCB rIntC (tCons te tNil)) ρ [.pool] GI := fun h => ew_cb (S1 := fun ds o => o = [.pool] ∧ ∃ v : Int, ds = [.py (.int v)]) (ewa_one h fun d o ⟨e1, v, e2⟩ => ⟨e1, v, by rw [e2]⟩) fun ds o ⟨e1, v, e2⟩ => ⟨.py (.int v), (by rw [e2]; exact ec_int), e1, v, rfl⟩
      refine go_ret (ew_op1 (S1 := GI) (ci (ew_op1 (S1 := GI) (ew_op1 (S1 := GI) (ci (ew_op (S1 := G1) (g1 rfl) fun x o ⟨e1, v, h1, h2, e2⟩ => ?_)) ev_int fun x o ⟨e1, v, e2⟩ => by subst e2; exact ⟨_, er_mod (by decide), e1, _, rfl⟩) ev_int fun x o ⟨e1, v, e2⟩ => by subst e2; exact ⟨_, er_fdiv ⟨by decide, by decide⟩, e1, _, rfl⟩)) (ev_var rfl) fun x o ⟨e1, v, e2⟩ => by subst e2; obtain ⟨j, hj, ej⟩ := res v; exact ⟨_, er_mod hn, .pool, [], e1, ⟨rfl, j, hj, ej⟩, .inl rfl⟩)
      · subst e1 e2
        exact ew_is (g1 rfl) fun y o ⟨e1, u, h3, h4, e2⟩ => by subst e2; exact ⟨_, er_mul (.inl ⟨by omega, by omega⟩), e1, _, rfl⟩
/-- take(n), as a value -/
theorem ew_take {te : TE} {ρ : En} {n : Nat} {ω' : List Ow} {S : Dd → List Ow → Prop} {E : XK} (h0 : ρ[0]? = some (some (.own 0))) (h : Ev T te ρ (.py (.int (n : Int)))) (h1 : 1 ≤ n) (h2 : n ≤ 100000) (k : ∀ j : Nat, j < n → S (.py (.int (j : Int))) (.pool :: ω')) : EvW T (tCall (spQ T F_law_take) [] E (tCons (tVar 0) (tCons te tNil))) ρ (.pool :: ω') S :=
  ew_callQ (ds := [.py (.int (n : Int))]) (ea_cons (ev_var h0) (ea_cons h ea_nil)) rfl ⟨n, h1, h2, rfl, rfl, rfl⟩ fun d o' ⟨e1, j, hj, e2⟩ => by
    subst e1 e2
    exact ⟨rfl, k j hj⟩
def F_law_one (ds : List Dd) (o : Ow) (S : Dd → Ow → Prop) : Prop := ∃ xs : List PyData, 1 ≤ xs.length ∧ xs.length ≤ 1000 ∧ ds = [.py (.list xs)] ∧ o = .pool ∧ S = fun d o' => o' = .pool ∧ ∃ x ∈ xs, d = .py x
theorem c_law_one (W : Wt T mg) : Cal P w T.K mg base 2 "_law_one" (spQ T F_law_one) [] := by
  refine cal_pool (k := 1) W.fn_law_one sc_law_one bn_law_one F_law_one (fun ds o S h => ?_) (fun f cdv A outer s H E hr => ⟨_, (pss_one (ps_ret (pe_ix (r := rIxL T.K) ix_list (pv 1) (pe_c (c_law_take W) hr (by decide) (by rfl) (pa_cons (pv 0) (pa_cons (pe_callB (r := rLen T.K) cz_len (by rfl) W.m_len bt_len (pa_cons (pv 1) pa_nil)) pa_nil))) (fun _ _ => rfl)))), fun ds o S h => ?_⟩)
  · obtain ⟨xs, h1, h2, rfl, rfl, rfl⟩ := h
    rfl
  · obtain ⟨xs, h1, h2, rfl, rfl, rfl⟩ := h
    refine go_ret (ew_op2 (S1 := fun d o => o = [.pool] ∧ ∃ j : Nat, j < xs.length ∧ d = .py (.int (j : Int))) (ev_var rfl) (ew_take (ω' := []) rfl (ev_cb (ea_cons (ev_var rfl) ea_nil) ec_len_l) h1 (by omega) fun j hj => ⟨rfl, j, hj, rfl⟩) fun y o ⟨e1, j, hj, e2⟩ => by subst e2; exact ⟨.py xs[j], er_ixL (atI_nat (j := j) (List.getElem?_eq_getElem hj)), .pool, [], e1, ⟨rfl, xs[j], List.getElem_mem hj, rfl⟩, .inl rfl⟩)
/-- one(xs), as a value -/
theorem ew_one {te : TE} {ρ : En} {xs : List PyData} {ω' : List Ow} {S : Dd → List Ow → Prop} {E : XK} (h0 : ρ[0]? = some (some (.own 0))) (h : Ev T te ρ (.py (.list xs))) (h1 : 1 ≤ xs.length) (h2 : xs.length ≤ 1000) (k : ∀ x ∈ xs, S (.py x) (.pool :: ω')) : EvW T (tCall (spQ T F_law_one) [] E (tCons (tVar 0) (tCons te tNil))) ρ (.pool :: ω') S :=
  ew_callQ (ds := [.py (.list xs)]) (ea_cons (ev_var h0) (ea_cons h ea_nil)) rfl ⟨xs, h1, h2, rfl, rfl, rfl⟩ fun d o' ⟨e1, x, hx, e2⟩ => by
    subst e1 e2
    exact ⟨rfl, k x hx⟩
def F_law_turned (ds : List Dd) (o : Ow) (S : Dd → Ow → Prop) : Prop := ∃ xs : List PyData, xs.length ≤ 100000 ∧ (∀ x ∈ xs, x.canLay0 = true ∧ x.depth ≤ 10) ∧ ds = [.py (.list xs)] ∧ o = .pool ∧ S = fun d o' => o' = .pool ∧ ∃ ys : List PyData, ys.Perm xs ∧ d = .py (.list ys)
theorem erase_perm {α : Type} : ∀ {l : List α} {j : Nat} {x : α}, l[j]? = some x → (x :: l.eraseIdx j).Perm l
  | a :: l, 0, x, h => by
    cases Option.some.inj h
    exact List.Perm.refl _
  | a :: l, j + 1, x, h => (List.Perm.swap a x _).trans ((erase_perm (l := l) (j := j) h).cons a)
theorem c_law_turned (W : Wt T mg) : Cal P w T.K mg base 2 "_law_turned" (spQ T F_law_turned) [] := by
  refine cal_pool (k := 1) W.fn_law_turned sc_law_turned bn_law_turned F_law_turned (fun ds o S h => ?_) (fun f cdv A outer s H E hr => ⟨_, (pss_cons (ps_par (i := 2) (j := 3) (by rfl) sc_law_turned.nd rfl rfl (by decide) rfl rfl (pa_cons (pe_callTy (r := rLstC T.K) cz_lst (by rfl) W.m_list bt_list (pa_cons (pv 1) pa_nil)) (pa_cons (pe_lst pa_nil) pa_nil)) (by rfl))
      (pss_cons (ps_while PassesOwn.never (pt_cmpR (r := rNeD T.K) (op_neD hr.units) (pv 2) (pe_lst pa_nil) (nomark _)) (pss_one (ps_expr (kbm T.K PySem.F.plainAttrs_list PySem.F.slot_list_append PySem.F.type_list_append mt_append (pv 3) (pa_cons (kbm T.K PySem.F.plainAttrs_list PySem.F.slot_list_pop PySem.F.type_list_pop mt_popAt (pv 2) (pa_cons (pe_c (c_law_take W) hr (by decide) (by rfl) (pa_cons (pv 0) (pa_cons (pe_callB (r := rLen T.K) cz_len (by rfl) W.m_len bt_len (pa_cons (pv 2) pa_nil)) pa_nil))) pa_nil)) pa_nil)))))
      (pss_one (ps_ret (pv 3))))), fun ds o S h => ?_⟩)
  · obtain ⟨xs, h1, h2, rfl, rfl, rfl⟩ := h
    rfl
  · obtain ⟨xs, h1, h2, rfl, rfl, rfl⟩ := h
    refine go_par_nn (ω := [.pool]) (ds := xs) (es := []) (en_cb (ea_cons (ev_var rfl) ea_nil) ecn_lst_l) (en_lst (ds := []) ea_nil (by decide)) (Nat.le_refl _) ?_
    refine go_seq (N1 := fun ρ' o => ∃ ys : List PyData, ys.Perm xs ∧ o = [.pool, .lst [], .lst ys] ∧ ρ' = [some (.own 0), some (.py (.list xs)), some (.own 1), some (.own 2)]) ?_ (fun ρ' o ⟨ys, hp, e1, e2⟩ => by
      subst e1 e2
      exact go_frz (ω := [.pool, .lst []]) (o := .lst ys) (fun z => nomatch z) (by show 1 ≤ 2; decide) (go_retp (ev_var rfl) ⟨.pool, _, rfl, ⟨rfl, ys, hp, rfl⟩, .inl rfl⟩))
    refine go_while (fun m ρ1 o => ∃ ls fs : List PyData, ls.length = m ∧ (fs ++ ls).Perm xs ∧ o = [.pool, .lst ls, .lst fs] ∧ ρ1 = [some (.own 0), some (.py (.list xs)), some (.own 1), some (.own 2)]) xs.length ⟨xs, [], rfl, List.Perm.refl _, rfl, rfl⟩ ?_
    rintro m ρ1 o ⟨ls, fs, hm, hp, rfl, rfl⟩
    have hll : ls.length + fs.length = xs.length := by
      have := hp.length_eq
      rw [List.length_append] at this
      omega
    have hnice : ∀ x ∈ ls, x.canLay0 = true ∧ x.depth ≤ 10 := fun x hx => h2 x (hp.subset (List.mem_append_right _ hx))
    refine ewt_view 1 (.lst ls) rfl (fun z => nomatch z) (et_test (ev_op (ev_var rfl) (EvN.ev (en_lst (ds := []) ea_nil (by decide))) (er_neD (shaped_of hnice).1 shaped_nil))) ?_
    rw [eqv_nil]
    cases hls : ls with
    | nil =>
      rw [if_neg (by simp)]
      refine ⟨fs, ?_, rfl, rfl⟩
      rw [hls, List.append_nil] at hp
      exact hp
    | cons a l =>
      rw [← hls]
      have hpos : 1 ≤ ls.length := by rw [hls]; exact Nat.succ_le_succ (Nat.zero_le _)
      rw [if_pos (by rw [hls]; rfl)]
      refine go_appendL (k := 2) (S := fun d o => ∃ (j : Nat) (x : PyData), ls[j]? = some x ∧ d = .py x ∧ o = [.pool, .lst (ls.eraseIdx j), .lst fs]) (ew_popL (k := 1) (S := fun d o => ∃ j : Nat, j < ls.length ∧ d = .py (.int (j : Int)) ∧ o = [.pool, .lst ls, .lst fs]) (ew_callQw (ewa_two (S1 := fun d o => d = .py (.int (ls.length : Int)) ∧ o = [.pool, .lst ls, .lst fs]) (ev_var rfl) (ew_view 1 (.lst ls) rfl (ev_cb (ea_cons (ev_var rfl) ea_nil) ec_len_l) rfl ⟨rfl, rfl⟩) fun d o ⟨e1, e2⟩ => ⟨[d], .pool, [.lst ls, .lst fs], _, rfl, by rw [e1]; rfl, e2, ⟨ls.length, hpos, by omega, by rw [e1], rfl, rfl⟩, fun d o' ⟨e3, j, hj, e4⟩ => ⟨by rw [e4]; rfl, j, hj, e4, by rw [e3]⟩⟩)) rfl ⟨ls, rfl⟩ fun d o ⟨j, hj, e1, e2⟩ => ⟨j, ls, ls[j], e1, by omega, by rw [e2]; rfl, List.getElem?_eq_getElem hj, j, ls[j], List.getElem?_eq_getElem hj, rfl, by rw [e2]; rfl⟩) rfl ⟨fs, rfl⟩ fun d o ⟨j, x, hx, e1, e2⟩ => ⟨x, fs, e1, by rw [e2]; rfl, by omega, (ls.eraseIdx j).length, ?_, ls.eraseIdx j, fs ++ [x], rfl, ?_, by rw [e2]; rfl, rfl⟩
      · have hj := (List.getElem?_eq_some_iff.mp hx).1
        rw [List.length_eraseIdx_of_lt hj]
        omega
      · rw [List.append_assoc]
        exact (List.Perm.append_left fs (erase_perm hx)).trans hp
/-- turned(xs), as a value -/
theorem ew_turned {te : TE} {ρ : En} {xs : List PyData} {ω' : List Ow} {S : Dd → List Ow → Prop} {E : XK} (h0 : ρ[0]? = some (some (.own 0))) (h : Ev T te ρ (.py (.list xs))) (h1 : xs.length ≤ 100000) (h2 : ∀ x ∈ xs, x.canLay0 = true ∧ x.depth ≤ 10) (k : ∀ ys : List PyData, ys.Perm xs → S (.py (.list ys)) (.pool :: ω')) : EvW T (tCall (spQ T F_law_turned) [] E (tCons (tVar 0) (tCons te tNil))) ρ (.pool :: ω') S :=
  ew_callQ (ds := [.py (.list xs)]) (ea_cons (ev_var h0) (ea_cons h ea_nil)) rfl ⟨xs, h1, h2, rfl, rfl, rfl⟩ fun d o' ⟨e1, ys, hp, e2⟩ => by
    subst e1 e2
    exact ⟨rfl, k ys hp⟩
end
end Rt
namespace Rt
open PySem PySem.Spec PyProof.Rows L2
open C8 (Cal Met Mak pe_c pe_mt pe_mt0 pe_mk)
section
variable {P : Program} {w : World} {T : Tx} {mg : Str → Option Value} {base : Heap}
structure SkOk (l : List (Str × Int)) : Prop where
  ne : l ≠ []
  len : l.length ≤ 5
  nd : (l.map (·.1)).Nodup
  word : ∀ x ∈ l.map (·.1), x ∈ words13
  tiers : ∀ p ∈ l, 1 ≤ p.2 ∧ p.2 ≤ 4
  mono : (l.map (·.2)).Pairwise (· ≤ ·)
structure NeOk (l : List (Int × Int)) : Prop where
  len : l.length ≤ 3
  ok : ∀ p ∈ l, (2 ≤ p.1 ∧ p.1 ≤ 4) ∧ (0 ≤ p.2 ∧ p.2 ≤ 12)
  up : (l.map (·.1)).Pairwise (· < ·)
def seven (k : Bool) : List Str := if k = true then ["a", "b", "c", "d", "e", "f", "g"] else ["z", "ab", "abcdefgh", "a", "need", "skill", "all"]
theorem seven_ok : ∀ k, (seven k).Nodup ∧ (∀ x ∈ seven k, x ∈ words13) ∧ (seven k).length = 7 := by decide +kernel
def F_law_tree (ds : List Dd) (o : Ow) (S : Dd → Ow → Prop) : Prop := ds = [.py (.int 5)] ∧ o = .pool ∧ S = fun d o' => o' = .pool ∧ ∃ (sk : List (Str × Int)) (ne : List (Int × Int)), SkOk sk ∧ NeOk ne ∧ d = .py (.list [.list (sk.map enSI), .list (ne.map enII)])
theorem add_small {t j : Int} (h1 : 1 ≤ t) (h2 : t ≤ 4) (h3 : 0 ≤ j) : 1 ≤ (if t + j < 4 then t + j else 4) ∧ (if t + j < 4 then t + j else 4) ≤ 4 ∧ t ≤ (if t + j < 4 then t + j else 4) := by
  by_cases h : t + j < 4
  · rw [if_pos h]
    omega
  · rw [if_neg h]
    omega
theorem c_law_tree (W : Wt T mg) : Cal P w T.K mg base 3 "_law_tree" (spQ T F_law_tree) [] := by
  refine cal_pool (k := 2) W.fn_law_tree sc_law_tree bn_law_tree F_law_tree (fun ds o S h => ?_) (fun f cdv A outer s H E hr => ⟨_, (pss_cons (ps_set (i := 2) sc_law_tree.nd rfl (Or.inl rfl) (pe_c (c_law_one W) hr (by decide) (by rfl) (pa_cons (pv 0) (pa_cons (pe_lst (pa_cons (pe_lst (pa_cons pe_str (pa_cons pe_str (pa_cons pe_str (pa_cons pe_str (pa_cons pe_str (pa_cons pe_str (pa_cons pe_str pa_nil)))))))) (pa_cons (pe_lst (pa_cons pe_str (pa_cons pe_str (pa_cons pe_str (pa_cons pe_str (pa_cons pe_str (pa_cons pe_str (pa_cons pe_str pa_nil)))))))) pa_nil))) pa_nil))))
      (pss_cons (ps_par (i := 3) (j := 4) (by rfl) sc_law_tree.nd rfl rfl (by decide) rfl rfl (pa_cons (pe_op op_add pe_int (pe_callTy (r := rIntC) cz_int (by rfl) W.m_int bt_int (pa_cons (pe_cmpR op_eq (pe_c (c_law_take W) hr (by decide) (by rfl) (pa_cons (pv 0) (pa_cons pe_int pa_nil))) pe_int (nomark _)) pa_nil))) (pa_cons (pe_lst pa_nil) pa_nil)) (by rfl))
      (pss_cons (ps_for PassesOwn.never rfl (ki_list T.K (pe_slice (r := rSlL T.K) sl_list (pv 2) po_none (po_some (pe_op op_add pe_int (pe_c (c_law_take W) hr (by decide) (by rfl) (pa_cons (pv 0) (pa_cons (pv 1) pa_nil))))))) (pg_name (i := 5) sc_law_tree.nd rfl (Or.inl rfl)) (pss_cons (ps_expr (kbm T.K PySem.F.plainAttrs_list PySem.F.slot_list_append PySem.F.type_list_append mt_append (pv 4) (pa_cons (pe_tup (pa_cons (pv 5) (pa_cons (pv 3) pa_nil))) pa_nil)))
      (pss_one (ps_set (i := 3) sc_law_tree.nd rfl (Or.inl rfl) (pe_callB (r := rMinC) (cz_min rfl) (by rfl) W.m_min bt_min (pa_cons pe_int (pa_cons (pe_op op_add (pe_callTy (r := rIntC) cz_int (by rfl) W.m_int bt_int (pa_cons (pv 3) pa_nil)) (pe_c (c_law_one W) hr (by decide) (by rfl) (pa_cons (pv 0) (pa_cons (pe_lst (pa_cons pe_int (pa_cons pe_int (pa_cons pe_int (pa_cons pe_int (pa_cons pe_int pa_nil)))))) pa_nil)))) pa_nil)))))))
      (pss_cons (ps_set (i := 6) sc_law_tree.nd rfl (Or.inl rfl) (pe_lst pa_nil))
      (pss_cons (ps_for PassesOwn.never rfl (ki_list T.K (pe_lst (pa_cons pe_int (pa_cons pe_int (pa_cons pe_int pa_nil))))) (pg_name (i := 3) sc_law_tree.nd rfl (Or.inl rfl)) (pss_one (ps_if (pt_cmpR op_gt (pe_c (c_law_take W) hr (by decide) (by rfl) (pa_cons (pv 0) (pa_cons pe_int pa_nil))) pe_int (nomark _)) (pss_one (ps_expr (kbm T.K PySem.F.plainAttrs_list PySem.F.slot_list_append PySem.F.type_list_append mt_append (pv 6) (pa_cons (pe_tup (pa_cons (pv 3) (pa_cons (pe_c (c_law_one W) hr (by decide) (by rfl) (pa_cons (pv 0) (pa_cons (pe_lst (pa_cons pe_int (pa_cons pe_int (pa_cons pe_int (pa_cons pe_int (pa_cons pe_int (pa_cons pe_int (pa_cons pe_int pa_nil)))))))) pa_nil))) pa_nil))) pa_nil)))) pss_nil)))
      (pss_one (ps_ret (pe_lst (pa_cons (pv 4) (pa_cons (pv 6) pa_nil)))))))))), fun ds o S h => ?_⟩)
  · obtain ⟨rfl, rfl, rfl⟩ := h
    rfl
  · obtain ⟨rfl, rfl, rfl⟩ := h
    refine go_let (S := fun d o => o = [.pool] ∧ ∃ k : Bool, d = .py (.list (tStrs (seven k)))) (ew_one (ω' := []) (xs := [.list (tStrs (seven true)), .list (tStrs (seven false))]) rfl (EvN.ev (en_lst (ds := [.list (tStrs (seven true)), .list (tStrs (seven false))]) (ea_cons (EvN.ev (en_lst (ds := tStrs (seven true)) (ea_cons ev_str (ea_cons ev_str (ea_cons ev_str (ea_cons ev_str (ea_cons ev_str (ea_cons ev_str (ea_cons ev_str ea_nil))))))) (by decide))) (ea_cons (EvN.ev (en_lst (ds := tStrs (seven false)) (ea_cons ev_str (ea_cons ev_str (ea_cons ev_str (ea_cons ev_str (ea_cons ev_str (ea_cons ev_str (ea_cons ev_str ea_nil))))))) (by decide))) ea_nil)) (by show 2 ≤ 1000; decide))) (by show 1 ≤ 2; decide) (by show 2 ≤ 1000; decide) fun x hx => ?_) ?_
    · rcases List.mem_cons.mp hx with rfl | hx
      · exact ⟨rfl, true, rfl⟩
      · rw [List.mem_singleton.mp hx]
        exact ⟨rfl, false, rfl⟩
    rintro d o ⟨rfl, k, rfl⟩
    obtain ⟨k1, k2, k3⟩ := seven_ok k
    have hl7 : (tStrs (seven k)).length = 7 := by unfold tStrs; rw [List.length_map, k3]
    refine go_par_vn (ω := [.pool]) (es := []) (S1 := fun d o => o = [.pool] ∧ ∃ t : Int, 1 ≤ t ∧ t ≤ 4 ∧ d = .py (.int t)) (ew_op2 ev_int (ew_cb (S1 := fun ds o => o = [.pool] ∧ ∃ c : Bool, ds = [.py (.bool c)]) (ewa_one (S1 := fun d o => o = [.pool] ∧ ∃ c : Bool, d = .py (.bool c)) (ew_op1 (S1 := fun d o => o = [.pool] ∧ ∃ j : Nat, d = .py (.int (j : Int))) (ew_take (n := 6) (ω' := []) rfl ev_int (by decide) (by decide) fun j _ => ⟨rfl, j, rfl⟩) ev_int fun x o ⟨e1, j, e2⟩ => by subst e2; exact ⟨_, er_eqI, e1, _, rfl⟩) fun d o ⟨e1, c, e2⟩ => ⟨e1, c, by rw [e2]⟩) (S := fun d o => o = [.pool] ∧ ∃ c : Bool, d = .py (.int (if c then 1 else 0))) fun ds o ⟨e1, c, e2⟩ => by subst e2; exact ⟨_, ec_intb, e1, c, rfl⟩) fun y o ⟨e1, c, e2⟩ => by subst e2; exact ⟨_, er_add, e1, _, by cases c <;> decide, by cases c <;> decide, rfl⟩) (en_lst (ds := []) ea_nil (by decide)) (Nat.le_refl _) (fun d o ⟨e1, t, _, _, e2⟩ => by subst e1 e2; exact ⟨rfl, rfl⟩) ?_
    rintro d o ⟨rfl, t, ht1, ht2, rfl⟩
    refine go_seq (N1 := fun ρ' o => ∃ sk y3 y5, SkOk sk ∧ o = [.pool, .lst (sk.map enSI)] ∧ ρ' = [some (.own 0), some (.py (.int 5)), some (.py (.list (tStrs (seven k)))), y3, some (.own 1), y5, none]) ?_ (fun ρ' o ⟨sk, y3, y5, hsk, e1, e2⟩ => ?_)
    · refine go_for (S0 := fun ds o => o = [.pool, .lst []] ∧ ∃ j : Nat, j < 5 ∧ ds = tStrs ((seven k).take (1 + j))) (vs := [5]) (fun ds i ρ1 o => ∃ (j : Nat) (sk : List (Str × Int)) (t : Int) (y5 : Option Dd), j < 5 ∧ ds = tStrs ((seven k).take (1 + j)) ∧ o = [.pool, .lst (sk.map enSI)] ∧ sk.map (·.1) = ((seven k).take (1 + j)).take i ∧ 1 ≤ t ∧ t ≤ 4 ∧ (∀ p ∈ sk, 1 ≤ p.2 ∧ p.2 ≤ t) ∧ (sk.map (·.2)).Pairwise (· ≤ ·) ∧ ρ1 = [some (.own 0), some (.py (.int 5)), some (.py (.list (tStrs (seven k)))), some (.py (.int t)), some (.own 1), y5, none]) (eiw_list (S := fun d o => o = [.pool, .lst []] ∧ ∃ j : Nat, j < 5 ∧ d = .py (.list (tStrs ((seven k).take (1 + j))))) (EvWN.w (S1 := fun ds o => o = [.pool, .lst []] ∧ ∃ j : Nat, j < 5 ∧ ds = tStrs ((seven k).take (1 + j))) (ewn_slL (S1 := fun hi o => o = [.pool, .lst []] ∧ ∃ j : Nat, j < 5 ∧ hi = some (((1 + j : Nat)) : Int)) (ev_var rfl) eo_none (ewo_some (S := fun d o => o = [.pool, .lst []] ∧ ∃ j : Nat, j < 5 ∧ d = .py (.int ((1 + j : Nat) : Int))) (ew_op2 (S1 := fun d o => o = [.pool, .lst []] ∧ ∃ j : Nat, j < 5 ∧ d = .py (.int (j : Int))) ev_int (ew_take (n := 5) (ω' := [.lst []]) rfl (ev_var rfl) (by decide) (by decide) fun j hj => ⟨rfl, j, hj, rfl⟩) fun y o ⟨e1, j, hj, e2⟩ => by subst e2; exact ⟨_, er_add, e1, j, hj, by rw [Int.natCast_add]; rfl⟩) fun d o ⟨e1, j, hj, e2⟩ => ⟨_, e2, e1, j, hj, rfl⟩) fun hi o ⟨e1, j, hj, e2⟩ => ⟨e1, j, hj, by rw [e2, cut_to]; unfold tStrs; rw [List.map_take]⟩) fun ds o ⟨e1, j, hj, e2⟩ => ⟨e1, j, hj, by rw [e2]⟩) fun d o ⟨e1, j, hj, e2⟩ => ⟨_, e2, e1, j, hj, rfl⟩) (fun ds o ⟨e1, j, hj, e2⟩ => ⟨j, [], t, _, hj, e2, e1, rfl, ht1, ht2, (fun p h => nomatch h), List.Pairwise.nil, rfl⟩) ?_ ?_
      · rintro ds i d ρ1 o hd ⟨j, sk, t, y5, hj, rfl, rfl, hf, h1, h2, h3, h4, rfl⟩
        obtain ⟨x, hx, rfl⟩ : ∃ x, ((seven k).take (1 + j))[i]? = some x ∧ d = .str x := by
          unfold tStrs at hd
          rw [List.getElem?_map] at hd
          cases z : ((seven k).take (1 + j))[i]? with
          | none =>
            rw [z] at hd
            cases hd
          | some x =>
            rw [z] at hd
            exact ⟨x, rfl, (Option.some.inj hd).symm⟩
        have hskl : sk.length ≤ 1000 := by
          have e1 := congrArg List.length hf
          rw [List.length_map, List.length_take, List.length_take] at e1
          omega
        refine ⟨_, eg_name (by decide), go_appendp (k := 1) (x := enSI (x, t)) (ev_tup (ds := [.str x, .int t]) (ea_cons (ev_var rfl) (ea_cons (ev_var rfl) ea_nil)) (by show 2 ≤ 1000; decide)) rfl rfl (by rw [List.length_map]; exact hskl) ?_⟩
        refine go_asg (S := fun d o => o = [.pool, .lst (sk.map enSI ++ [enSI (x, t)])] ∧ ∃ t' : Int, 1 ≤ t' ∧ t' ≤ 4 ∧ t ≤ t' ∧ d = .py (.int t')) (ew_cb (S1 := fun ds o => o = [.pool, .lst (sk.map enSI ++ [enSI (x, t)])] ∧ ∃ j : Int, 0 ≤ j ∧ ds = [.py (.int 4), .py (.int (t + j))]) (ewa_two (S1 := fun d o => o = [.pool, .lst (sk.map enSI ++ [enSI (x, t)])] ∧ ∃ j : Int, 0 ≤ j ∧ d = .py (.int (t + j))) ev_int (ew_op2 (S1 := fun d o => o = [.pool, .lst (sk.map enSI ++ [enSI (x, t)])] ∧ ∃ j : Int, 0 ≤ j ∧ d = .py (.int j)) (ev_cb (ea_cons (ev_var rfl) ea_nil) ec_int) (ew_one (ω' := [.lst (sk.map enSI ++ [enSI (x, t)])]) (xs := [.int 0, .int 0, .int 1, .int 1, .int 2]) rfl (EvN.ev (en_lst (ea_cons ev_int (ea_cons ev_int (ea_cons ev_int (ea_cons ev_int (ea_cons ev_int ea_nil))))) (by show 5 ≤ 1000; decide))) (by show 1 ≤ 5; decide) (by show 5 ≤ 1000; decide) fun y hy => ?_) fun y o ⟨e1, j, hj, e2⟩ => by subst e2; exact ⟨_, er_add, e1, j, hj, rfl⟩) fun d o ⟨e1, j, hj, e2⟩ => ⟨e1, j, hj, by rw [e2]⟩) fun ds o ⟨e1, j, hj, e2⟩ => by subst e2; exact ⟨_, ec_min, e1, _, (add_small h1 h2 hj).1, (add_small h1 h2 hj).2.1, (add_small h1 h2 hj).2.2, rfl⟩) fun d o ⟨e1, t', a1, a2, a3, e2⟩ => ⟨j, sk ++ [(x, t)], t', some (.py (.str x)), hj, rfl, ?_, ?_, a1, a2, fun p hp => ?_, ?_, by rw [e2]; rfl⟩
        · have : ∀ y ∈ [(0 : Int), 0, 1, 1, 2], 0 ≤ y := by decide
          obtain ⟨z, hz, rfl⟩ : ∃ z ∈ [(0 : Int), 0, 1, 1, 2], y = .int z := by
            have hy' : y ∈ [(0 : Int), 0, 1, 1, 2].map PyData.int := hy
            obtain ⟨z, hz, e⟩ := List.mem_map.mp hy'
            exact ⟨z, hz, e.symm⟩
          exact ⟨rfl, z, this z hz, rfl⟩
        · rw [e1, List.map_append]
          rfl
        · rw [List.map_append, hf, take_succ_of hx]
          rfl
        · rcases List.mem_append.mp hp with q | q
          · have := h3 p q
            omega
          · rw [List.mem_singleton.mp q]
            exact ⟨h1, a3⟩
        · rw [List.map_append]
          refine List.pairwise_append.mpr ⟨h4, List.pairwise_singleton _ _, fun a ha c hc => ?_⟩
          rw [List.mem_singleton.mp hc]
          obtain ⟨p, hp, rfl⟩ := List.mem_map.mp ha
          exact (h3 p hp).2
      · rintro ds ρ1 o ⟨j, sk, t, y5, hj, rfl, rfl, hf, h1, h2, h3, h4, rfl⟩
        have e1 : sk.map (·.1) = (seven k).take (1 + j) := by
          rw [hf, List.take_of_length_le]
          unfold tStrs
          rw [List.length_map]
          exact Nat.le_refl _
        have el := congrArg List.length e1
        rw [List.length_map, List.length_take, k3] at el
        refine ⟨sk, _, _, ⟨fun z => ?_, by omega, ?_, fun x hx => ?_, fun p hp => ⟨(h3 p hp).1, Int.le_trans (h3 p hp).2 h2⟩, h4⟩, rfl, rfl⟩
        · rw [z] at el
          have e0 : ([] : List (Str × Int)).length = 0 := rfl
          omega
        · rw [e1]
          exact (List.take_sublist _ _).nodup k1
        · rw [e1] at hx
          exact k2 x (List.mem_of_mem_take hx)
    · subst e1 e2
      refine go_newlp (ds := []) (en_lst (ds := []) ea_nil (by decide)) (by show 1 ≤ 2; decide) ?_
      refine go_seq (N1 := fun ρ' o => ∃ ne y3, NeOk ne ∧ o = [.pool, .lst (sk.map enSI), .lst (ne.map enII)] ∧ ρ' = [some (.own 0), some (.py (.int 5)), some (.py (.list (tStrs (seven k)))), y3, some (.own 1), y5, some (.own 2)]) ?_ (fun ρ' o ⟨ne, y3, hne, e1, e2⟩ => ?_)
      · refine go_forw (vs := [3]) ([2, 3, 4] : List Int) PyData.int (fun i ρ1 o => ∃ (ne : List (Int × Int)) (y3 : Option Dd), (ne.map (·.1)).Sublist (([2, 3, 4] : List Int).take i) ∧ (∀ p ∈ ne, 0 ≤ p.2 ∧ p.2 ≤ 12) ∧ o = [.pool, .lst (sk.map enSI), .lst (ne.map enII)] ∧ ρ1 = [some (.own 0), some (.py (.int 5)), some (.py (.list (tStrs (seven k)))), y3, some (.own 1), y5, some (.own 2)]) (ei_list (EvN.ev (en_lst (ds := ([2, 3, 4] : List Int).map PyData.int) (ea_cons ev_int (ea_cons ev_int (ea_cons ev_int ea_nil))) (by decide)))) ⟨[], _, List.Sublist.refl _, (fun p h => nomatch h), rfl, rfl⟩ ?_ ?_
        · rintro i x ρ1 o hx ⟨ne, y3, hsub, hp, rfl, rfl⟩
          have hl3 : ne.length ≤ 3 := by
            have := hsub.length_le
            rw [List.length_map, List.length_take] at this
            have e0 : ([2, 3, 4] : List Int).length = 3 := rfl
            omega
          refine ⟨_, eg_name (by decide), go_ifw (S1 := fun c o => o = [.pool, .lst (sk.map enSI), .lst (ne.map enII)]) (ewt_test (S := fun d o => o = [.pool, .lst (sk.map enSI), .lst (ne.map enII)] ∧ ∃ c : Bool, d = .py (.bool c)) (ew_op1 (S1 := fun d o => o = [.pool, .lst (sk.map enSI), .lst (ne.map enII)] ∧ ∃ j : Nat, d = .py (.int (j : Int))) (ew_take (n := 3) (ω' := [.lst (sk.map enSI), .lst (ne.map enII)]) rfl ev_int (by decide) (by decide) fun j _ => ⟨rfl, j, rfl⟩) ev_int fun x o ⟨e1, j, e2⟩ => by subst e2; exact ⟨_, er_gt, e1, _, rfl⟩) fun d o ⟨e1, c, e2⟩ => ⟨c, e2, e1⟩) (fun o e => ?_) (fun o e => go_next ⟨ne, _, ?_, hp, e, rfl⟩)⟩
          · subst e
            refine go_append (k := 2) (S := fun d o => o = [.pool, .lst (sk.map enSI), .lst (ne.map enII)] ∧ ∃ v : Int, 0 ≤ v ∧ v ≤ 12 ∧ d = .py (enII (x, v))) (ew_tup (S1 := fun ds o => o = [.pool, .lst (sk.map enSI), .lst (ne.map enII)] ∧ ∃ v : Int, 0 ≤ v ∧ v ≤ 12 ∧ ds = [.py (.int x), .py (.int v)]) (ewa_two (S1 := fun d o => o = [.pool, .lst (sk.map enSI), .lst (ne.map enII)] ∧ ∃ v : Int, 0 ≤ v ∧ v ≤ 12 ∧ d = .py (.int v)) (ev_var rfl) (ew_one (ω' := [.lst (sk.map enSI), .lst (ne.map enII)]) (xs := [.int 0, .int 1, .int 1, .int 2, .int 2, .int 3, .int 5]) rfl (EvN.ev (en_lst (ea_cons ev_int (ea_cons ev_int (ea_cons ev_int (ea_cons ev_int (ea_cons ev_int (ea_cons ev_int (ea_cons ev_int ea_nil))))))) (by show 7 ≤ 1000; decide))) (by show 1 ≤ 7; decide) (by show 7 ≤ 1000; decide) fun y hy => ?_) fun d o ⟨e1, v, v1, v2, e2⟩ => ⟨e1, v, v1, v2, by rw [e2]⟩) fun ds o ⟨e1, v, v1, v2, e2⟩ => ⟨[.int x, .int v], e2, by show 2 ≤ 1000; decide, e1, v, v1, v2, rfl⟩) rfl ⟨_, rfl⟩ fun d o ⟨e1, v, v1, v2, e2⟩ => ⟨_, ne.map enII, e2, by rw [e1]; rfl, by rw [List.length_map]; omega, ne ++ [(x, v)], _, ?_, fun p hp' => ?_, ?_, rfl⟩
            · have : ∀ y ∈ [(0 : Int), 1, 1, 2, 2, 3, 5], 0 ≤ y ∧ y ≤ 12 := by decide
              obtain ⟨z, hz, rfl⟩ : ∃ z ∈ [(0 : Int), 1, 1, 2, 2, 3, 5], y = .int z := by
                have hy' : y ∈ [(0 : Int), 1, 1, 2, 2, 3, 5].map PyData.int := hy
                obtain ⟨z, hz, e⟩ := List.mem_map.mp hy'
                exact ⟨z, hz, e.symm⟩
              exact ⟨rfl, z, (this z hz).1, (this z hz).2, rfl⟩
            · rw [List.map_append, take_succ_of hx]
              exact hsub.append (List.Sublist.refl _)
            · rcases List.mem_append.mp hp' with q | q
              · exact hp p q
              · rw [List.mem_singleton.mp q]
                exact ⟨v1, v2⟩
            · rw [e1, List.map_append]
              rfl
          · rw [take_succ_of hx]
            exact hsub.trans (List.sublist_append_left _ _)
        · rintro ρ1 o ⟨ne, y3, hsub, hp, rfl, rfl⟩
          have hsub' : (ne.map (·.1)).Sublist ([2, 3, 4] : List Int) := hsub
          have hlen := hsub'.length_le
          rw [List.length_map] at hlen
          have hin : ∀ i ∈ ([2, 3, 4] : List Int), 2 ≤ i ∧ i ≤ 4 := by decide
          have hup : ([2, 3, 4] : List Int).Pairwise (· < ·) := by decide
          exact ⟨ne, _, ⟨hlen, fun p hp' => ⟨hin p.1 (hsub'.subset (List.mem_map_of_mem hp')), hp p hp'⟩, hup.sublist hsub'⟩, rfl, rfl⟩
      · subst e1 e2
        refine go_frz (ω := [.pool, .lst (sk.map enSI)]) (o := .lst (ne.map enII)) (fun z => nomatch z) (by show 1 ≤ 2; decide) ?_
        refine go_frz (ω := [.pool]) (o := .lst (sk.map enSI)) (fun z => nomatch z) (by show 1 ≤ 1; decide) ?_
        exact go_retp (EvN.ev (en_lst (ds := [.list (sk.map enSI), .list (ne.map enII)]) (ea_cons (ev_var rfl) (ea_cons (ev_var rfl) ea_nil)) (by show 2 ≤ 1000; decide))) ⟨.pool, [], rfl, ⟨rfl, sk, ne, hsk, hne, rfl⟩, .inl rfl⟩
end
end Rt
namespace Rt
open PySem PySem.Spec PyProof.Rows L2
open C8 (Cal Met Mak pe_c pe_mt pe_mt0 pe_mk)
section
variable {P : Program} {w : World} {T : Tx} {mg : Str → Option Value} {base : Heap}
theorem perm_map {α β : Type} (f : α → β) : ∀ {ys zs : List β}, ys.Perm zs → ∀ l : List α, zs = l.map f → ∃ l' : List α, l'.Perm l ∧ ys = l'.map f := by
  intro ys zs h
  induction h with
  | nil =>
    intro l e
    cases l with
    | nil => exact ⟨[], .refl _, rfl⟩
    | cons a l => cases e
  | cons x h ih =>
    intro l e
    cases l with
    | nil => cases e
    | cons a l =>
      rw [List.map_cons, List.cons.injEq] at e
      obtain ⟨l', p, e2⟩ := ih l e.2
      exact ⟨a :: l', p.cons a, by rw [List.map_cons, e.1, e2]⟩
  | swap x y l0 =>
    intro l e
    match l, e with
    | [], e => cases e
    | [a], e => cases e
    | a :: c :: l, e =>
      rw [List.map_cons, List.map_cons, List.cons.injEq, List.cons.injEq] at e
      exact ⟨c :: a :: l, List.Perm.swap a c l, by rw [List.map_cons, List.map_cons, e.1, e.2.1, e.2.2]⟩
  | trans h1 h2 ih1 ih2 =>
    intro l e
    obtain ⟨l1, p1, e1⟩ := ih2 l e
    obtain ⟨l2, p2, e2⟩ := ih1 l1 e1
    exact ⟨l2, p2.trans p1, e2⟩
def wordsA : List Str := ["all"]
def wordsB : List Str := ["all", "any", "any", "count"]
structure NmOk (N : List Str) : Prop where
  len : 1 ≤ N.length ∧ N.length ≤ 5
  nd : N.Nodup
  word : ∀ x ∈ N, x ∈ words13
def F_law_rows (ds : List Dd) (o : Ow) (S : Dd → Ow → Prop) : Prop := ∃ (N : List Str) (ws : List Str) (c : Bool), NmOk N ∧ (ws = wordsA ∨ ws = wordsB) ∧ ds = [.py (.list (tStrs N)), .py (.int 4), .py (.list (tStrs ws)), .py (.bool c)] ∧ o = .pool ∧ S = fun d o' => o' = .pool ∧ ∃ us : List Want, us.length ≤ 4 ∧ (∀ u ∈ us, u.Ok N) ∧ d = .py (.list (us.map enW))
def othersOf (c : Bool) (N : List Str) (s : Nat) : List Str := if c = true then N.take s else N.take s ++ N.drop (s + 1)
theorem others_sub (c : Bool) (N : List Str) (s : Nat) : (othersOf c N s).Sublist N := by
  unfold othersOf
  cases c with
  | true => exact List.take_sublist _ _
  | false =>
    have h : (N.take s ++ N.drop (s + 1)).Sublist (N.take s ++ N.drop s) := (List.Sublist.refl _).append (List.drop_sublist_drop_left N (Nat.le_succ s))
    rw [List.take_append_drop] at h
    exact h
theorem others_ne {c : Bool} {N : List Str} {s : Nat} {x y : Str} (hn : N.Nodup) (hx : N[s]? = some x) (hy : y ∈ othersOf c N s) : y ≠ x := fun e => by
  subst e
  have h1 : y ∉ N.take s := nodup_take hn hx
  unfold othersOf at hy
  cases c with
  | true => exact h1 hy
  | false =>
    rcases List.mem_append.mp hy with z | z
    · exact h1 z
    · have e2 : N.take (s + 1) ++ N.drop (s + 1) = N := List.take_append_drop _ _
      have hn2 := hn
      rw [← e2] at hn2
      refine (List.nodup_append.mp hn2).2.2 y ?_ y z rfl
      rw [take_succ_of hx]
      simp
theorem c_law_rows (W : Wt T mg) : Cal P w T.K mg base 3 "_law_rows" (spQ T F_law_rows) [] := by
  refine cal_pool (k := 2) W.fn_law_rows sc_law_rows bn_law_rows F_law_rows (fun ds o S h => ?_) (fun f cdv A outer s H E hr => ⟨_, (pss_cons (ps_set (i := 5) sc_law_rows.nd rfl (Or.inl rfl) (pe_lst pa_nil))
      (pss_cons (ps_for PassesOwn.never rfl (pi_range1 (by rfl) W.m_range (pa_cons (pe_c (c_law_take W) hr (by decide) (by rfl) (pa_cons (pv 0) (pa_cons (pe_op op_add (pv 2) pe_int) pa_nil))) pa_nil)) (pg_name (i := 6) sc_law_rows.nd rfl (Or.inl rfl)) (pss_cons (ps_set (i := 7) sc_law_rows.nd rfl (Or.inl rfl) (pe_c (c_law_take W) hr (by decide) (by rfl) (pa_cons (pv 0) (pa_cons (pe_callB (r := rLen T.K) cz_len (by rfl) W.m_len bt_len (pa_cons (pv 1) pa_nil)) pa_nil))))
      (pss_cons (ps_set (i := 8) sc_law_rows.nd rfl (Or.inl rfl) (pe_ifExp (pt_val (pv 4)) (pe_slice (r := rSlL T.K) sl_list (pv 1) po_none (po_some (pv 7))) (pe_op op_cat (pe_slice (r := rSlL T.K) sl_list (pv 1) po_none (po_some (pv 7))) (pe_slice (r := rSlL T.K) sl_list (pv 1) (po_some (pe_op op_add (pv 7) pe_int)) po_none))))
      (pss_cons (ps_set (i := 9) sc_law_rows.nd rfl (Or.inl rfl) (pe_slice (r := rSlL T.K) sl_list (pe_c (c_law_turned W) hr (by decide) (by rfl) (pa_cons (pv 0) (pa_cons (pv 8) pa_nil))) po_none (po_some (pe_op op_add pe_int (pe_c (c_law_take W) hr (by decide) (by rfl) (pa_cons (pv 0) (pa_cons pe_int pa_nil)))))))
      (pss_cons (ps_set (i := 10) sc_law_rows.nd rfl (Or.inl rfl) (pe_c (c_law_one W) hr (by decide) (by rfl) (pa_cons (pv 0) (pa_cons (pv 3) pa_nil))))
      (pss_one (ps_if (PW.pt (pw_and (pt_cmpR (r := rNeD T.K) (op_neD hr.units) (pv 9) (pe_lst pa_nil) (nomark _)) (pw_and1 (pt_cmpR op_eq (pv 10) pe_str (nomark _))))) (pss_one (ps_expr (kbm T.K PySem.F.plainAttrs_list PySem.F.slot_list_append PySem.F.type_list_append mt_append (pv 5) (pa_cons (pe_tup (pa_cons (pv 10) (pa_cons (pe_ix (r := rIxL T.K) ix_list (pv 1) (pv 7) (fun _ _ => rfl)) (pa_cons (pe_callTy (r := rTupC T.K) cz_tup (by rfl) W.m_tuple bt_tuple (pa_cons (pv 9) pa_nil)) (pa_cons (pe_op op_add pe_int (pe_c (c_law_take W) hr (by decide) (by rfl) (pa_cons (pv 0) (pa_cons (pe_callB (r := rLen T.K) cz_len (by rfl) W.m_len bt_len (pa_cons (pv 9) pa_nil)) pa_nil)))) pa_nil))))) pa_nil)))) (pss_one (ps_if (pt_cmpR (r := rNeD T.K) (op_neD hr.units) (pv 9) (pe_lst pa_nil) (nomark _)) (pss_one (ps_expr (kbm T.K PySem.F.plainAttrs_list PySem.F.slot_list_append PySem.F.type_list_append mt_append (pv 5) (pa_cons (pe_tup (pa_cons (pv 10) (pa_cons (pe_ix (r := rIxL T.K) ix_list (pv 1) (pv 7) (fun _ _ => rfl)) (pa_cons (pe_callTy (r := rTupC T.K) cz_tup (by rfl) W.m_tuple bt_tuple (pa_cons (pv 9) pa_nil)) pa_nil)))) pa_nil)))) pss_nil)))))))))
      (pss_one (ps_ret (pv 5))))), fun ds o S h => ?_⟩)
  · obtain ⟨N, ws, c, hN, hw, rfl, rfl, rfl⟩ := h
    rfl
  · obtain ⟨N, ws, c, hN, hw, rfl, rfl, rfl⟩ := h
    have hlN := hN.len
    have tl : (tStrs N).length = N.length := List.length_map ..
    have hwl : 1 ≤ (tStrs ws).length ∧ (tStrs ws).length ≤ 1000 := by
      rcases hw with rfl | rfl <;> decide
    have hws : ∀ x ∈ ws, x = "all" ∨ x = "any" ∨ x = "count" := by
      rcases hw with rfl | rfl
      · intro x hx
        exact .inl (List.mem_singleton.mp hx)
      · intro x hx
        simp only [wordsB, List.mem_cons, List.not_mem_nil, or_false] at hx
        rcases hx with h | h | h | h
        · exact .inl h
        · exact .inr (.inl h)
        · exact .inr (.inl h)
        · exact .inr (.inr h)
    have niceN : ∀ {l : List Str}, (∀ x ∈ l, x ∈ N) → ∀ d ∈ tStrs l, d.canLay0 = true ∧ d.depth ≤ 10 := fun h d hd => by
      obtain ⟨x, hx, rfl⟩ := List.mem_map.mp hd
      exact nice_str (w13_ok x (hN.word x (h x hx))).1
    refine go_newlp (ω := [.pool]) (ds := []) (en_lst (ds := []) ea_nil (by decide)) (Nat.le_refl _) ?_
    refine go_seq (N1 := fun ρ' o => ∃ (us : List Want) (y6 y7 y8 y9 y10 : Option Dd), us.length ≤ 4 ∧ (∀ u ∈ us, u.Ok N) ∧ o = [.pool, .lst (us.map enW)] ∧ ρ' = [some (.own 0), some (.py (.list (tStrs N))), some (.py (.int 4)), some (.py (.list (tStrs ws))), some (.py (.bool c)), some (.own 1), y6, y7, y8, y9, y10]) ?_ (fun ρ' o ⟨us, y6, y7, y8, y9, y10, h1, h2, e1, e2⟩ => by
      subst e1 e2
      exact go_frz (ω := [.pool]) (o := .lst (us.map enW)) (fun z => nomatch z) (by show 1 ≤ 1; decide) (go_retp (ev_var rfl) ⟨.pool, [], rfl, ⟨rfl, us, h1, h2, rfl⟩, .inl rfl⟩))
    refine go_for (S0 := fun ds o => o = [.pool, .lst []] ∧ ds.length ≤ 4 ∧ ∀ i, i < ds.length → ds[i]? = some (.int (i : Int))) (vs := [6]) (fun ds i ρ1 o => ds.length ≤ 4 ∧ (∀ i, i < ds.length → ds[i]? = some (.int (i : Int))) ∧ ∃ (us : List Want) (y6 y7 y8 y9 y10 : Option Dd), us.length ≤ i ∧ (∀ u ∈ us, u.Ok N) ∧ o = [.pool, .lst (us.map enW)] ∧ ρ1 = [some (.own 0), some (.py (.list (tStrs N))), some (.py (.int 4)), some (.py (.list (tStrs ws))), some (.py (.bool c)), some (.own 1), y6, y7, y8, y9, y10]) (eiw_rng (S1 := fun ds o => o = [.pool, .lst []] ∧ ∃ j : Nat, j < 5 ∧ ds = [.py (.int (j : Int))]) (ewa_one (S1 := fun d o => o = [.pool, .lst []] ∧ ∃ j : Nat, j < 5 ∧ d = .py (.int (j : Int))) (ew_take (n := 5) (ω' := [.lst []]) rfl (ev_is (ev_op (ev_var rfl) ev_int er_add) rfl) (by decide) (by decide) fun j hj => ⟨rfl, j, hj, rfl⟩) fun d o ⟨e1, j, hj, e2⟩ => ⟨e1, j, hj, by rw [e2]⟩) fun ds o ⟨e1, j, hj, e2⟩ => ⟨j, e2, by omega, e1, by rw [List.length_map, List.length_range]; omega, fun i hi => by
      rw [List.length_map, List.length_range] at hi
      rw [List.getElem?_map, List.getElem?_eq_getElem (by rw [List.length_range]; exact hi), List.getElem_range]
      rfl⟩) (fun ds o ⟨e1, h1, h2⟩ => ⟨h1, h2, [], _, _, _, _, _, Nat.le_refl _, (fun u h => nomatch h), e1, rfl⟩) ?_ (fun ds ρ1 o ⟨h1, h2, us, y6, y7, y8, y9, y10, h3, h4, e1, e2⟩ => ⟨us, y6, y7, y8, y9, y10, by omega, h4, e1, e2⟩)
    rintro ds i d ρ1 o hd ⟨hl4, hds, us, y6, y7, y8, y9, y10, hus, hok, rfl, rfl⟩
    have hid := (List.getElem?_eq_some_iff.mp hd).1
    have hd2 : d = .int (i : Int) := by
      rw [hds i hid] at hd
      exact (Option.some.inj hd).symm
    subst hd2
    refine ⟨_, eg_name (by decide), ?_⟩
    refine go_let (S := fun d o => o = [.pool, .lst (us.map enW)] ∧ ∃ s : Nat, s < N.length ∧ d = .py (.int (s : Int))) (ew_take (n := N.length) (ω' := [.lst (us.map enW)]) rfl (ev_is (ev_cb (ea_cons (ev_var rfl) ea_nil) ec_len_l) (by rw [tl])) hlN.1 (by omega) fun j hj => ⟨rfl, j, hj, rfl⟩) ?_
    rintro d o ⟨rfl, s, hs, rfl⟩
    have hxs : N[s]? = some N[s] := List.getElem?_eq_getElem hs
    have hsub := others_sub c N s
    have hsl := hsub.length_le
    refine go_letp (d := .py (.list (tStrs (othersOf c N s)))) (ev_if (et_b (ev_var rfl)) (fun e => EvN.ev (en_is (en_slL (ev_var rfl) eo_none (eo_some (ev_var rfl))) ?_)) (fun e => ev_is (ev_op (EvN.ev (en_slL (ev_var rfl) eo_none (eo_some (ev_var rfl)))) (EvN.ev (en_slL (ev_var rfl) (eo_some (ev_is (ev_op (ev_var rfl) ev_int er_add) (show _ = Dd.py (.int ((s + 1 : Nat) : Int)) by rw [Int.natCast_add]; rfl))) eo_none)) (er_catL ?_)) ?_)) ?_
    · rw [cut_to]
      unfold othersOf tStrs
      rw [if_pos e, List.map_take]
    · rw [cut_to, cut_from, List.length_take, List.length_drop, tl]
      omega
    · rw [cut_to, cut_from]
      unfold othersOf tStrs
      rw [if_neg (by rw [e]; exact Bool.false_ne_true), List.map_append, List.map_take, List.map_drop]
    refine go_let (S := fun d o => o = [.pool, .lst (us.map enW)] ∧ ∃ ss : List Str, ss.Nodup ∧ ss.length ≤ 5 ∧ (∀ y ∈ ss, y ∈ N ∧ y ≠ N[s]) ∧ d = .py (.list (tStrs ss))) (EvWN.w (S1 := fun ds o => o = [.pool, .lst (us.map enW)] ∧ ∃ ss : List Str, ss.Nodup ∧ ss.length ≤ 5 ∧ (∀ y ∈ ss, y ∈ N ∧ y ≠ N[s]) ∧ ds = tStrs ss) (ewn_slLw (S0 := fun d o => o = [.pool, .lst (us.map enW)] ∧ ∃ ys : List PyData, ys.Perm (tStrs (othersOf c N s)) ∧ d = .py (.list ys)) (S1 := fun ds hi o => o = [.pool, .lst (us.map enW)] ∧ ds.Perm (tStrs (othersOf c N s)) ∧ ∃ j : Nat, hi = some (((1 + j : Nat)) : Int)) (ew_turned (ω' := [.lst (us.map enW)]) rfl (ev_var rfl) (by unfold tStrs; rw [List.length_map]; omega) (niceN fun x hx => hsub.subset hx) fun ys hp => ⟨rfl, ys, hp, rfl⟩) eo_none (fun d o ⟨e1, ys, hp, e2⟩ => ⟨ys, e2, ewo_some (S := fun d o => o = [.pool, .lst (us.map enW)] ∧ ∃ j : Nat, d = .py (.int ((1 + j : Nat) : Int))) (by
        subst e1
        exact ew_op2 (S1 := fun d o => o = [.pool, .lst (us.map enW)] ∧ ∃ j : Nat, d = .py (.int (j : Int))) ev_int (ew_take (n := 3) (ω' := [.lst (us.map enW)]) rfl ev_int (by decide) (by decide) fun j _ => ⟨rfl, j, rfl⟩) fun y o ⟨e1, j, e2⟩ => by subst e2; exact ⟨_, er_add, e1, j, by rw [Int.natCast_add]; rfl⟩) fun d o ⟨e1, j, e2⟩ => ⟨_, e2, e1, hp, j, rfl⟩⟩) fun ds hi o ⟨e1, hp, j, e2⟩ => ?_) fun ds o ⟨e1, ss, s1, s2, s3, e2⟩ => ⟨e1, ss, s1, s2, s3, by rw [e2]⟩) ?_
    · obtain ⟨l', hl', rfl⟩ := perm_map PyData.str hp _ rfl
      refine ⟨e1, l'.take (1 + j), (List.take_sublist _ _).nodup (hl'.nodup_iff.mpr (hsub.nodup hN.nd)), ?_, fun y hy => ?_, ?_⟩
      · have h1 := (List.take_sublist (1 + j) l').length_le
        rw [hl'.length_eq] at h1
        omega
      · have hy' : y ∈ othersOf c N s := hl'.subset (List.mem_of_mem_take hy)
        exact ⟨hsub.subset hy', others_ne hN.nd hxs hy'⟩
      · rw [e2, cut_to]
        unfold tStrs
        rw [List.map_take]
    rintro d o ⟨rfl, ss, hs1, hs2, hs3, rfl⟩
    have tls : (tStrs ss).length = ss.length := List.length_map ..
    refine go_let (S := fun d o => o = [.pool, .lst (us.map enW)] ∧ ∃ x ∈ ws, d = .py (.str x)) (ew_one (ω' := [.lst (us.map enW)]) rfl (ev_var rfl) hwl.1 hwl.2 fun y hy => ?_) ?_
    · obtain ⟨x, hx, rfl⟩ := List.mem_map.mp hy
      exact ⟨rfl, x, hx, rfl⟩
    rintro d o ⟨rfl, x, hx, rfl⟩
    have hne : EvR T (rNeD T.K) (.py (.list (tStrs ss))) (.py (.list [])) (.py (.bool (!ss.isEmpty))) := by
      have h := er_neD (T := T) (d := .list (tStrs ss)) (e := .list []) (shaped_of (niceN fun y hy => (hs3 y hy).1)).1 shaped_nil
      rw [eqv_nil] at h
      have e : (tStrs ss).isEmpty = ss.isEmpty := by
        unfold tStrs
        rw [List.isEmpty_map]
      rw [e] at h
      exact h
    have done : ∀ (k : Wk), ss.isEmpty = false → (∀ n, k = .count n → 1 ≤ n ∧ n ≤ ss.length) → Want.Ok N ⟨k, N[s], ss⟩ := fun k hse hk => ⟨List.getElem_mem hs, (fun z : ss = [] => by rw [z] at hse; cases hse), (show ss.length ≤ 12 by omega), hs1, hs3, hk⟩
    have appOk : ∀ {u : Want}, u.Ok N → ∀ v ∈ us ++ [u], v.Ok N := fun hu v hv => by
      rcases List.mem_append.mp hv with q | q
      · exact hok v q
      · rw [List.mem_singleton.mp q]
        exact hu
    refine go_if (et_and (et_test (ev_op (ev_var rfl) (EvN.ev (en_lst (ds := []) ea_nil (by decide))) hne)) fun _ => et_test (ev_op (ev_var rfl) ev_str er_eqS)) (fun e => ?_) (fun e => ?_)
    · rw [Bool.and_eq_true] at e
      have hse : ss.isEmpty = false := by simpa using e.1
      have hxc : x = "count" := of_decide_eq_true e.2
      subst hxc
      have hspos : 1 ≤ ss.length := by
        cases ss with
        | nil => cases hse
        | cons a l => exact Nat.succ_le_succ (Nat.zero_le _)
      refine go_append (k := 1) (S := fun d o => o = [.pool, .lst (us.map enW)] ∧ ∃ j : Nat, j < ss.length ∧ d = .py (enW ⟨.count (1 + (j : Int)), N[s], ss⟩)) (ew_tup (S1 := fun ds o => o = [.pool, .lst (us.map enW)] ∧ ∃ j : Nat, j < ss.length ∧ ds = [.py (.str "count"), .py (.str N[s]), .py (.tuple (tStrs ss)), .py (.int (1 + (j : Int)))]) (ewa_cons (S1 := fun d o => d = .py (.str "count") ∧ o = [.pool, .lst (us.map enW)]) (Ev.w (ev_var rfl) ⟨rfl, rfl⟩) fun d o ⟨e1, e2⟩ => by
        subst e1 e2
        exact ewa_cons (S1 := fun d o => d = .py (.str N[s]) ∧ o = [.pool, .lst (us.map enW)]) (Ev.w (ev_op (ev_var rfl) (ev_var rfl) (er_ixL (d := .str N[s]) (atI_nat (j := s) (by unfold tStrs; rw [List.getElem?_map, hxs]; rfl)))) ⟨rfl, rfl⟩) fun d o ⟨e1, e2⟩ => by
          subst e1 e2
          exact ewa_two (S1 := fun d o => o = [.pool, .lst (us.map enW)] ∧ ∃ j : Nat, j < ss.length ∧ d = .py (.int (1 + (j : Int)))) (ev_cb (ea_cons (ev_var rfl) ea_nil) ec_tup_l) (ew_op2 (S1 := fun d o => o = [.pool, .lst (us.map enW)] ∧ ∃ j : Nat, j < ss.length ∧ d = .py (.int (j : Int))) ev_int (ew_take (n := ss.length) (ω' := [.lst (us.map enW)]) rfl (ev_is (ev_cb (ea_cons (ev_var rfl) ea_nil) ec_len_l) (by rw [tls])) hspos (by omega) fun j hj => ⟨rfl, j, hj, rfl⟩) fun y o ⟨e1, j, hj, e2⟩ => by subst e2; exact ⟨_, er_add, e1, j, hj, rfl⟩) fun d o ⟨e1, j, hj, e2⟩ => ⟨e1, j, hj, by rw [e2]⟩) fun ds o ⟨e1, j, hj, e2⟩ => ⟨[.str "count", .str N[s], .tuple (tStrs ss), .int (1 + (j : Int))], e2, by show 4 ≤ 1000; decide, e1, j, hj, rfl⟩) rfl ⟨_, rfl⟩ fun d o ⟨e1, j, hj, e2⟩ => ⟨_, us.map enW, e2, by rw [e1]; rfl, by rw [List.length_map]; omega, hl4, hds, us ++ [(⟨.count (1 + (j : Int)), N[s], ss⟩ : Want)], _, _, _, _, _, by rw [List.length_append]; show us.length + 1 ≤ i + 1; omega, appOk (done (.count (1 + (j : Int))) hse fun n hn => by
        cases hn
        constructor <;> omega), by rw [e1, List.map_append]; rfl, rfl⟩
    · refine go_if (et_test (ev_op (ev_var rfl) (EvN.ev (en_lst (ds := []) ea_nil (by decide))) hne)) (fun e2 => ?_) (fun e2 => go_next ⟨hl4, hds, us, _, _, _, _, _, by omega, hok, rfl, rfl⟩)
      have hse : ss.isEmpty = false := by simpa using e2
      obtain ⟨k, hk, hkn⟩ : ∃ k : Wk, k.word = x ∧ ∀ n, k ≠ .count n := by
        rcases hws x hx with h | h | h
        · exact ⟨.all, h.symm, fun n z => nomatch z⟩
        · exact ⟨.any, h.symm, fun n z => nomatch z⟩
        · rw [e2, h, decide_eq_true rfl] at e
          cases e
      have hrow : enW ⟨k, N[s], ss⟩ = .tuple [.str x, .str N[s], .tuple (tStrs ss)] := by
        cases k with
        | all => rw [← hk]; rfl
        | any => rw [← hk]; rfl
        | count n => exact absurd rfl (hkn n)
      refine go_appendn (k := 1) (x := enW ⟨k, N[s], ss⟩) (ev_is (ev_tup (ds := [.str x, .str N[s], .tuple (tStrs ss)]) (ea_cons (ev_var rfl) (ea_cons (ev_op (ev_var rfl) (ev_var rfl) (er_ixL (d := .str N[s]) (atI_nat (j := s) (by unfold tStrs; rw [List.getElem?_map, hxs]; rfl)))) (ea_cons (ev_cb (ea_cons (ev_var rfl) ea_nil) ec_tup_l) ea_nil))) (by show 3 ≤ 1000; decide)) (by rw [hrow])) rfl rfl (by rw [List.length_map]; omega) ⟨hl4, hds, us ++ [(⟨k, N[s], ss⟩ : Want)], _, _, _, _, _, by rw [List.length_append]; show us.length + 1 ≤ i + 1; omega, appOk (done k hse fun n hn => absurd hn (hkn n)), by rw [List.map_append]; rfl, rfl⟩
end
end Rt
/-! a pair turned round: t[::-1] -/
namespace Rt
open PySem PySem.Spec PyProof.Rows L2
section
variable {prog : Program} {w : World} {A : Around} {E : Value → Shared → Prop} {s : Shared}
theorem applied_back {sl : Addr} {vl vu vs : Value} {Q : Int × Int × Nat → Shared → Prop} (hs : s.heap.IsSliceOf sl vl vu vs) (pl : IsPart vl none) (pu : IsPart vu none) (ps : IsPart vs (some (-1)))
    (h : Q ((1 : Int), -1, 2) s) : wpAny (model prog w) A (Builtin.Slice.sliceApplied (.ref sl) (pure (2 : Int))) Q E s := by
  obtain ⟨ob, e1, e2, e3⟩ := id hs
  unfold Builtin.Slice.sliceApplied Builtin.Slice.sliceFields
  refine wpAny_bind (wpAny_bind (wpAny_field e1 e3 (x := vl) rfl (wpAny_bind (wpAny_field e1 e3 (x := vu) rfl (wpAny_bind (wpAny_field e1 e3 (x := vs) rfl (wpAny_pure ?_)))))))
  refine wpAny_bind (HT.slicePart_ ps ?_)
  show wpAny _ _ (if ((-1 : Int) == 0) = true then _ else _) _ _ s
  rw [if_neg (by decide)]
  refine wpAny_bind (HT.slicePart_ pl (wpAny_bind (HT.slicePart_ pu (wpAny_bind (wpAny_pure ?_)))))
  exact wpAny_pure h
theorem getItem_back {t sl : Addr} {u1 u2 : Value} {vl vu vs : Value} {Q : Value → Shared → Prop} (ht : IsTup s.heap t #[u1, u2]) (hs : s.heap.IsSliceOf sl vl vu vs) (pl : IsPart vl none) (pu : IsPart vu none) (ps : IsPart vs (some (-1)))
    (h : Q (.ref s.heap.objs.size) { s with heap := s.heap.push { cls := .type "tuple", data := .seq #[u2, u1] } }) : wpAny (model prog w) A (getItem (.ref t) (.ref sl)) Q E s := by
  obtain ⟨ob, e1, e2, e3⟩ := id hs
  have ty : s.TypeIs (.ref sl) "slice" := ⟨ob, e1, e2⟩
  have fit : sizeOk (.seq #[u2, u1]) := by show 2 ≤ sizeLine; decide
  unfold getItem
  try with_reducible refine wpAny_holding ?_
  first | refine wpAny_bind (wpAny_pure ?_) | skip
  refine wpAny_bind (wpAny_sequenceKey ht.typeIs (by decide) ?_); refine wpAny_bind (wpAny_callSpecial?_slot (name := Str.ofString "__getitem__") ht.typeIs PyProof.Rows.slot_tuple_getitem (wpAny_call_entry PyProof.Rows.slot_tuple_getitem ht.typeIs entry_tuple_getitem ?_ (args_tuple_getitem _ _)))
  show wpAny _ _ (Builtin.Tuple.tupleItemsOf (.ref t) >>= _) _ _ s; refine wpAny_bind (tupleItemsOf_ ht ?_); refine wpAny_bind (wpAny_typeOf ty ?_); rw [if_pos (by decide)]
  refine wpAny_bind (applied_back hs pl pu ps ?_)
  show wpAny _ _ (if (((1 : Int) == 0 && (-1 : Int) == 1 && 2 == 2) = true) then _ else _) _ _ s; rw [if_neg (by decide)]
  have pick : ((List.range 2).filterMap fun (m : Nat) => #[u1, u2][((1 : Int) + (m : Int) * (-1)).toNat]?).toArray = #[u2, u1] := rfl
  rw [pick]
  first
    | exact wpAny_bind (m := Builtin.Tuple.tupleExact _) (wpAny_newObj_type (wpAny_pure ⟨_, rfl, wpAny_pure h⟩) fit)
    | exact wpAny_bind (m := Builtin.Tuple.tupleExact _) (wpAny_newObj_type (wpAny_bind (wpAny_pure (wpAny_pure ⟨_, rfl, wpAny_pure h⟩))) fit)
    | exact wpAny_bind (wpAny_bind (m := Builtin.Tuple.tupleExact _) (wpAny_newObj_type (wpAny_pure (wpAny_pure ⟨_, rfl, wpAny_pure h⟩)) fit))
    | exact wpAny_bind (wpAny_bind (m := Builtin.Tuple.tupleExact _) (wpAny_newObj_type (wpAny_pure ⟨_, rfl, wpAny_pure h⟩) fit))
end
def tBack (K : PySem.W.Frag) (te : TE) : TE := fun σ H Q => te σ H fun x H1 => ∃ a u v, x = .ref a ∧ SqT K H1 a [u, v] ∧ ∀ p, H1 p = none → Q (.ref p) (upd H1 p (.tup [v, u]))
theorem pe_revT {X : Cx} {K : PySem.W.Frag} {e : Expr} {te : TE} {k : Nat} {p1 p2 p3 pos : Pos} (he : PE X e te) (hK : X.K = K := by rfl) : PE X (.Subscript e (.Slice none none (some (.UnaryOp .USub (.Constant (.int 1) k p1) p2)) p3) pos) (tBack K te) := by
  subst hK
  refine ⟨fun pins s σ H Q I h => Subscript_ (thn (he.run pins s σ H _ I h) fun v s1 ⟨x, H1, I1, r1, a, u, v2, ex, hx, q⟩ => ?_)⟩
  subst ex
  cases r1
  have st : PO X (some (.UnaryOp .USub (.Constant (.int 1) k p1) p2)) (tPart (tUn (rU fun i => .int (-i)) (tC (.int 1)))) := po_some (pe_un un_neg pe_int)
  refine wpAny_Slice (thn (po_none.run pins s1 σ H1 (fun o H2 => o = none ∧ H2 = H1) I1 ⟨rfl, rfl⟩) fun vl s2 ⟨l, H2, I2, pl, y1, y2⟩ => ?_)
  subst y1 y2
  refine thn (po_none.run pins s2 σ H2 (fun o H3 => o = none ∧ H3 = H2) I2 ⟨rfl, rfl⟩) fun vu s3 ⟨l2, H3, I3, pu, y1, y2⟩ => ?_
  subst y1 y2
  refine thn (st.run pins s3 σ H3 (fun o H4 => o = some (-1) ∧ H4 = H3) I3 ⟨1, rfl, -1, rfl, rfl, rfl⟩) fun vs s4 ⟨o, H4, I4, ps, y1, y2⟩ => ?_
  subst y1 y2
  have I5 : Inv X pins σ H4 { s4 with heap := s4.heap.push { cls := .type "slice", data := .fields #[vl, vu, vs] } } := I4.kept (t' := s4.toks) fun b ob q => Heap.get?_push_of_some _ q
  obtain ⟨its, r, ht, hz⟩ := I5.tuple hx
  cases r with
  | cons r1 r =>
    cases r with
    | cons r2 r =>
      cases r
      show wpAny (model X.prog X.w) X.A (subscriptTail e (.Slice none none (some (.UnaryOp .USub (.Constant (.int 1) k p1) p2)) p3) (.ref a) (.ref s4.heap.objs.size)) (EP X pins σ Q) X.xe { s4 with heap := s4.heap.push { cls := .type "slice", data := .fields #[vl, vu, vs] } }
      refine tail_any (ops := [.ref a, .ref s4.heap.objs.size]) ht.typeIs (PyProof.Rows.slot_tuple_getitem.lookup) ?_ (by with_unfolding_all rfl)
      refine getItem_back ht (Heap.IsSliceOf.new _ vl vu vs) pl pu ps ?_
      exact ⟨.ref _, _, I5.laid (t' := s4.toks) (o := .tup [v2, u]) (fun b ob q => Heap.get?_push_of_some _ q) (Nat.le_refl _) ⟨by show 2 ≤ sizeLine; decide, _, .cons r2 (.cons r1 .nil), ⟨_, Heap.get?_push_size _ rfl, rfl, _, rfl⟩⟩, rfl, q _ (I5.hok.fresh (Nat.le_refl _))⟩
theorem ev_back {T : Tx} {te : TE} {ρ : En} {d1 d2 : PyData} (h : Ev T te ρ (.py (.tuple [d1, d2]))) : Ev T (tBack T.K te) ρ (.py (.tuple [d2, d1])) := fun as σ G H e g Q q => h as σ G H e g _ fun v G2 H2 s r => by
  obtain ⟨a, xs, rfl, h1, h2⟩ := dq_tup r
  cases h2 with
  | cons q1 h2 =>
    cases h2 with
    | cons q2 h2 =>
      cases h2
      exact ⟨a, _, _, rfl, seqT_up s.gh h1, fun p hp => q _ _ _ (s.new (o := .tup _) hp) (.tup upd_same (.cons (Dq.up (same_new (s.gh.free hp)) q2) (.cons (Dq.up (same_new (s.gh.free hp)) q1) .nil)))⟩
end Rt
/-! a book drawn: rules and facts -/
namespace Rt
open PySem PySem.Spec PyProof.Rows L2
section
variable {T : Tx} {te ta tb tv td ty : TE} {tt tu : TT} {ρ ρ' : En} {ω : List Ow} {d x y z : Dd} {r : R2} {S : Dd → List Ow → Prop} {b : Nat} {N N1 : En → List Ow → Prop} {R : Dd → List Ow → Prop} {t1 t2 ts : TS} {wi : TI} {g : TG} {vs : List Nat} {tas tks : TA}
/-! ### {k: v, ..} with what draws -/
def EvPsW (T : Tx) (trs : List (TE × TE)) (ρ : En) (ω : List Ow) (S : List (Key × PyData) → List Ow → Prop) : Prop := ∀ as σ G H, RepE T as G ρ σ → Same G H → Own T as ω G H → ∀ Q : List (V × V) → Hp → Prop, (∀ ks kvs o G2 H2, S kvs o → Own T as o G2 H2 → Stp as as G H G2 H2 → KvR T.K G2 ks kvs → Q (ks.map fun kv => (kV kv.1, kv.2)) H2) → tPairs trs σ H Q
theorem epw_nil {S : List (Key × PyData) → List Ow → Prop} (s : S [] ω) : EvPsW T [] ρ ω S := fun as σ G H e g w Q q => q [] [] ω G H s w (.refl g) .nil
theorem epw_cons {tk : TE} {trs : List (TE × TE)} {k : Key} {S : List (Key × PyData) → List Ow → Prop} {S1 : Dd → List Ow → Prop} (hk : Ev T tk ρ (.py (kD k))) (hv : EvW T tv ρ ω S1) (hr : ∀ d o, S1 d o → ∃ dd, d = .py dd ∧ EvPsW T trs ρ o fun kvs o2 => S ((k, dd) :: kvs) o2) : EvPsW T ((tk, tv) :: trs) ρ ω S := fun as σ G H e g w Q q =>
  hk as σ G H e g _ fun v G1 H1 s1 r1 => hv as σ G1 H1 (e.up s1.gg) s1.gh (w.step s1) _ fun u d o G2 H2 hd r2 w2 s2 => by
    obtain ⟨dd, rfl, h⟩ := hr d o hd
    refine h as σ G2 H2 ((e.up s1.gg).up s2.gg) s2.gh w2 _ fun ks kvs o3 G3 H3 hs w3 s3 r3 => ?_
    rw [kD_rep r1]
    exact q ((k, u) :: ks) ((k, dd) :: kvs) o3 G3 H3 hs w3 ((Stq.any s1).trans (s2.trans s3)) (.cons ⟨rfl, Dq.up s3.gg r2⟩ r3)
theorem new_disp {trs : List (TE × TE)} {S1 : List (Key × PyData) → List Ow → Prop} {S2 : Ow → List Ow → Prop} (h : EvPsW T trs ρ ω S1) (k : ∀ kvs o, S1 kvs o → (kvs.map (·.1)).Nodup ∧ kvs.length ≤ 15 ∧ S2 (.dic kvs) o) : EvWO' T (tDisp trs) ρ ω S2 := fun as σ G H e g w Q q p hp => by
  have gp : G p = none := g.free hp
  have nas : p ∉ as := fun ha => by
    obtain ⟨j, hj⟩ := List.mem_iff_getElem?.mp ha
    have hk1 := (List.getElem?_eq_some_iff.mp hj).1
    have hk2 : j < ω.length := by rw [← w.len]; exact hk1
    exact (w.ow j p ω[j] hj (List.getElem?_eq_getElem hk2)).2.there hp
  have ne : ∀ {a : Addr} {j : Nat}, as[j]? = some a → a ≠ p := fun h z => nas (z ▸ List.mem_of_getElem? h)
  have s0 : Stp as as G H G (upd H p (.dK [])) := (Stp.refl g).hid hp
  have w0 : Own T as ω G (upd H p (.dK [])) := ⟨w.nd, w.len, fun j a u f1 f2 => ⟨(w.ow j a u f1 f2).1, (w.ow j a u f1 f2).2.up (Same.refl _) fun v hv => by
    rw [upd_ne (ne f1)]
    exact hv⟩⟩
  refine h as σ G _ e s0.gh w0 _ fun ks kvs o G2 H2 hs w2 s r => ?_
  obtain ⟨nd, hl, h2⟩ := k kvs o hs
  have st := s0.trans s
  have hp2 : H2 p = some (.dK []) := s.hh p _ nas upd_same
  have g2 : G2 p = none := s.fr p nas gp (by rw [upd_same]; intro z; cases z)
  refine ⟨hp2, ks, rfl, by rw [Paired.length r]; exact hl, ?_⟩
  have em : mergeK [] ks = ks := by
    have := mergeK_self ks [] (by rw [List.nil_append, kvR_keys r]; exact nd)
    rw [List.nil_append] at this
    exact this
  rw [em]
  have := q p (.dK ks) (.dic kvs) o G2 (er p H2) h2 ⟨w2.nd, w2.len, fun j a u f1 f2 => ⟨(w2.ow j a u f1 f2).1, (w2.ow j a u f1 f2).2.up (Same.refl _) fun v hv => by
    show (if a = p then none else H2 a) = some v
    rw [if_neg (ne f1)]
    exact hv⟩⟩ (st.er hp g2) (if_pos rfl) ⟨ks, upd_same, r⟩
  rw [upd_er] at this
  exact this
/-- d[j], d[k] = x, y -/
theorem go_subs2 {i k : Nat} {k1 k2 : Key} {d1 d2 : PyData} {kvs : List (Key × PyData)} {tk1 tk2 : TE} (hv : Ev T tv ρ (.py (.tuple [d1, d2]))) (hi : ρ[i]? = some (some (.own k))) (h1 : Ev T tk1 ρ (.py (kD k1))) (h2 : Ev T tk2 ρ (.py (kD k2))) (ho : ω[k]? = some (.dic kvs)) (hl : kvs.length + 1 ≤ 1000) (n : N ρ ((ω.set k (.dic (putD kvs k1 d1))).set k (.dic (putD (putD kvs k1 d1) k2 d2)))) : Go T (tAsg tv (gTup T.K 2 (gCons (gSub (tVar i) tk1 rSetD) (gCons (gSub (tVar i) tk2 rSetD) gNil)))) ρ b ω N R := fun as σ G H e g w D q _ => hv as σ G H e g _ fun v G1 H1 s1 r1 => by
  obtain ⟨a, xs, rfl, f1, f2⟩ := dq_tup r1
  cases f2 with
  | cons q1 f2 =>
    cases f2 with
    | cons q2 f2 =>
      cases f2
      rename_i v1 v2
      obtain ⟨p, p1, p2⟩ := own_at (H := H) e hi
      refine ⟨a, [v1, v2], rfl, seqT_up s1.gh f1, rfl, v1, [v2], rfl, .ref p, p1, h1 as σ G1 H1 (e.up s1.gg) s1.gh _ fun y G2 H2 s2 r2 => ?_⟩
      have w2 := (w.step s1).step s2
      obtain ⟨gp, ys, h3, h4⟩ := w2.ow k p _ p2 ho
      rw [kD_rep r2]
      refine ⟨p, _, rfl, DPut.k h3 (by rw [Paired.length h4]; exact Nat.lt_of_le_of_lt (show kvs.length ≤ 1000 by omega) (by decide)), ?_⟩
      have st2 := (Stq.any (as := as) (s1.trans s2)).put (u := .dK (putK ys k1 v1)) (List.mem_of_getElem? p2) gp
      have w3 := w2.put (u := .dK (putK ys k1 v1)) (o' := .dic (putD kvs k1 d1)) p2 ⟨_, upd_same, kvR_put (Dq.up s2.gg q1) h4⟩
      refine ⟨v2, [], rfl, .ref p, p1, h2 as σ G2 _ ((e.up s1.gg).up s2.gg) st2.gh _ fun y G3 H3 s3 r3 => ?_⟩
      have w4 := w3.step s3
      have hk := (List.getElem?_eq_some_iff.mp ho).1
      obtain ⟨gp3, zs, h5, h6⟩ := w4.ow k p (.dic (putD kvs k1 d1)) p2 (List.getElem?_set_self hk)
      rw [kD_rep r3]
      have hl2 : (putD kvs k1 d1).length ≤ kvs.length + 1 := by
        unfold putD
        by_cases c : (kvs.any fun kv => decide (kv.1 = k1)) = true
        · rw [if_pos c, List.length_map]
          exact Nat.le_succ _
        · rw [if_neg c, List.length_append]
          exact Nat.le_refl _
      refine ⟨p, _, rfl, DPut.k h5 (by rw [Paired.length h6]; exact Nat.lt_of_le_of_lt (show (putD kvs k1 d1).length ≤ 1000 by omega) (by decide)), rfl, ?_⟩
      have st3 := (st2.trans (Stq.any s3)).put (u := .dK (putK zs k2 v2)) (List.mem_of_getElem? p2) gp3
      exact q as ρ _ σ G3 _ n (((e.up s1.gg).up s2.gg).up s3.gg) (w4.put p2 ⟨_, upd_same, kvR_put (Dq.up (s2.gg.trans s3.gg) q2) h6⟩) rfl st3
end
/-! ### facts of pairs -/
theorem any_pairs (p : Str × Str) : ∀ bs : List (Str × Str), ((bs.map enSS).any fun z => PyData.eqv z (enSS p)) = decide (p ∈ bs)
  | [] => rfl
  | q :: bs => by
    have ih := any_pairs p bs
    rw [List.map_cons, List.any_cons, ih]
    have e : PyData.eqv (enSS q) (enSS p) = decide (q = p) := by
      have h := eqvAll_strs [q.1, q.2] [p.1, p.2]
      refine Eq.trans h (decide_eq_decide.mpr ⟨fun z => ?_, fun z => by rw [z]⟩)
      rw [List.cons.injEq, List.cons.injEq] at z
      exact Prod.ext z.1 z.2.1
    rw [e]
    by_cases h : q = p
    · subst h
      simp
    · have h2 : ¬ p = q := fun z => h z.symm
      simp [h, h2]
theorem srt2_inj {p q : Str × Str} (h : srt2 p = srt2 q) : q = p ∨ q = (p.2, p.1) := by
  unfold srt2 at h
  by_cases h1 : ltCps p.2.cps.toList p.1.cps.toList = true <;> by_cases h2 : ltCps q.2.cps.toList q.1.cps.toList = true
  · rw [if_pos h1, if_pos h2, List.cons.injEq, List.cons.injEq] at h
    exact .inl (Prod.ext h.2.1.symm h.1.symm)
  · rw [if_pos h1, if_neg h2, List.cons.injEq, List.cons.injEq] at h
    exact .inr (Prod.ext h.1.symm h.2.1.symm)
  · rw [if_neg h1, if_pos h2, List.cons.injEq, List.cons.injEq] at h
    exact .inr (Prod.ext h.2.1.symm h.1.symm)
  · rw [if_neg h1, if_neg h2, List.cons.injEq, List.cons.injEq] at h
    exact .inl (Prod.ext h.1.symm h.2.1.symm)
structure BrOk (N : List Str) (bs : List (Str × Str)) : Prop where
  ok : ∀ p ∈ bs, p.1 ∈ N ∧ p.2 ∈ N ∧ p.1 ≠ p.2
  nd : (bs.map srt2).Nodup
theorem BrOk.nil {N : List Str} : BrOk N [] := ⟨(fun p h => nomatch h), List.nodup_nil⟩
theorem BrOk.add {N : List Str} {bs : List (Str × Str)} (h : BrOk N bs) {p : Str × Str} (hp : p.1 ∈ N ∧ p.2 ∈ N ∧ p.1 ≠ p.2) (h1 : p ∉ bs) (h2 : (p.2, p.1) ∉ bs) : BrOk N (bs ++ [p]) := ⟨fun q hq => by
  rcases List.mem_append.mp hq with z | z
  · exact h.ok q z
  · rw [List.mem_singleton.mp z]
    exact hp, by
  rw [List.map_append]
  refine List.nodup_append.mpr ⟨h.nd, by simp, fun a ha c hc e => ?_⟩
  rw [List.mem_singleton.mp hc] at e
  obtain ⟨q, hq, rfl⟩ := List.mem_map.mp ha
  rcases srt2_inj e with z | z
  · exact h1 (z ▸ hq)
  · have hz : q = (p.2, p.1) := by
      have e2 : p = (q.2, q.1) := z
      rw [e2]
    exact h2 (hz ▸ hq)⟩
structure GvOk (N : List Str) (gs : List (Str × Int)) (lo hi : Int) : Prop where
  len : gs.length ≤ 5
  ok : ∀ p ∈ gs, p.1 ∈ N ∧ lo ≤ p.2 ∧ p.2 ≤ hi
  nd : (gs.map (·.1)).Nodup
theorem book_ok {b : Lb} (h1 : SkOk b.skills) (h2 : 0 ≤ b.points ∧ b.points ≤ 12) (h3 : NeOk b.needs) (h4 : b.wants.length ≤ 12) (h5 : ∀ u ∈ b.wants, u.Ok b.names) (h6 : b.bars.length ≤ 6) (h7 : BrOk b.names b.bars) (h8 : GvOk b.names b.gives 1 3) (h9 : GvOk b.names b.prices 0 99) (h10 : ∀ i, b.reset = some i → 0 ≤ i ∧ i ≤ 99) : b.Ok where
  n0 := h1.ne
  n5 := h1.len
  nd := h1.nd
  word := h1.word
  tiers := h1.tiers
  mono := h1.mono
  pts := h2
  needs3 := h3.len
  needs := h3.ok
  needsUp := h3.up
  wants12 := h4
  wants := h5
  bars6 := h6
  bars := h7.ok
  barsNd := h7.nd
  gives12 := Nat.le_trans h8.len (by decide)
  gives := h8.ok
  givesNd := h8.nd
  prices12 := Nat.le_trans h9.len (by decide)
  prices := h9.ok
  pricesNd := h9.nd
  reset := h10
theorem sk_nm {b : Lb} (h : SkOk b.skills) : NmOk b.names := ⟨⟨by
  have hne : b.skills.length ≠ 0 := fun z => h.ne (List.length_eq_zero_iff.mp z)
  rw [b.names_len]
  omega, by rw [b.names_len]; exact h.len⟩, h.nd, h.word⟩
theorem int_in {l : List Int} {y : PyData} (h : y ∈ l.map PyData.int) : ∃ z ∈ l, y = .int z := by
  obtain ⟨z, hz, e⟩ := List.mem_map.mp h
  exact ⟨z, hz, e.symm⟩
end Rt
namespace Rt
open PySem PySem.Spec PyProof.Rows L2
open C8 (Cal Met Mak pe_c pe_mt pe_mt0 pe_mk)
section
variable {P : Program} {w : World} {T : Tx} {mg : Str → Option Value} {base : Heap}
abbrev Lb.pre (b : Lb) (n : Nat) : List (Key × PyData) := b.dic.take n
theorem pr_bars (b : Lb) (n : Nat) (h : n = 6 ∨ n = 7 ∨ n = 8) : valP (b.pre n) (.inr "bars") = some (.list (b.bars.map enSS)) := by
  rcases h with rfl | rfl | rfl <;> rfl
def F_law_book (ds : List Dd) (o : Ow) (S : Dd → Ow → Prop) : Prop := ∃ s : Nat, ds = [.py (.int 5), .py (.int (s : Int))] ∧ o = .pool ∧ S = fun d o' => o' = .pool ∧ ∃ b : Lb, b.Ok ∧ d = .dic b.dic
theorem c_law_book (W : Wt T mg) : Cal P w T.K mg base 4 "_law_book" (spQ T F_law_book) [] := by
  refine cal_pool (k := 3) W.fn_law_book sc_law_book bn_law_book F_law_book (fun ds o S h => ?_) (fun f cdv A outer s H E hr => ⟨_, (pss_cons (ps_asg (pe_c (c_law_tree W) hr (by decide) (by rfl) (pa_cons (pv 0) (pa_cons (pv 1) pa_nil))) (kg_unl T.K rfl (pgs_cons (pg_name (i := 3) sc_law_book.nd rfl (Or.inl rfl)) (pgs_cons (pg_name (i := 4) sc_law_book.nd rfl (Or.inl rfl)) pgs_nil))))
      (pss_cons (ps_setLc (i := 5) (own := [("_law_row", 6)]) (g := gName 6) (tt := tYes) rfl sc_law_book.nd rfl rfl (sw_true rfl rfl rfl (by decide +kernel)) (ki_list T.K (pv 3)) (blkOk_by (own := [("_law_row", 6)]) (N := N_law_book) (sc := defScope s_law_book) (by decide +kernel)) (fun _ _ _ _ _ => (pg_name (i := 6) sc_law_book.nd rfl (Or.inl rfl))) (fun _ _ _ _ _ => pts_nil) (fun _ _ _ _ _ => (pe_ix (r := rIxT T.K) ix_tup (pv 6) pe_int (fun _ _ => rfl))))
      (pss_cons (ps_set (i := 7) sc_law_book.nd rfl (Or.inl rfl) (pe_ifExp (pt_cmpR op_eq (pv 2) pe_int (nomark _)) (pe_lst (pa_cons pe_str pa_nil)) (pe_lst (pa_cons pe_str (pa_cons pe_str (pa_cons pe_str (pa_cons pe_str pa_nil)))))))
      (pss_cons (ps_set (i := 8) sc_law_book.nd rfl (Or.inl rfl) (pe_disp (pps_cons pe_str (pv 3) (pps_cons pe_str (pe_c (c_law_one W) hr (by decide) (by rfl) (pa_cons (pv 0) (pa_cons (pe_lst (pa_cons pe_int (pa_cons pe_int (pa_cons pe_int (pa_cons pe_int (pa_cons pe_int (pa_cons pe_int (pa_cons pe_int (pa_cons pe_int (pa_cons pe_int (pa_cons pe_int pa_nil))))))))))) pa_nil))) (pps_cons pe_str (pv 4) pps_nil))) (by rfl) (by rfl) (fun z => by cases z) (by decide)))
      (pss_cons (ps_dput (hu_of hr) (pv 8) pe_str (pe_ifExp (pt_cmpR op_eq (pv 2) pe_int (nomark _)) (pe_lst pa_nil) (pe_c (c_law_rows W) hr (by decide) (by rfl) (pa_cons (pv 0) (pa_cons (pv 5) (pa_cons pe_int (pa_cons (pv 7) (pa_cons (pe_cmpR op_lt (pv 2) pe_int (nomark _)) pa_nil))))))) rfl)
      (pss_cons (ps_asg (pe_tup (pa_cons (pe_lst pa_nil) (pa_cons (pe_lst pa_nil) pa_nil))) (kg_tup T.K rfl (pgs_cons (pg_sub (pv 8) pe_str (set_dict (hu_of hr))) (pgs_cons (pg_sub (pv 8) pe_str (set_dict (hu_of hr))) pgs_nil))))
      (pss_cons (ps_for PassesOwn.never rfl (pi_range1 (by rfl) W.m_range (pa_cons (pe_ifExp (PW.pt (pw_and (pt_cmpR op_gt (pv 2) pe_int (nomark _)) (pw_and1 (pt_cmpR op_gt (pe_callB (r := rLen T.K) cz_len (by rfl) W.m_len bt_len (pa_cons (pv 5) pa_nil)) pe_int (nomark _))))) (pe_c (c_law_take W) hr (by decide) (by rfl) (pa_cons (pv 0) (pa_cons pe_int pa_nil))) pe_int) pa_nil)) (pg_name (i := 9) sc_law_book.nd rfl (Or.inl rfl)) (pss_cons (ps_set (i := 10) sc_law_book.nd rfl (Or.inl rfl) (pe_callTy (r := rTupC T.K) cz_tup (by rfl) W.m_tuple bt_tuple (pa_cons (pe_slice (r := rSlL T.K) sl_list (pe_c (c_law_turned W) hr (by decide) (by rfl) (pa_cons (pv 0) (pa_cons (pv 5) pa_nil))) po_none (po_some pe_int)) pa_nil)))
      (pss_one (ps_if (PW.pt (pw_and (pt_cmpR (r := rNotInD T.K) (op_notInD (hu65 hr)) (pv 10) (pe_dget (hu_of hr) (pv 8) pe_str (fun _ _ => rfl)) (by rfl)) (pw_and1 (pt_cmpR (r := rNotInD T.K) (op_notInD (hu65 hr)) (pe_revT (K := T.K) (pv 10)) (pe_dget (hu_of hr) (pv 8) pe_str (fun _ _ => rfl)) (by rfl))))) (pss_one (ps_dput (hu_of hr) (pv 8) pe_str (pe_op op_cat (pe_dget (hu_of hr) (pv 8) pe_str (fun _ _ => rfl)) (pe_lst (pa_cons (pv 10) pa_nil))) rfl)) pss_nil))))
      (pss_cons (ps_if (pt_cmpR op_eq (pv 2) pe_int (nomark _)) (pss_one (ps_dput (hu_of hr) (pv 8) pe_str (pe_lc (own := [("_law_name", 11)]) (g := gName 11) (tt := tYes) rfl sc_law_book.nd  (ki_list T.K (pe_slice (r := rSlL T.K) sl_list (pe_c (c_law_turned W) hr (by decide) (by rfl) (pa_cons (pv 0) (pa_cons (pv 5) pa_nil))) po_none (po_some (pe_op op_add pe_int (pe_c (c_law_take W) hr (by decide) (by rfl) (pa_cons (pv 0) (pa_cons pe_int pa_nil))))))) (blkOk_by (own := [("_law_name", 11)]) (N := N_law_book) (sc := defScope s_law_book) (by decide +kernel)) (fun _ _ _ _ _ => (pg_name (i := 11) sc_law_book.nd rfl (Or.inl rfl))) (fun _ _ _ _ _ => pts_nil) (fun _ _ _ _ _ => (pe_tup (pa_cons (pv 11) (pa_cons (pe_op op_add pe_int (pe_c (c_law_take W) hr (by decide) (by rfl) (pa_cons (pv 0) (pa_cons pe_int pa_nil)))) pa_nil))))) rfl)) pss_nil)
      (pss_cons (ps_dput (hu_of hr) (pv 8) pe_str (pe_lc (own := [("_law_name", 11)]) (g := gName 11) (tt := _) rfl sc_law_book.nd  (ki_list T.K (pv 5)) (blkOk_by (own := [("_law_name", 11)]) (N := N_law_book) (sc := defScope s_law_book) (by decide +kernel)) (fun _ _ _ _ _ => (pg_name (i := 11) sc_law_book.nd rfl (Or.inl rfl))) (fun _ _ _ _ _ => pts_one (pt_cmpR op_eq (pe_c (c_law_take W) hr (by decide) (by rfl) (pa_cons (pv 0) (pa_cons pe_int pa_nil))) pe_int (nomark _))) (fun _ _ _ _ _ => (pe_tup (pa_cons (pv 11) (pa_cons (pe_c (c_law_one W) hr (by decide) (by rfl) (pa_cons (pv 0) (pa_cons (pe_lst (pa_cons pe_int (pa_cons pe_int (pa_cons pe_int (pa_cons pe_int (pa_cons pe_int (pa_cons pe_int pa_nil))))))) pa_nil))) pa_nil))))) rfl)
      (pss_cons (ps_dput (hu_of hr) (pv 8) pe_str (pe_c (c_law_one W) hr (by decide) (by rfl) (pa_cons (pv 0) (pa_cons (pe_lst (pa_cons pe_non (pa_cons pe_non (pa_cons pe_int (pa_cons pe_int (pa_cons pe_int (pa_cons pe_int (pa_cons pe_int (pa_cons pe_int pa_nil))))))))) pa_nil))) rfl)
      (pss_one (ps_ret (pv 8))))))))))))), fun ds o S h => ?_⟩)
  · obtain ⟨s, rfl, rfl, rfl⟩ := h
    rfl
  · obtain ⟨s, rfl, rfl, rfl⟩ := h
    -- the tree
    refine go_seq (N1 := fun ρ' o => ∃ (sk : List (Str × Int)) (ne : List (Int × Int)), SkOk sk ∧ NeOk ne ∧ o = [.pool] ∧ ρ' = [some (.own 0), some (.py (.int 5)), some (.py (.int (s : Int))), some (.py (.list (sk.map enSI))), some (.py (.list (ne.map enII))), none, none, none, none, none, none, none]) (go_asgG (vs := [3, 4]) (S := fun d o => o = [.pool] ∧ ∃ (sk : List (Str × Int)) (ne : List (Int × Int)), SkOk sk ∧ NeOk ne ∧ d = .py (.list [.list (sk.map enSI), .list (ne.map enII)])) (ew_callQ (ω' := []) (ds := [.py (.int 5)]) (ea_cons (ev_var rfl) (ea_cons (ev_var rfl) ea_nil)) rfl ⟨rfl, rfl, rfl⟩ fun d o' ⟨e1, sk, ne, h1, h2, e2⟩ => by
      subst e1 e2
      exact ⟨rfl, rfl, sk, ne, h1, h2, rfl⟩) fun d o ⟨e1, sk, ne, h1, h2, e2⟩ => by
      subst e1 e2
      exact ⟨_, eg_two_l (by decide) (by decide), sk, ne, h1, h2, rfl, rfl⟩) fun ρ' o ⟨sk, ne, hsk, hne, e1, e2⟩ => ?_
    subst e1 e2
    obtain ⟨b0, hb0⟩ : ∃ b0 : Lb, b0 = ⟨sk, 0, ne, [], [], [], [], none⟩ := ⟨_, rfl⟩
    have es : b0.skills = sk := by rw [hb0]
    have hnm : NmOk b0.names := sk_nm (b := b0) (by rw [es]; exact hsk)
    have hN5 := hnm.len
    have tl : (tStrs b0.names).length = b0.names.length := List.length_map ..
    have niceN : ∀ d ∈ tStrs b0.names, d.canLay0 = true ∧ d.depth ≤ 10 := fun d hd => by
      obtain ⟨x, hx, rfl⟩ := List.mem_map.mp hd
      exact nice_str (w13_ok x (hnm.word x hx)).1
    have hskl := hsk.len
    refine go_letp (d := .py (.list (tStrs b0.names))) (EvN.ev (en_is (en_lc0 (xs := sk) (enc := enSI) (fun p => .str p.1) (ei_list (ev_var rfl)) (by omega) fun p hp => ⟨_, eg_name (by decide), ev_op (ev_var rfl) ev_int (er_ixT rfl)⟩) (by unfold tStrs Lb.names; rw [es, List.map_map]; rfl))) ?_
    obtain ⟨ws, hws⟩ : ∃ ws : List Str, ws = if decide ((s : Int) = 1) = true then wordsA else wordsB := ⟨_, rfl⟩
    have hws2 : ws = wordsA ∨ ws = wordsB := by
      rw [hws]
      by_cases h : decide ((s : Int) = 1) = true
      · rw [if_pos h]
        exact .inl rfl
      · rw [if_neg h]
        exact .inr rfl
    refine go_letp (d := .py (.list (tStrs ws))) (ev_if (et_test (ev_op (ev_var rfl) ev_int er_eqI)) (fun e => EvN.ev (en_is (en_lst (ds := tStrs wordsA) (ea_cons ev_str ea_nil) (by decide)) (by rw [hws, if_pos e]))) (fun e => EvN.ev (en_is (en_lst (ds := tStrs wordsB) (ea_cons ev_str (ea_cons ev_str (ea_cons ev_str (ea_cons ev_str ea_nil)))) (by decide)) (by rw [hws, if_neg (by rw [e]; exact Bool.false_ne_true)])))) ?_
    -- the dict
    refine go_newo (S := fun u o => o = [.pool] ∧ ∃ b : Lb, b.skills = sk ∧ b.needs = ne ∧ 0 ≤ b.points ∧ b.points ≤ 12 ∧ u = .dic (b.pre 3)) (new_disp (S1 := fun kvs o => o = [.pool] ∧ ∃ b : Lb, b.skills = sk ∧ b.needs = ne ∧ 0 ≤ b.points ∧ b.points ≤ 12 ∧ kvs = b.pre 3) (epw_cons (k := .inr "skills") (S1 := fun d o => d = .py (.list (sk.map enSI)) ∧ o = [.pool]) ev_str (Ev.w (ev_var rfl) ⟨rfl, rfl⟩) fun d o ⟨e1, e2⟩ => ⟨_, e1, by
      subst e2
      refine epw_cons (k := .inr "points") (S1 := fun d o => o = [.pool] ∧ ∃ v : Int, 0 ≤ v ∧ v ≤ 12 ∧ d = .py (.int v)) ev_str (ew_one (ω' := []) (xs := ([0, 1, 2, 2, 3, 3, 4, 5, 7, 12] : List Int).map PyData.int) rfl (EvN.ev (en_lst (ea_cons ev_int (ea_cons ev_int (ea_cons ev_int (ea_cons ev_int (ea_cons ev_int (ea_cons ev_int (ea_cons ev_int (ea_cons ev_int (ea_cons ev_int (ea_cons ev_int ea_nil)))))))))) (by decide))) (by decide) (by decide) fun y hy => ?_) fun d o ⟨e1, v, v1, v2, e2⟩ => ⟨.int v, e2, ?_⟩
      · obtain ⟨z, hz, rfl⟩ := int_in hy
        have : ∀ z ∈ ([0, 1, 2, 2, 3, 3, 4, 5, 7, 12] : List Int), 0 ≤ z ∧ z ≤ 12 := by decide
        exact ⟨rfl, z, (this z hz).1, (this z hz).2, rfl⟩
      · subst e1
        exact epw_cons (k := .inr "needs") (S1 := fun d o => d = .py (.list (ne.map enII)) ∧ o = [.pool]) ev_str (Ev.w (ev_var rfl) ⟨rfl, rfl⟩) fun d o ⟨e1, e2⟩ => ⟨_, e1, epw_nil ⟨e2, ⟨sk, v, ne, [], [], [], [], none⟩, rfl, rfl, v1, v2, rfl⟩⟩⟩) fun kvs o ⟨e1, b, b1, b2, b3, b4, e2⟩ => by
      subst e2
      exact ⟨(List.Sublist.map _ (List.take_sublist 3 b.dic)).nodup (by unfold Lb.dic; rw [List.map_fst_zip (by exact Nat.le_refl _)]; exact keyL_nd), by show 3 ≤ 15; decide, e1, b, b1, b2, b3, b4, rfl⟩) (fun u o ⟨e1, b, b1, b2, b3, b4, e2⟩ => ?_) (Nat.le_refl _)
    subst e1 e2
    have bn : b.names = b0.names := by unfold Lb.names; rw [b1, es]
    -- wants
    refine go_seq (N1 := fun ρ' o => ∃ c : Lb, c.skills = sk ∧ c.needs = ne ∧ 0 ≤ c.points ∧ c.points ≤ 12 ∧ c.wants.length ≤ 4 ∧ (∀ u ∈ c.wants, u.Ok b0.names) ∧ o = [.pool, .dic (c.pre 4)] ∧ ρ' = [some (.own 0), some (.py (.int 5)), some (.py (.int (s : Int))), some (.py (.list (sk.map enSI))), some (.py (.list (ne.map enII))), some (.py (.list (tStrs b0.names))), none, some (.py (.list (tStrs ws))), some (.own 1), none, none, none]) (go_dput (k := 1) (ky := .inr "wants") (S := fun d o => o = [.pool, .dic (b.pre 3)] ∧ ∃ us : List Want, us.length ≤ 4 ∧ (∀ u ∈ us, u.Ok b0.names) ∧ d = .py (.list (us.map enW))) (ew_if (S1 := fun c o => o = [.pool, .dic (b.pre 3)]) (EvT.w (et_test (ev_op (ev_var rfl) ev_int er_eqI)) rfl) (fun o e => Ev.w (EvN.ev (en_lst (ds := []) ea_nil (by decide))) ⟨e, [], Nat.zero_le _, (fun u h => nomatch h), rfl⟩) (fun o e => by
      subst e
      exact ew_callQ (ω' := [.dic (b.pre 3)]) (ds := [.py (.list (tStrs b0.names)), .py (.int 4), .py (.list (tStrs ws)), .py (.bool (decide ((s : Int) < 3)))]) (ea_cons (ev_var rfl) (ea_cons (ev_var rfl) (ea_cons ev_int (ea_cons (ev_var rfl) (ea_cons (ev_op (ev_var rfl) ev_int er_lt) ea_nil))))) rfl ⟨b0.names, ws, _, hnm, hws2, rfl, rfl, rfl⟩ fun d o' ⟨e1, us, u1, u2, e2⟩ => by
        subst e1 e2
        exact ⟨rfl, rfl, us, u1, u2, rfl⟩)) ev_str rfl fun d o ⟨e1, us, u1, u2, e2⟩ => ⟨_, b.pre 3, e2, by rw [e1]; rfl, by show 3 ≤ 1000; decide, { b with wants := us }, b1, b2, b3, b4, u1, u2, by rw [e1]; rfl, rfl⟩) fun ρ' o ⟨c, c1, c2, c3, c4, c5, c6, e1, e2⟩ => ?_
    subst e1 e2
    -- bars, gives
    refine go_andthen (o' := [.pool, .dic (({ c with bars := [], gives := [] } : Lb).pre 6)]) (go_subs2 (k := 1) (k1 := .inr "bars") (k2 := .inr "gives") (d1 := .list []) (d2 := .list []) (kvs := c.pre 4) (ev_tup (ds := [.list [], .list []]) (ea_cons (EvN.ev (en_lst (ds := []) ea_nil (by decide))) (ea_cons (EvN.ev (en_lst (ds := []) ea_nil (by decide))) ea_nil)) (by show 2 ≤ 1000; decide)) rfl ev_str ev_str rfl (by show 5 ≤ 1000; decide) ⟨rfl, rfl⟩) ?_
    refine go_seq (N1 := fun ρ' o => ∃ (bs : List (Str × Str)) (y9 y10 : Option Dd), bs.length ≤ 2 ∧ BrOk b0.names bs ∧ o = [.pool, .dic (({ c with bars := bs, gives := [] } : Lb).pre 6)] ∧ ρ' = [some (.own 0), some (.py (.int 5)), some (.py (.int (s : Int))), some (.py (.list (sk.map enSI))), some (.py (.list (ne.map enII))), some (.py (.list (tStrs b0.names))), none, some (.py (.list (tStrs ws))), some (.own 1), y9, y10, none]) ?_ (fun ρ' o ⟨bs, y9, y10, hb1, hb2, e1, e2⟩ => ?_)
    · refine go_for (S0 := fun ds o => o = [.pool, .dic (({ c with bars := [], gives := [] } : Lb).pre 6)] ∧ ds.length ≤ 2 ∧ (ds ≠ [] → 2 ≤ b0.names.length)) (vs := [9]) (fun ds i ρ1 o => ds.length ≤ 2 ∧ (ds ≠ [] → 2 ≤ b0.names.length) ∧ ∃ (bs : List (Str × Str)) (y9 y10 : Option Dd), bs.length ≤ i ∧ BrOk b0.names bs ∧ o = [.pool, .dic (({ c with bars := bs, gives := [] } : Lb).pre 6)] ∧ ρ1 = [some (.own 0), some (.py (.int 5)), some (.py (.int (s : Int))), some (.py (.list (sk.map enSI))), some (.py (.list (ne.map enII))), some (.py (.list (tStrs b0.names))), none, some (.py (.list (tStrs ws))), some (.own 1), y9, y10, none]) (eiw_rng (S1 := fun ds o => o = [.pool, .dic (({ c with bars := [], gives := [] } : Lb).pre 6)] ∧ ∃ n : Nat, n ≤ 2 ∧ (n ≠ 0 → 2 ≤ b0.names.length) ∧ ds = [.py (.int (n : Int))]) (ewa_one (S1 := fun d o => o = [.pool, .dic (({ c with bars := [], gives := [] } : Lb).pre 6)] ∧ ∃ n : Nat, n ≤ 2 ∧ (n ≠ 0 → 2 ≤ b0.names.length) ∧ d = .py (.int (n : Int))) (ew_if (S1 := fun c2 o => o = [.pool, .dic (({ c with bars := [], gives := [] } : Lb).pre 6)] ∧ (c2 = true → 2 ≤ b0.names.length)) (EvT.w (et_and (et_test (ev_op (ev_var rfl) ev_int er_gt)) fun _ => et_test (ev_op (ev_cb (ea_cons (ev_var rfl) ea_nil) ec_len_l) ev_int er_gt)) ⟨rfl, fun h => by
        rw [Bool.and_eq_true] at h
        have := of_decide_eq_true h.2
        rw [tl] at this
        omega⟩) (fun o ⟨e1, h2⟩ => by
          subst e1
          exact ew_take (n := 3) (ω' := [_]) rfl ev_int (by decide) (by decide) fun j hj => ⟨rfl, j, by omega, fun _ => h2 rfl, rfl⟩) (fun o ⟨e1, h2⟩ => Ev.w ev_int ⟨e1, 0, by decide, (fun z => absurd rfl z), rfl⟩)) fun d o ⟨e1, n, n1, n2, e2⟩ => ⟨e1, n, n1, n2, by rw [e2]⟩) fun ds o ⟨e1, n, n1, n2, e2⟩ => ⟨n, e2, by omega, e1, by rw [List.length_map, List.length_range]; exact n1, fun hne => n2 fun z => hne (by rw [z]; rfl)⟩) (fun ds o ⟨e1, h1, h2⟩ => ⟨h1, h2, [], _, _, Nat.le_refl _, .nil, e1, rfl⟩) ?_ (fun ds ρ1 o ⟨h1, h2, bs, y9, y10, h3, h4, e1, e2⟩ => ⟨bs, y9, y10, by omega, h4, e1, e2⟩)
      rintro ds i d0 ρ1 o hd ⟨hl2, hd2, bs, y9, y10, hb1, hb2, rfl, rfl⟩
      have h2n : 2 ≤ b0.names.length := hd2 fun z => by
        rw [z] at hd
        cases hd
      have hdl := (List.getElem?_eq_some_iff.mp hd).1
      refine ⟨_, eg_name (by decide), ?_⟩
      refine go_let (S := fun d o => o = [.pool, .dic (({ c with bars := bs, gives := [] } : Lb).pre 6)] ∧ ∃ p : Str × Str, (p.1 ∈ b0.names ∧ p.2 ∈ b0.names ∧ p.1 ≠ p.2) ∧ d = .py (enSS p)) (ew_cb (S1 := fun ds o => o = [.pool, .dic (({ c with bars := bs, gives := [] } : Lb).pre 6)] ∧ ∃ p : Str × Str, (p.1 ∈ b0.names ∧ p.2 ∈ b0.names ∧ p.1 ≠ p.2) ∧ ds = [.py (.list [.str p.1, .str p.2])]) (ewa_one (S1 := fun d o => o = [.pool, .dic (({ c with bars := bs, gives := [] } : Lb).pre 6)] ∧ ∃ p : Str × Str, (p.1 ∈ b0.names ∧ p.2 ∈ b0.names ∧ p.1 ≠ p.2) ∧ d = .py (.list [.str p.1, .str p.2])) (EvWN.w (S1 := fun ds o => o = [.pool, .dic (({ c with bars := bs, gives := [] } : Lb).pre 6)] ∧ ∃ p : Str × Str, (p.1 ∈ b0.names ∧ p.2 ∈ b0.names ∧ p.1 ≠ p.2) ∧ ds = [.str p.1, .str p.2]) (ewn_slLw (S0 := fun d o => o = [.pool, .dic (({ c with bars := bs, gives := [] } : Lb).pre 6)] ∧ ∃ ys : List PyData, ys.Perm (tStrs b0.names) ∧ d = .py (.list ys)) (S1 := fun ds hi o => o = [.pool, .dic (({ c with bars := bs, gives := [] } : Lb).pre 6)] ∧ ds.Perm (tStrs b0.names) ∧ hi = some 2) (ew_turned (ω' := [_]) rfl (ev_var rfl) (by rw [tl]; omega) niceN fun ys hp => ⟨rfl, ys, hp, rfl⟩) eo_none (fun d o ⟨e1, ys, hp, e2⟩ => ⟨ys, e2, ewo_some (S := fun d o' => o' = o ∧ d = .py (.int 2)) (Ev.w ev_int ⟨rfl, rfl⟩) fun d o' ⟨e3, e4⟩ => ⟨2, e4, by rw [e3]; exact e1, hp, rfl⟩⟩) fun ds hi o ⟨e1, hp, e2⟩ => ?_) fun ds o ⟨e1, p, hp, e2⟩ => ⟨e1, p, hp, by rw [e2]⟩) fun d o ⟨e1, p, hp, e2⟩ => ⟨e1, p, hp, by rw [e2]⟩) fun ds o ⟨e1, p, hp, e2⟩ => by subst e2; exact ⟨_, ec_tup_l, e1, p, hp, rfl⟩) ?_
      · obtain ⟨l', hl', rfl⟩ := perm_map PyData.str hp _ rfl
        refine ⟨e1, ?_⟩
        have hlen := hl'.length_eq
        match l', hl', hlen with
        | [], _, hlen => 
          have : (0 : Nat) = b0.names.length := hlen
          omega
        | [a], _, hlen =>
          have : (1 : Nat) = b0.names.length := hlen
          omega
        | a :: c' :: l, hl', _ =>
          have nd : (a :: c' :: l).Nodup := hl'.nodup_iff.mpr hnm.nd
          refine ⟨(a, c'), ⟨hl'.subset (by simp), hl'.subset (by simp), fun z => ?_⟩, ?_⟩
          · exact (List.nodup_cons.mp nd).1 (by rw [show a = c' from z]; simp)
          · have e3 := cut_to ((a :: c' :: l).map PyData.str) 2
            rw [e2]
            exact e3
      · rintro d o ⟨rfl, p, hp, rfl⟩
        have nice2 : ∀ q : Str × Str, q.1 ∈ b0.names → q.2 ∈ b0.names → SeqAt.shaped (enSS q) = true := fun q q1 q2 => by
          have h := (shaped_strs (xs := [q.1, q.2]) fun x hx => by
            rcases List.mem_cons.mp hx with rfl | hx
            · exact (w13_ok _ (hnm.word _ q1)).1
            · rw [List.mem_singleton.mp hx]
              exact (w13_ok _ (hnm.word _ q2)).1).2
          exact h
        have niceB : SeqAt.shaped (.list (bs.map enSS)) = true := (shaped_of fun d hd => by
          obtain ⟨q, hq, rfl⟩ := List.mem_map.mp hd
          have := hb2.ok q hq
          exact nice_ss (w13_ok _ (hnm.word _ this.1)).1 (w13_ok _ (hnm.word _ this.2.1)).1).1
        have gb : ∀ {ρ : En} {i : Nat}, ρ[i]? = some (some (.dic (({ c with bars := bs, gives := [] } : Lb).pre 6))) → Ev T (tDGet (tVar i) (tC (.str "bars"))) ρ (.py (.list (bs.map enSS))) := fun h => ev_dget (k := .inr "bars") (ev_var h) ev_str (pr_bars ({ c with bars := bs, gives := [] } : Lb) 6 (.inl rfl))
        refine go_ifw (S1 := fun c2 o => o = [.pool, .dic (({ c with bars := bs, gives := [] } : Lb).pre 6)] ∧ c2 = (!decide (p ∈ bs) && !decide ((p.2, p.1) ∈ bs))) (ewt_view 1 (.dic (({ c with bars := bs, gives := [] } : Lb).pre 6)) rfl (fun z => nomatch z) (et_and (et_test (ev_op (ev_var rfl) (gb rfl) (er_niD (nice2 p hp.1 hp.2.1) niceB))) fun _ => et_test (ev_op (ev_back (d1 := .str p.1) (d2 := .str p.2) (ev_var rfl)) (gb rfl) (er_niD (nice2 (p.2, p.1) hp.2.1 hp.1) niceB))) ⟨rfl, ?_⟩) (fun o ⟨e1, e2⟩ => ?_) (fun o ⟨e1, e2⟩ => go_next ⟨hl2, hd2, bs, _, _, by omega, hb2, e1, rfl⟩)
        · rw [any_pairs p bs]
          have := any_pairs (p.2, p.1) bs
          rw [show (PyData.tuple [PyData.str p.2, PyData.str p.1]) = enSS (p.2, p.1) from rfl, this]
        · subst e1
          have e3 := e2.symm
          rw [Bool.and_eq_true] at e3
          have n1 : p ∉ bs := by simpa using e3.1
          have n2 : (p.2, p.1) ∉ bs := by simpa using e3.2
          refine go_dput (k := 1) (ky := .inr "bars") (S := fun d o => o = [.pool, .dic (({ c with bars := bs, gives := [] } : Lb).pre 6)] ∧ d = .py (.list ((bs ++ [p]).map enSS))) (ew_view 1 (.dic (({ c with bars := bs, gives := [] } : Lb).pre 6)) (x := .py (.list ((bs ++ [p]).map enSS))) rfl (ev_is (ev_op (gb rfl) (EvN.ev (en_lst (ds := [enSS p]) (ea_cons (ev_var rfl) ea_nil) (by show 1 ≤ 1000; decide))) (er_catL (by rw [List.length_map]; show bs.length + 1 ≤ 100000; omega))) (by rw [List.map_append]; rfl)) trivial ⟨rfl, rfl⟩) ev_str rfl fun d o ⟨e1, e2⟩ => ⟨_, (({ c with bars := bs, gives := [] } : Lb).pre 6), e2, by rw [e1]; rfl, by show 6 ≤ 1000; decide, hl2, hd2, bs ++ [p], some (Dd.py d0), some (Dd.py (enSS p)), by rw [List.length_append]; show bs.length + 1 ≤ i + 1; omega, hb2.add hp n1 n2, by rw [e1]; rfl, rfl⟩
    · subst e1 e2
      have esub : ∀ {l : List Str}, l.Sublist b0.names → l.length ≤ 5 := fun h => Nat.le_trans h.length_le hN5.2
      refine go_seq (N1 := fun ρ' o => ∃ gs : List (Str × Int), GvOk b0.names gs 1 3 ∧ o = [.pool, .dic (({ c with bars := bs, gives := gs } : Lb).pre 6)] ∧ ρ' = [some (.own 0), some (.py (.int 5)), some (.py (.int (s : Int))), some (.py (.list (sk.map enSI))), some (.py (.list (ne.map enII))), some (.py (.list (tStrs b0.names))), none, some (.py (.list (tStrs ws))), some (.own 1), y9, y10, none]) ?_ (fun ρ' o ⟨gs, hgs, e1, e2⟩ => ?_)
      · refine go_if (et_test (ev_op (ev_var rfl) ev_int er_eqI)) (fun e => ?_) (fun e => go_next ⟨[], ⟨Nat.zero_le _, (fun p h => nomatch h), List.nodup_nil⟩, rfl, rfl⟩)
        refine go_dput (k := 1) (ky := .inr "gives") (S := fun d o => o = [.pool, .dic (({ c with bars := bs, gives := [] } : Lb).pre 6)] ∧ ∃ gs : List (Str × Int), GvOk b0.names gs 1 3 ∧ d = .py (.list (gs.map enSI))) (EvWN.w (S1 := fun ds o => o = [.pool, .dic (({ c with bars := bs, gives := [] } : Lb).pre 6)] ∧ ∃ gs : List (Str × Int), GvOk b0.names gs 1 3 ∧ ds = gs.map enSI) (ewn_lc (S0 := fun ds o => o = [.pool, .dic (({ c with bars := bs, gives := [] } : Lb).pre 6)] ∧ ∃ l : List Str, l.Nodup ∧ l.length ≤ 5 ∧ (∀ x ∈ l, x ∈ b0.names) ∧ ds = tStrs l) (fun ds i acc o => o = [.pool, .dic (({ c with bars := bs, gives := [] } : Lb).pre 6)] ∧ ∃ (l : List Str) (gs : List (Str × Int)), l.Nodup ∧ l.length ≤ 5 ∧ (∀ x ∈ l, x ∈ b0.names) ∧ ds = tStrs l ∧ acc = gs.map enSI ∧ gs.map (·.1) = l.take i ∧ (∀ p ∈ gs, 1 ≤ p.2 ∧ p.2 ≤ 3)) (eiw_list (S := fun d o => o = [.pool, .dic (({ c with bars := bs, gives := [] } : Lb).pre 6)] ∧ ∃ l : List Str, l.Nodup ∧ l.length ≤ 5 ∧ (∀ x ∈ l, x ∈ b0.names) ∧ d = .py (.list (tStrs l))) (EvWN.w (S1 := fun ds o => o = [.pool, .dic (({ c with bars := bs, gives := [] } : Lb).pre 6)] ∧ ∃ l : List Str, l.Nodup ∧ l.length ≤ 5 ∧ (∀ x ∈ l, x ∈ b0.names) ∧ ds = tStrs l) (ewn_slLw (S0 := fun d o => o = [.pool, .dic (({ c with bars := bs, gives := [] } : Lb).pre 6)] ∧ ∃ ys : List PyData, ys.Perm (tStrs b0.names) ∧ d = .py (.list ys)) (S1 := fun ds hi o => o = [.pool, .dic (({ c with bars := bs, gives := [] } : Lb).pre 6)] ∧ ds.Perm (tStrs b0.names) ∧ ∃ j : Nat, hi = some ((1 + j : Nat) : Int)) (ew_turned (ω' := [_]) rfl (ev_var rfl) (by rw [tl]; omega) niceN fun ys hp => ⟨rfl, ys, hp, rfl⟩) eo_none (fun d o ⟨e1, ys, hp, e2⟩ => ⟨ys, e2, ewo_some (S := fun d o => o = [.pool, .dic (({ c with bars := bs, gives := [] } : Lb).pre 6)] ∧ ∃ j : Nat, d = .py (.int ((1 + j : Nat) : Int))) (by
          subst e1
          exact ew_op2 (S1 := fun d o => o = [.pool, .dic (({ c with bars := bs, gives := [] } : Lb).pre 6)] ∧ ∃ j : Nat, d = .py (.int (j : Int))) ev_int (ew_take (n := 2) (ω' := [_]) rfl ev_int (by decide) (by decide) fun j _ => ⟨rfl, j, rfl⟩) fun y o ⟨e1, j, e2⟩ => by subst e2; exact ⟨_, er_add, e1, j, by rw [Int.natCast_add]; rfl⟩) fun d o ⟨e1, j, e2⟩ => ⟨_, e2, e1, hp, j, rfl⟩⟩) fun ds hi o ⟨e1, hp, j, e2⟩ => ?_) fun ds o ⟨e1, l, l1, l2, l3, e2⟩ => ⟨e1, l, l1, l2, l3, by rw [e2]⟩) fun d o ⟨e1, l, l1, l2, l3, e2⟩ => ⟨_, e2, e1, l, l1, l2, l3, rfl⟩) (fun ds o ⟨e1, l, l1, l2, l3, e2⟩ => ⟨by rw [e2]; unfold tStrs; rw [List.length_map]; omega, e1, l, [], l1, l2, l3, e2, rfl, rfl, (fun p h => nomatch h)⟩) (fun ds i d acc o hd hacc ⟨e1, l, gs, l1, l2, l3, e2, e3, g1, g2⟩ => ?_) (fun ds acc o ⟨e1, l, gs, l1, l2, l3, e2, e3, g1, g2⟩ => ?_)) fun ds o ⟨e1, gs, g1, e2⟩ => ⟨e1, gs, g1, by rw [e2]⟩) ev_str rfl fun d o ⟨e1, gs, g1, e2⟩ => ⟨_, (({ c with bars := bs, gives := [] } : Lb).pre 6), e2, by rw [e1]; rfl, by show 6 ≤ 1000; decide, gs, g1, by rw [e1]; rfl, rfl⟩
        · obtain ⟨l', hl', rfl⟩ := perm_map PyData.str hp _ rfl
          have hpn : l'.Nodup := hl'.nodup_iff.mpr hnm.nd
          refine ⟨e1, l'.take (1 + j), (List.take_sublist _ _).nodup hpn, ?_, fun x hx => hl'.subset (List.mem_of_mem_take hx), ?_⟩
          · have h1 := (List.take_sublist (1 + j) l').length_le
            rw [hl'.length_eq] at h1
            omega
          · rw [e2, cut_to]
            unfold tStrs
            rw [List.map_take]
        · subst e1 e2 e3
          obtain ⟨x, hx, rfl⟩ : ∃ x, l[i]? = some x ∧ d = .str x := by
            unfold tStrs at hd
            rw [List.getElem?_map] at hd
            cases z : l[i]? with
            | none =>
              rw [z] at hd
              cases hd
            | some x =>
              rw [z] at hd
              exact ⟨x, rfl, (Option.some.inj hd).symm⟩
          refine ⟨_, eg_name (by decide), EvT.w et_yes ?_⟩
          rw [if_pos rfl]
          refine ew_tup (S1 := fun ds o => o = [.pool, .dic (({ c with bars := bs, gives := [] } : Lb).pre 6)] ∧ ∃ j : Nat, j < 3 ∧ ds = [.py (.str x), .py (.int (1 + (j : Int)))]) (ewa_two (S1 := fun d o => o = [.pool, .dic (({ c with bars := bs, gives := [] } : Lb).pre 6)] ∧ ∃ j : Nat, j < 3 ∧ d = .py (.int (1 + (j : Int)))) (ev_var rfl) (ew_op2 (S1 := fun d o => o = [.pool, .dic (({ c with bars := bs, gives := [] } : Lb).pre 6)] ∧ ∃ j : Nat, j < 3 ∧ d = .py (.int (j : Int))) ev_int (ew_take (n := 3) (ω' := [_]) rfl ev_int (by decide) (by decide) fun j hj => ⟨rfl, j, hj, rfl⟩) fun y o ⟨e1, j, hj, e2⟩ => by subst e2; exact ⟨_, er_add, e1, j, hj, rfl⟩) fun d o ⟨e1, j, hj, e2⟩ => ⟨e1, j, hj, by rw [e2]⟩) fun ds o ⟨e1, j, hj, e2⟩ => ⟨[.str x, .int (1 + (j : Int))], e2, by show 2 ≤ 1000; decide, enSI (x, 1 + (j : Int)), rfl, e1, l, gs ++ [(x, 1 + (j : Int))], l1, l2, l3, rfl, by rw [List.map_append]; rfl, by rw [List.map_append, g1, take_succ_of hx]; rfl, fun p hp => ?_⟩
          rcases List.mem_append.mp hp with q | q
          · exact g2 p q
          · rw [List.mem_singleton.mp q]
            show 1 ≤ 1 + (j : Int) ∧ 1 + (j : Int) ≤ 3
            omega
        · subst e2 e3
          have hlen : (tStrs l).length = l.length := List.length_map ..
          rw [hlen, List.take_length] at g1
          refine ⟨e1, gs, ⟨?_, fun p hp => ⟨l3 p.1 (by rw [← g1]; exact List.mem_map_of_mem hp), g2 p hp⟩, by rw [g1]; exact l1⟩, rfl⟩
          have := congrArg List.length g1
          rw [List.length_map] at this
          omega
      · subst e1 e2
        -- prices
        refine go_seq (N1 := fun ρ' o => ∃ ps : List (Str × Int), GvOk b0.names ps 0 99 ∧ o = [.pool, .dic (({ c with bars := bs, gives := gs, prices := ps } : Lb).pre 7)] ∧ ρ' = [some (.own 0), some (.py (.int 5)), some (.py (.int (s : Int))), some (.py (.list (sk.map enSI))), some (.py (.list (ne.map enII))), some (.py (.list (tStrs b0.names))), none, some (.py (.list (tStrs ws))), some (.own 1), y9, y10, none]) ?_ (fun ρ' o ⟨ps, hps, e1, e2⟩ => ?_)
        · refine go_dput (k := 1) (ky := .inr "prices") (S := fun d o => o = [.pool, .dic (({ c with bars := bs, gives := gs } : Lb).pre 6)] ∧ ∃ ps : List (Str × Int), GvOk b0.names ps 0 99 ∧ d = .py (.list (ps.map enSI))) (EvWN.w (S1 := fun ds o => o = [.pool, .dic (({ c with bars := bs, gives := gs } : Lb).pre 6)] ∧ ∃ ps : List (Str × Int), GvOk b0.names ps 0 99 ∧ ds = ps.map enSI) (ewn_lc (S0 := fun ds o => o = [.pool, .dic (({ c with bars := bs, gives := gs } : Lb).pre 6)] ∧ ds = tStrs b0.names) (fun ds i acc o => o = [.pool, .dic (({ c with bars := bs, gives := gs } : Lb).pre 6)] ∧ ds = tStrs b0.names ∧ ∃ ps : List (Str × Int), acc = ps.map enSI ∧ (ps.map (·.1)).Sublist (b0.names.take i) ∧ (∀ p ∈ ps, 0 ≤ p.2 ∧ p.2 ≤ 99)) (EvI.w (ei_list (ev_var rfl)) ⟨rfl, rfl⟩) (fun ds o ⟨e1, e2⟩ => ⟨by rw [e2, tl]; omega, e1, e2, [], rfl, List.Sublist.refl _, (fun p h => nomatch h)⟩) (fun ds i d acc o hd hacc ⟨e1, e2, ps, e3, g1, g2⟩ => ?_) (fun ds acc o ⟨e1, e2, ps, e3, g1, g2⟩ => ?_)) fun ds o ⟨e1, gs, g1, e2⟩ => ⟨e1, gs, g1, by rw [e2]⟩) ev_str rfl fun d o ⟨e1, ps, g1, e2⟩ => ⟨_, (({ c with bars := bs, gives := gs } : Lb).pre 6), e2, by rw [e1]; rfl, by show 6 ≤ 1000; decide, ps, g1, by rw [e1]; rfl, rfl⟩
          · subst e1 e2 e3
            obtain ⟨x, hx, rfl⟩ : ∃ x, b0.names[i]? = some x ∧ d = .str x := by
              unfold tStrs at hd
              rw [List.getElem?_map] at hd
              cases z : b0.names[i]? with
              | none =>
                rw [z] at hd
                cases hd
              | some x =>
                rw [z] at hd
                exact ⟨x, rfl, (Option.some.inj hd).symm⟩
            refine ⟨_, eg_name (by decide), ewt_test (S := fun d o => o = [.pool, .dic (({ c with bars := bs, gives := gs } : Lb).pre 6)] ∧ ∃ c2 : Bool, d = .py (.bool c2)) (ew_op1 (S1 := fun d o => o = [.pool, .dic (({ c with bars := bs, gives := gs } : Lb).pre 6)] ∧ ∃ j : Nat, d = .py (.int (j : Int))) (ew_take (n := 2) (ω' := [_]) rfl ev_int (by decide) (by decide) fun j _ => ⟨rfl, j, rfl⟩) ev_int fun x o ⟨e1, j, e2⟩ => by subst e2; exact ⟨_, er_eqI, e1, _, rfl⟩) fun d o ⟨e1, c2, e2⟩ => ⟨c2, e2, ?_⟩⟩
            subst e1
            cases c2 with
            | false =>
              rw [if_neg Bool.false_ne_true]
              exact ⟨rfl, rfl, ps, rfl, by rw [take_succ_of hx]; exact g1.trans (List.sublist_append_left _ _), g2⟩
            | true =>
              rw [if_pos rfl]
              refine ew_tup (S1 := fun ds o => o = [.pool, .dic (({ c with bars := bs, gives := gs } : Lb).pre 6)] ∧ ∃ v : Int, 0 ≤ v ∧ v ≤ 99 ∧ ds = [.py (.str x), .py (.int v)]) (ewa_two (S1 := fun d o => o = [.pool, .dic (({ c with bars := bs, gives := gs } : Lb).pre 6)] ∧ ∃ v : Int, 0 ≤ v ∧ v ≤ 99 ∧ d = .py (.int v)) (ev_var rfl) (ew_one (ω' := [_]) (xs := ([0, 1, 2, 3, 7, 99] : List Int).map PyData.int) rfl (EvN.ev (en_lst (ea_cons ev_int (ea_cons ev_int (ea_cons ev_int (ea_cons ev_int (ea_cons ev_int (ea_cons ev_int ea_nil)))))) (by decide))) (by decide) (by decide) fun y hy => ?_) fun d o ⟨e1, v, v1, v2, e2⟩ => ⟨e1, v, v1, v2, by rw [e2]⟩) fun ds o ⟨e1, v, v1, v2, e2⟩ => ⟨[.str x, .int v], e2, by show 2 ≤ 1000; decide, enSI (x, v), rfl, e1, rfl, ps ++ [(x, v)], by rw [List.map_append]; rfl, by rw [List.map_append, take_succ_of hx]; exact g1.append (List.Sublist.refl _), fun p hp => ?_⟩
              · obtain ⟨z, hz, rfl⟩ := int_in hy
                have : ∀ z ∈ ([0, 1, 2, 3, 7, 99] : List Int), 0 ≤ z ∧ z ≤ 99 := by decide
                exact ⟨rfl, z, (this z hz).1, (this z hz).2, rfl⟩
              · rcases List.mem_append.mp hp with q | q
                · exact g2 p q
                · rw [List.mem_singleton.mp q]
                  exact ⟨v1, v2⟩
          · subst e2 e3
            rw [tl, List.take_length] at g1
            have hl := esub g1
            rw [List.length_map] at hl
            exact ⟨e1, ps, ⟨hl, fun p hp => ⟨g1.subset (List.mem_map_of_mem hp), g2 p hp⟩, g1.nodup hnm.nd⟩, rfl⟩
        · subst e1 e2
          -- reset
          refine go_seq (N1 := fun ρ' o => ∃ rs : Option Int, (∀ i, rs = some i → 0 ≤ i ∧ i ≤ 99) ∧ o = [.pool, .dic (({ c with bars := bs, gives := gs, prices := ps, reset := rs } : Lb).dic)] ∧ ρ' = [some (.own 0), some (.py (.int 5)), some (.py (.int (s : Int))), some (.py (.list (sk.map enSI))), some (.py (.list (ne.map enII))), some (.py (.list (tStrs b0.names))), none, some (.py (.list (tStrs ws))), some (.own 1), y9, y10, none]) (go_dput (k := 1) (ky := .inr "reset") (S := fun d o => o = [.pool, .dic (({ c with bars := bs, gives := gs, prices := ps } : Lb).pre 7)] ∧ ∃ rs : Option Int, (∀ i, rs = some i → 0 ≤ i ∧ i ≤ 99) ∧ d = .py (enO rs)) (ew_one (ω' := [_]) (xs := ([none, none, some 0, some 1, some 2, some 4, some 9, some 99] : List (Option Int)).map enO) rfl (EvN.ev (en_lst (ea_cons ev_non (ea_cons ev_non (ea_cons ev_int (ea_cons ev_int (ea_cons ev_int (ea_cons ev_int (ea_cons ev_int (ea_cons ev_int ea_nil)))))))) (by decide))) (by decide) (by decide) fun y hy => ?_) ev_str rfl fun d o ⟨e1, rs, r1, e2⟩ => ⟨_, (({ c with bars := bs, gives := gs, prices := ps } : Lb).pre 7), e2, by rw [e1]; rfl, by show 7 ≤ 1000; decide, rs, r1, by rw [e1]; rfl, rfl⟩) fun ρ' o ⟨rs, hrs, e1, e2⟩ => ?_
          · obtain ⟨z, hz, rfl⟩ := List.mem_map.mp hy
            have : ∀ z ∈ ([none, none, some 0, some 1, some 2, some 4, some 9, some 99] : List (Option Int)), (z.all fun i => decide (0 ≤ i) && decide (i ≤ 99)) = true := by decide
            refine ⟨rfl, z, fun i hi => ?_, rfl⟩
            have h2 := this z hz
            rw [hi] at h2
            have h3 : (decide (0 ≤ i) && decide (i ≤ 99)) = true := h2
            rw [Bool.and_eq_true] at h3
            exact ⟨of_decide_eq_true h3.1, of_decide_eq_true h3.2⟩
          · subst e1 e2
            have hcn : ({ c with bars := bs, gives := gs, prices := ps, reset := rs } : Lb).names = b0.names := by
              show c.skills.map (·.1) = b0.skills.map (·.1)
              rw [c1, es]
            refine go_frz (ω := [.pool]) (fun z => nomatch z) (by show 1 ≤ 1; decide) (go_retp (ev_var rfl) ⟨.pool, [], rfl, ⟨rfl, _, book_ok (b := { c with bars := bs, gives := gs, prices := ps, reset := rs }) (by rw [show ({ c with bars := bs, gives := gs, prices := ps, reset := rs } : Lb).skills = sk from c1]; exact hsk) ⟨c3, c4⟩ (by rw [show ({ c with bars := bs, gives := gs, prices := ps, reset := rs } : Lb).needs = ne from c2]; exact hne) (Nat.le_trans c5 (by decide)) (by rw [hcn]; exact c6) (Nat.le_trans hb1 (by decide)) (by rw [hcn]; exact hb2) (by rw [hcn]; exact hgs) (by rw [hcn]; exact hps) hrs, rfl⟩, .inl rfl⟩)
end
end Rt
/-! copies of dicts, things forgotten, pairs set -/
namespace Rt
open PySem PySem.Spec PyProof.Rows L2
section
variable {T : Tx} {te ta tb tv td ty : TE} {tt tu : TT} {ρ ρ' : En} {ω : List Ow} {d e x y z : Dd} {r : R2} {S : Dd → List Ow → Prop} {b : Nat} {N N1 : En → List Ow → Prop} {R : Dd → List Ow → Prop} {t1 t2 ts : TS} {wi : TI} {g : TG} {vs : List Nat} {tas tks : TA}
theorem ev_items {kvs : List (Key × PyData)} (h : Ev T te ρ (.dic kvs)) : Ev T (LiI.tListItems te) ρ (.py (.list (kvs.map pairD))) := fun as σ G H e g Q q => h as σ G H e g _ fun v G1 H1 s1 r1 => by
  obtain ⟨a, ks, rfl, h1, h2⟩ := r1
  refine ⟨a, ks, rfl, s1.gh _ _ h1, fun H' p ts kp hp ht hpt hl ps => ?_⟩
  obtain ⟨G2, hG2⟩ : ∃ G2 : Hp, G2 = fun c => if H1 c = none then H' c else G1 c := ⟨_, rfl⟩
  have new : ∀ c, H1 c = none → G2 c = H' c := fun c hc => by
    rw [hG2]
    exact if_pos hc
  have old : ∀ c, H1 c ≠ none → G2 c = G1 c := fun c hc => by
    rw [hG2]
    exact if_neg hc
  have there : ∀ {c : Addr} {u : HO}, G1 c = some u → H1 c ≠ none := fun hc z => by
    rw [s1.gh _ _ hc] at z
    cases z
  have sg : Same G1 G2 := fun c u hc => by
    rw [old c (there hc)]
    exact hc
  have sh : Same G2 H' := fun c u hc => by
    by_cases z : H1 c = none
    · rw [new c z] at hc
      exact hc
    · rw [old c z] at hc
      exact kp _ _ (s1.gh _ _ hc)
  have st : Stq G1 H1 G2 H' := ⟨sg, sh, fun c u _ hc => kp c u hc, fun c hc => by
    cases z : H1 c with
    | none => exact absurd z hc
    | some u =>
      rw [kp c u z]
      exact fun y => (nomatch y), fun c _ gc hc => by
    rw [old c hc]
    exact gc, fun c hc _ => absurd hc List.not_mem_nil⟩
  refine q _ G2 H' (s1.trans st) (Dq.lst (by rw [new p hp]; exact hl) ?_)
  have key : ∀ {ts : List Addr} {ks : List (Key × V)} {kvs : List (Key × PyData)}, (∀ t ∈ ts, H1 t = none) → Paired (fun (t : Addr) (q : Key × V) => H' t = some (.tup [kV q.1, q.2])) ts ks → KvR T.K G2 ks kvs → DqA T.K G2 (ts.map V.ref) (kvs.map pairD) := by
    intro ts ks kvs hn pp
    induction pp generalizing kvs with
    | nil =>
      intro r
      cases r
      exact .nil
    | cons f t ih =>
      intro r
      cases r with
      | cons f2 t2 =>
        refine .cons ?_ (ih (fun t ht => hn t (List.mem_cons_of_mem _ ht)) t2)
        rename_i a1 q1 l1 m1 q2 m2
        have hk : Dq T.K G2 (kV q1.1) (kD q2.1) := by
          rw [f2.1]
          cases q2.1 with
          | inl i => exact .int i
          | inr x => exact .str x
        exact Dq.tup (by rw [new _ (hn _ List.mem_cons_self)]; exact f) (.cons hk (.cons f2.2 .nil))
  exact key ht ps (KvR.up sg h2)
theorem new_dictP {kvs : List (Key × PyData)} (h : Ev T te ρ (.py (.list (kvs.map pairD)))) (nd : (kvs.map (·.1)).Nodup) {S2 : Ow → List Ow → Prop} (s : S2 (.dic kvs) ω) : EvWO' T (tCB (rDictP T.K) (tCons te tNil)) ρ ω S2 := fun as σ G H e g w Q q => h as σ G H e g _ fun v G1 H1 s1 r1 => by
  obtain ⟨a, xs, rfl, h1, h2⟩ := dq_lst r1
  obtain ⟨ps, ks, rfl, g1, g2⟩ := pairs_reps h2
  refine ⟨a, ps, ks, rfl, .of (s1.gh _ _ h1), paired_up (fun _ _ z => seqT_up s1.gh z) g2, fun p hp => ?_⟩
  have em : mergeK [] ks = ks := by
    have := mergeK_self ks [] (by rw [List.nil_append, kvR_keys g1]; exact nd)
    rw [List.nil_append] at this
    exact this
  rw [em]
  exact q p (.dK ks) (.dic kvs) ω G1 H1 s (w.step s1) (Stq.any s1) hp ⟨ks, upd_same, g1⟩
def kill (n : Nat) : Option Dd → Option Dd
  | some (.own k) => if k = n then none else some (.own k)
  | some (.gro _ _) => none
  | o => o
/-- the last owned thing is forgotten -/
theorem go_forget {ω0 : List Ow} (h : Go T ts ρ b ω0 (fun ρ' o => ∃ (ω1 : List Ow) (u : Ow), o = ω1 ++ [u] ∧ b ≤ ω1.length ∧ N (ρ'.map (kill ω1.length)) ω1) R) : Go T ts ρ b ω0 N R := fun as σ G H e g w D q q2 => h as σ G H e g w D (fun as' ρ' o σ' G2 H2 ⟨ω1, u, eo, hb, hn⟩ e2 w2 tk s2 => by
  subst eo
  have hl : as'.length = ω1.length + 1 := by
    rw [w2.len, List.length_append]
    rfl
  obtain ⟨es, p, rfl⟩ : ∃ es p, as' = es ++ [p] := by
    rcases List.eq_nil_or_concat as' with z | ⟨es, p, z⟩
    · rw [z] at hl
      cases hl
    · exact ⟨es, p, by rw [z, List.concat_eq_append]⟩
  have hle : es.length = ω1.length := by
    rw [List.length_append] at hl
    simpa using hl
  have s3 : Stp as es G H G2 H2 := ⟨s2.gg, s2.gh, s2.hh, s2.ha, s2.fr, fun a ha n => s2.nw a (List.mem_append_left _ ha) n⟩
  refine q es _ ω1 σ' G2 H2 hn ⟨by rw [List.length_map]; exact e2.len, fun i d hi => ?_⟩ ⟨(List.nodup_append.mp w2.nd).1, hle, fun j a v f1 f2 => ?_⟩ ?_ s3
  · rw [List.getElem?_map] at hi
    cases hq : ρ'[i]? with
    | none =>
      rw [hq] at hi
      cases hi
    | some oq =>
      rw [hq] at hi
      have hi2 : kill ω1.length oq = some d := Option.some.inj hi
      cases oq with
      | none => cases hi2
      | some d0 =>
        obtain ⟨v, f1, f2⟩ := e2.at_ i d0 hq
        refine ⟨v, f1, ?_⟩
        cases d0 with
        | fl x =>
          cases hi2
          exact f2
        | ins fs =>
          cases hi2
          exact f2
        | cls n =>
          cases hi2
          exact f2
        | ktup n =>
          cases hi2
          exact f2
        | klst n =>
          cases hi2
          exact f2
        | gro fs gl =>
          cases hi2
        | own k =>
          have hk : (if k = ω1.length then none else some (.own k)) = some d := hi2
          obtain ⟨a, h1, h2⟩ := f2
          by_cases z : k = ω1.length
          · rw [if_pos z] at hk
            cases hk
          · rw [if_neg z] at hk
            cases hk
            refine ⟨a, ?_, h2⟩
            have hk2 := (List.getElem?_eq_some_iff.mp h1).1
            rw [List.length_append] at hk2
            have hk3 : k < es.length := by
              rw [hle]
              simp at hk2
              omega
            rw [List.getElem?_append_left hk3] at h1
            exact h1
  · have hj := (List.getElem?_eq_some_iff.mp f1).1
    exact w2.ow j a v (by rw [List.getElem?_append_left hj]; exact f1) (by rw [List.getElem?_append_left (by rw [← hle]; exact hj)]; exact f2)
  · rw [← tk, List.take_append_of_le_length (by rw [hle]; exact hb)]) q2
/-- x, y = what draws, a value -/
theorem go_par_w {i j : Nat} {S1 : Dd → List Ow → Prop} (h1 : EvW T ta ρ ω S1) (h2 : Ev T tb ρ e) (k : ∀ d o, S1 d o → Go T t2 ((ρ.set i (some d)).set j (some e)) b o N R) : Go T (tSeq (tPar i j (tCons ta (tCons tb tNil))) t2) ρ b ω N R := fun as σ G H en g w D q q2 => by
  show ta σ H fun x H1 => tb σ H1 fun y H2 => ∃ v w, [x, y] = [v, w] ∧ t2 D ((σ.set i (some v)).set j (some w)) H2
  refine h1 as σ G H en g w _ fun v d o G1 H1 hs r1 w1 s1 => h2 as σ G1 H1 (en.up s1.gg) s1.gh _ fun u G2 H2 s2 r2 => ⟨v, u, rfl, ?_⟩
  have st := s1.trans (Stq.any s2)
  exact k d o hs as _ G2 H2 (((en.up st.gg).set i (r1.up s2.gg)).set j r2) st.gh (w1.step s2) D (fun as4 ρ4 o4 σ4 G4 H4 hn e4 w4 tk4 s4 => q as4 ρ4 o4 σ4 G4 H4 hn e4 w4 tk4 (st.trans s4)) (fun as4 d o4 v G4 H4 hr r4 w4 tk4 s4 => q2 as4 d o4 v G4 H4 hr r4 w4 tk4 (st.trans s4))
end
theorem dic_nd (b : Lb) : (b.dic.map (·.1)).Nodup := by
  unfold Lb.dic
  rw [List.map_fst_zip (by exact Nat.le_refl _)]
  exact keyL_nd
theorem ok_points {b : Lb} (h : b.Ok) {v : Int} (h1 : 0 ≤ v ∧ v ≤ 12) : ({ b with points := v } : Lb).Ok := ⟨h.n0, h.n5, h.nd, h.word, h.tiers, h.mono, h1, h.needs3, h.needs, h.needsUp, h.wants12, h.wants, h.bars6, h.bars, h.barsNd, h.gives12, h.gives, h.givesNd, h.prices12, h.prices, h.pricesNd, h.reset⟩
theorem ok_needs {b : Lb} (h : b.Ok) {v : List (Int × Int)} (h1 : NeOk v) : ({ b with needs := v } : Lb).Ok := ⟨h.n0, h.n5, h.nd, h.word, h.tiers, h.mono, h.pts, h1.len, h1.ok, h1.up, h.wants12, h.wants, h.bars6, h.bars, h.barsNd, h.gives12, h.gives, h.givesNd, h.prices12, h.prices, h.pricesNd, h.reset⟩
theorem ok_wants {b : Lb} (h : b.Ok) {v : List Want} (h1 : v.length ≤ 4) (h2 : ∀ u ∈ v, u.Ok b.names) : ({ b with wants := v } : Lb).Ok := ⟨h.n0, h.n5, h.nd, h.word, h.tiers, h.mono, h.pts, h.needs3, h.needs, h.needsUp, Nat.le_trans h1 (by decide), h2, h.bars6, h.bars, h.barsNd, h.gives12, h.gives, h.givesNd, h.prices12, h.prices, h.pricesNd, h.reset⟩
theorem ok_bars {b : Lb} (h : b.Ok) {p : Str × Str} (h1 : p.1 ∈ b.names ∧ p.2 ∈ b.names ∧ p.1 ≠ p.2) : ({ b with bars := [p] } : Lb).Ok := ⟨h.n0, h.n5, h.nd, h.word, h.tiers, h.mono, h.pts, h.needs3, h.needs, h.needsUp, h.wants12, h.wants, (by show 1 ≤ 6; decide), (fun q hq => by rw [List.mem_singleton.mp hq]; exact h1), (by show [srt2 p].Nodup; simp), h.gives12, h.gives, h.givesNd, h.prices12, h.prices, h.pricesNd, h.reset⟩
theorem ok_gives {b : Lb} (h : b.Ok) : ({ b with gives := [] } : Lb).Ok := ⟨h.n0, h.n5, h.nd, h.word, h.tiers, h.mono, h.pts, h.needs3, h.needs, h.needsUp, h.wants12, h.wants, h.bars6, h.bars, h.barsNd, Nat.zero_le _, (fun q hq => nomatch hq), List.nodup_nil, h.prices12, h.prices, h.pricesNd, h.reset⟩
theorem ok_nm {b : Lb} (h : b.Ok) : NmOk b.names := ⟨⟨by
  have hne : b.skills.length ≠ 0 := fun z => h.n0 (List.length_eq_zero_iff.mp z)
  rw [b.names_len]
  omega, by rw [b.names_len]; exact h.n5⟩, h.nd, h.word⟩
end Rt
namespace Rt
open PySem PySem.Spec PyProof.Rows L2
open C8 (Cal Met Mak pe_c pe_mt pe_mt0 pe_mk)
section
variable {P : Program} {w : World} {T : Tx} {mg : Str → Option Value} {base : Heap}
def bookS (d : Dd) (o' : Ow) : Prop := o' = .pool ∧ ∃ b : Lb, b.Ok ∧ d = .dic b.dic
def F_law_small (ds : List Dd) (o : Ow) (S : Dd → Ow → Prop) : Prop := ∃ s : Nat, ds = [.py (.int (s : Int))] ∧ o = .pool ∧ S = bookS
theorem c_law_small (W : Wt T mg) : Cal P w T.K mg base 5 "_law_small" (spQ T F_law_small) [] := by
  refine cal_pool (k := 4) W.fn_law_small sc_law_small bn_law_small F_law_small (fun ds o S h => ?_) (fun f cdv A outer s H E hr => ⟨_, (pss_one (ps_ret (pe_c (c_law_book W) hr (by decide) (by rfl) (pa_cons (pv 0) (pa_cons pe_int (pa_cons (pv 1) pa_nil)))))), fun ds o S h => ?_⟩)
  · obtain ⟨s, rfl, rfl, rfl⟩ := h
    rfl
  · obtain ⟨s, rfl, rfl, rfl⟩ := h
    exact go_ret (ew_callQ (ω' := []) (ds := [.py (.int 5), .py (.int (s : Int))]) (ea_cons (ev_var rfl) (ea_cons ev_int (ea_cons (ev_var rfl) ea_nil))) rfl ⟨s, rfl, rfl, rfl⟩ fun d o' ⟨e1, b, hb, e2⟩ => by
      subst e1 e2
      exact ⟨rfl, .pool, [], rfl, ⟨rfl, b, hb, rfl⟩, .inl rfl⟩)
def F_law_any_sort (ds : List Dd) (o : Ow) (S : Dd → Ow → Prop) : Prop := ds = [] ∧ o = .pool ∧ S = bookS
theorem c_law_any_sort (W : Wt T mg) : Cal P w T.K mg base 6 "_law_any_sort" (spQ T F_law_any_sort) [] := by
  refine cal_pool (k := 5) W.fn_law_any_sort sc_law_any_sort bn_law_any_sort F_law_any_sort (fun ds o S h => ?_) (fun f cdv A outer s H E hr => ⟨_, (pss_one (ps_ret (pe_c (c_law_small W) hr (by decide) (by rfl) (pa_cons (pv 0) (pa_cons (pe_c (c_law_one W) hr (by decide) (by rfl) (pa_cons (pv 0) (pa_cons (pe_lst (pa_cons pe_int (pa_cons pe_int (pa_cons pe_int (pa_cons pe_int (pa_cons pe_int (pa_cons pe_int pa_nil))))))) pa_nil))) pa_nil))))), fun ds o S h => ?_⟩)
  · obtain ⟨rfl, rfl, rfl⟩ := h
    rfl
  · obtain ⟨rfl, rfl, rfl⟩ := h
    refine go_ret (ew_callQw (ewa_two (S1 := fun d o => o = [.pool] ∧ ∃ s : Nat, d = .py (.int (s : Int))) (ev_var rfl) (ew_one (ω' := []) (xs := ([0, 1, 2, 3, 3, 4] : List Nat).map fun (i : Nat) => PyData.int (i : Int)) rfl (EvN.ev (en_lst (ea_cons ev_int (ea_cons ev_int (ea_cons ev_int (ea_cons ev_int (ea_cons ev_int (ea_cons ev_int ea_nil)))))) (by decide))) (by decide) (by decide) fun y hy => ?_) fun d o ⟨e1, s, e2⟩ => ⟨[d], .pool, [], bookS, rfl, by rw [e2]; rfl, e1, ⟨s, by rw [e2], rfl, rfl⟩, fun d o' ⟨e1, b, hb, e2⟩ => by
      subst e1 e2
      exact ⟨rfl, .pool, [], rfl, ⟨rfl, b, hb, rfl⟩, .inl rfl⟩⟩))
    obtain ⟨z, hz, rfl⟩ := List.mem_map.mp hy
    exact ⟨rfl, z, rfl⟩
theorem ew_sort {ρ : En} {ω' : List Ow} {S : Dd → List Ow → Prop} {E : XK} (h0 : ρ[0]? = some (some (.own 0))) (k : ∀ b : Lb, b.Ok → S (.dic b.dic) (.pool :: ω')) : EvW T (tCall (spQ T F_law_any_sort) [] E (tCons (tVar 0) tNil)) ρ (.pool :: ω') S :=
  ew_callQ (ds := []) (ea_cons (ev_var h0) ea_nil) rfl ⟨rfl, rfl, rfl⟩ fun d o' ⟨e1, b, hb, e2⟩ => by
    subst e1 e2
    exact ⟨rfl, k b hb⟩
def F_law_other_book (ds : List Dd) (o : Ow) (S : Dd → Ow → Prop) : Prop := ∃ b : Lb, b.Ok ∧ ds = [.dic b.dic] ∧ o = .pool ∧ S = bookS
theorem c_law_other_book (W : Wt T mg) : Cal P w T.K mg base 7 "_law_other_book" (spQ T F_law_other_book) [] := by
  refine cal_pool (k := 6) W.fn_law_other_book sc_law_other_book bn_law_other_book F_law_other_book (fun ds o S h => ?_) (fun f cdv A outer s H E hr => ⟨_, (pss_cons (ps_set (i := 2) sc_law_other_book.nd rfl (Or.inl rfl) (pe_c (c_law_any_sort W) hr (by decide) (by rfl) (pa_cons (pv 0) pa_nil)))
      (pss_cons (ps_if (pt_cmpR op_gt (pe_c (c_law_take W) hr (by decide) (by rfl) (pa_cons (pv 0) (pa_cons pe_int pa_nil))) pe_int (nomark _)) (pss_cons (ps_set (i := 2) sc_law_other_book.nd rfl (Or.inl rfl) (pe_callTy (r := rDictP T.K) (cz_dictP rfl) (by rfl) W.m_dict bt_dict (pa_cons (LiI.pe_listItems rfl (pv 1) (by rfl) W.m_list bt_list) pa_nil)))
      (pss_cons (ps_set (i := 3) sc_law_other_book.nd rfl (Or.inl rfl) (pe_c (c_law_take W) hr (by decide) (by rfl) (pa_cons (pv 0) (pa_cons pe_int pa_nil))))
      (pss_one (ps_if (pt_cmpR op_eq (pv 3) pe_int (nomark _)) (pss_one (ps_dput (hu_of hr) (pv 2) pe_str (pe_c (c_law_take W) hr (by decide) (by rfl) (pa_cons (pv 0) (pa_cons pe_int pa_nil))) rfl)) (pss_one (ps_if (pt_cmpR op_eq (pv 3) pe_int (nomark _)) (pss_one (ps_dput (hu_of hr) (pv 2) pe_str (pe_lst (pa_cons (pe_tup (pa_cons pe_int (pa_cons (pe_c (c_law_take W) hr (by decide) (by rfl) (pa_cons (pv 0) (pa_cons pe_int pa_nil))) pa_nil))) pa_nil)) rfl)) (pss_one (ps_if (pt_cmpR op_eq (pv 3) pe_int (nomark _)) (pss_one (ps_dput (hu_of hr) (pv 2) pe_str (pe_c (c_law_rows W) hr (by decide) (by rfl) (pa_cons (pv 0) (pa_cons (pe_c (c_law_names W) hr (by decide) (by rfl) (pa_cons (pv 1) pa_nil)) (pa_cons pe_int (pa_cons (pe_lst (pa_cons pe_str (pa_cons pe_str (pa_cons pe_str (pa_cons pe_str pa_nil))))) (pa_cons pe_bl pa_nil)))))) rfl)) (pss_one (ps_if (PW.pt (pw_and (pt_cmpR op_eq (pv 3) pe_int (nomark _)) (pw_and1 (pt_cmpR op_gt (pe_callB (r := rLen T.K) cz_len (by rfl) W.m_len bt_len (pa_cons (pe_c (c_law_names W) hr (by decide) (by rfl) (pa_cons (pv 1) pa_nil)) pa_nil)) pe_int (nomark _))))) (pss_one (ps_dput (hu_of hr) (pv 2) pe_str (pe_lst (pa_cons (pe_callTy (r := rTupC T.K) cz_tup (by rfl) W.m_tuple bt_tuple (pa_cons (pe_slice (r := rSlL T.K) sl_list (pe_c (c_law_turned W) hr (by decide) (by rfl) (pa_cons (pv 0) (pa_cons (pe_c (c_law_names W) hr (by decide) (by rfl) (pa_cons (pv 1) pa_nil)) pa_nil))) po_none (po_some pe_int)) pa_nil)) pa_nil)) rfl)) (pss_one (ps_dput (hu_of hr) (pv 2) pe_str (pe_lst pa_nil) rfl)))))))))))) pss_nil)
      (pss_one (ps_ret (pv 2))))), fun ds o S h => ?_⟩)
  · obtain ⟨b, hb, rfl, rfl, rfl⟩ := h
    rfl
  · obtain ⟨b, hb, rfl, rfl, rfl⟩ := h
    have hnm := ok_nm hb
    have hN5 := hnm.len
    have tl : (tStrs b.names).length = b.names.length := List.length_map ..
    have niceN : ∀ d ∈ tStrs b.names, d.canLay0 = true ∧ d.depth ≤ 10 := fun d hd => by
      obtain ⟨x, hx, rfl⟩ := List.mem_map.mp hd
      exact nice_str (w13_ok x (hnm.word x hx)).1
    have nms : ∀ {ρ : En}, ρ[1]? = some (some (.dic b.dic)) → Ev T (tCall (spF T F_law_names) [] C8.E0 (tCons (tVar 1) tNil)) ρ (.py (.list (tStrs b.names))) := fun h => ev_call (ea_cons (ev_var h) ea_nil) ⟨b, hb, rfl, rfl⟩
    refine go_let (S := fun d o => o = [.pool] ∧ ∃ c : Lb, c.Ok ∧ d = .dic c.dic) (ew_sort (ω' := []) rfl fun c hc => ⟨rfl, c, hc, rfl⟩) ?_
    rintro d o ⟨rfl, c0, hc0, rfl⟩
    refine go_seq (N1 := fun ρ' o => (o = [.pool] ∧ ∃ y3, ρ' = [some (.own 0), some (.dic b.dic), some (.dic c0.dic), y3]) ∨ ∃ (c : Lb) (y3 : Option Dd), c.Ok ∧ o = [.pool, .dic c.dic] ∧ ρ' = [some (.own 0), some (.dic b.dic), some (.own 1), y3]) ?_ (fun ρ' o h => ?_)
    · refine go_ifw (S1 := fun c2 o => o = [.pool]) (ewt_test (S := fun d o => o = [.pool] ∧ ∃ c2 : Bool, d = .py (.bool c2)) (ew_op1 (S1 := fun d o => o = [.pool] ∧ ∃ j : Nat, d = .py (.int (j : Int))) (ew_take (n := 3) (ω' := []) rfl ev_int (by decide) (by decide) fun j _ => ⟨rfl, j, rfl⟩) ev_int fun x o ⟨e1, j, e2⟩ => by subst e2; exact ⟨_, er_gt, e1, _, rfl⟩) fun d o ⟨e1, c2, e2⟩ => ⟨c2, e2, e1⟩) (fun o e => ?_) (fun o e => go_next (.inl ⟨e, _, rfl⟩))
      subst e
      refine go_newo (S := fun u o => u = .dic b.dic ∧ o = [.pool]) (new_dictP (ev_items (ev_var rfl)) (dic_nd b) ⟨rfl, rfl⟩) (fun u o ⟨e1, e2⟩ => ?_) (Nat.le_refl _)
      subst e1 e2
      refine go_let (S := fun d o => o = [.pool, .dic b.dic] ∧ ∃ j : Nat, d = .py (.int (j : Int))) (ew_take (n := 5) (ω' := [.dic b.dic]) rfl ev_int (by decide) (by decide) fun j _ => ⟨rfl, j, rfl⟩) ?_
      rintro d o ⟨rfl, j, rfl⟩
      refine go_if (et_test (ev_op (ev_var rfl) ev_int er_eqI)) (fun _ => ?_) (fun _ => go_if (et_test (ev_op (ev_var rfl) ev_int er_eqI)) (fun _ => ?_) (fun _ => go_if (et_test (ev_op (ev_var rfl) ev_int er_eqI)) (fun _ => ?_) (fun _ => go_if (et_and (et_test (ev_op (ev_var rfl) ev_int er_eqI)) fun _ => et_test (ev_op (ev_cb (ea_cons (nms rfl) ea_nil) ec_len_l) ev_int er_gt)) (fun e => ?_) (fun _ => ?_))))
      · refine go_dput (k := 1) (ky := .inr "points") (S := fun d o => o = [.pool, .dic b.dic] ∧ ∃ v : Int, (0 ≤ v ∧ v ≤ 12) ∧ d = .py (.int v)) (ew_take (n := 4) (ω' := [.dic b.dic]) rfl ev_int (by decide) (by decide) fun j hj => ⟨rfl, (j : Int), by omega, rfl⟩) ev_str rfl fun d o ⟨e1, v, hv, e2⟩ => ⟨_, b.dic, e2, by rw [e1]; rfl, by show 8 ≤ 1000; decide, .inr ⟨{ b with points := v }, some (.py (.int (j : Int))), ok_points hb hv, by rw [e1]; rfl, rfl⟩⟩
      · refine go_dput (k := 1) (ky := .inr "needs") (S := fun d o => o = [.pool, .dic b.dic] ∧ ∃ v : Int, (0 ≤ v ∧ v ≤ 12) ∧ d = .py (.list [enII (2, v)])) (EvWN.w (S1 := fun ds o => o = [.pool, .dic b.dic] ∧ ∃ v : Int, (0 ≤ v ∧ v ≤ 12) ∧ ds = [enII (2, v)]) (ewn_lst (S1 := fun ds o => o = [.pool, .dic b.dic] ∧ ∃ v : Int, (0 ≤ v ∧ v ≤ 12) ∧ ds = [.py (enII (2, v))]) (ewa_one (S1 := fun d o => o = [.pool, .dic b.dic] ∧ ∃ v : Int, (0 ≤ v ∧ v ≤ 12) ∧ d = .py (enII (2, v))) (ew_tup (S1 := fun ds o => o = [.pool, .dic b.dic] ∧ ∃ v : Int, (0 ≤ v ∧ v ≤ 12) ∧ ds = [.py (.int 2), .py (.int v)]) (ewa_two (S1 := fun d o => o = [.pool, .dic b.dic] ∧ ∃ v : Int, (0 ≤ v ∧ v ≤ 12) ∧ d = .py (.int v)) ev_int (ew_take (n := 4) (ω' := [.dic b.dic]) rfl ev_int (by decide) (by decide) fun j hj => ⟨rfl, (j : Int), by omega, rfl⟩) fun d o ⟨e1, v, hv, e2⟩ => ⟨e1, v, hv, by rw [e2]⟩) fun ds o ⟨e1, v, hv, e2⟩ => ⟨[.int 2, .int v], e2, by show 2 ≤ 1000; decide, e1, v, hv, rfl⟩) fun d o ⟨e1, v, hv, e2⟩ => ⟨e1, v, hv, by rw [e2]⟩) fun ds o ⟨e1, v, hv, e2⟩ => ⟨[enII (2, v)], e2, by show 1 ≤ 1000; decide, e1, v, hv, rfl⟩) fun ds o ⟨e1, v, hv, e2⟩ => ⟨e1, v, hv, by rw [e2]⟩) ev_str rfl fun d o ⟨e1, v, hv, e2⟩ => ⟨_, b.dic, e2, by rw [e1]; rfl, by show 8 ≤ 1000; decide, .inr ⟨{ b with needs := [(2, v)] }, some (.py (.int (j : Int))), ok_needs hb ⟨by show 1 ≤ 3; decide, fun p hp => by rw [List.mem_singleton.mp hp]; exact ⟨⟨(by show (2 : Int) ≤ 2; decide), (by show (2 : Int) ≤ 4; decide)⟩, hv⟩, List.pairwise_singleton _ _⟩, by rw [e1]; rfl, rfl⟩⟩
      · refine go_dput (k := 1) (ky := .inr "wants") (S := fun d o => o = [.pool, .dic b.dic] ∧ ∃ us : List Want, us.length ≤ 4 ∧ (∀ u ∈ us, u.Ok b.names) ∧ d = .py (.list (us.map enW))) (ew_callQ (ω' := [.dic b.dic]) (ds := [.py (.list (tStrs b.names)), .py (.int 4), .py (.list (tStrs wordsB)), .py (.bool false)]) (ea_cons (ev_var rfl) (ea_cons (nms rfl) (ea_cons ev_int (ea_cons (EvN.ev (en_lst (ds := tStrs wordsB) (ea_cons ev_str (ea_cons ev_str (ea_cons ev_str (ea_cons ev_str ea_nil)))) (by decide))) (ea_cons ev_bl ea_nil))))) rfl ⟨b.names, wordsB, false, hnm, .inr rfl, rfl, rfl, rfl⟩ fun d o' ⟨e1, us, u1, u2, e2⟩ => by
          subst e1 e2
          exact ⟨rfl, rfl, us, u1, u2, rfl⟩) ev_str rfl fun d o ⟨e1, us, u1, u2, e2⟩ => ⟨_, b.dic, e2, by rw [e1]; rfl, by show 8 ≤ 1000; decide, .inr ⟨{ b with wants := us }, some (.py (.int (j : Int))), ok_wants hb u1 u2, by rw [e1]; rfl, rfl⟩⟩
      · have h2n : 2 ≤ b.names.length := by
          rw [Bool.and_eq_true] at e
          have := of_decide_eq_true e.2
          rw [tl] at this
          omega
        refine go_dput (k := 1) (ky := .inr "bars") (S := fun d o => o = [.pool, .dic b.dic] ∧ ∃ p : Str × Str, (p.1 ∈ b.names ∧ p.2 ∈ b.names ∧ p.1 ≠ p.2) ∧ d = .py (.list [enSS p])) (EvWN.w (S1 := fun ds o => o = [.pool, .dic b.dic] ∧ ∃ p : Str × Str, (p.1 ∈ b.names ∧ p.2 ∈ b.names ∧ p.1 ≠ p.2) ∧ ds = [enSS p]) (ewn_lst (S1 := fun ds o => o = [.pool, .dic b.dic] ∧ ∃ p : Str × Str, (p.1 ∈ b.names ∧ p.2 ∈ b.names ∧ p.1 ≠ p.2) ∧ ds = [.py (enSS p)]) (ewa_one (S1 := fun d o => o = [.pool, .dic b.dic] ∧ ∃ p : Str × Str, (p.1 ∈ b.names ∧ p.2 ∈ b.names ∧ p.1 ≠ p.2) ∧ d = .py (enSS p)) (ew_cb (S1 := fun ds o => o = [.pool, .dic b.dic] ∧ ∃ p : Str × Str, (p.1 ∈ b.names ∧ p.2 ∈ b.names ∧ p.1 ≠ p.2) ∧ ds = [.py (.list [.str p.1, .str p.2])]) (ewa_one (S1 := fun d o => o = [.pool, .dic b.dic] ∧ ∃ p : Str × Str, (p.1 ∈ b.names ∧ p.2 ∈ b.names ∧ p.1 ≠ p.2) ∧ d = .py (.list [.str p.1, .str p.2])) (EvWN.w (S1 := fun ds o => o = [.pool, .dic b.dic] ∧ ∃ p : Str × Str, (p.1 ∈ b.names ∧ p.2 ∈ b.names ∧ p.1 ≠ p.2) ∧ ds = [.str p.1, .str p.2]) (ewn_slLw (S0 := fun d o => o = [.pool, .dic b.dic] ∧ ∃ ys : List PyData, ys.Perm (tStrs b.names) ∧ d = .py (.list ys)) (S1 := fun ds hi o => o = [.pool, .dic b.dic] ∧ ds.Perm (tStrs b.names) ∧ hi = some 2) (ew_turned (ω' := [_]) rfl (nms rfl) (by rw [tl]; omega) niceN fun ys hp => ⟨rfl, ys, hp, rfl⟩) eo_none (fun d o ⟨e1, ys, hp, e2⟩ => ⟨ys, e2, ewo_some (S := fun d o' => o' = o ∧ d = .py (.int 2)) (Ev.w ev_int ⟨rfl, rfl⟩) fun d o' ⟨e3, e4⟩ => ⟨2, e4, by rw [e3]; exact e1, hp, rfl⟩⟩) fun ds hi o ⟨e1, hp, e2⟩ => ?_) fun ds o ⟨e1, p, hp, e2⟩ => ⟨e1, p, hp, by rw [e2]⟩) fun d o ⟨e1, p, hp, e2⟩ => ⟨e1, p, hp, by rw [e2]⟩) fun ds o ⟨e1, p, hp, e2⟩ => by subst e2; exact ⟨_, ec_tup_l, e1, p, hp, rfl⟩) fun d o ⟨e1, p, hp, e2⟩ => ⟨e1, p, hp, by rw [e2]⟩) fun ds o ⟨e1, p, hp, e2⟩ => ⟨[enSS p], e2, by show 1 ≤ 1000; decide, e1, p, hp, rfl⟩) fun ds o ⟨e1, p, hp, e2⟩ => ⟨e1, p, hp, by rw [e2]⟩) ev_str rfl fun d o ⟨e1, p, hp, e2⟩ => ⟨_, b.dic, e2, by rw [e1]; rfl, by show 8 ≤ 1000; decide, .inr ⟨{ b with bars := [p] }, some (.py (.int (j : Int))), ok_bars hb hp, by rw [e1]; rfl, rfl⟩⟩
        obtain ⟨l', hl', rfl⟩ := perm_map PyData.str hp _ rfl
        refine ⟨e1, ?_⟩
        have hlen := hl'.length_eq
        match l', hl', hlen with
        | [], _, hlen =>
          have : (0 : Nat) = b.names.length := hlen
          omega
        | [a], _, hlen =>
          have : (1 : Nat) = b.names.length := hlen
          omega
        | a :: c' :: l, hl', _ =>
          have nd : (a :: c' :: l).Nodup := hl'.nodup_iff.mpr hnm.nd
          refine ⟨(a, c'), ⟨hl'.subset (by simp), hl'.subset (by simp), fun z => ?_⟩, ?_⟩
          · exact (List.nodup_cons.mp nd).1 (by rw [show a = c' from z]; simp)
          · rw [e2]
            exact cut_to ((a :: c' :: l).map PyData.str) 2
      · exact go_dput (k := 1) (ky := .inr "gives") (S := fun d o => o = [.pool, .dic b.dic] ∧ d = .py (.list [])) (Ev.w (EvN.ev (en_lst (ds := []) ea_nil (by decide))) ⟨rfl, rfl⟩) ev_str rfl fun d o ⟨e1, e2⟩ => ⟨_, b.dic, e2, by rw [e1]; rfl, by show 8 ≤ 1000; decide, .inr ⟨{ b with gives := [] }, some (.py (.int (j : Int))), ok_gives hb, by rw [e1]; rfl, rfl⟩⟩
    · rcases h with ⟨rfl, y3, rfl⟩ | ⟨c, y3, hc, rfl, rfl⟩
      · exact go_retp (ev_var rfl) ⟨.pool, [], rfl, ⟨rfl, c0, hc0, rfl⟩, .inl rfl⟩
      · exact go_frz (ω := [.pool]) (fun z => nomatch z) (by show 1 ≤ 1; decide) (go_retp (ev_var rfl) ⟨.pool, [], rfl, ⟨rfl, c, hc, rfl⟩, .inl rfl⟩)
end
end Rt
namespace Rt
open PySem PySem.Spec PyProof.Rows L2
open C8 (Cal Met Mak pe_c pe_mt pe_mt0 pe_mk)
section
variable {b : Lb}
theorem gone_holds {S : List Str} : (b.gone S).isEmpty = b.holds S ∨ ((b.gone S).isEmpty = true ∧ b.holds S = false ∧ S = [] ∧ b.sizeLet S < 0) ∨ (∃ p ∈ b.bars, (b.order [p.1, p.2]).drop 1 = []) := by
  unfold Lb.holds
  cases h1 : (b.loose S).isEmpty with
  | false =>
    left
    have e : b.gone S = b.loose S := by
      unfold Lb.gone
      rw [if_pos h1]
    rw [e, h1, Bool.and_false, Bool.and_false]
  | true =>
    cases h2 : b.barred S with
    | cons p l =>
      have e : b.gone S = (b.order [p.1, p.2]).drop 1 := by
        unfold Lb.gone
        rw [if_neg (by rw [h1]; exact fun z => Bool.noConfusion z), h2]
      cases h3 : (b.order [p.1, p.2]).drop 1 with
      | nil =>
        right
        right
        exact ⟨p, (List.mem_filter.mp (show p ∈ b.barred S by rw [h2]; exact List.mem_cons_self)).1, h3⟩
      | cons x m =>
        left
        rw [e, h3]
        simp
    | nil =>
      have e : b.gone S = if b.sizeLet S < (S.length : Int) then S.drop (S.length - 1) else [] := by
        unfold Lb.gone
        rw [if_neg (by rw [h1]; exact fun z => Bool.noConfusion z), h2]
      by_cases h3 : b.sizeLet S < (S.length : Int)
      · rw [e, if_pos h3, decide_eq_true h3]
        cases S with
        | nil =>
          right
          left
          exact ⟨rfl, rfl, rfl, by simpa using h3⟩
        | cons a l =>
          left
          have : ((a :: l).drop ((a :: l).length - 1)).isEmpty = false := by
            cases z : (a :: l).drop ((a :: l).length - 1) with
            | nil =>
              have hl := congrArg List.length z
              rw [List.length_drop] at hl
              simp at hl
            | cons x m => rfl
          rw [this]
          rfl
      · left
        rw [e, if_neg h3, decide_eq_false h3]
        rfl
theorem gone_eq (hb : b.Ok) (S : List Str) : (b.gone S).isEmpty = b.holds S := by
  rcases gone_holds (b := b) (S := S) with h | ⟨_, _, rfl, h⟩ | ⟨p, hp, h⟩
  · exact h
  · have := size_nonneg hb []
    omega
  · rcases order_pair hb hp with q | q
    · rw [q] at h
      cases h
    · rw [q] at h
      cases h
theorem holds_nil (hb : b.Ok) : b.holds [] = true := by
  rw [← gone_eq hb]
  have h0 := size_nonneg hb []
  unfold Lb.gone
  rw [if_neg (by unfold Lb.loose; simp)]
  have e : b.barred [] = [] := List.filter_eq_nil_iff.mpr fun p _ => by simp
  rw [e]
  show (if b.sizeLet [] < ((0 : Nat) : Int) then _ else _ : List Str).isEmpty = true
  rw [if_neg (by simpa using h0)]
  rfl
theorem fallN_holds (hb : b.Ok) : ∀ (m : Nat) (S : List Str), S.length ≤ m → b.holds (b.fallN m S) = true
  | 0, S, h => by
    have e : S = [] := List.length_eq_zero_iff.mp (Nat.le_zero.mp h)
    rw [e]
    exact holds_nil hb
  | m + 1, S, h => by
    show b.holds (if (b.gone S).isEmpty = true then S else b.fallN m (b.next S)) = true
    by_cases e : (b.gone S).isEmpty = true
    · rw [if_pos e, ← gone_eq hb]
      exact e
    · rw [if_neg e]
      have hs := next_shorter hb (by simpa using e)
      exact fallN_holds hb m _ (by omega)
theorem growN_holds (hb : b.Ok) {S : List Str} : ∀ (n : Nat) {F : List Str}, F.Sublist b.names → b.holds F = true → b.holds (b.growN S n F) = true
  | 0, F, _, h => h
  | n + 1, F, hF, h => by
    refine growN_holds hb n (order_sublist b _) ?_
    cases z : b.can S F with
    | nil =>
      have := grow1_nil hb hF z
      unfold Lb.grow1 at this
      rw [z] at this
      show b.holds (b.order (F ++ List.take 1 (b.can S F))) = true
      rw [z, this]
      exact h
    | cons c l =>
      have hc : c ∈ b.can S F := by rw [z]; exact List.mem_cons_self
      have h2 := (List.mem_filter.mp hc).2
      rw [Bool.and_eq_true] at h2
      show b.holds (b.order (F ++ List.take 1 (b.can S F))) = true
      rw [z]
      exact h2.2
theorem carried_holds (hb : b.Ok) (S : List Str) {k : Str} (hk : k ≠ "keep") : b.holds (b.carried S k) = true := by
  unfold Lb.carried
  rw [if_neg hk]
  by_cases h : k = "fall"
  · rw [if_pos h]
    exact fallN_holds hb _ _ (Nat.le_refl _)
  · rw [if_neg h]
    exact growN_holds hb _ (List.nil_sublist _) (holds_nil hb)
theorem fall_fix (hb : b.Ok) {S : List Str} (hS : S.Sublist b.names) (h : b.holds S = true) : b.carried S "fall" = S := by
  have hk : ("fall" : Str) ≠ "keep" := by decide +kernel
  unfold Lb.carried
  rw [if_neg hk, if_pos rfl, order_of_sublist hb hS]
  exact fallN_fix (by rw [gone_eq hb]; exact h) _
theorem keep_fix (hb : b.Ok) {S : List Str} (hS : S.Sublist b.names) : b.carried S "keep" = S := by
  unfold Lb.carried
  rw [if_pos rfl, order_of_sublist hb hS]
theorem grown_reach (hb : b.Ok) (S : List Str) : Reach b (b.carried S "grown") [] := by
  have h1 : ("grown" : Str) ≠ "keep" := by decide +kernel
  have h2 : ("grown" : Str) ≠ "fall" := by decide +kernel
  unfold Lb.carried
  rw [if_neg h1, if_neg h2]
  exact growN_reach hb (fun x hx => (order_sublist b S).subset hx) _ (List.nil_sublist _)
end
section
variable {P : Program} {w : World} {T : Tx} {mg : Str → Option Value} {base : Heap}
theorem same_refl (H : Hp) : Same H H := Same.refl H
theorem ok_pure {x : Str} {st : Stmt} {N ps : List Str} {k : Nat} {f : Addr} {fd : FuncData} (F : FunD T.K x x (defArgs st) (defBody st) (defScope st) [] [] f fd) (S : FnScope N ps (defScope st)) (Fs : List Dd → Dd → Prop) (hl : ∀ ds d, Fs ds d → ds.length = ps.length ∧ ds.all Dd.free = true ∧ d.free = true)
    (body : ∀ (f : Addr) (cdv : Value) (A : Around) (outer : List Env) (s : Shared) (H : Hp) (E : XK), Room k (A.deeper (envOfC x (defScope st) s.heap.objs.size f cdv)) →
      ∃ t, PSs (cxOf CX0 P w T.K mg base N x (defScope st) f cdv A outer s H E).nox (defBody st) t ∧ ∀ ds d, Fs ds d → Go T t (startD N ds) 0 [] (fun _ _ => d = .py .none) (fun d' _ => d' = d)) : FnOk P w T.K mg base L2.CX0 (k + 1) f fd ps (spF T Fs) := by
  refine F.ok S (fun vs H Q E h => ?_) (fun cdv A outer s H vs Q E hr h => ?_)
  · obtain ⟨as, ds, d, G, hf, r, _⟩ := h
    rw [← Paired.length r]
    exact (hl ds d hf).1
  · obtain ⟨t, ht, go⟩ := body f cdv A outer s H E hr
    obtain ⟨as, ds, d, G, hf, r, sg, q⟩ := h
    obtain ⟨_, fr, fd'⟩ := hl ds d hf
    refine ⟨t, PSs.nox ht, ?_⟩
    have keep : ∀ {as' : List Addr} {G2 H2 : Hp}, Stp [] as' G H G2 H2 → Stq G H G2 H2 := fun s2 => ⟨s2.gg, s2.gh, s2.hh, s2.ha, s2.fr, fun _ h => absurd h List.not_mem_nil⟩
    refine go ds d hf [] (L2.start N vs) G H (start_rep (RepL.move fr r)) sg .nil _ (fun as' ρ' o σ' G2 H2 n _ w2 tk s2 => ?_) (fun as' d' o v G2 H2 e r2 w2 tk s2 => ?_)
    · subst n
      exact q .non G2 H2 (keep s2) .non
    · subst e
      exact q v G2 H2 (keep s2) (r2.move fd')
theorem kinds_sh : SeqAt.shaped (.tuple (kinds.map .str)) = true := by decide +kernel
def F_law (ds : List Dd) (d : Dd) : Prop := ∃ ns : List Int, ds = [.klst ns] ∧ d = .py (.bool true)
theorem four (l : Int) : ∃ n : Nat, n ≤ 4 ∧ (if (if (4 : Int) < l then (4 : Int) else l) > 1 then (if (4 : Int) < l then (4 : Int) else l) else 1) = (n : Int) := by
  by_cases h1 : (4 : Int) < l
  · rw [if_pos h1]
    exact ⟨4, Nat.le_refl _, by rw [if_pos (by decide)]; rfl⟩
  · rw [if_neg h1]
    by_cases h2 : l > 1
    · rw [if_pos h2]
      exact ⟨l.toNat, by omega, by omega⟩
    · rw [if_neg h2]
      exact ⟨1, by decide, rfl⟩
theorem tup_nice {b : Lb} (hb : b.Ok) {S : List Str} (hS : S.Sublist b.names) : (PyData.tuple (tStrs S)).canLay0 = true ∧ (PyData.tuple (tStrs S)).depth ≤ 10 := by
  obtain ⟨h1, h2⟩ := nice_strs (xs := S) fun x hx => hb.str (hS.subset hx)
  refine ⟨h1, ?_⟩
  show PyData.depthAll (tStrs S) + 1 ≤ 10
  rw [h2]
  decide
theorem ok_law (W : Wt T mg) {fl : Addr} {fdl : FuncData} (F : FunD T.K "law" "law" (defArgs s_law) (defBody s_law) (defScope s_law) [] [] fl fdl) : FnOk P w T.K mg base L2.CX0 15 fl fdl P_law (spF T F_law) := by
  refine ok_pure (k := 14) F sc_law F_law (fun ds d h => ?_) (fun f cdv A outer s H E hr => ⟨_, (pss_cons (ps_if (pt_cmpR (r := rNeD T.K) (op_neD hr.units) (C8.pe_gc (by rfl) W.m_KINDS) (pe_tup (pa_cons pe_str (pa_cons pe_str (pa_cons pe_str pa_nil)))) (nomark _)) (pss_one (ps_ret pe_bl)) pss_nil)
      (pss_cons (ps_for PassesOwn.never rfl (pi_range1 (by rfl) W.m_range (pa_cons (pe_callB (r := rMaxC) (cz_max rfl) (by rfl) W.m_max bt_max (pa_cons pe_int (pa_cons (pe_callB (r := rMinC) (cz_min rfl) (by rfl) W.m_min bt_min (pa_cons (pe_callB (r := rLen T.K) cz_len (by rfl) W.m_len bt_len (pa_cons (pv 0) pa_nil)) (pa_cons pe_int pa_nil))) pa_nil))) pa_nil)) (pg_name (i := 1) sc_law.nd rfl (Or.inl rfl)) (pss_cons (ps_set (i := 2) sc_law.nd rfl (Or.inl rfl) (pe_c (c_law_pool W) hr (by decide) (by rfl) (pa_cons (pv 0) (pa_cons (pv 1) pa_nil))))
      (pss_cons (ps_set (i := 3) sc_law.nd rfl (Or.inl rfl) (pe_c (c_law_any_sort W) hr (by decide) (by rfl) (pa_cons (pv 2) pa_nil)))
      (pss_cons (ps_par (i := 4) (j := 5) (by rfl) sc_law.nd rfl rfl (by decide) rfl rfl (pa_cons (pe_c (c_law_other_book W) hr (by decide) (by rfl) (pa_cons (pv 2) (pa_cons (pv 3) pa_nil))) (pa_cons (pe_c (c_law_all W) hr (by decide) (by rfl) (pa_cons (pv 3) pa_nil)) pa_nil)) (by rfl))
      (pss_cons (ps_par (i := 6) (j := 7) (by rfl) sc_law.nd rfl rfl (by decide) rfl rfl (pa_cons (pe_c (c_law_made W) hr (by decide) (by rfl) (pa_cons (pv 3) pa_nil)) (pa_cons (pe_c (c_law_made W) hr (by decide) (by rfl) (pa_cons (pv 4) pa_nil)) pa_nil)) (by rfl))
      (pss_one (ps_for PassesOwn.never rfl (ki_list T.K (pe_slice (r := rSlL T.K) sl_list (pe_c (c_law_turned W) hr (by decide) (by rfl) (pa_cons (pv 2) (pa_cons (pv 5) pa_nil))) po_none (po_some pe_int))) (pg_name (i := 8) sc_law.nd rfl (Or.inl rfl)) (pss_cons (ps_for PassesOwn.never rfl (ki_tup T.K (C8.pe_gc (by rfl) W.m_KINDS)) (pg_name (i := 9) sc_law.nd rfl (Or.inl rfl)) (pss_cons (ps_set (i := 10) sc_law.nd rfl (Or.inr rfl) (pe_c (c_law_carried W) hr (by decide) (by rfl) (pa_cons (pv 4) (pa_cons (pv 8) (pa_cons (pv 9) pa_nil)))))
      (pss_cons (ps_if (pt_cmpR (r := rNeD T.K) (op_neD hr.units) (pe_c (c_carried W) hr (by decide) (by rfl) (pa_cons (pv 6) (pa_cons (pv 7) (pa_cons (pv 8) (pa_cons (pv 9) pa_nil))))) (pv 10) (nomark _)) (pss_one (ps_ret pe_bl)) pss_nil)
      (pss_cons (ps_set (i := 11) sc_law.nd rfl (Or.inl rfl) (pe_c (c_lost W) hr (by decide) (by rfl) (pa_cons (pv 6) (pa_cons (pv 7) (pa_cons (pv 8) (pa_cons (pv 9) pa_nil))))))
      (pss_cons (ps_if (PW.pt (pw_or (pt_cmpR (r := rNeD T.K) (op_neD hr.units) (pv 11) (pe_lc (own := [("_law_name", 12)]) (g := gName 12) (tt := _) rfl sc_law.nd  (ki_tup T.K (pv 8)) (blkOk_by (own := [("_law_name", 12)]) (N := N_law) (sc := defScope s_law) (by decide +kernel)) (fun _ _ _ _ _ => (pg_name (i := 12) sc_law.nd rfl (Or.inl rfl))) (fun _ _ _ _ _ => pts_one (pt_cmpR (r := rIn T.K true) op_notIn_seq (pv 12) (pv 10) (by rfl))) (fun _ _ _ _ _ => (pv 12))) (nomark _)) (pw_or1 (pt_not (pt_val (pe_callB (r := rIsi T.K) call_isi (by rfl) W.m_isinstance bt_isinstance (pa_cons (pv 11) (pa_cons (pe_bltn (v := .ty "list") (by rfl) W.m_list (by decide +kernel) rfl) pa_nil)))))))) (pss_one (ps_ret pe_bl)) pss_nil)
      (pss_cons (ps_if (PW.pt (pw_and (pt_cmpR op_ne (pv 9) pe_str (nomark _)) (pw_and1 (PW.pt (pw_or (pt_not (pt_val (pe_c (c_holds W) hr (by decide) (by rfl) (pa_cons (pv 7) (pa_cons (pv 10) pa_nil))))) (pw_or1 (pt_cmpR (r := rNeD T.K) (op_neD hr.units) (pe_c (c_carried W) hr (by decide) (by rfl) (pa_cons (pv 7) (pa_cons (pv 7) (pa_cons (pv 10) (pa_cons (pv 9) pa_nil))))) (pe_c (c_law_carried W) hr (by decide) (by rfl) (pa_cons (pv 4) (pa_cons (pv 10) (pa_cons (pv 9) pa_nil)))) (nomark _)))))))) (pss_one (ps_ret pe_bl)) pss_nil)
      (pss_cons (ps_if (PW.pt (pw_and (pt_cmpR op_eq (pv 9) pe_str (nomark _)) (pw_and1 (pt_cmpR (r := rNeD T.K) (op_neD hr.units) (pe_c (c_carried W) hr (by decide) (by rfl) (pa_cons (pv 7) (pa_cons (pv 7) (pa_cons (pv 10) (pa_cons (pv 9) pa_nil))))) (pv 10) (nomark _))))) (pss_one (ps_ret pe_bl)) pss_nil)
      (pss_one (ps_if (PW.pt (pw_and (pt_cmpR op_eq (pv 9) pe_str (nomark _)) (pw_and1 (pt_not (pt_val (pe_c (c_is_grown W) hr (by decide) (by rfl) (pa_cons (pv 7) (pa_cons (pv 10) pa_nil)))))))) (pss_one (ps_ret pe_bl)) pss_nil)))))))))
      (pss_one (ps_if (PW.pt (pw_or (pt_cmpR (r := rNeD T.K) (op_neD hr.units) (pe_c (c_carried W) hr (by decide) (by rfl) (pa_cons (pv 6) (pa_cons (pv 6) (pa_cons (pv 8) (pa_cons pe_str pa_nil))))) (pv 8) (nomark _)) (pw_or1 (pt_cmpR (r := rNeD T.K) (op_neD hr.units) (pe_c (c_carried W) hr (by decide) (by rfl) (pa_cons (pv 6) (pa_cons (pv 6) (pa_cons (pv 8) (pa_cons pe_str pa_nil))))) (pv 8) (nomark _))))) (pss_one (ps_ret pe_bl)) pss_nil))))))))))
      (pss_one (ps_ret pe_bl)))), fun ds d h => ?_⟩)
  · obtain ⟨ns, rfl, rfl⟩ := h
    exact ⟨rfl, rfl, rfl⟩
  · obtain ⟨ns, rfl, rfl⟩ := h
    have KD : ∀ {ρ : En}, Ev T (tC (.ref (He.ga T.K "KINDS"))) ρ (.ktup kinds) := fun {ρ} => ev_con (d := .ktup kinds) fun _ _ => ⟨_, rfl, W.t_KINDS⟩
    refine go_ifret (et_test (ev_op KD (ev_tup (ds := tStrs kinds) (ea_cons ev_str (ea_cons ev_str (ea_cons ev_str ea_nil))) (by decide)) (er_neK (xs := kinds) (ys := kinds) kinds_sh kinds_sh))) (fun e => by rw [decide_eq_true rfl] at e; cases e) (fun _ => ?_)
    obtain ⟨n, hn, en⟩ := four ((ns.length : Nat) : Int)
    refine go_seq (N1 := fun ρ' o => o = []) ?_ (fun ρ' o e => go_retp ev_bl rfl)
    refine go_forw (vs := [1]) (List.range n) (fun (i : Nat) => PyData.int (i : Int)) (fun i ρ1 o => ∃ y1 y2 y3 y4 y5 y6 y7 y8 y9 y10 y11 y12, o = [] ∧ ρ1 = [some (.klst ns), y1, y2, y3, y4, y5, y6, y7, y8, y9, y10, y11, y12]) (ei_rng (ea_cons (ev_is (ev_cb (ea_cons ev_int (ea_cons (ev_cb (ea_cons (ev_cb (ea_cons (ev_var rfl) ea_nil) ec_lenK) (ea_cons ev_int ea_nil)) ec_min) ea_nil)) ec_max) (by rw [en])) ea_nil) (by omega)) ⟨_, _, _, _, _, _, _, _, _, _, _, _, rfl, rfl⟩ ?_ (fun ρ1 o ⟨_, _, _, _, _, _, _, _, _, _, _, _, e, _⟩ => e)
    rintro i j ρ1 o hj ⟨y1, y2, y3, y4, y5, y6, y7, y8, y9, y10, y11, y12, rfl, rfl⟩
    have hj4 : j < 4 := by
      have := List.mem_range.mp (List.mem_of_getElem? hj)
      omega
    refine ⟨_, eg_name (by decide), go_forget ?_⟩
    refine go_newo (S := fun u o => u = .pool ∧ o = []) (new_call (ea_cons (ev_var rfl) (ea_cons (ev_var rfl) ea_nil)) ⟨ns, j, hj4, rfl⟩ fun o e => ⟨e, rfl⟩) (fun u o ⟨e1, e2⟩ => ?_) (Nat.le_refl _)
    subst e1 e2
    refine go_let (S := fun d o => o = [.pool] ∧ ∃ b : Lb, b.Ok ∧ d = .dic b.dic) (ew_callQ (ω' := []) (ds := []) (ea_cons (ev_var rfl) ea_nil) rfl ⟨rfl, rfl, rfl⟩ fun d o' ⟨e1, b, hb, e2⟩ => by
      subst e1 e2
      exact ⟨rfl, rfl, b, hb, rfl⟩) ?_
    rintro d o ⟨rfl, b, hb, rfl⟩
    refine go_par_w (S1 := fun d o => o = [.pool] ∧ ∃ c : Lb, c.Ok ∧ d = .dic c.dic) (ew_callQ (ω' := []) (ds := [.dic b.dic]) (ea_cons (ev_var rfl) (ea_cons (ev_var rfl) ea_nil)) rfl ⟨b, hb, rfl, rfl, rfl⟩ fun d o' ⟨e1, c, hc, e2⟩ => by
      subst e1 e2
      exact ⟨rfl, rfl, c, hc, rfl⟩) (ev_call (ea_cons (ev_var rfl) ea_nil) ⟨b, hb, rfl, rfl⟩) ?_
    rintro d o ⟨rfl, c, hc, rfl⟩
    refine go_parp (ea_cons (ev_call (ea_cons (ev_var rfl) ea_nil) ⟨b, hb, rfl, rfl⟩) (ea_cons (ev_call (ea_cons (ev_var rfl) ea_nil) ⟨c, hc, rfl, rfl⟩) ea_nil)) ?_
    have hall : ∀ B ∈ b.allB, B.Sublist b.names ∧ b.holds B = true := fun B hB => ⟨subsets_sub hb B (List.mem_filter.mp hB).1, (List.mem_filter.mp hB).2⟩
    have hlen : (tups b.allB).length ≤ 100000 := by
      have h5 : b.names.length ≤ 5 := by rw [b.names_len]; exact hb.n5
      have h1 := subsN_len h5 b.names.length [[]] [[]]
      have h2 : 6 ^ b.names.length ≤ 7776 := Nat.le_trans (Nat.pow_le_pow_right (by decide) h5) (by decide)
      have h3 := List.length_filter_le (fun S => b.holds S) b.subsets
      unfold tups
      rw [List.length_map]
      unfold Lb.allB
      unfold Lb.subsets at h3 ⊢
      have e1 : ([[]] : List (List Str)).length = 1 := rfl
      rw [e1] at h1
      omega
    refine go_for (S0 := fun ds o => o = [.pool] ∧ ∀ d ∈ ds, ∃ B : List Str, B.Sublist b.names ∧ b.holds B = true ∧ d = .tuple (tStrs B)) (vs := [8]) (fun ds i ρ1 o => (∀ d ∈ ds, ∃ B : List Str, B.Sublist b.names ∧ b.holds B = true ∧ d = .tuple (tStrs B)) ∧ ∃ y8 y9 y10 y11, o = [.pool] ∧ ρ1 = [some (.klst ns), some (.py (.int (j : Int))), some (.own 0), some (.dic b.dic), some (.dic c.dic), some (.py (.list (tups b.allB))), some (.ins b.fields), some (.ins c.fields), y8, y9, y10, y11, y12]) (eiw_list (S := fun d o => o = [.pool] ∧ ∃ ds, d = .py (.list ds) ∧ ∀ d ∈ ds, ∃ B : List Str, B.Sublist b.names ∧ b.holds B = true ∧ d = .tuple (tStrs B)) (EvWN.w (S1 := fun ds o => o = [.pool] ∧ ∀ d ∈ ds, ∃ B : List Str, B.Sublist b.names ∧ b.holds B = true ∧ d = .tuple (tStrs B)) (ewn_slLw (S0 := fun d o => o = [.pool] ∧ ∃ ys : List PyData, ys.Perm (tups b.allB) ∧ d = .py (.list ys)) (S1 := fun ds hi o => o = [.pool] ∧ ds.Perm (tups b.allB) ∧ hi = some 6) (ew_callQ (ω' := []) (ds := [.py (.list (tups b.allB))]) (ea_cons (ev_var rfl) (ea_cons (ev_var rfl) ea_nil)) rfl ⟨tups b.allB, ?_, ?_, rfl, rfl, rfl⟩ fun d o' ⟨e1, ys, hp, e2⟩ => by
      subst e1 e2
      exact ⟨rfl, rfl, ys, hp, rfl⟩) eo_none (fun d o ⟨e1, ys, hp, e2⟩ => ⟨ys, e2, ewo_some (S := fun d o' => o' = o ∧ d = .py (.int 6)) (Ev.w ev_int ⟨rfl, rfl⟩) fun d o' ⟨e3, e4⟩ => ⟨6, e4, by rw [e3]; exact e1, hp, rfl⟩⟩) fun ds hi o ⟨e1, hp, e2⟩ => ⟨e1, fun d hd => ?_⟩) fun ds o ⟨e1, h⟩ => ⟨e1, ds, rfl, h⟩) fun d o ⟨e1, ds, e2, h⟩ => ⟨ds, e2, e1, h⟩) (fun ds o ⟨e1, h⟩ => ⟨h, _, _, _, _, e1, rfl⟩) ?_ (fun ds ρ1 o ⟨h, y8, y9, y10, y11, e1, e2⟩ => ?_)
    · exact hlen
    · intro d hd
      unfold tups at hd
      obtain ⟨B, hB, rfl⟩ := List.mem_map.mp hd
      exact tup_nice hb (hall B hB).1
    · have h2 : d ∈ ds := by
        unfold cutD at hd
        exact List.mem_of_mem_drop (List.mem_of_mem_take hd)
      have h3 := hp.subset h2
      unfold tups at h3
      obtain ⟨B, hB, rfl⟩ := List.mem_map.mp h3
      exact ⟨B, (hall B hB).1, (hall B hB).2, rfl⟩
    · rintro ds i2 d ρ1 o hd ⟨hds, y8, y9, y10, y11, rfl, rfl⟩
      obtain ⟨B, hB, hh, rfl⟩ := hds d (List.mem_of_getElem? hd)
      have shB : SeqAt.shaped (.tuple (B.map .str)) = true := (shaped_strs fun x hx => hb.str (hB.subset hx)).2
      refine ⟨_, eg_name (by decide), ?_⟩
      refine go_seq (N1 := fun ρ' o => ∃ y9 y10 y11, o = [.pool] ∧ ρ' = [some (.klst ns), some (.py (.int (j : Int))), some (.own 0), some (.dic b.dic), some (.dic c.dic), some (.py (.list (tups b.allB))), some (.ins b.fields), some (.ins c.fields), some (.py (.tuple (tStrs B))), y9, y10, y11, y12]) ?_ (fun ρ' o ⟨y9, y10, y11, e1, e2⟩ => ?_)
      · refine go_forw (vs := [9]) kinds PyData.str (fun i ρ1 o => ∃ y9 y10 y11, o = [.pool] ∧ ρ1 = [some (.klst ns), some (.py (.int (j : Int))), some (.own 0), some (.dic b.dic), some (.dic c.dic), some (.py (.list (tups b.allB))), some (.ins b.fields), some (.ins c.fields), some (.py (.tuple (tStrs B))), y9, y10, y11, y12]) (ei_ktup KD) ⟨_, _, _, rfl, rfl⟩ ?_ (fun ρ1 o h => h)
        rintro i3 k ρ1 o hk ⟨y9, y10, y11, rfl, rfl⟩
        have hkk : k ∈ kinds := List.mem_of_getElem? hk
        obtain ⟨V, hV⟩ : ∃ V, V = c.carried B k := ⟨_, rfl⟩
        have hVs : V.Sublist c.names := hV ▸ carried_sub hc B k
        have shV : SeqAt.shaped (.tuple (V.map .str)) = true := (shaped_strs fun x hx => hc.str (hVs.subset hx)).2
        have hVV : k ≠ "keep" → c.holds V = true := fun h => hV ▸ carried_holds hc B h
        refine ⟨_, eg_name (by decide), ?_⟩
        refine go_letp (d := .py (.tuple (tStrs V))) (ev_is (ev_call (ea_cons (ev_var rfl) (ea_cons (ev_var rfl) (ea_cons (ev_var rfl) ea_nil))) ⟨c, B, k, hc, rfl, rfl⟩) (by rw [hV])) ?_
        refine go_ifret (et_test (ev_op (ev_is (ev_call (ea_cons (ev_var rfl) (ea_cons (ev_var rfl) (ea_cons (ev_var rfl) (ea_cons (ev_var rfl) ea_nil)))) ⟨b, c, B, k, hb, hc, hB, hh, hkk, rfl, rfl⟩) (show _ = Dd.py (.tuple (V.map .str)) by rw [hV]; rfl)) (ev_var rfl) (er_neTT shV shV))) (fun e => by rw [decide_eq_true rfl] at e; cases e) (fun _ => ?_)
        obtain ⟨L, hL⟩ : ∃ L, L = B.filter fun x => !decide (x ∈ V) := ⟨_, rfl⟩
        have shL : SeqAt.shaped (.list (L.map .str)) = true := (shaped_strs fun x hx => hb.str (hB.subset (List.mem_filter.mp (hL ▸ hx)).1)).1
        have hB5 := sub_len hb hB
        refine go_letp (d := .py (.list (tStrs L))) (ev_is (ev_call (ea_cons (ev_var rfl) (ea_cons (ev_var rfl) (ea_cons (ev_var rfl) (ea_cons (ev_var rfl) ea_nil)))) ⟨b, c, B, k, hb, hc, hB, hh, hkk, rfl, rfl⟩) (by rw [hL, hV])) ?_
        refine go_ifret (et_or (et_test (ev_op (ev_var rfl) (EvN.ev (en_is (en_lc (xs := B) (enc := PyData.str) (fun x => !decide (x ∈ V)) PyData.str (ei_tup (ev_var rfl)) (by omega) fun x hx => ⟨_, eg_name (by decide), et_test (ev_op (ev_var rfl) (ev_var rfl) er_niT), fun _ => ev_var rfl⟩) (show _ = L.map PyData.str by rw [hL]))) (er_neLL shL shL))) fun _ => et_not (et_b (ev_cb (ea_cons (ev_var rfl) (ea_cons ev_cls ea_nil)) (ec_isi rfl rfl)))) (fun e => by rw [decide_eq_true rfl] at e; cases e) (fun _ => ?_)
        refine go_ifret (et_and (c := false) (et_test (ev_op (ev_var rfl) ev_str er_neS)) fun e => ?_) (fun e => by rw [Bool.and_false] at e; cases e) (fun _ => ?_)
        · have hne : k ≠ "keep" := fun z => by
            rw [z, decide_eq_true rfl] at e
            cases e
          refine et_is (et_or (et_not (et_b (ev_call (ea_cons (ev_var rfl) (ea_cons (ev_var rfl) ea_nil)) ⟨c, V, hc, hVs, rfl, rfl⟩))) fun _ => et_test (ev_op (ev_call (ea_cons (ev_var rfl) (ea_cons (ev_var rfl) (ea_cons (ev_var rfl) (ea_cons (ev_var rfl) ea_nil)))) ⟨c, c, V, k, hc, hc, hVs, hVV hne, hkk, rfl, rfl⟩) (ev_call (ea_cons (ev_var rfl) (ea_cons (ev_var rfl) (ea_cons (ev_var rfl) ea_nil))) ⟨c, V, k, hc, rfl, rfl⟩) (er_neTT ?_ ?_))) ?_
          · exact (shaped_strs fun x hx => hc.str ((carried_sub hc V k).subset hx)).2
          · exact (shaped_strs fun x hx => hc.str ((carried_sub hc V k).subset hx)).2
          · rw [hVV hne, decide_eq_true rfl]
            rfl
        refine go_ifret (et_and (c := false) (et_test (ev_op (ev_var rfl) ev_str er_eqS)) fun e => ?_) (fun e => by rw [Bool.and_false] at e; cases e) (fun _ => ?_)
        · have hf : k = "fall" := of_decide_eq_true e
          subst hf
          have hne : ("fall" : Str) ≠ "keep" := by decide +kernel
          refine et_is (et_test (ev_op (ev_is (ev_call (ea_cons (ev_var rfl) (ea_cons (ev_var rfl) (ea_cons (ev_var rfl) (ea_cons (ev_var rfl) ea_nil)))) ⟨c, c, V, "fall", hc, hc, hVs, hVV hne, hkk, rfl, rfl⟩) (show _ = Dd.py (.tuple (V.map .str)) by rw [fall_fix hc hVs (hVV hne)]; rfl)) (ev_var rfl) (er_neTT shV shV))) ?_
          rw [decide_eq_true rfl]
          rfl
        · refine go_if (et_and (c := false) (et_test (ev_op (ev_var rfl) ev_str er_eqS)) fun e => ?_) (fun e => by rw [Bool.and_false] at e; cases e) (fun _ => go_next ⟨_, _, _, rfl, rfl⟩)
          have hf : k = "grown" := of_decide_eq_true e
          subst hf
          have hre : Reach c V [] := by rw [hV]; exact grown_reach hc B
          exact et_is (et_not (et_b (ev_call (ea_cons (ev_var rfl) (ea_cons (ev_var rfl) ea_nil)) ⟨c, V, hc, hVs, hre, rfl, rfl⟩))) rfl
      · subst e1 e2
        have kf : ("fall" : Str) ∈ kinds := by decide +kernel
        have kk : ("keep" : Str) ∈ kinds := by decide +kernel
        refine go_if (et_or (a := false) (c := false) (et_is (et_test (ev_op (ev_is (ev_call (ea_cons (ev_var rfl) (ea_cons (ev_var rfl) (ea_cons (ev_var rfl) (ea_cons ev_str ea_nil)))) ⟨b, b, B, "fall", hb, hb, hB, hh, kf, rfl, rfl⟩) (show _ = Dd.py (.tuple (B.map .str)) by rw [fall_fix hb hB hh]; rfl)) (ev_var rfl) (er_neTT shB shB))) (by rw [decide_eq_true rfl]; rfl)) fun _ => et_is (et_test (ev_op (ev_is (ev_call (ea_cons (ev_var rfl) (ea_cons (ev_var rfl) (ea_cons (ev_var rfl) (ea_cons ev_str ea_nil)))) ⟨b, b, B, "keep", hb, hb, hB, hh, kk, rfl, rfl⟩) (show _ = Dd.py (.tuple (B.map .str)) by rw [keep_fix hb hB]; rfl)) (ev_var rfl) (er_neTT shB shB))) (by rw [decide_eq_true rfl]; rfl)) (fun e => by cases e) (fun _ => go_next ⟨hds, _, _, _, _, rfl, rfl⟩)
    · subst e1 e2
      exact ⟨[], .pool, rfl, Nat.le_refl _, _, _, _, _, _, _, _, _, _, _, _, _, rfl, rfl⟩
end
end Rt
namespace Rt
open PySem PySem.Spec PyProof.Rows L2
/-! ### what the top has written -/
theorem wt_of {w : World} {K : PySem.W.Frag} {h : Heap} {mg : Str → Option Value} (X : K.In h) (G : h.Ns mainGlobals mg) (c : He.SaysX fal fnl [] [] tupK w h K) : Wt ⟨K, He.ga K "Book", He.ga K "Growth"⟩ mg := by
  have D := c.t.d
  have mo : (He.tupB K "PARTS" [.str "skills", .str "points", .str "needs", .str "wants", .str "bars", .str "gives", .str "prices", .str "reset"] && He.tupB K "KINDS" [.str "fall", .str "grown", .str "keep"]) = true := c.more
  rw [Bool.and_eq_true] at mo
  constructor
  · exact (D.def_ 0 (d := d_is_whole) rfl).elim fun fd F => ⟨_, fd, F, He.glo_ok X G (D.fact 0 (f := .glo "is_whole") rfl)⟩
  · exact (D.def_ 1 (d := d_is_number) rfl).elim fun fd F => ⟨_, fd, F, He.glo_ok X G (D.fact 1 (f := .glo "is_number") rfl)⟩
  · exact (D.def_ 2 (d := d_is_word) rfl).elim fun fd F => ⟨_, fd, F, He.glo_ok X G (D.fact 2 (f := .glo "is_word") rfl)⟩
  · exact (D.def_ 3 (d := d_is_row) rfl).elim fun fd F => ⟨_, fd, F, He.glo_ok X G (D.fact 3 (f := .glo "is_row") rfl)⟩
  · exact (D.def_ 4 (d := d_are_unlike) rfl).elim fun fd F => ⟨_, fd, F, He.glo_ok X G (D.fact 4 (f := .glo "are_unlike") rfl)⟩
  · exact (D.def_ 5 (d := d_are_tuples) rfl).elim fun fd F => ⟨_, fd, F, He.glo_ok X G (D.fact 5 (f := .glo "are_tuples") rfl)⟩
  · exact (D.def_ 6 (d := d_are_skills_of) rfl).elim fun fd F => ⟨_, fd, F, He.glo_ok X G (D.fact 6 (f := .glo "are_skills_of") rfl)⟩
  · exact (D.def_ 7 (d := d_in_order) rfl).elim fun fd F => ⟨_, fd, F, He.glo_ok X G (D.fact 7 (f := .glo "in_order") rfl)⟩
  · exact (D.def_ 8 (d := d_is_build) rfl).elim fun fd F => ⟨_, fd, F, He.glo_ok X G (D.fact 8 (f := .glo "is_build") rfl)⟩
  · exact (D.def_ 9 (d := d_look_at_build) rfl).elim fun fd F => ⟨_, fd, F, He.glo_ok X G (D.fact 9 (f := .glo "look_at_build") rfl)⟩
  · exact (D.def_ 10 (d := d_mask_of) rfl).elim fun fd F => ⟨_, fd, F, He.glo_ok X G (D.fact 10 (f := .glo "mask_of") rfl)⟩
  · exact (D.def_ 11 (d := d_build_by) rfl).elim fun fd F => ⟨_, fd, F, He.glo_ok X G (D.fact 11 (f := .glo "build_by") rfl)⟩
  · exact (D.def_ 12 (d := d_size_of) rfl).elim fun fd F => ⟨_, fd, F, He.glo_ok X G (D.fact 12 (f := .glo "size_of") rfl)⟩
  · exact (D.def_ 13 (d := d_is_let) rfl).elim fun fd F => ⟨_, fd, F, He.glo_ok X G (D.fact 13 (f := .glo "is_let") rfl)⟩
  · exact (D.def_ 14 (d := d_points_let) rfl).elim fun fd F => ⟨_, fd, F, He.glo_ok X G (D.fact 14 (f := .glo "points_let") rfl)⟩
  · exact (D.def_ 15 (d := d_does_hold) rfl).elim fun fd F => ⟨_, fd, F, He.glo_ok X G (D.fact 15 (f := .glo "does_hold") rfl)⟩
  · exact (D.def_ 16 (d := d_holds) rfl).elim fun fd F => ⟨_, fd, F, He.glo_ok X G (D.fact 16 (f := .glo "holds") rfl)⟩
  · exact (D.def_ 17 (d := d_look_at_good) rfl).elim fun fd F => ⟨_, fd, F, He.glo_ok X G (D.fact 17 (f := .glo "look_at_good") rfl)⟩
  · exact (D.def_ 18 (d := d_are_skills) rfl).elim fun fd F => ⟨_, fd, F, He.glo_ok X G (D.fact 18 (f := .glo "are_skills") rfl)⟩
  · exact (D.def_ 19 (d := d_are_needs) rfl).elim fun fd F => ⟨_, fd, F, He.glo_ok X G (D.fact 19 (f := .glo "are_needs") rfl)⟩
  · exact (D.def_ 20 (d := d_is_want) rfl).elim fun fd F => ⟨_, fd, F, He.glo_ok X G (D.fact 20 (f := .glo "is_want") rfl)⟩
  · exact (D.def_ 21 (d := d_are_bars) rfl).elim fun fd F => ⟨_, fd, F, He.glo_ok X G (D.fact 21 (f := .glo "are_bars") rfl)⟩
  · exact (D.def_ 22 (d := d_are_numbered) rfl).elim fun fd F => ⟨_, fd, F, He.glo_ok X G (D.fact 22 (f := .glo "are_numbered") rfl)⟩
  · exact (D.def_ 23 (d := d_look_at_parts) rfl).elim fun fd F => ⟨_, fd, F, He.glo_ok X G (D.fact 23 (f := .glo "look_at_parts") rfl)⟩
  · exact (D.def_ 28 (d := d_growth) rfl).elim fun fd F => ⟨_, fd, F, He.glo_ok X G (D.fact 24 (f := .glo "growth") rfl)⟩
  · exact (D.def_ 29 (d := d_is_grown) rfl).elim fun fd F => ⟨_, fd, F, He.glo_ok X G (D.fact 25 (f := .glo "is_grown") rfl)⟩
  · exact (D.def_ 30 (d := d_look_at_kind) rfl).elim fun fd F => ⟨_, fd, F, He.glo_ok X G (D.fact 26 (f := .glo "look_at_kind") rfl)⟩
  · exact (D.def_ 31 (d := d_names_in) rfl).elim fun fd F => ⟨_, fd, F, He.glo_ok X G (D.fact 27 (f := .glo "names_in") rfl)⟩
  · exact (D.def_ 32 (d := d_fallen_once) rfl).elim fun fd F => ⟨_, fd, F, He.glo_ok X G (D.fact 28 (f := .glo "fallen_once") rfl)⟩
  · exact (D.def_ 33 (d := d_fallen) rfl).elim fun fd F => ⟨_, fd, F, He.glo_ok X G (D.fact 29 (f := .glo "fallen") rfl)⟩
  · exact (D.def_ 34 (d := d_regrown) rfl).elim fun fd F => ⟨_, fd, F, He.glo_ok X G (D.fact 30 (f := .glo "regrown") rfl)⟩
  · exact (D.def_ 35 (d := d_carried_mask) rfl).elim fun fd F => ⟨_, fd, F, He.glo_ok X G (D.fact 31 (f := .glo "carried_mask") rfl)⟩
  · exact (D.def_ 36 (d := d_carried) rfl).elim fun fd F => ⟨_, fd, F, He.glo_ok X G (D.fact 32 (f := .glo "carried") rfl)⟩
  · exact (D.def_ 37 (d := d_lost) rfl).elim fun fd F => ⟨_, fd, F, He.glo_ok X G (D.fact 33 (f := .glo "lost") rfl)⟩
  · exact (D.def_ 38 (d := d_law_pool) rfl).elim fun fd F => ⟨_, fd, F, He.glo_ok X G (D.fact 34 (f := .glo "_law_pool") rfl)⟩
  · exact (D.def_ 39 (d := d_law_take) rfl).elim fun fd F => ⟨_, fd, F, He.glo_ok X G (D.fact 35 (f := .glo "_law_take") rfl)⟩
  · exact (D.def_ 40 (d := d_law_one) rfl).elim fun fd F => ⟨_, fd, F, He.glo_ok X G (D.fact 36 (f := .glo "_law_one") rfl)⟩
  · exact (D.def_ 41 (d := d_law_turned) rfl).elim fun fd F => ⟨_, fd, F, He.glo_ok X G (D.fact 37 (f := .glo "_law_turned") rfl)⟩
  · exact (D.def_ 42 (d := d_law_tree) rfl).elim fun fd F => ⟨_, fd, F, He.glo_ok X G (D.fact 38 (f := .glo "_law_tree") rfl)⟩
  · exact (D.def_ 43 (d := d_law_rows) rfl).elim fun fd F => ⟨_, fd, F, He.glo_ok X G (D.fact 39 (f := .glo "_law_rows") rfl)⟩
  · exact (D.def_ 44 (d := d_law_book) rfl).elim fun fd F => ⟨_, fd, F, He.glo_ok X G (D.fact 40 (f := .glo "_law_book") rfl)⟩
  · exact (D.def_ 45 (d := d_law_made) rfl).elim fun fd F => ⟨_, fd, F, He.glo_ok X G (D.fact 41 (f := .glo "_law_made") rfl)⟩
  · exact (D.def_ 46 (d := d_law_names) rfl).elim fun fd F => ⟨_, fd, F, He.glo_ok X G (D.fact 42 (f := .glo "_law_names") rfl)⟩
  · exact (D.def_ 47 (d := d_law_tier) rfl).elim fun fd F => ⟨_, fd, F, He.glo_ok X G (D.fact 43 (f := .glo "_law_tier") rfl)⟩
  · exact (D.def_ 48 (d := d_law_need) rfl).elim fun fd F => ⟨_, fd, F, He.glo_ok X G (D.fact 44 (f := .glo "_law_need") rfl)⟩
  · exact (D.def_ 49 (d := d_law_order) rfl).elim fun fd F => ⟨_, fd, F, He.glo_ok X G (D.fact 45 (f := .glo "_law_order") rfl)⟩
  · exact (D.def_ 50 (d := d_law_is_row_met) rfl).elim fun fd F => ⟨_, fd, F, He.glo_ok X G (D.fact 46 (f := .glo "_law_is_row_met") rfl)⟩
  · exact (D.def_ 51 (d := d_law_below) rfl).elim fun fd F => ⟨_, fd, F, He.glo_ok X G (D.fact 47 (f := .glo "_law_below") rfl)⟩
  · exact (D.def_ 52 (d := d_law_is_met) rfl).elim fun fd F => ⟨_, fd, F, He.glo_ok X G (D.fact 48 (f := .glo "_law_is_met") rfl)⟩
  · exact (D.def_ 53 (d := d_law_size_let) rfl).elim fun fd F => ⟨_, fd, F, He.glo_ok X G (D.fact 49 (f := .glo "_law_size_let") rfl)⟩
  · exact (D.def_ 54 (d := d_law_holds) rfl).elim fun fd F => ⟨_, fd, F, He.glo_ok X G (D.fact 50 (f := .glo "_law_holds") rfl)⟩
  · exact (D.def_ 55 (d := d_law_subsets) rfl).elim fun fd F => ⟨_, fd, F, He.glo_ok X G (D.fact 51 (f := .glo "_law_subsets") rfl)⟩
  · exact (D.def_ 56 (d := d_law_all) rfl).elim fun fd F => ⟨_, fd, F, He.glo_ok X G (D.fact 52 (f := .glo "_law_all") rfl)⟩
  · exact (D.def_ 57 (d := d_law_small) rfl).elim fun fd F => ⟨_, fd, F, He.glo_ok X G (D.fact 53 (f := .glo "_law_small") rfl)⟩
  · exact (D.def_ 58 (d := d_law_any_sort) rfl).elim fun fd F => ⟨_, fd, F, He.glo_ok X G (D.fact 54 (f := .glo "_law_any_sort") rfl)⟩
  · exact (D.def_ 59 (d := d_law_fallen) rfl).elim fun fd F => ⟨_, fd, F, He.glo_ok X G (D.fact 55 (f := .glo "_law_fallen") rfl)⟩
  · exact (D.def_ 60 (d := d_law_regrown) rfl).elim fun fd F => ⟨_, fd, F, He.glo_ok X G (D.fact 56 (f := .glo "_law_regrown") rfl)⟩
  · exact (D.def_ 61 (d := d_law_carried) rfl).elim fun fd F => ⟨_, fd, F, He.glo_ok X G (D.fact 57 (f := .glo "_law_carried") rfl)⟩
  · exact (D.def_ 62 (d := d_law_other_book) rfl).elim fun fd F => ⟨_, fd, F, He.glo_ok X G (D.fact 58 (f := .glo "_law_other_book") rfl)⟩
  · exact (D.def_ 63 (d := d_law) rfl).elim fun fd F => ⟨_, fd, F, He.glo_ok X G (D.fact 59 (f := .glo "law") rfl)⟩
  · exact He.free_ok X G (D.fact 64 (f := .free "isinstance") rfl)
  · exact He.free_ok X G (D.fact 65 (f := .free "len") rfl)
  · exact He.free_ok X G (D.fact 66 (f := .free "all") rfl)
  · exact He.free_ok X G (D.fact 67 (f := .free "any") rfl)
  · exact He.free_ok X G (D.fact 68 (f := .free "sum") rfl)
  · exact He.free_ok X G (D.fact 75 (f := .free "zip") rfl)
  · exact He.free_ok X G (D.fact 76 (f := .free "sorted") rfl)
  · exact He.free_ok X G (D.fact 77 (f := .free "range") rfl)
  · exact He.free_ok X G (D.fact 78 (f := .free "max") rfl)
  · exact He.free_ok X G (D.fact 79 (f := .free "min") rfl)
  · exact He.free_ok X G (D.fact 69 (f := .free "int") rfl)
  · exact He.free_ok X G (D.fact 70 (f := .free "bool") rfl)
  · exact He.free_ok X G (D.fact 71 (f := .free "str") rfl)
  · exact He.free_ok X G (D.fact 72 (f := .free "list") rfl)
  · exact He.free_ok X G (D.fact 73 (f := .free "tuple") rfl)
  · exact He.free_ok X G (D.fact 74 (f := .free "dict") rfl)
  · exact (He.int_ok X G (D.fact 80 (f := .int "MOST_LETTERS" 8) rfl)).elim fun t e => ⟨_, e, ⟨t, rfl⟩⟩
  · exact (He.int_ok X G (D.fact 81 (f := .int "MOST_SKILLS" 12) rfl)).elim fun t e => ⟨_, e, ⟨t, rfl⟩⟩
  · exact (He.int_ok X G (D.fact 82 (f := .int "MOST_TIERS" 4) rfl)).elim fun t e => ⟨_, e, ⟨t, rfl⟩⟩
  · exact (He.int_ok X G (D.fact 83 (f := .int "MOST_POINTS" 12) rfl)).elim fun t e => ⟨_, e, ⟨t, rfl⟩⟩
  · exact (He.int_ok X G (D.fact 84 (f := .int "MOST_WANTS" 12) rfl)).elim fun t e => ⟨_, e, ⟨t, rfl⟩⟩
  · exact (He.int_ok X G (D.fact 85 (f := .int "MOST_BARS" 6) rfl)).elim fun t e => ⟨_, e, ⟨t, rfl⟩⟩
  · exact (He.int_ok X G (D.fact 86 (f := .int "MOST_GIVEN" 3) rfl)).elim fun t e => ⟨_, e, ⟨t, rfl⟩⟩
  · exact (He.int_ok X G (D.fact 87 (f := .int "MOST_PRICE" 99) rfl)).elim fun t e => ⟨_, e, ⟨t, rfl⟩⟩
  · exact (He.str_ok X G (D.fact 88 (f := .str "LETTERS" "abcdefghijklmnopqrstuvwxyz") rfl)).elim fun t e => ⟨_, e, ⟨t, rfl⟩⟩
  · exact ⟨_, He.glo_ok X G (D.fact 62 (f := .glo "PARTS") rfl), rfl⟩
  · exact ⟨_, He.glo_ok X G (D.fact 63 (f := .glo "KINDS") rfl), rfl⟩
  · exact fun H => He.tupB_ok mo.1 H
  · exact fun H => He.tupB_ok mo.2 H
  · exact He.cls_ok (D.fact 89 (f := .cls "Book") rfl)
  · exact He.cls_ok (D.fact 90 (f := .cls "Growth") rfl)
  · exact He.noat_ok (D.fact 91 (f := .noat "Book" "record") rfl)
  · exact He.noat_ok (D.fact 92 (f := .noat "Book" "own_points") rfl)
  · exact He.noat_ok (D.fact 93 (f := .noat "Book" "own_reset") rfl)
  · exact He.noat_ok (D.fact 94 (f := .noat "Book" "own_names") rfl)
  · exact He.noat_ok (D.fact 95 (f := .noat "Book" "own_tiers") rfl)
  · exact He.noat_ok (D.fact 96 (f := .noat "Book" "tier_by") rfl)
  · exact He.noat_ok (D.fact 97 (f := .noat "Book" "spots") rfl)
  · exact He.noat_ok (D.fact 98 (f := .noat "Book" "bits") rfl)
  · exact He.noat_ok (D.fact 99 (f := .noat "Book" "own_needs") rfl)
  · exact He.noat_ok (D.fact 100 (f := .noat "Book" "own_prices") rfl)
  · exact He.noat_ok (D.fact 101 (f := .noat "Book" "own_given") rfl)
  · exact He.noat_ok (D.fact 102 (f := .noat "Book" "barred") rfl)
  · exact He.noat_ok (D.fact 103 (f := .noat "Book" "asked") rfl)
  · exact He.noat_ok (D.fact 104 (f := .noat "Growth" "book") rfl)
  · exact He.noat_ok (D.fact 105 (f := .noat "Growth" "goal") rfl)
  · exact He.noat_ok (D.fact 106 (f := .noat "Growth" "dead") rfl)
  · exact He.glo_ok X G (D.fact 60 (f := .glo "Book") rfl)
  · exact He.glo_ok X G (D.fact 61 (f := .glo "Growth") rfl)
  · exact (D.def_ 24 (d := d_Book_init) rfl).elim fun fd F => ⟨_, fd, He.mkr_ok (D.fact 109 (f := .mkr "Book") rfl), F⟩
  · exact (D.def_ 26 (d := d_Growth_init) rfl).elim fun fd F => ⟨_, fd, He.mkr_ok (D.fact 110 (f := .mkr "Growth") rfl), F⟩
  · exact (D.def_ 25 (d := d_Book_asked_by) rfl).elim fun fd F => ⟨_, fd, He.meth_ok (D.fact 107 (f := .meth "Book" "asked_by") rfl), F⟩
  · exact (D.def_ 27 (d := d_Growth_order) rfl).elim fun fd F => ⟨_, fd, He.meth_ok (D.fact 108 (f := .meth "Growth" "order") rfl), F⟩
theorem facts {P : Program} {w : World} {K : PySem.W.Frag} {h : Heap} {mg : Str → Option Value} {f : Addr} (X : K.In h) (G : h.Ns mainGlobals mg) (hfa : mg ("law" : Str) = some (.ref f)) (c : He.SaysX fal fnl [] [] tupK w h K) :
    ∃ (T : Tx) (fd : FuncData), T.K = K ∧ (∀ (s : Shared) (v : Value), BindsTo s fd ⟨[v], []⟩ [("_law_script", v)]) ∧ ∀ base : Heap, K.In base → base.Ns mainGlobals mg → FnOk P w K mg base L2.CX0 15 f fd ["_law_script"] (spF T F_law) := by
  have W := wt_of X G c
  obtain ⟨fd, F⟩ := c.t.d.def_ 63 (d := d_law) rfl
  have e := hfa.symm.trans (He.glo_ok X G (c.t.d.fact 59 (f := .glo "law") rfl))
  cases e
  have b := FunD.bindsA (ps := ["_law_script"]) F fun _ _ _ _ _ _ us hl => match us, hl with | [_], _ => rfl
  exact ⟨⟨K, He.ga K "Book", He.ga K "Growth"⟩, fd, rfl, fun s v => b s [v] rfl, fun base _ _ => ok_law W F⟩
end Rt
theorem PySem.Challenge.cw_refundtrees_k46_whole_builds_carried_ove_holds : PySem.Challenge.rw_refundtrees_k46_whole_builds_carried_ove.Holds := by
  refine Rt.head_first fun w mg fa h ⟨K, KX, c⟩ G hmg => ?_
  obtain ⟨T, fd, eT, hb, hF⟩ := Rt.facts (P := (PySem.Challenge.rw_refundtrees_k46_whole_builds_carried_ove).prog) (w := w) KX G hmg c
  subst eT
  exact ⟨T.K, fd, Rt.spF T Rt.F_law, KX, hb, fun H a ns hl _ hS => ⟨[], [.klst ns], .py (.bool true), H, ⟨ns, rfl, rfl⟩, .cons ⟨a, rfl, hS⟩ .nil, Rt.same_refl H, fun v G2 H2 _ r => Rt.dq_bl r⟩, hF⟩
