import PyProof.Rows.All
import Wide.All
import OpenK.AllK
import Wide.FinOn
import KE.KStateDown
import HandS.ForMost
import HandS.ForExc
import HandS.Defaults
import HandS.HeadHook1
import HandS.HeadHook2
import HandS.HeadHook3
import HandS.HeadHook4
import HandS.Head0
import HandS.Head1
import HandS.Head2
import HandS.ExcIs
import HandS.Wide
import HandS.WideMore
import HandS.Flow
import HandS.Style
import HandS.Evl
import KE.GoesMore
import PyProof.LongRange
import PyProof.ListRange
import HandS.Conv
import KE.SortData
import HandS.Text
import HandS.ExcOwn
import KE.KDflt
import HandS.Lambda
import HandS.Nested
import HandS.WordsExc
import KE.DataEq
import HandS.IsInst
import KE.KNestM
import HandS.HeadWalk
import HandS.EndTab
import PySem.Challenge.RW_halfsteps_k32_whole_asked_again
set_option Elab.async false
set_option linter.all false
set_option maxRecDepth 100000
set_option maxHeartbeats 4000000
/-! The text by places; one DefD a def; the facts that the head is asked for. -/
namespace Hs
open PySem PySem.Spec PyProof.Rows L2
def top (i : Nat) : Stmt := PySem.Challenge.pw_halfsteps_k32_whole_asked_again.main.body.getD i (.Pass ⟨0, 0, 0, 0⟩)
abbrev s_need_number : Stmt := top 17
def d_need_number : He.DefD := ⟨("need_number", none), "need_number", "need_number", defArgs s_need_number, defBody s_need_number, defScope s_need_number, [], []⟩
abbrev s_need_count : Stmt := top 18
def d_need_count : He.DefD := ⟨("need_count", none), "need_count", "need_count", defArgs s_need_count, defBody s_need_count, defScope s_need_count, [], []⟩
abbrev s_need_work : Stmt := top 19
def d_need_work : He.DefD := ⟨("need_work", none), "need_work", "need_work", defArgs s_need_work, defBody s_need_work, defScope s_need_work, [], []⟩
abbrev s_two : Stmt := top 20
def d_two : He.DefD := ⟨("two", none), "two", "two", defArgs s_two, defBody s_two, defScope s_two, [], []⟩
abbrev s_need_card : Stmt := top 21
def d_need_card : He.DefD := ⟨("need_card", none), "need_card", "need_card", defArgs s_need_card, defBody s_need_card, defScope s_need_card, [], []⟩
abbrev s_step_on : Stmt := top 22
def d_step_on : He.DefD := ⟨("step_on", none), "step_on", "step_on", defArgs s_step_on, defBody s_step_on, defScope s_step_on, [], []⟩
abbrev s_run : Stmt := top 23
def d_run : He.DefD := ⟨("run", none), "run", "run", defArgs s_run, defBody s_run, defScope s_run, [], []⟩
abbrev s_even : Stmt := top 24
def d_even : He.DefD := ⟨("even", none), "even", "even", defArgs s_even, defBody s_even, defScope s_even, [], []⟩
abbrev s_stepped : Stmt := top 25
def d_stepped : He.DefD := ⟨("stepped", none), "stepped", "stepped", defArgs s_stepped, defBody s_stepped, defScope s_stepped, [], []⟩
abbrev s_card_of : Stmt := top 26
def d_card_of : He.DefD := ⟨("card_of", none), "card_of", "card_of", defArgs s_card_of, defBody s_card_of, defScope s_card_of, [], []⟩
abbrev s_card : Stmt := top 27
def d_card : He.DefD := ⟨("card", none), "card", "card", defArgs s_card, defBody s_card, defScope s_card, [], []⟩
abbrev s_make : Stmt := top 30
def d_make : He.DefD := ⟨("make", none), "make", "make", defArgs s_make, defBody s_make, defScope s_make, [], []⟩
abbrev s_made : Stmt := top 31
def d_made : He.DefD := ⟨("made", none), "made", "made", defArgs s_made, defBody s_made, defScope s_made, [], []⟩
abbrev s_behind : Stmt := top 32
def d_behind : He.DefD := ⟨("behind", none), "behind", "behind", defArgs s_behind, defBody s_behind, defScope s_behind, [], []⟩
abbrev s_need_few : Stmt := top 33
def d_need_few : He.DefD := ⟨("need_few", none), "need_few", "need_few", defArgs s_need_few, defBody s_need_few, defScope s_need_few, [], []⟩
abbrev s_joined : Stmt := top 34
def d_joined : He.DefD := ⟨("joined", none), "joined", "joined", defArgs s_joined, defBody s_joined, defScope s_joined, [], []⟩
abbrev s_often : Stmt := top 35
def d_often : He.DefD := ⟨("often", none), "often", "often", defArgs s_often, defBody s_often, defScope s_often, [], [("times", .int 2)]⟩
abbrev s_first_parting : Stmt := top 36
def d_first_parting : He.DefD := ⟨("first_parting", none), "first_parting", "first_parting", defArgs s_first_parting, defBody s_first_parting, defScope s_first_parting, [], []⟩
abbrev s_parting : Stmt := top 37
def d_parting : He.DefD := ⟨("parting", none), "parting", "parting", defArgs s_parting, defBody s_parting, defScope s_parting, [], []⟩
abbrev s_Bench_init : Stmt := inClass (top 39) 0
def d_Bench_init : He.DefD := ⟨("Bench", some "__init__"), "__init__", "Bench.__init__", defArgs s_Bench_init, defBody s_Bench_init, defScope s_Bench_init, [], []⟩
abbrev s_Bench_do : Stmt := inClass (top 39) 1
def d_Bench_do : He.DefD := ⟨("Bench", some "do"), "do", "Bench.do", defArgs s_Bench_do, defBody s_Bench_do, defScope s_Bench_do, [], []⟩
abbrev s_Bench_number : Stmt := inClass (top 39) 3
def d_Bench_number : He.DefD := ⟨("Bench", some "number"), "number", "Bench.number", defArgs s_Bench_number, defBody s_Bench_number, defScope s_Bench_number, [], []⟩
abbrev s_Bench_works : Stmt := inClass (top 39) 4
def d_Bench_works : He.DefD := ⟨("Bench", some "works"), "works", "Bench.works", defArgs s_Bench_works, defBody s_Bench_works, defScope s_Bench_works, [], []⟩
abbrev s_written : Stmt := top 44
def d_written : He.DefD := ⟨("written", none), "written", "written", defArgs s_written, defBody s_written, defScope s_written, [], []⟩
abbrev s_is_number : Stmt := top 45
def d_is_number : He.DefD := ⟨("is_number", none), "is_number", "is_number", defArgs s_is_number, defBody s_is_number, defScope s_is_number, [], []⟩
abbrev s_is_row : Stmt := top 46
def d_is_row : He.DefD := ⟨("is_row", none), "is_row", "is_row", defArgs s_is_row, defBody s_is_row, defScope s_is_row, [], []⟩
abbrev s_read : Stmt := top 47
def d_read : He.DefD := ⟨("read", none), "read", "read", defArgs s_read, defBody s_read, defScope s_read, [], []⟩
abbrev s_stays : Stmt := top 49
def d_stays : He.DefD := ⟨("stays", none), "stays", "stays", defArgs s_stays, defBody s_stays, defScope s_stays, [], []⟩
abbrev s_at_last : Stmt := top 50
def d_at_last : He.DefD := ⟨("at_last", none), "at_last", "at_last", defArgs s_at_last, defBody s_at_last, defScope s_at_last, [], []⟩
abbrev s_leading : Stmt := top 51
def d_leading : He.DefD := ⟨("leading", none), "leading", "leading", defArgs s_leading, defBody s_leading, defScope s_leading, [], []⟩
abbrev s_undone : Stmt := top 52
def d_undone : He.DefD := ⟨("undone", none), "undone", "undone", defArgs s_undone, defBody s_undone, defScope s_undone, [], []⟩
abbrev s_bits_of : Stmt := top 54
def d_bits_of : He.DefD := ⟨("bits_of", none), "bits_of", "bits_of", defArgs s_bits_of, defBody s_bits_of, defScope s_bits_of, [], []⟩
abbrev s_digits_text : Stmt := top 55
def d_digits_text : He.DefD := ⟨("digits_text", none), "digits_text", "digits_text", defArgs s_digits_text, defBody s_digits_text, defScope s_digits_text, [], []⟩
abbrev s_Maker_init : Stmt := inClass (top 56) 0
def d_Maker_init : He.DefD := ⟨("Maker", some "__init__"), "__init__", "Maker.__init__", defArgs s_Maker_init, defBody s_Maker_init, defScope s_Maker_init, [], []⟩
abbrev s_Maker_best : Stmt := inClass (top 56) 1
def d_Maker_best : He.DefD := ⟨("Maker", some "best"), "best", "Maker.best", defArgs s_Maker_best, defBody s_Maker_best, defScope s_Maker_best, [], []⟩
abbrev s_Maker_low_ways : Stmt := inClass (top 56) 2
def d_Maker_low_ways : He.DefD := ⟨("Maker", some "low_ways"), "low_ways", "Maker.low_ways", defArgs s_Maker_low_ways, defBody s_Maker_low_ways, defScope s_Maker_low_ways, [], []⟩
abbrev s_Maker_middle_ways : Stmt := inClass (top 56) 3
def d_Maker_middle_ways : He.DefD := ⟨("Maker", some "middle_ways"), "middle_ways", "Maker.middle_ways", defArgs s_Maker_middle_ways, defBody s_Maker_middle_ways, defScope s_Maker_middle_ways, [], []⟩
abbrev s_Maker_high_ways : Stmt := inClass (top 56) 4
def d_Maker_high_ways : He.DefD := ⟨("Maker", some "high_ways"), "high_ways", "Maker.high_ways", defArgs s_Maker_high_ways, defBody s_Maker_high_ways, defScope s_Maker_high_ways, [], []⟩
abbrev s_Maker_nexts : Stmt := inClass (top 56) 5
def d_Maker_nexts : He.DefD := ⟨("Maker", some "nexts"), "nexts", "Maker.nexts", defArgs s_Maker_nexts, defBody s_Maker_nexts, defScope s_Maker_nexts, [], []⟩
abbrev s_Maker_begin : Stmt := inClass (top 56) 6
def d_Maker_begin : He.DefD := ⟨("Maker", some "begin"), "begin", "Maker.begin", defArgs s_Maker_begin, defBody s_Maker_begin, defScope s_Maker_begin, [], []⟩
abbrev s_Maker_fewest : Stmt := inClass (top 56) 7
def d_Maker_fewest : He.DefD := ⟨("Maker", some "fewest"), "fewest", "Maker.fewest", defArgs s_Maker_fewest, defBody s_Maker_fewest, defScope s_Maker_fewest, [], []⟩
abbrev s_Maker_many : Stmt := inClass (top 56) 8
def d_Maker_many : He.DefD := ⟨("Maker", some "many"), "many", "Maker.many", defArgs s_Maker_many, defBody s_Maker_many, defScope s_Maker_many, [], []⟩
abbrev s_Maker_numbered : Stmt := inClass (top 56) 9
def d_Maker_numbered : He.DefD := ⟨("Maker", some "numbered"), "numbered", "Maker.numbered", defArgs s_Maker_numbered, defBody s_Maker_numbered, defScope s_Maker_numbered, [], []⟩
abbrev s_Maker_rank : Stmt := inClass (top 56) 10
def d_Maker_rank : He.DefD := ⟨("Maker", some "rank"), "rank", "Maker.rank", defArgs s_Maker_rank, defBody s_Maker_rank, defScope s_Maker_rank, [], []⟩
abbrev s_fewest : Stmt := top 57
def d_fewest : He.DefD := ⟨("fewest", none), "fewest", "fewest", defArgs s_fewest, defBody s_fewest, defScope s_fewest, [], []⟩
abbrev s_how_many : Stmt := top 58
def d_how_many : He.DefD := ⟨("how_many", none), "how_many", "how_many", defArgs s_how_many, defBody s_how_many, defScope s_how_many, [], []⟩
abbrev s_work_at : Stmt := top 59
def d_work_at : He.DefD := ⟨("work_at", none), "work_at", "work_at", defArgs s_work_at, defBody s_work_at, defScope s_work_at, [], []⟩
abbrev s_number_of : Stmt := top 60
def d_number_of : He.DefD := ⟨("number_of", none), "number_of", "number_of", defArgs s_number_of, defBody s_number_of, defScope s_number_of, [], []⟩
abbrev s_law_dice : Stmt := top 62
def d_law_dice : He.DefD := ⟨("_law_dice", none), "_law_dice", "_law_dice", defArgs s_law_dice, defBody s_law_dice, defScope s_law_dice, [], []⟩
abbrev s_law_next : Stmt := top 63
def d_law_next : He.DefD := ⟨("_law_next", none), "_law_next", "_law_next", defArgs s_law_next, defBody s_law_next, defScope s_law_next, [], []⟩
abbrev s_law_told : Stmt := top 64
def d_law_told : He.DefD := ⟨("_law_told", none), "_law_told", "_law_told", defArgs s_law_told, defBody s_law_told, defScope s_law_told, [], []⟩
abbrev s_law_two : Stmt := top 65
def d_law_two : He.DefD := ⟨("_law_two", none), "_law_two", "_law_two", defArgs s_law_two, defBody s_law_two, defScope s_law_two, [], []⟩
abbrev s_law_work : Stmt := top 66
def d_law_work : He.DefD := ⟨("_law_work", none), "_law_work", "_law_work", defArgs s_law_work, defBody s_law_work, defScope s_law_work, [], []⟩
abbrev s_law_number : Stmt := top 67
def d_law_number : He.DefD := ⟨("_law_number", none), "_law_number", "_law_number", defArgs s_law_number, defBody s_law_number, defScope s_law_number, [], []⟩
abbrev s_law_pack : Stmt := top 68
def d_law_pack : He.DefD := ⟨("_law_pack", none), "_law_pack", "_law_pack", defArgs s_law_pack, defBody s_law_pack, defScope s_law_pack, [], []⟩
abbrev s_law_calls : Stmt := top 69
def d_law_calls : He.DefD := ⟨("_law_calls", none), "_law_calls", "_law_calls", defArgs s_law_calls, defBody s_law_calls, defScope s_law_calls, [], []⟩
abbrev s_law : Stmt := top 70
def d_law : He.DefD := ⟨("law", none), "law", "law", defArgs s_law, defBody s_law, defScope s_law, [], []⟩
def fn0 : List He.DefD := [d_need_number, d_need_count, d_need_work, d_two, d_need_card, d_step_on, d_run, d_even, d_stepped, d_card_of, d_card, d_make, d_made, d_behind, d_need_few, d_joined, d_often, d_first_parting, d_parting, d_Bench_init]
def fn1 : List He.DefD := [d_Bench_do, d_Bench_number, d_Bench_works, d_written, d_is_number, d_is_row, d_read, d_stays, d_at_last, d_leading, d_undone, d_bits_of, d_digits_text, d_Maker_init, d_Maker_best, d_Maker_low_ways, d_Maker_middle_ways, d_Maker_high_ways, d_Maker_nexts, d_Maker_begin]
def fn2 : List He.DefD := [d_Maker_fewest, d_Maker_many, d_Maker_numbered, d_Maker_rank, d_fewest, d_how_many, d_work_at, d_number_of, d_law_dice, d_law_next, d_law_told, d_law_two, d_law_work, d_law_number, d_law_pack, d_law_calls, d_law]
def fn : List He.DefD := fn0 ++ fn1 ++ fn2
def fa0 : List He.Fa := [.glo "need_number", .glo "need_count", .glo "need_work", .glo "two", .glo "need_card", .glo "step_on", .glo "run", .glo "even", .glo "stepped", .glo "card_of", .glo "card", .glo "make", .glo "made", .glo "behind", .glo "need_few", .glo "joined", .glo "often", .glo "first_parting", .glo "parting", .glo "written", .glo "is_number", .glo "is_row", .glo "read", .glo "stays", .glo "at_last", .glo "leading", .glo "undone", .glo "bits_of", .glo "digits_text", .glo "fewest"]
def fa1 : List He.Fa := [.glo "how_many", .glo "work_at", .glo "number_of", .glo "_law_dice", .glo "_law_next", .glo "_law_told", .glo "_law_two", .glo "_law_work", .glo "_law_number", .glo "_law_pack", .glo "_law_calls", .glo "law", .glo "Bench", .cls "Bench", .mkr "Bench", .glo "Maker", .cls "Maker", .mkr "Maker", .meth "Bench" "do", .meth "Bench" "number", .meth "Bench" "works", .meth "Maker" "best", .meth "Maker" "low_ways", .meth "Maker" "middle_ways", .meth "Maker" "high_ways", .meth "Maker" "nexts", .meth "Maker" "begin", .meth "Maker" "fewest", .meth "Maker" "many", .meth "Maker" "numbered"]
def fa2 : List He.Fa := [.meth "Maker" "rank", .noat "Bench" "now", .noat "Bench" "past", .noat "Maker" "aheads", .noat "Maker" "behinds", .noat "Maker" "rest", .noat "Maker" "lows", .noat "Maker" "middles", .noat "Maker" "highs", .glo "HalfError", .glo "BadWork", .glo "BadNumber", .glo "BadCard", .glo "BadCount", .glo "TooMany", .glo "Longer", .glo "BadDeed", .glo "BadText", .exc "TooMany", .exm "TooMany" "HalfError" true, .exc "Longer", .exm "Longer" "HalfError" true, .free "len", .free "enumerate", .free "range", .free "max", .free "min", .free "abs", .free "sum", .free "sorted"]
def fa3 : List He.Fa := [.free "list", .free "tuple", .free "int", .free "str", .free "isinstance", .int "MOST_SIGNS" 400, .int "FAR" (10 ^ 60), .int "MOST_BITS" 1000, .int "MOST_TIMES" (10 ^ 18), .int "MOST_FIGURES" 302, .int "PARTS" 4, .str "SIGNS" "+-2/", .str "FIGURES" "0123456789", .glo "NOTHING"]
def fa : List He.Fa := fa0 ++ fa1 ++ fa2 ++ fa3
def eqOB (a b : Option (Option Value)) : Bool := decide (a = b)
/-- what isinstance asks of an error class -/
def excB (K : PySem.W.Frag) (D : Str) : Bool := eqOB (PySem.W.findIn K (.ref (He.ga K D)) "__getattribute__") (some (some (.builtin "BaseException.__getattribute__"))) && eqOB (PySem.W.findIn K (.ref (He.ga K D)) "__getattr__") (some none) && decide (PySem.W.subIn K (.ref (He.ga K D)) (.type "BaseException") = some true) && PySem.W.hasDictIn K (He.ga K D) && eqOB (PySem.W.findIn K (.ref (He.ga K D)) "__class__") (some (some (.builtin "object.__class__"))) && eqOB (PySem.W.specialIn K (.builtin "object.__class__") "__get__") (some (some (.builtin "getset_descriptor.__get__"))) && decide (PySem.W.takesIn K (.builtin "object.__class__") = some true) && decide (PySem.W.mroIn K (He.ga K D) (.type "object") = some true)
def kindB (K : PySem.W.Frag) (D : Str) (cs : List (Str × Bool)) : Bool := cs.all fun q => decide (PySem.W.kitOne K (.ref (He.ga K D)) (.ref (He.ga K q.1)) = some q.2)
def isTooMany : List (Str × Bool) := [("BadWork", false), ("BadNumber", false), ("BadCard", false), ("BadCount", false), ("TooMany", true), ("Longer", false), ("BadDeed", false), ("BadText", false)]
def isLonger : List (Str × Bool) := [("BadWork", false), ("BadNumber", false), ("BadCard", false), ("BadCount", false), ("TooMany", false), ("Longer", true), ("BadDeed", false), ("BadText", false)]
def ex (K : PySem.W.Frag) : Bool := excB K "TooMany" && (excB K "Longer" && (kindB K "TooMany" isTooMany && (kindB K "Longer" isLonger && He.tupB K "NOTHING" [.int 0, .int 0, .int 0, .int 0])))
def tf : List He.Defn := [("_law_calls", none)]
def lo0 : List Str := ["_wall", "HalfError", "BadWork", "BadNumber", "BadCard", "BadCount", "TooMany", "Longer", "BadDeed", "BadText", "need_number", "need_count", "need_work", "two", "need_card", "step_on", "run", "even", "stepped", "card_of", "card", "make", "made", "behind", "need_few", "joined", "often", "first_parting", "parting", "Bench"]
def lo1 : List Str := ["written", "is_number", "is_row", "read", "stays", "at_last", "leading", "undone", "bits_of", "digits_text", "Maker", "fewest", "how_many", "work_at", "number_of", "_law_dice", "_law_next", "_law_told", "_law_two", "_law_work", "_law_number", "_law_pack", "_law_calls", "SIGNS", "MOST_SIGNS", "FAR", "MOST_BITS", "NOTHING", "MOST_TIMES", "FIGURES"]
def lo2 : List Str := ["MOST_FIGURES", "PARTS"]
def loose : List Str := lo0 ++ lo1 ++ lo2
end Hs

set_option Elab.async false
set_option linter.all false
set_option maxRecDepth 100000
set_option maxHeartbeats 0
namespace Hs
open PySem PySem.Spec PyProof.Rows L2
abbrev R : PySem.W.OpenRow := PySem.W.OpenLaw.row PySem.Challenge.rw_halfsteps_k32_whole_asked_again
abbrev hk : PySem.W.Hook := He.hookX 5 fa fn [] tf ex
def ob (s : PySem.W.SharedT) : He.AlX := He.obsX 5 fa fn [] tf ex (HandSHeadRun.getT s)
theorem ob_eq (s : PySem.W.SharedT) : ob s = hk.obs s.abs := He.obsX_eq (HandSHeadRun.getT_eq s)
theorem run (w : World) : HandSHeadRun.RunEq R (PySem.W.view R.prog [70]) hk ob 6000 loose w := by
  intro os
  kernel_rfl
end Hs

set_option Elab.async false
set_option linter.all false
set_option maxRecDepth 100000
set_option maxHeartbeats 4000000
/-! What stands behind the top, by names. -/
namespace Hs
open PySem PySem.Spec PyProof.Rows L2
structure Top (K : PySem.W.Frag) (mg : Str → Option Value) : Prop where
  says : He.SaysD fa fn K
  more : ex K = true
  at_ : ∃ h : Heap, K.In h ∧ h.Ns mainGlobals mg
section
variable {K : PySem.W.Frag} {mg : Str → Option Value}
theorem Top.glo (T : Top K mg) (i : Nat) {x : Str} (e : fa[i]? = some (.glo x)) : mg x = some (.ref (He.ga K x)) := by
  obtain ⟨h, X, G⟩ := T.at_
  exact He.glo_ok X G (T.says.fact i e)
theorem Top.fre (T : Top K mg) (i : Nat) {x : Str} (e : fa[i]? = some (.free x)) : mg x = none := by
  obtain ⟨h, X, G⟩ := T.at_
  exact He.free_ok X G (T.says.fact i e)
theorem Top.intc (T : Top K mg) (i : Nat) {x : Str} {n : Int} (e : fa[i]? = some (.int x n)) : ∃ t, mg x = some (.int n t) := by
  obtain ⟨h, X, G⟩ := T.at_
  exact He.int_ok X G (T.says.fact i e)
theorem Top.strc (T : Top K mg) (i : Nat) {x z : Str} (e : fa[i]? = some (.str x z)) : ∃ t, mg x = some (.str z t) := by
  obtain ⟨h, X, G⟩ := T.at_
  exact He.str_ok X G (T.says.fact i e)
theorem Top.g_need_number (T : Top K mg) : mg "need_number" = some (.ref (He.ga K "need_number")) := T.glo 0 rfl
theorem Top.g_need_count (T : Top K mg) : mg "need_count" = some (.ref (He.ga K "need_count")) := T.glo 1 rfl
theorem Top.g_need_work (T : Top K mg) : mg "need_work" = some (.ref (He.ga K "need_work")) := T.glo 2 rfl
theorem Top.g_two (T : Top K mg) : mg "two" = some (.ref (He.ga K "two")) := T.glo 3 rfl
theorem Top.g_need_card (T : Top K mg) : mg "need_card" = some (.ref (He.ga K "need_card")) := T.glo 4 rfl
theorem Top.g_step_on (T : Top K mg) : mg "step_on" = some (.ref (He.ga K "step_on")) := T.glo 5 rfl
theorem Top.g_run (T : Top K mg) : mg "run" = some (.ref (He.ga K "run")) := T.glo 6 rfl
theorem Top.g_even (T : Top K mg) : mg "even" = some (.ref (He.ga K "even")) := T.glo 7 rfl
theorem Top.g_stepped (T : Top K mg) : mg "stepped" = some (.ref (He.ga K "stepped")) := T.glo 8 rfl
theorem Top.g_card_of (T : Top K mg) : mg "card_of" = some (.ref (He.ga K "card_of")) := T.glo 9 rfl
theorem Top.g_card (T : Top K mg) : mg "card" = some (.ref (He.ga K "card")) := T.glo 10 rfl
theorem Top.g_make (T : Top K mg) : mg "make" = some (.ref (He.ga K "make")) := T.glo 11 rfl
theorem Top.g_made (T : Top K mg) : mg "made" = some (.ref (He.ga K "made")) := T.glo 12 rfl
theorem Top.g_behind (T : Top K mg) : mg "behind" = some (.ref (He.ga K "behind")) := T.glo 13 rfl
theorem Top.g_need_few (T : Top K mg) : mg "need_few" = some (.ref (He.ga K "need_few")) := T.glo 14 rfl
theorem Top.g_joined (T : Top K mg) : mg "joined" = some (.ref (He.ga K "joined")) := T.glo 15 rfl
theorem Top.g_often (T : Top K mg) : mg "often" = some (.ref (He.ga K "often")) := T.glo 16 rfl
theorem Top.g_first_parting (T : Top K mg) : mg "first_parting" = some (.ref (He.ga K "first_parting")) := T.glo 17 rfl
theorem Top.g_parting (T : Top K mg) : mg "parting" = some (.ref (He.ga K "parting")) := T.glo 18 rfl
theorem Top.g_written (T : Top K mg) : mg "written" = some (.ref (He.ga K "written")) := T.glo 19 rfl
theorem Top.g_is_number (T : Top K mg) : mg "is_number" = some (.ref (He.ga K "is_number")) := T.glo 20 rfl
theorem Top.g_is_row (T : Top K mg) : mg "is_row" = some (.ref (He.ga K "is_row")) := T.glo 21 rfl
theorem Top.g_read (T : Top K mg) : mg "read" = some (.ref (He.ga K "read")) := T.glo 22 rfl
theorem Top.g_stays (T : Top K mg) : mg "stays" = some (.ref (He.ga K "stays")) := T.glo 23 rfl
theorem Top.g_at_last (T : Top K mg) : mg "at_last" = some (.ref (He.ga K "at_last")) := T.glo 24 rfl
theorem Top.g_leading (T : Top K mg) : mg "leading" = some (.ref (He.ga K "leading")) := T.glo 25 rfl
theorem Top.g_undone (T : Top K mg) : mg "undone" = some (.ref (He.ga K "undone")) := T.glo 26 rfl
theorem Top.g_bits_of (T : Top K mg) : mg "bits_of" = some (.ref (He.ga K "bits_of")) := T.glo 27 rfl
theorem Top.g_digits_text (T : Top K mg) : mg "digits_text" = some (.ref (He.ga K "digits_text")) := T.glo 28 rfl
theorem Top.g_fewest (T : Top K mg) : mg "fewest" = some (.ref (He.ga K "fewest")) := T.glo 29 rfl
theorem Top.g_how_many (T : Top K mg) : mg "how_many" = some (.ref (He.ga K "how_many")) := T.glo 30 rfl
theorem Top.g_work_at (T : Top K mg) : mg "work_at" = some (.ref (He.ga K "work_at")) := T.glo 31 rfl
theorem Top.g_number_of (T : Top K mg) : mg "number_of" = some (.ref (He.ga K "number_of")) := T.glo 32 rfl
theorem Top.g_law_dice (T : Top K mg) : mg "_law_dice" = some (.ref (He.ga K "_law_dice")) := T.glo 33 rfl
theorem Top.g_law_next (T : Top K mg) : mg "_law_next" = some (.ref (He.ga K "_law_next")) := T.glo 34 rfl
theorem Top.g_law_told (T : Top K mg) : mg "_law_told" = some (.ref (He.ga K "_law_told")) := T.glo 35 rfl
theorem Top.g_law_two (T : Top K mg) : mg "_law_two" = some (.ref (He.ga K "_law_two")) := T.glo 36 rfl
theorem Top.g_law_work (T : Top K mg) : mg "_law_work" = some (.ref (He.ga K "_law_work")) := T.glo 37 rfl
theorem Top.g_law_number (T : Top K mg) : mg "_law_number" = some (.ref (He.ga K "_law_number")) := T.glo 38 rfl
theorem Top.g_law_pack (T : Top K mg) : mg "_law_pack" = some (.ref (He.ga K "_law_pack")) := T.glo 39 rfl
theorem Top.g_law_calls (T : Top K mg) : mg "_law_calls" = some (.ref (He.ga K "_law_calls")) := T.glo 40 rfl
theorem Top.g_law (T : Top K mg) : mg "law" = some (.ref (He.ga K "law")) := T.glo 41 rfl
theorem Top.g_Bench (T : Top K mg) : mg "Bench" = some (.ref (He.ga K "Bench")) := T.glo 42 rfl
theorem Top.c_Bench (T : Top K mg) : Cls K (He.ga K "Bench") := He.cls_ok (T.says.fact 43 rfl)
theorem Top.mk_Bench (T : Top K mg) : Mk K (He.ga K "Bench") (He.ma K (He.ga K "Bench") "__init__") := He.mkr_ok (T.says.fact 44 rfl)
theorem Top.g_Maker (T : Top K mg) : mg "Maker" = some (.ref (He.ga K "Maker")) := T.glo 45 rfl
theorem Top.c_Maker (T : Top K mg) : Cls K (He.ga K "Maker") := He.cls_ok (T.says.fact 46 rfl)
theorem Top.mk_Maker (T : Top K mg) : Mk K (He.ga K "Maker") (He.ma K (He.ga K "Maker") "__init__") := He.mkr_ok (T.says.fact 47 rfl)
theorem Top.m_Bench_do (T : Top K mg) : Meth K (He.ga K "Bench") "do" (He.ma K (He.ga K "Bench") "do") := He.meth_ok (T.says.fact 48 rfl)
theorem Top.m_Bench_number (T : Top K mg) : Meth K (He.ga K "Bench") "number" (He.ma K (He.ga K "Bench") "number") := He.meth_ok (T.says.fact 49 rfl)
theorem Top.m_Bench_works (T : Top K mg) : Meth K (He.ga K "Bench") "works" (He.ma K (He.ga K "Bench") "works") := He.meth_ok (T.says.fact 50 rfl)
theorem Top.m_Maker_best (T : Top K mg) : Meth K (He.ga K "Maker") "best" (He.ma K (He.ga K "Maker") "best") := He.meth_ok (T.says.fact 51 rfl)
theorem Top.m_Maker_low_ways (T : Top K mg) : Meth K (He.ga K "Maker") "low_ways" (He.ma K (He.ga K "Maker") "low_ways") := He.meth_ok (T.says.fact 52 rfl)
theorem Top.m_Maker_middle_ways (T : Top K mg) : Meth K (He.ga K "Maker") "middle_ways" (He.ma K (He.ga K "Maker") "middle_ways") := He.meth_ok (T.says.fact 53 rfl)
theorem Top.m_Maker_high_ways (T : Top K mg) : Meth K (He.ga K "Maker") "high_ways" (He.ma K (He.ga K "Maker") "high_ways") := He.meth_ok (T.says.fact 54 rfl)
theorem Top.m_Maker_nexts (T : Top K mg) : Meth K (He.ga K "Maker") "nexts" (He.ma K (He.ga K "Maker") "nexts") := He.meth_ok (T.says.fact 55 rfl)
theorem Top.m_Maker_begin (T : Top K mg) : Meth K (He.ga K "Maker") "begin" (He.ma K (He.ga K "Maker") "begin") := He.meth_ok (T.says.fact 56 rfl)
theorem Top.m_Maker_fewest (T : Top K mg) : Meth K (He.ga K "Maker") "fewest" (He.ma K (He.ga K "Maker") "fewest") := He.meth_ok (T.says.fact 57 rfl)
theorem Top.m_Maker_many (T : Top K mg) : Meth K (He.ga K "Maker") "many" (He.ma K (He.ga K "Maker") "many") := He.meth_ok (T.says.fact 58 rfl)
theorem Top.m_Maker_numbered (T : Top K mg) : Meth K (He.ga K "Maker") "numbered" (He.ma K (He.ga K "Maker") "numbered") := He.meth_ok (T.says.fact 59 rfl)
theorem Top.m_Maker_rank (T : Top K mg) : Meth K (He.ga K "Maker") "rank" (He.ma K (He.ga K "Maker") "rank") := He.meth_ok (T.says.fact 60 rfl)
theorem Top.n_Bench_now (T : Top K mg) : NoAttr K (He.ga K "Bench") "now" := He.noat_ok (T.says.fact 61 rfl)
theorem Top.n_Bench_past (T : Top K mg) : NoAttr K (He.ga K "Bench") "past" := He.noat_ok (T.says.fact 62 rfl)
theorem Top.n_Maker_aheads (T : Top K mg) : NoAttr K (He.ga K "Maker") "aheads" := He.noat_ok (T.says.fact 63 rfl)
theorem Top.n_Maker_behinds (T : Top K mg) : NoAttr K (He.ga K "Maker") "behinds" := He.noat_ok (T.says.fact 64 rfl)
theorem Top.n_Maker_rest (T : Top K mg) : NoAttr K (He.ga K "Maker") "rest" := He.noat_ok (T.says.fact 65 rfl)
theorem Top.n_Maker_lows (T : Top K mg) : NoAttr K (He.ga K "Maker") "lows" := He.noat_ok (T.says.fact 66 rfl)
theorem Top.n_Maker_middles (T : Top K mg) : NoAttr K (He.ga K "Maker") "middles" := He.noat_ok (T.says.fact 67 rfl)
theorem Top.n_Maker_highs (T : Top K mg) : NoAttr K (He.ga K "Maker") "highs" := He.noat_ok (T.says.fact 68 rfl)
theorem Top.g_HalfError (T : Top K mg) : mg "HalfError" = some (.ref (He.ga K "HalfError")) := T.glo 69 rfl
theorem Top.g_BadWork (T : Top K mg) : mg "BadWork" = some (.ref (He.ga K "BadWork")) := T.glo 70 rfl
theorem Top.g_BadNumber (T : Top K mg) : mg "BadNumber" = some (.ref (He.ga K "BadNumber")) := T.glo 71 rfl
theorem Top.g_BadCard (T : Top K mg) : mg "BadCard" = some (.ref (He.ga K "BadCard")) := T.glo 72 rfl
theorem Top.g_BadCount (T : Top K mg) : mg "BadCount" = some (.ref (He.ga K "BadCount")) := T.glo 73 rfl
theorem Top.g_TooMany (T : Top K mg) : mg "TooMany" = some (.ref (He.ga K "TooMany")) := T.glo 74 rfl
theorem Top.g_Longer (T : Top K mg) : mg "Longer" = some (.ref (He.ga K "Longer")) := T.glo 75 rfl
theorem Top.g_BadDeed (T : Top K mg) : mg "BadDeed" = some (.ref (He.ga K "BadDeed")) := T.glo 76 rfl
theorem Top.g_BadText (T : Top K mg) : mg "BadText" = some (.ref (He.ga K "BadText")) := T.glo 77 rfl
theorem Top.e_TooMany (T : Top K mg) : PySem.W.excIn K (He.ga K "TooMany") He.veBase "ValueError.__new__" = true ∧ PySem.W.keepIn K (.ref (He.ga K "TooMany")) = true ∧ PySem.W.subIn K (.ref (He.ga K "TooMany")) (.type "BaseException") = some true ∧ PySem.W.typeIn K (.ref (He.ga K "TooMany")) = some (.type "type") := He.exc_ok (T.says.fact 78 rfl)
theorem Top.x_TooMany (T : Top K mg) : PySem.W.exmOne K (.ref (He.ga K "TooMany")) (.ref (He.ga K "HalfError")) = some true := He.exm_ok (T.says.fact 79 rfl)
theorem Top.e_Longer (T : Top K mg) : PySem.W.excIn K (He.ga K "Longer") He.veBase "ValueError.__new__" = true ∧ PySem.W.keepIn K (.ref (He.ga K "Longer")) = true ∧ PySem.W.subIn K (.ref (He.ga K "Longer")) (.type "BaseException") = some true ∧ PySem.W.typeIn K (.ref (He.ga K "Longer")) = some (.type "type") := He.exc_ok (T.says.fact 80 rfl)
theorem Top.x_Longer (T : Top K mg) : PySem.W.exmOne K (.ref (He.ga K "Longer")) (.ref (He.ga K "HalfError")) = some true := He.exm_ok (T.says.fact 81 rfl)
theorem Top.f_len (T : Top K mg) : mg "len" = none := T.fre 82 rfl
theorem Top.f_enumerate (T : Top K mg) : mg "enumerate" = none := T.fre 83 rfl
theorem Top.f_range (T : Top K mg) : mg "range" = none := T.fre 84 rfl
theorem Top.f_max (T : Top K mg) : mg "max" = none := T.fre 85 rfl
theorem Top.f_min (T : Top K mg) : mg "min" = none := T.fre 86 rfl
theorem Top.f_abs (T : Top K mg) : mg "abs" = none := T.fre 87 rfl
theorem Top.f_sum (T : Top K mg) : mg "sum" = none := T.fre 88 rfl
theorem Top.f_sorted (T : Top K mg) : mg "sorted" = none := T.fre 89 rfl
theorem Top.f_list (T : Top K mg) : mg "list" = none := T.fre 90 rfl
theorem Top.f_tuple (T : Top K mg) : mg "tuple" = none := T.fre 91 rfl
theorem Top.f_int (T : Top K mg) : mg "int" = none := T.fre 92 rfl
theorem Top.f_str (T : Top K mg) : mg "str" = none := T.fre 93 rfl
theorem Top.f_isinstance (T : Top K mg) : mg "isinstance" = none := T.fre 94 rfl
theorem Top.i_MOST_SIGNS (T : Top K mg) : ∃ t, mg "MOST_SIGNS" = some (.int 400 t) := T.intc 95 rfl
theorem Top.i_FAR (T : Top K mg) : ∃ t, mg "FAR" = some (.int (10 ^ 60) t) := T.intc 96 rfl
theorem Top.i_MOST_BITS (T : Top K mg) : ∃ t, mg "MOST_BITS" = some (.int 1000 t) := T.intc 97 rfl
theorem Top.i_MOST_TIMES (T : Top K mg) : ∃ t, mg "MOST_TIMES" = some (.int (10 ^ 18) t) := T.intc 98 rfl
theorem Top.i_MOST_FIGURES (T : Top K mg) : ∃ t, mg "MOST_FIGURES" = some (.int 302 t) := T.intc 99 rfl
theorem Top.i_PARTS (T : Top K mg) : ∃ t, mg "PARTS" = some (.int 4 t) := T.intc 100 rfl
theorem Top.s_SIGNS (T : Top K mg) : ∃ t, mg "SIGNS" = some (.str "+-2/" t) := T.strc 101 rfl
theorem Top.s_FIGURES (T : Top K mg) : ∃ t, mg "FIGURES" = some (.str "0123456789" t) := T.strc 102 rfl
theorem Top.g_NOTHING (T : Top K mg) : mg "NOTHING" = some (.ref (He.ga K "NOTHING")) := T.glo 103 rfl
theorem Top.fd_need_number (T : Top K mg) : ∃ fd, FunD K "need_number" "need_number" (defArgs s_need_number) (defBody s_need_number) (defScope s_need_number) [] [] (He.ga K "need_number") fd := T.says.def_ 0 (d := d_need_number) rfl
theorem Top.fd_need_count (T : Top K mg) : ∃ fd, FunD K "need_count" "need_count" (defArgs s_need_count) (defBody s_need_count) (defScope s_need_count) [] [] (He.ga K "need_count") fd := T.says.def_ 1 (d := d_need_count) rfl
theorem Top.fd_need_work (T : Top K mg) : ∃ fd, FunD K "need_work" "need_work" (defArgs s_need_work) (defBody s_need_work) (defScope s_need_work) [] [] (He.ga K "need_work") fd := T.says.def_ 2 (d := d_need_work) rfl
theorem Top.fd_two (T : Top K mg) : ∃ fd, FunD K "two" "two" (defArgs s_two) (defBody s_two) (defScope s_two) [] [] (He.ga K "two") fd := T.says.def_ 3 (d := d_two) rfl
theorem Top.fd_need_card (T : Top K mg) : ∃ fd, FunD K "need_card" "need_card" (defArgs s_need_card) (defBody s_need_card) (defScope s_need_card) [] [] (He.ga K "need_card") fd := T.says.def_ 4 (d := d_need_card) rfl
theorem Top.fd_step_on (T : Top K mg) : ∃ fd, FunD K "step_on" "step_on" (defArgs s_step_on) (defBody s_step_on) (defScope s_step_on) [] [] (He.ga K "step_on") fd := T.says.def_ 5 (d := d_step_on) rfl
theorem Top.fd_run (T : Top K mg) : ∃ fd, FunD K "run" "run" (defArgs s_run) (defBody s_run) (defScope s_run) [] [] (He.ga K "run") fd := T.says.def_ 6 (d := d_run) rfl
theorem Top.fd_even (T : Top K mg) : ∃ fd, FunD K "even" "even" (defArgs s_even) (defBody s_even) (defScope s_even) [] [] (He.ga K "even") fd := T.says.def_ 7 (d := d_even) rfl
theorem Top.fd_stepped (T : Top K mg) : ∃ fd, FunD K "stepped" "stepped" (defArgs s_stepped) (defBody s_stepped) (defScope s_stepped) [] [] (He.ga K "stepped") fd := T.says.def_ 8 (d := d_stepped) rfl
theorem Top.fd_card_of (T : Top K mg) : ∃ fd, FunD K "card_of" "card_of" (defArgs s_card_of) (defBody s_card_of) (defScope s_card_of) [] [] (He.ga K "card_of") fd := T.says.def_ 9 (d := d_card_of) rfl
theorem Top.fd_card (T : Top K mg) : ∃ fd, FunD K "card" "card" (defArgs s_card) (defBody s_card) (defScope s_card) [] [] (He.ga K "card") fd := T.says.def_ 10 (d := d_card) rfl
theorem Top.fd_make (T : Top K mg) : ∃ fd, FunD K "make" "make" (defArgs s_make) (defBody s_make) (defScope s_make) [] [] (He.ga K "make") fd := T.says.def_ 11 (d := d_make) rfl
theorem Top.fd_made (T : Top K mg) : ∃ fd, FunD K "made" "made" (defArgs s_made) (defBody s_made) (defScope s_made) [] [] (He.ga K "made") fd := T.says.def_ 12 (d := d_made) rfl
theorem Top.fd_behind (T : Top K mg) : ∃ fd, FunD K "behind" "behind" (defArgs s_behind) (defBody s_behind) (defScope s_behind) [] [] (He.ga K "behind") fd := T.says.def_ 13 (d := d_behind) rfl
theorem Top.fd_need_few (T : Top K mg) : ∃ fd, FunD K "need_few" "need_few" (defArgs s_need_few) (defBody s_need_few) (defScope s_need_few) [] [] (He.ga K "need_few") fd := T.says.def_ 14 (d := d_need_few) rfl
theorem Top.fd_joined (T : Top K mg) : ∃ fd, FunD K "joined" "joined" (defArgs s_joined) (defBody s_joined) (defScope s_joined) [] [] (He.ga K "joined") fd := T.says.def_ 15 (d := d_joined) rfl
theorem Top.fd_often (T : Top K mg) : ∃ fd, FunD K "often" "often" (defArgs s_often) (defBody s_often) (defScope s_often) [] [("times", V.int 2)] (He.ga K "often") fd := T.says.def_ 16 (d := d_often) rfl
theorem Top.fd_first_parting (T : Top K mg) : ∃ fd, FunD K "first_parting" "first_parting" (defArgs s_first_parting) (defBody s_first_parting) (defScope s_first_parting) [] [] (He.ga K "first_parting") fd := T.says.def_ 17 (d := d_first_parting) rfl
theorem Top.fd_parting (T : Top K mg) : ∃ fd, FunD K "parting" "parting" (defArgs s_parting) (defBody s_parting) (defScope s_parting) [] [] (He.ga K "parting") fd := T.says.def_ 18 (d := d_parting) rfl
theorem Top.fd_Bench_init (T : Top K mg) : ∃ fd, FunD K "__init__" "Bench.__init__" (defArgs s_Bench_init) (defBody s_Bench_init) (defScope s_Bench_init) [] [] (He.ma K (He.ga K "Bench") "__init__") fd := T.says.def_ 19 (d := d_Bench_init) rfl
theorem Top.fd_Bench_do (T : Top K mg) : ∃ fd, FunD K "do" "Bench.do" (defArgs s_Bench_do) (defBody s_Bench_do) (defScope s_Bench_do) [] [] (He.ma K (He.ga K "Bench") "do") fd := T.says.def_ 20 (d := d_Bench_do) rfl
theorem Top.fd_Bench_number (T : Top K mg) : ∃ fd, FunD K "number" "Bench.number" (defArgs s_Bench_number) (defBody s_Bench_number) (defScope s_Bench_number) [] [] (He.ma K (He.ga K "Bench") "number") fd := T.says.def_ 21 (d := d_Bench_number) rfl
theorem Top.fd_Bench_works (T : Top K mg) : ∃ fd, FunD K "works" "Bench.works" (defArgs s_Bench_works) (defBody s_Bench_works) (defScope s_Bench_works) [] [] (He.ma K (He.ga K "Bench") "works") fd := T.says.def_ 22 (d := d_Bench_works) rfl
theorem Top.fd_written (T : Top K mg) : ∃ fd, FunD K "written" "written" (defArgs s_written) (defBody s_written) (defScope s_written) [] [] (He.ga K "written") fd := T.says.def_ 23 (d := d_written) rfl
theorem Top.fd_is_number (T : Top K mg) : ∃ fd, FunD K "is_number" "is_number" (defArgs s_is_number) (defBody s_is_number) (defScope s_is_number) [] [] (He.ga K "is_number") fd := T.says.def_ 24 (d := d_is_number) rfl
theorem Top.fd_is_row (T : Top K mg) : ∃ fd, FunD K "is_row" "is_row" (defArgs s_is_row) (defBody s_is_row) (defScope s_is_row) [] [] (He.ga K "is_row") fd := T.says.def_ 25 (d := d_is_row) rfl
theorem Top.fd_read (T : Top K mg) : ∃ fd, FunD K "read" "read" (defArgs s_read) (defBody s_read) (defScope s_read) [] [] (He.ga K "read") fd := T.says.def_ 26 (d := d_read) rfl
theorem Top.fd_stays (T : Top K mg) : ∃ fd, FunD K "stays" "stays" (defArgs s_stays) (defBody s_stays) (defScope s_stays) [] [] (He.ga K "stays") fd := T.says.def_ 27 (d := d_stays) rfl
theorem Top.fd_at_last (T : Top K mg) : ∃ fd, FunD K "at_last" "at_last" (defArgs s_at_last) (defBody s_at_last) (defScope s_at_last) [] [] (He.ga K "at_last") fd := T.says.def_ 28 (d := d_at_last) rfl
theorem Top.fd_leading (T : Top K mg) : ∃ fd, FunD K "leading" "leading" (defArgs s_leading) (defBody s_leading) (defScope s_leading) [] [] (He.ga K "leading") fd := T.says.def_ 29 (d := d_leading) rfl
theorem Top.fd_undone (T : Top K mg) : ∃ fd, FunD K "undone" "undone" (defArgs s_undone) (defBody s_undone) (defScope s_undone) [] [] (He.ga K "undone") fd := T.says.def_ 30 (d := d_undone) rfl
theorem Top.fd_bits_of (T : Top K mg) : ∃ fd, FunD K "bits_of" "bits_of" (defArgs s_bits_of) (defBody s_bits_of) (defScope s_bits_of) [] [] (He.ga K "bits_of") fd := T.says.def_ 31 (d := d_bits_of) rfl
theorem Top.fd_digits_text (T : Top K mg) : ∃ fd, FunD K "digits_text" "digits_text" (defArgs s_digits_text) (defBody s_digits_text) (defScope s_digits_text) [] [] (He.ga K "digits_text") fd := T.says.def_ 32 (d := d_digits_text) rfl
theorem Top.fd_Maker_init (T : Top K mg) : ∃ fd, FunD K "__init__" "Maker.__init__" (defArgs s_Maker_init) (defBody s_Maker_init) (defScope s_Maker_init) [] [] (He.ma K (He.ga K "Maker") "__init__") fd := T.says.def_ 33 (d := d_Maker_init) rfl
theorem Top.fd_Maker_best (T : Top K mg) : ∃ fd, FunD K "best" "Maker.best" (defArgs s_Maker_best) (defBody s_Maker_best) (defScope s_Maker_best) [] [] (He.ma K (He.ga K "Maker") "best") fd := T.says.def_ 34 (d := d_Maker_best) rfl
theorem Top.fd_Maker_low_ways (T : Top K mg) : ∃ fd, FunD K "low_ways" "Maker.low_ways" (defArgs s_Maker_low_ways) (defBody s_Maker_low_ways) (defScope s_Maker_low_ways) [] [] (He.ma K (He.ga K "Maker") "low_ways") fd := T.says.def_ 35 (d := d_Maker_low_ways) rfl
theorem Top.fd_Maker_middle_ways (T : Top K mg) : ∃ fd, FunD K "middle_ways" "Maker.middle_ways" (defArgs s_Maker_middle_ways) (defBody s_Maker_middle_ways) (defScope s_Maker_middle_ways) [] [] (He.ma K (He.ga K "Maker") "middle_ways") fd := T.says.def_ 36 (d := d_Maker_middle_ways) rfl
theorem Top.fd_Maker_high_ways (T : Top K mg) : ∃ fd, FunD K "high_ways" "Maker.high_ways" (defArgs s_Maker_high_ways) (defBody s_Maker_high_ways) (defScope s_Maker_high_ways) [] [] (He.ma K (He.ga K "Maker") "high_ways") fd := T.says.def_ 37 (d := d_Maker_high_ways) rfl
theorem Top.fd_Maker_nexts (T : Top K mg) : ∃ fd, FunD K "nexts" "Maker.nexts" (defArgs s_Maker_nexts) (defBody s_Maker_nexts) (defScope s_Maker_nexts) [] [] (He.ma K (He.ga K "Maker") "nexts") fd := T.says.def_ 38 (d := d_Maker_nexts) rfl
theorem Top.fd_Maker_begin (T : Top K mg) : ∃ fd, FunD K "begin" "Maker.begin" (defArgs s_Maker_begin) (defBody s_Maker_begin) (defScope s_Maker_begin) [] [] (He.ma K (He.ga K "Maker") "begin") fd := T.says.def_ 39 (d := d_Maker_begin) rfl
theorem Top.fd_Maker_fewest (T : Top K mg) : ∃ fd, FunD K "fewest" "Maker.fewest" (defArgs s_Maker_fewest) (defBody s_Maker_fewest) (defScope s_Maker_fewest) [] [] (He.ma K (He.ga K "Maker") "fewest") fd := T.says.def_ 40 (d := d_Maker_fewest) rfl
theorem Top.fd_Maker_many (T : Top K mg) : ∃ fd, FunD K "many" "Maker.many" (defArgs s_Maker_many) (defBody s_Maker_many) (defScope s_Maker_many) [] [] (He.ma K (He.ga K "Maker") "many") fd := T.says.def_ 41 (d := d_Maker_many) rfl
theorem Top.fd_Maker_numbered (T : Top K mg) : ∃ fd, FunD K "numbered" "Maker.numbered" (defArgs s_Maker_numbered) (defBody s_Maker_numbered) (defScope s_Maker_numbered) [] [] (He.ma K (He.ga K "Maker") "numbered") fd := T.says.def_ 42 (d := d_Maker_numbered) rfl
theorem Top.fd_Maker_rank (T : Top K mg) : ∃ fd, FunD K "rank" "Maker.rank" (defArgs s_Maker_rank) (defBody s_Maker_rank) (defScope s_Maker_rank) [] [] (He.ma K (He.ga K "Maker") "rank") fd := T.says.def_ 43 (d := d_Maker_rank) rfl
theorem Top.fd_fewest (T : Top K mg) : ∃ fd, FunD K "fewest" "fewest" (defArgs s_fewest) (defBody s_fewest) (defScope s_fewest) [] [] (He.ga K "fewest") fd := T.says.def_ 44 (d := d_fewest) rfl
theorem Top.fd_how_many (T : Top K mg) : ∃ fd, FunD K "how_many" "how_many" (defArgs s_how_many) (defBody s_how_many) (defScope s_how_many) [] [] (He.ga K "how_many") fd := T.says.def_ 45 (d := d_how_many) rfl
theorem Top.fd_work_at (T : Top K mg) : ∃ fd, FunD K "work_at" "work_at" (defArgs s_work_at) (defBody s_work_at) (defScope s_work_at) [] [] (He.ga K "work_at") fd := T.says.def_ 46 (d := d_work_at) rfl
theorem Top.fd_number_of (T : Top K mg) : ∃ fd, FunD K "number_of" "number_of" (defArgs s_number_of) (defBody s_number_of) (defScope s_number_of) [] [] (He.ga K "number_of") fd := T.says.def_ 47 (d := d_number_of) rfl
theorem Top.fd_law_dice (T : Top K mg) : ∃ fd, FunD K "_law_dice" "_law_dice" (defArgs s_law_dice) (defBody s_law_dice) (defScope s_law_dice) [] [] (He.ga K "_law_dice") fd := T.says.def_ 48 (d := d_law_dice) rfl
theorem Top.fd_law_next (T : Top K mg) : ∃ fd, FunD K "_law_next" "_law_next" (defArgs s_law_next) (defBody s_law_next) (defScope s_law_next) [] [] (He.ga K "_law_next") fd := T.says.def_ 49 (d := d_law_next) rfl
theorem Top.fd_law_told (T : Top K mg) : ∃ fd, FunD K "_law_told" "_law_told" (defArgs s_law_told) (defBody s_law_told) (defScope s_law_told) [] [] (He.ga K "_law_told") fd := T.says.def_ 50 (d := d_law_told) rfl
theorem Top.fd_law_two (T : Top K mg) : ∃ fd, FunD K "_law_two" "_law_two" (defArgs s_law_two) (defBody s_law_two) (defScope s_law_two) [] [] (He.ga K "_law_two") fd := T.says.def_ 51 (d := d_law_two) rfl
theorem Top.fd_law_work (T : Top K mg) : ∃ fd, FunD K "_law_work" "_law_work" (defArgs s_law_work) (defBody s_law_work) (defScope s_law_work) [] [] (He.ga K "_law_work") fd := T.says.def_ 52 (d := d_law_work) rfl
theorem Top.fd_law_number (T : Top K mg) : ∃ fd, FunD K "_law_number" "_law_number" (defArgs s_law_number) (defBody s_law_number) (defScope s_law_number) [] [] (He.ga K "_law_number") fd := T.says.def_ 53 (d := d_law_number) rfl
theorem Top.fd_law_pack (T : Top K mg) : ∃ fd, FunD K "_law_pack" "_law_pack" (defArgs s_law_pack) (defBody s_law_pack) (defScope s_law_pack) [] [] (He.ga K "_law_pack") fd := T.says.def_ 54 (d := d_law_pack) rfl
theorem Top.fd_law_calls (T : Top K mg) : ∃ fd, FunD K "_law_calls" "_law_calls" (defArgs s_law_calls) (defBody s_law_calls) (defScope s_law_calls) [] [] (He.ga K "_law_calls") fd := T.says.def_ 55 (d := d_law_calls) rfl
theorem Top.fd_law (T : Top K mg) : ∃ fd, FunD K "law" "law" (defArgs s_law) (defBody s_law) (defScope s_law) [] [] (He.ga K "law") fd := T.says.def_ 56 (d := d_law) rfl
end
end Hs

set_option Elab.async false
set_option linter.all false
set_option maxRecDepth 100000
set_option maxHeartbeats 4000000
/-! Defs that let no exception out, their call; bounds; cards. -/
namespace Hs
open PySem PySem.Spec PyProof.Rows L2
open Evl (Ex)
section
variable {P : Program} {w : World} {K : PySem.W.Frag} {mg : Str → Option Value} {base : Heap}
/-- the def at f keeps sp, lets nothing out, takes its arguments by place -/
structure Okd (P : Program) (w : World) (K : PySem.W.Frag) (mg : Str → Option Value) (base : Heap) (k : Nat) (f : Addr) (ps : List Str) (sp : Sp) : Prop where
  ex : ∃ fd, FnOk P w K mg base CX0 k f fd ps sp ∧ L2.Binds K fd ps []
  kp : PySem.W.keepIn K (.ref f) = true
theorem Okd.mono {j k : Nat} {f : Addr} {ps : List Str} {sp : Sp} (D : Okd P w K mg base j f ps sp) (h : j ≤ k) : Okd P w K mg base k f ps sp := by
  obtain ⟨fd, F, b⟩ := D.ex
  exact ⟨⟨fd, F.mono h, b⟩, D.kp⟩
theorem okd_of {x qual : Str} {params : Arguments} {body : List Stmt} {scope : Scope} {f : Addr} {N ps : List Str} {k : Nat} {sp : Sp} (F : ∃ fd, FunD K x qual params body scope [] [] f fd) (S : FnScope N ps scope) (len : ∀ vs H Q E, sp vs H Q E → vs.length = ps.length)
    (hb : ∀ (kV doc pm : Value) (an : Option Addr) (cdv ct : Value) (us : List Value), us.length = ps.length → bindArgs (PySem.W.fnOf x qual params body scope .none kV doc pm an cdv ct) ⟨us, []⟩ = pure (ps.zip us))
    (hbody : ∀ (cdv : Value) (A : Around) (outer : List Env) (s : Shared) (H : Hp) (vs : List V) (Q : VK) (E : XK), Room k (A.deeper (envOfC qual scope s.heap.objs.size f cdv)) → sp vs H Q E →
      ∃ t, PSs (cxOf CX0 P w K mg base N qual scope f cdv A outer s H E).nox body t ∧ t { nx := fun _ H' => Q .non H', rt := Q } (start N vs) H) : Okd P w K mg base (k + 1) f ps sp := by
  obtain ⟨fd, D⟩ := F
  refine ⟨⟨fd, D.ok S len fun cdv A outer s H vs Q E hr h => ?_, D.bindsN hb⟩, D.kp⟩
  obtain ⟨t, h1, h2⟩ := hbody cdv A outer s H vs Q E hr h
  exact ⟨t, h1.nox, h2⟩
end
def tCl (sp : Sp) (t : TA) : TE := fun σ H Q => t σ H fun vs H1 => sp vs H1 Q E0
section
variable {X : Cx} {k j : Nat} {f C : Addr} {ps : List Str} {sp : Sp} {x m : Str} {p pos apos : Pos} {e o : Expr} {es : List Expr} {ta : TE} {t : TA}
/-- f(e, ..) -/
theorem pc (D : Okd X.prog X.w X.K X.mg X.base k f ps sp) (hr : Room j X.A) (hm : X.mg x = some (.ref f)) (ha : PA X (e :: es) t) (hk : k ≤ j := by decide) (hg : Gl X x := by rfl) (hdb : (x == ("__debug__" : Str)) = false := by decide)
    (he : starEach (e :: es) X.env = (false, eval e X.env) :: starEach es X.env := by rfl) (hpl : (backTo pos (starEach es X.env)).any (·.1) = false := by rfl) : PE X (.Call (.Name x p) (e :: es) [] pos) (tCl sp t) := by
  obtain ⟨fd, F, b⟩ := D.ex
  have z := pe_call (x := x) (p := p) (pos := pos) (F.mono hk) hr hg hm D.kp b .nil pass0 ha hdb he hpl
  refine ⟨fun pins s σ H Q I h => z.run pins s σ H Q I ?_⟩
  show t σ H fun vs H1 => sp (vs ++ []) H1 Q E0
  simp only [List.append_nil]
  exact h
/-- o.m(e, ..) -/
def tMt (C : Addr) (m : Str) (sp : Sp) (ta : TE) (t : TA) : TE := fun σ H Q => ta σ H fun x H1 => ∃ a dx fs, x = .ref a ∧ H1 a = some (.ins C dx fs) ∧ fs.lookup m = none ∧ t σ H1 fun vs H2 => sp (x :: vs) H2 Q E0
theorem pm {pl : Sem Bool} (he : PE X o ta) (c : Cls X.K C) (hm : Meth X.K C m f) (D : Okd X.prog X.w X.K X.mg X.base k f ps sp) (hr : Room j X.A) (ha : PA X (e :: es) t) (hk : k ≤ j := by decide)
    (hst : starEach (e :: es) X.env = (false, eval e X.env) :: starEach es X.env := by rfl) (hpl : (backTo pos (starEach es X.env)).any (·.1) = false := by rfl)
    (ht : eval (.Call (.Attribute o m apos) (e :: es) [] pos) X.env = (do
      let ov ← eval o X.env
      standAt apos.atName
      let (f, first) ← holding [ov] (getMethod ov m pl)
      callWith pos f first (backTo pos (starEach (e :: es) X.env)) (backToKw pos (keywordEach [] X.env))) := by rfl) :
    PE X (.Call (.Attribute o m apos) (e :: es) [] pos) (tMt C m sp ta t) := by
  obtain ⟨fd, F, b⟩ := D.ex
  have z := pe_meth (apos := apos) (pos := pos) he c hm (F.mono hk) hr b .nil pass0 ha hst hpl ht
  refine ⟨fun pins s σ H Q I h => z.run pins s σ H Q I ?_⟩
  show ta σ H fun x H1 => ∃ a dx fs, x = .ref a ∧ H1 a = some (.ins C dx fs) ∧ fs.lookup m = none ∧ t σ H1 fun vs H2 => sp (x :: (vs ++ [])) H2 Q E0
  simp only [List.append_nil]
  exact h
theorem pm0 {pl : Sem Bool} (he : PE X o ta) (c : Cls X.K C) (hm : Meth X.K C m f) (D : Okd X.prog X.w X.K X.mg X.base k f ps sp) (hr : Room j X.A) (hk : k ≤ j := by decide)
    (ht : eval (.Call (.Attribute o m apos) [] [] pos) X.env = (do
      let ov ← eval o X.env
      standAt apos.atName
      let (f, first) ← holding [ov] (getMethod ov m pl)
      callWith pos f first (backTo pos (starEach [] X.env)) (backToKw pos (keywordEach [] X.env))) := by rfl) :
    PE X (.Call (.Attribute o m apos) [] [] pos) (tMt C m sp ta tNil) := by
  obtain ⟨fd, F, b⟩ := D.ex
  exact pe_meth0 (apos := apos) (pos := pos) he c hm (F.mono hk) hr b .nil pass0 ht
end
section
variable {X : Cx} {x : Str} {pos : Pos}
theorem pgi {n : Int} {t : Tok} (h : X.mg x = some (.int n t)) (hg : Gl X x := by rfl) (hd : (x == ("__debug__" : Str)) = false := by decide) : PE X (.Name x pos) (tC (.int n)) := pe_glob hg h ⟨_, rfl⟩ hd
theorem pgs {z : Str} {t : Tok} (h : X.mg x = some (.str z t)) (hg : Gl X x := by rfl) (hd : (x == ("__debug__" : Str)) = false := by decide) : PE X (.Name x pos) (tC (.str z)) := pe_glob hg h ⟨_, rfl⟩ hd
theorem pgr {a : Addr} (h : X.mg x = some (.ref a)) (hg : Gl X x := by rfl) (hd : (x == ("__debug__" : Str)) = false := by decide) : PE X (.Name x pos) (tC (.ref a)) := pe_glob hg h rfl hd
end
/-! ### join, split: the library's rules, their readings by a name -/
def rJn (K : PySem.W.Frag) : V → List V → Hp → VK → Prop := fun x xs H Q => ∃ a p, ∃ ys : List Str, x = .str a ∧ xs = [.ref p] ∧ (SqL K H p (ys.map V.str) ∨ SqT K H p (ys.map V.str)) ∧ (ys.map (·.length)).sum + ys.length * a.length ≤ 16777216 ∧ Q (.str (Txt.join a ys)) H
def rSp : V → List V → Hp → VK → Prop := fun x xs H Q => ∃ a b, x = .str a ∧ xs = [.str b] ∧ (b.length == 0) = false ∧ a.length + 2 ≤ sizeLine ∧ rNewStrs (Txt.split a b) H Q
section
variable {X : Cx} {o e : Expr} {to te : TE} {apos pos : Pos}
theorem pjoin (ho : PE X o to) (he : PE X e te) (hs : starEach [e] X.env = [(false, eval e X.env)] := by rfl) (hb : attributeBase o "join" X.env (eval o X.env) = eval o X.env := by rfl) (hl : (apos.endLine == pos.line) = true := by rfl) : PE X (.Call (.Attribute o "join" apos) [e] [] pos) (tM1 (rJn X.K) to te) := pe_join ho he hs hb hl
theorem psplit (ho : PE X o to) (he : PE X e te) (hs : starEach [e] X.env = [(false, eval e X.env)] := by rfl) (hb : attributeBase o "split" X.env (eval o X.env) = eval o X.env := by rfl) (hl : (apos.endLine == pos.line) = true := by rfl) : PE X (.Call (.Attribute o "split" apos) [e] [] pos) (tM1 rSp to te) := pe_split ho he hs hb hl
end
def rStrI : List V → Hp → VK → Prop := fun xs H Q => ∃ i, xs = [.int i] ∧ i.natAbs.log2 < 1920 ∧ Q (.str (toString i : String)) H
theorem c_strI {X : Cx} : CallR X (.type "str") rStrI := call_str_int
/-! ### bounds -/
def Bd (n : Nat) (x : Int) : Prop := x.natAbs < 2 ^ n
theorem Bd.mono {m n : Nat} {x : Int} (h : Bd m x) (l : m ≤ n) : Bd n x := Nat.lt_of_lt_of_le h (Nat.pow_le_pow_right (by decide) l)
theorem Bd.zero {n : Nat} : Bd n 0 := Nat.two_pow_pos n
theorem Bd.neg {n : Nat} {x : Int} (h : Bd n x) : Bd n (-x) := by
  unfold Bd at *; rw [Int.natAbs_neg]; exact h
theorem Bd.add {n : Nat} {x y : Int} (h : Bd n x) (g : Bd n y) : Bd (n + 1) (x + y) := by
  unfold Bd at *
  have := Int.natAbs_add_le x y
  rw [Nat.pow_succ]; omega
theorem Bd.sub {n : Nat} {x y : Int} (h : Bd n x) (g : Bd n y) : Bd (n + 1) (x - y) := by
  rw [Int.sub_eq_add_neg]; exact h.add g.neg
theorem Bd.mul {m n : Nat} {x y : Int} (h : Bd m x) (g : Bd n y) : Bd (m + n) (x * y) := wide_lt h g
theorem Bd.div {n : Nat} {x : Int} (y : Int) (h : Bd n x) : Bd n (x / y) := Nat.lt_of_le_of_lt (Int.natAbs_ediv_le_natAbs x y) h
theorem Bd.nn {n : Nat} {x y : Int} (h0 : 0 ≤ x) (h : x < y) (g : Bd n y) : Bd n x := by
  unfold Bd at *; omega
def two (m : Int) : Int := 2 ^ m.toNat
theorem two_pos (m : Int) : 0 < two m := Int.pow_pos (by decide)
theorem two_bd (m : Int) : Bd (m.toNat + 1) (two m) := by
  unfold Bd two
  rw [Int.natAbs_pow]
  exact Nat.pow_lt_pow_right (by decide) (Nat.lt_succ_self _)
theorem two_bdN {m : Int} {n : Nat} (h : m ≤ n) : Bd (n + 1) (two m) := (two_bd m).mono (by omega)
theorem two_add {m n : Int} (h : 0 ≤ m) (g : 0 ≤ n) : two (m + n) = two m * two n := by
  unfold two
  rw [Int.toNat_add h g, Int.pow_add]
theorem two_succ {m : Int} (h : 0 ≤ m) : two (m + 1) = 2 * two m := by
  rw [two_add h (by decide)]
  show two m * 2 = _
  rw [Int.mul_comm]
theorem two_lt {m n : Int} (h0 : 0 ≤ m) (h : m < n) : two m < two n := by
  unfold two
  have : m.toNat < n.toNat := by omega
  exact Int.pow_lt_pow_of_lt (by decide) this
theorem wmul {m n : Nat} {x y : Int} (h : Bd m x) (g : Bd n y) (l : m + n ≤ 999990 := by omega) : CMulW x y :=
  wide_mul (a := m + 1) (b := n + 1) (h.mono (Nat.le_succ _)) (g.mono (Nat.le_succ _)) (by omega) (by omega) (by omega)
theorem wdiv {n : Nat} {x y : Int} (h : 0 < y) (g : Bd n y) (l : n ≤ 8999 := by omega) : CDivW x y := wide_div (b := n + 1) h (g.mono (Nat.le_succ _)) (by omega) (by omega)
/-! ### data -/
section
variable {K : PySem.W.Frag} {H H' : Hp}
mutual
theorem Dp.ex (e : Ex H H') : ∀ {v : V} {d : PyData}, Dp K H v d → Dp K H' v d
  | _, _, .non => .non
  | _, _, .bl b => .bl b
  | _, _, .int i => .int i
  | _, _, .str x => .str x
  | _, _, .lst h r => .lst (Evl.ex_l e h) (DpAll.ex e r)
  | _, _, .tup h r => .tup (Evl.ex_t e h) (DpAll.ex e r)
theorem DpAll.ex (e : Ex H H') : ∀ {vs : List V} {ds : List PyData}, DpAll K H vs ds → DpAll K H' vs ds
  | _, _, .nil => .nil
  | _, _, .cons h r => .cons (Dp.ex e h) (DpAll.ex e r)
end
end
structure Card where
  i : Int
  j : Int
  a : Int
  b : Int
  deriving DecidableEq
def Card.vs (c : Card) : List V := [.int c.i, .int c.j, .int c.a, .int c.b]
def Card.d (c : Card) : PyData := .tuple [.int c.i, .int c.j, .int c.a, .int c.b]
/-- the value is the card's tuple -/
def Cd (K : PySem.W.Frag) (H : Hp) (v : V) (c : Card) : Prop := ∃ p, v = .ref p ∧ SqT K H p c.vs
theorem Cd.ex {K : PySem.W.Frag} {H H' : Hp} {v : V} {c : Card} (h : Cd K H v c) (e : Ex H H') : Cd K H' v c := by
  obtain ⟨p, rfl, q⟩ := h
  exact ⟨p, rfl, Evl.ex_t e q⟩
theorem Cd.dp {K : PySem.W.Frag} {H : Hp} {v : V} {c : Card} (h : Cd K H v c) : Dp K H v c.d := by
  obtain ⟨p, rfl, q⟩ := h
  exact .tup q (.cons (.int _) (.cons (.int _) (.cons (.int _) (.cons (.int _) .nil))))
/-- i, j at most m; b below 2 ^ n -/
structure Ck (m n : Nat) (c : Card) : Prop where
  i0 : 0 ≤ c.i
  i1 : c.i ≤ m
  j0 : 0 ≤ c.j
  j1 : c.j ≤ m
  a0 : 0 ≤ c.a
  a1 : c.a < two c.j
  b : Bd n c.b
/-- the answer is a card -/
def RetC (K : PySem.W.Frag) (c : Card) (H : Hp) (Q : VK) : Prop := ∀ v H2, Ex H H2 → Cd K H2 v c → Q v H2
end Hs

set_option Elab.async false
set_option linter.all false
set_option maxRecDepth 100000
set_option maxHeartbeats 4000000
/-! enumerate(text); text times int. -/
namespace Hs
open PySem PySem.Spec PyProof.Rows L2
/-! ### enumerate(text) -/
def Itx (x : Str) : It := ⟨fun i _ => i < x.cps.size, fun i H v H' => ∃ T c, v = .ref T ∧ H T = none ∧ H' = upd H T (.tup [.int (i : Nat), .str ⟨#[c]⟩]) ∧ x.cps[i]? = some c, fun i _ => x.cps.size ≤ i⟩
theorem turn_enumS {P : Program} {w : World} {K : PySem.W.Frag} {elts : List Expr} {kk : Nat} {tpos : Pos} (x : Str) (t : Tok) (e it : Addr) :
    Turn P w K (.Tuple elts kk tpos) (Itx x) [e, it] e (fun i h => i ≤ x.cps.size ∧ (∃ old, IsEnum h e it ((i : Nat) : Int) old) ∧ h.IsStrIter it (strIterType x) x t i ∧ e ≠ it) where
  mem := by simp
  obj := fun i h st b hb => by
    obtain ⟨_, ⟨old, he⟩, ⟨o, ho, hc, hd⟩, _⟩ := st
    have e' : b = e ∨ b = it := by simpa using hb
    rcases e' with z | z
    · rw [z]; exact ⟨_, he, fun v q => nomatch q⟩
    · rw [z]; exact ⟨o, ho, fun v q => by rw [hd] at q; cases q⟩
  keep := fun i h h' st k => let ⟨hi, ⟨old, he⟩, ⟨o, ho, r⟩, hne⟩ := st; ⟨hi, ⟨old, k e (by simp) _ he⟩, ⟨o, k it (by simp) o ho, r⟩, hne⟩
  item := by
    intro X hP hw hK hc i pins s σ H E I hf st hg
    subst hP hw hK
    obtain ⟨hle, ⟨old, he⟩, hit, hne⟩ := st
    have hel : e < s.heap.objs.size := Heap.lt_size he
    have hil : it < s.heap.objs.size := by obtain ⟨_, q, _⟩ := hit; exact Heap.lt_size q
    have D := Draws.text (prog := X.prog) (w := X.w) (A := X.A.in1) (show X.A.in1.handled = none from I.ok.hd hc) it x t
    refine wpAny_pyNext_enum_itemD D he hit hg hne (by simpa using hne) fun u h' tk pu ho hit' hT hsz hk => ?_
    obtain ⟨c, tu, hcx, rfl⟩ := pu
    refine ⟨_, rfl, wpAny_letOwnedTupleGo_enum (s := { s with heap := h', toks := tk + 1 }) ho fun h'' he' sb => ?_⟩
    have hT2 : h''.get? s.heap.objs.size = some { cls := .type "tuple", data := .seq #[.int i tk, .str ⟨#[c]⟩ tu] } := (sb.2 _ (Nat.ne_of_gt hel)).trans hT
    have new : ObjOk X.prog X.w (upd H s.heap.objs.size (.tup [.int (i : Nat), .str ⟨#[c]⟩])) h'' s.heap.objs.size (.tup [.int (i : Nat), .str ⟨#[c]⟩]) :=
      ⟨by show 2 ≤ sizeLine; decide, [.int i tk, .str ⟨#[c]⟩ tu], .cons ⟨_, rfl⟩ (.cons ⟨_, rfl⟩ .nil), ⟨_, hT2, rfl, _, rfl⟩⟩
    have I1 : Inv X pins σ (upd H s.heap.objs.size (.tup [.int (i : Nat), .str ⟨#[c]⟩])) { s with heap := h'', toks := tk + 1 } :=
      I.turnedNew (ch := [e, it]) (fun b ob hb q => (sb.2 b (fun z => hb (by simp [z]))).trans (hk b ob (fun z => hb (by simp [z])) (fun z => hb (by simp [z])) q)) hf (Nat.le_refl _) new
    refine ⟨.ref s.heap.objs.size, _, I1, rfl, ⟨_, c, rfl, I.hok.fresh (Nat.le_refl _), rfl, hcx⟩, ⟨hg, ⟨.str ⟨#[c]⟩ tu, ?_⟩, ?_, hne⟩, fun b hb => ?_⟩
    · have e1 : ((i + 1 : Nat) : Int) = (i : Int) + 1 := by omega
      rw [e1]; exact he'
    · obtain ⟨o, q, r⟩ := hit'
      exact ⟨o, (sb.2 it (Ne.symm hne)).trans q, r⟩
    · have hb' : b < s.heap.objs.size := by
        have e' : b = e ∨ b = it := by simpa using hb
        rcases e' with z | z
        · rw [z]; exact hel
        · rw [z]; exact hil
      rw [upd_ne (Nat.ne_of_lt hb')]
      exact (hf b hb).1
  done := by
    intro X hP hw hK hc i pins s σ H E I hf st hg
    subst hP hw hK
    obtain ⟨hle, ⟨old, he⟩, hit, hne⟩ := st
    have ei : i = x.cps.size := Nat.le_antisymm hle hg
    obtain ⟨f0, f1, f2, f3, f4, f5⟩ := hf it (by simp)
    have D := Draws.text (prog := X.prog) (w := X.w) (A := X.A.in1) (show X.A.in1.handled = none from I.ok.hd hc) it x t
    rw [ei] at hit
    exact wpAny_pyNext_enum_endD D he hit fun h' eb => ⟨rfl, I.turned (t' := s.toks) (fun b o hb q => eb b o hb q) f0 f1 f3 f4 f5⟩
  self := fun A i s Q E st h => let ⟨_, ⟨_, he⟩, _⟩ := st; wpAny_pyIter_enum he h
def iEnumS (ta : TA) : TI := fun σ H R => ta σ H fun vs H1 => ∃ x, vs = [.str x] ∧ R (Itx x) H1
theorem pi_enumS {X : Cx} {e : Expr} {ta : TA} {p pos tpos : Pos} {elts : List Expr} {kk : Nat} (hg : Gl X "enumerate") (hm : X.mg "enumerate" = none) (ha : PA X [e] ta) (hs : starEach [e] X.env = [(false, eval e X.env)] := by rfl) :
    PI X (.Tuple elts kk tpos) (.Call (.Name "enumerate" p) [e] [] pos) (iEnumS ta) := by
  refine ⟨fun pins s σ H R I h => ?_⟩
  refine Call_ (ld_blt I hg hm boot_enumerate (PyProof.Rows.callWith_type1 (thn (ha.run pos pins s σ H _ I h) fun us s1 ⟨vs, H1, I1, r1, q1⟩ => ?_) hs rfl))
  obtain ⟨x, ex, q⟩ := q1
  subst ex
  cases r1 with
  | cons r rr =>
    cases rr
    obtain ⟨t, rfl⟩ := r
    refine call_enumerate_str fun h' he hit hsz hk => wpAny_pyIter_enum he ?_
    have I2 : Inv X pins σ H1 { s1 with heap := h' } := I1.kept (t' := s1.toks) hk
    refine ⟨s1.heap.objs.size + 1, [s1.heap.objs.size + 1, s1.heap.objs.size], _, _, H1, rfl, I2, turn_enumS x t (s1.heap.objs.size + 1) s1.heap.objs.size, ⟨Nat.zero_le _, ⟨.none, he⟩, hit, Nat.succ_ne_self _⟩, fun b hb => ?_, q⟩
    have e' : b = s1.heap.objs.size + 1 ∨ b = s1.heap.objs.size := by simpa using hb
    have hle : s1.heap.objs.size ≤ b := by
      rcases e' with z | z
      · rw [z]; exact Nat.le_add_right _ _
      · rw [z]; exact Nat.le_refl _
    exact I1.fpOk hle (I1.hok.fresh hle)
/-- over enumerate(text) -/
theorem for_enumS {x : Str} {g : TG} {tb : TS} {D : Ends} {σ : L2.St} {H : Hp} (Pv : Nat → L2.St → Hp → Prop) (h0 : Pv 0 σ H)
    (hs : ∀ i c T σ H, x.cps[i]? = some c → Pv i σ H → H T = none → g (.ref T) σ (upd H T (.tup [.int (i : Nat), .str ⟨#[c]⟩])) fun σ2 H2 => tb { D with nx := Pv (i + 1), ct := Pv (i + 1), bk := D.nx } σ2 H2) (hd : ∀ σ H, Pv x.cps.size σ H → D.nx σ H) :
    ∃ W : Nat → Nat → L2.St → Hp → Prop, (∃ m, W 0 m σ H) ∧ ∀ i m σ H, W i m σ H →
      ((Itx x).stop i H ∧ D.nx σ H) ∨ ((Itx x).go i H ∧ ∃ N : L2.St → Hp → Prop, (∀ σ' H', N σ' H' → ∃ m', m' < m ∧ W (i + 1) m' σ' H') ∧ ∀ v H', (Itx x).yld i H v H' → g v σ H' fun σ2 H2 => tb { D with nx := N, ct := N, bk := D.nx } σ2 H2) := by
  refine ⟨fun i m σ H => i ≤ x.cps.size ∧ m = x.cps.size - i ∧ Pv i σ H, ⟨_, Nat.zero_le _, rfl, h0⟩, ?_⟩
  rintro i m σ H ⟨hle, rfl, hp⟩
  by_cases hi : i < x.cps.size
  · refine .inr ⟨hi, Pv (i + 1), fun σ' H' p => ⟨_, ?_, hi, rfl, p⟩, fun v H' hy => ?_⟩
    · omega
    · obtain ⟨T, c, rfl, hT, rfl, hc⟩ := hy
      exact hs i c T σ H hc hp hT
  · have e : i = x.cps.size := by omega
    rw [e] at hp
    exact .inl ⟨by show x.cps.size ≤ i; omega, hd σ H hp⟩
/-! ### text * int, a text of one sign -/
def rMulS : R2 := fun x y H Q => ∃ (c : Nat) (n : Int), x = .str ⟨#[c]⟩ ∧ y = .int n ∧ -(2 ^ 63) ≤ n ∧ n ≤ 100000 ∧ Q (.str ⟨(List.replicate n.toNat c).toArray⟩) H
theorem rep_one (c : Nat) : ∀ n : Nat, (List.replicate n #[c]).foldl (· ++ ·) #[] = (List.replicate n c).toArray := by
  have key : ∀ (n : Nat) (acc : List Nat), (List.replicate n #[c]).foldl (· ++ ·) acc.toArray = (acc ++ List.replicate n c).toArray := by
    intro n
    induction n with
    | zero => intro acc; simp
    | succ n ih =>
      intro acc
      rw [List.replicate_succ, List.foldl_cons]
      have : acc.toArray ++ #[c] = (acc ++ [c]).toArray := by simp
      rw [this, ih, List.replicate_succ, List.append_assoc]
      rfl
  intro n
  have := key n []
  simpa using this
theorem op_mulS {X : Cx} : OpR X (binaryOp .Mult) rMulS := by
  intro pins s σ H x y v u Q I rx ry h
  obtain ⟨c, n, rfl, rfl, h1, h2, q⟩ := h
  obtain ⟨t, rfl⟩ := rx
  obtain ⟨t', rfl⟩ := ry
  have hlen : (⟨#[c]⟩ : Str).length = 1 := rfl
  by_cases hn : n < 1
  · refine P.mul_str_none hn (by omega) ?_
    refine ⟨.str Str.empty, H, I.tok _, ⟨_, rfl⟩, ?_⟩
    have e : n.toNat = 0 := by omega
    rw [e] at q
    exact q
  · have hc2 : ¬ n < 1 → (n == 1 || (⟨#[c]⟩ : Str).length == 0) = false → ¬ (((⟨#[c]⟩ : Str).length : Int) > (2 ^ 63 - 1) / n) := fun _ _ z => by
      rw [hlen] at z
      have h3 : (1 : Int) ≤ (2 ^ 63 - 1) / n := by
        rw [Int.le_ediv_iff_mul_le (by omega)]; omega
      exact absurd z (by omega)
    have hl2 : ¬ n < 1 → (n == 1 || (⟨#[c]⟩ : Str).length == 0) = false → Builtin.Str.tooLong ((⟨#[c]⟩ : Str).length * n.toNat) = false := fun _ _ => by
      rw [hlen]
      exact decide_eq_false (by show ¬ (1 * n.toNat > 2 ^ 24); omega)
    refine P.mul_str ?_ hc2 hl2 ?_
    · have e1 : ¬ n < -(2 ^ 63 : Int) := by omega
      have e2 : ¬ n ≥ 2 ^ 63 := by omega
      rw [decide_eq_false e1, decide_eq_false e2]; rfl
    · rw [if_neg hn]
      have z : (if (n == 1 || (⟨#[c]⟩ : Str).length == 0) = true then Made.val (.str ⟨#[c]⟩ t) else Made.str ⟨(List.replicate n.toNat #[c]).foldl (· ++ ·) #[]⟩).post (EP X pins σ Q) s := by
        by_cases e1 : n = 1
        · subst e1
          exact ⟨.str ⟨#[c]⟩, H, I, ⟨_, rfl⟩, q⟩
        · rw [if_neg (by rw [hlen]; simp [e1])]
          rw [rep_one]
          refine ⟨?_, ⟨.str _, H, I.tok _, ⟨_, rfl⟩, q⟩⟩
          show (List.replicate n.toNat c).toArray.size ≤ 2 ^ 24
          simp; omega
      exact z
end Hs

set_option Elab.async false
set_option linter.all false
set_option maxRecDepth 100000
set_option maxHeartbeats 4000000
/-! What a reading gives, as data; comprehensions whose elements hold no list. -/
namespace Hs
open PySem PySem.Spec PyProof.Rows L2
open Evl (Ex Ev EvT EvA EvL EvU)
/-! ### data without lists -/
mutual
def noL : PyData → Bool
  | .list _ => false
  | .tuple ds => noLs ds
  | _ => true
def noLs : List PyData → Bool
  | [] => true
  | d :: ds => noL d && noLs ds
end
/-- tuples stay -/
def ExT (H H' : Hp) : Prop := ∀ a u, H a = some u → (match u with | .tup _ => True | .frz _ _ => True | _ => False) → H' a = some u
theorem Ex.t {H H' : Hp} (e : Ex H H') : ExT H H' := fun a u h _ => e a u h
theorem ExT.trans {H H1 H2 : Hp} (e : ExT H H1) (f : ExT H1 H2) : ExT H H2 := fun a u h z => f a u (e a u h z) z
theorem ExT.mut {H H' : Hp} {a : Addr} {xs : List V} {o : HO} (e : ExT H H') (h : H' a = some (.lst xs)) : ExT H (upd H' a o) := fun b u hb z => by
  have hb' := e b u hb z
  have hne : b ≠ a := by
    rintro rfl
    rw [h] at hb'
    cases hb'
    exact z
  rw [upd_ne hne]; exact hb'
theorem exT_t {K : PySem.W.Frag} {H H' : Hp} {a : Addr} {xs : List V} (e : ExT H H') (h : SqT K H a xs) : SqT K H' a xs := by
  rcases h with (h | ⟨o, h⟩) | h
  · exact .inl (.inl (e _ _ h trivial))
  · exact .inl (.inr ⟨o, e _ _ h trivial⟩)
  · exact .inr h
section
variable {K : PySem.W.Frag} {H H' : Hp}
theorem noLs_cons {d : PyData} {ds : List PyData} (h : noLs (d :: ds) = true) : noL d = true ∧ noLs ds = true := by
  unfold noLs at h
  exact Bool.and_eq_true_iff.mp h
mutual
theorem Dp.exT (e : ExT H H') : ∀ {v : V} {d : PyData}, noL d = true → Dp K H v d → Dp K H' v d
  | _, _, _, .non => .non
  | _, _, _, .bl b => .bl b
  | _, _, _, .int i => .int i
  | _, _, _, .str x => .str x
  | _, _, n, .lst h r => by simp [noL] at n
  | _, _, n, .tup h r => .tup (exT_t e h) (DpAll.exT e (by simpa [noL] using n) r)
theorem DpAll.exT (e : ExT H H') : ∀ {vs : List V} {ds : List PyData}, noLs ds = true → DpAll K H vs ds → DpAll K H' vs ds
  | _, _, _, .nil => .nil
  | _, _, n, .cons h r => .cons (Dp.exT e (noLs_cons n).1 h) (DpAll.exT e (noLs_cons n).2 r)
end
theorem dsnoc : ∀ {vs : List V} {ds : List PyData} {v : V} {d : PyData}, DpAll K H vs ds → Dp K H v d → DpAll K H (vs ++ [v]) (ds ++ [d])
  | _, _, _, _, .nil, h => .cons h .nil
  | _, _, _, _, .cons a r, h => .cons a (dsnoc r h)
theorem dlen : ∀ {vs : List V} {ds : List PyData}, DpAll K H vs ds → vs.length = ds.length
  | _, _, .nil => rfl
  | _, _, .cons _ r => by rw [List.length_cons, List.length_cons, dlen r]
theorem dat : ∀ {vs : List V} {ds : List PyData} {i : Nat} {d : PyData}, DpAll K H vs ds → ds[i]? = some d → ∃ v, vs[i]? = some v ∧ Dp K H v d
  | _, _, i, d, .nil, h => by simp at h
  | _, _, 0, d, .cons a r, h => by
    have e : _ = d := Option.some.inj h
    rw [← e]; exact ⟨_, rfl, a⟩
  | _, _, i + 1, d, .cons a r, h => dat (i := i) r (by simpa using h)
theorem dat2 : ∀ {vs : List V} {ds : List PyData} {i : Nat} {v : V}, DpAll K H vs ds → vs[i]? = some v → ∃ d, ds[i]? = some d ∧ Dp K H v d
  | _, _, i, d, .nil, h => by simp at h
  | _, _, 0, d, .cons a r, h => by
    have e : _ = d := Option.some.inj h
    rw [← e]; exact ⟨_, rfl, a⟩
  | _, _, i + 1, v, .cons a r, h => dat2 (i := i) r (by simpa using h)
theorem noLs_append : ∀ {ds es : List PyData}, noLs ds = true → noLs es = true → noLs (ds ++ es) = true
  | [], _, _, h => h
  | d :: ds, es, h1, h2 => by
    obtain ⟨a, b⟩ := noLs_cons h1
    show noLs (d :: (ds ++ es)) = true
    unfold noLs
    rw [a, noLs_append b h2]; rfl
end
/-! ### what a reading gives -/
/-- a value of these data -/
def EvD (K : PySem.W.Frag) (te : TE) (σ : L2.St) (H : Hp) (d : PyData) : Prop := ∀ H1, Ex H H1 → ∀ Q : VK, (∀ v H2, Ex H1 H2 → Dp K H2 v d → Q v H2) → te σ H1 Q
/-- a new list of these -/
def EvLD (K : PySem.W.Frag) (te : TE) (σ : L2.St) (H : Hp) (ds : List PyData) : Prop := ∀ H1, Ex H H1 → ∀ Q : VK, (∀ p ys H2, H1 p = none → Ex H1 H2 → H2 p = some (.lst ys) → DpAll K H2 ys ds → Q (.ref p) H2) → te σ H1 Q
def EvAD (K : PySem.W.Frag) (ta : TA) (σ : L2.St) (H : Hp) (ds : List PyData) : Prop := ∀ H1, Ex H H1 → ∀ Q : List V → Hp → Prop, (∀ vs H2, Ex H1 H2 → DpAll K H2 vs ds → Q vs H2) → ta σ H1 Q
section
variable {K : PySem.W.Frag} {σ : L2.St} {H : Hp} {te ta tb : TE} {t : TT} {D : Ends} {tu tz : TS}
theorem ed_of {v : V} {d : PyData} (h : Ev te σ H v) (hd : Dp K H v d) : EvD K te σ H d := fun H1 e Q k => h H1 e Q fun H2 e2 => k v H2 e2 (Dp.ex (e.trans e2) hd)
theorem ed_int {i : Int} (h : Ev te σ H (.int i)) : EvD K te σ H (.int i) := ed_of h (.int i)
theorem ed_list {ds : List PyData} (h : EvLD K te σ H ds) : EvD K te σ H (.list ds) := fun H1 e Q k => h H1 e Q fun p ys H2 _ e2 h2 d2 => k _ H2 e2 (.lst (SqL.of h2) d2)
theorem ead_nil : EvAD K tNil σ H [] := fun H1 e Q k => k [] H1 (Ex.refl _) .nil
theorem ead_cons {tr : TA} {d : PyData} {ds : List PyData} (h : EvD K te σ H d) (hr : ∀ H1, Ex H H1 → EvAD K tr σ H1 ds) : EvAD K (tCons te tr) σ H (d :: ds) := fun H1 e Q k =>
  h H1 e _ fun v H2 e2 hv => hr H2 (e.trans e2) H2 (Ex.refl _) _ fun vs H3 e3 hvs => k _ H3 (e2.trans e3) (.cons (Dp.ex e3 hv) hvs)
theorem ed_tup {tr : TA} {ds : List PyData} (h : EvAD K tr σ H ds) (hl : ds.length ≤ 1000) : EvD K (tTup tr) σ H (.tuple ds) := fun H1 e Q k =>
  h H1 e _ fun vs H2 e2 hvs => ⟨by rw [dlen hvs]; exact Evl.sz_of (by omega), fun p hp => k _ _ (e2.trans (Ex.new hp)) (.tup (SqT.of upd_same) (DpAll.ex (Ex.new hp) hvs))⟩
theorem eld_lst {tr : TA} {ds : List PyData} (h : EvAD K tr σ H ds) (hl : ds.length ≤ 1000) : EvLD K (tLst tr) σ H ds := fun H1 e Q k =>
  h H1 e _ fun vs H2 e2 hvs => ⟨by rw [dlen hvs]; exact Evl.sz_of (by omega), fun p hp => k p vs _ (Evl.fresh_back e2 hp) (e2.trans (Ex.new hp)) upd_same (DpAll.ex (Ex.new hp) hvs)⟩
/-! ### comprehensions -/
def givenD (n : Nat) (f : Nat → Bool) (d : Nat → PyData) : List PyData := ((List.range n).filter f).map d
theorem givenD_yes {n : Nat} {f : Nat → Bool} {d : Nat → PyData} (h : f n = true) : givenD (n + 1) f d = givenD n f d ++ [d n] := by
  unfold givenD
  rw [List.range_succ, List.filter_append, List.map_append]
  simp [h]
theorem givenD_no {n : Nat} {f : Nat → Bool} {d : Nat → PyData} (h : f n = false) : givenD (n + 1) f d = givenD n f d := by
  unfold givenD
  rw [List.range_succ, List.filter_append, List.map_append]
  simp [h]
theorem givenD_len (n : Nat) (f : Nat → Bool) (d : Nat → PyData) : (givenD n f d).length ≤ n := by
  unfold givenD
  rw [List.length_map]
  exact Nat.le_trans (List.length_filter_le _ _) (by rw [List.length_range]; exact Nat.le_refl _)
/-- the list so far, at Dl -/
def CwD (K : PySem.W.Frag) (H : Hp) (f : Nat → Bool) (d : Nat → PyData) (Dl : Addr) (i : Nat) (H' : Hp) : Prop := H Dl = none ∧ Ex H H' ∧ noLs (givenD i f d) = true ∧ ∃ ys, H' Dl = some (.lst ys) ∧ DpAll K H' ys (givenD i f d)
theorem cwd_turn {H' : Hp} {f : Nat → Bool} {d : Nat → PyData} {Dl : Addr} {i : Nat} {σ2 : L2.St} (p : CwD K H f d Dl i H') (hi : i < 50000) (ht : EvT t σ2 H (f i)) (he : f i = true → EvD K te σ2 H (d i)) (hn : f i = true → noL (d i) = true) :
    t σ2 H' fun b H3 => if b = true then te σ2 H3 fun y H4 => ∃ acc, H4 Dl = some (.lst acc) ∧ acc.length < sizeLine ∧ CwD K H f d Dl (i + 1) (upd H4 Dl (.lst (acc ++ [y]))) else CwD K H f d Dl (i + 1) H3 := by
  obtain ⟨p1, p2, p3, ys, p4, p5⟩ := p
  refine ht H' p2 _ fun H3 e3 => ?_
  cases hf : f i with
  | true =>
    show te σ2 H3 fun y H4 => ∃ acc, H4 Dl = some (.lst acc) ∧ acc.length < sizeLine ∧ CwD K H f d Dl (i + 1) (upd H4 Dl (.lst (acc ++ [y])))
    refine he hf H3 (p2.trans e3) _ fun y H4 e4 hy => ⟨ys, e4 Dl _ (e3 Dl _ p4), ?_, p1, Ex.mut ((p2.trans e3).trans e4) p1, ?_, ys ++ [y], upd_same, ?_⟩
    · have h1 := dlen p5
      have h2 := givenD_len i f d
      exact Evl.sz_lt (by omega)
    · rw [givenD_yes hf]
      exact noLs_append p3 (by simp [noLs, hn hf])
    · have e5 : ExT H4 (upd H4 Dl (.lst (ys ++ [y]))) := ExT.mut (fun a u h _ => h) (e4 Dl _ (e3 Dl _ p4))
      rw [givenD_yes hf]
      exact dsnoc (DpAll.exT ((Ex.t (e3.trans e4)).trans e5) p3 p5) (Dp.exT e5 (hn hf) hy)
  | false =>
    show CwD K H f d Dl (i + 1) H3
    refine ⟨p1, p2.trans e3, ?_, ys, e3 Dl _ p4, ?_⟩
    · rw [givenD_no hf]; exact p3
    · rw [givenD_no hf]; exact DpAll.ex e3 p5
/-- a turn: what the target's store leaves, the test, the element -/
structure TurnD (K : PySem.W.Frag) (g : TG) (t : TT) (te : TE) (σ : L2.St) (vs : List Nat) (H1 : Hp) (x : V) (b : Bool) (d : PyData) : Prop where
  ex : ∃ σ2, (∀ Q : L2.St → Hp → Prop, ∀ H2, Ex H1 H2 → Q σ2 H2 → g x (wipe σ vs) H2 Q) ∧ wipe σ2 vs = wipe σ vs ∧ EvT t σ2 H1 b ∧ (b = true → EvD K te σ2 H1 d ∧ noL d = true)
theorem eld_lcL {a : Addr} {xs : List V} {tl : TE} {g : TG} {vs : List Nat} (f : Nat → Bool) (d : Nat → PyData) (h : Ev tl σ H (.ref a)) (hx : SqL K H a xs) (hz : xs.length ≤ 40000)
    (turn : ∀ (i : Nat) (x : V) H1, Ex H H1 → xs[i]? = some x → TurnD K g t te σ vs H1 x (f i) (d i)) : EvLD K (tLc (iList K tl) g t te vs) σ H (givenD xs.length f d) := fun H0 e Q q => h H0 e _ fun H1 e1 => ⟨a, rfl, ⟨xs, Evl.ex_l (e.trans e1) hx⟩, fun Dl hD =>
  lc_list (xs := xs) (CwD K H1 f d Dl) ⟨hD, Ex.new hD, rfl, [], upd_same, .nil⟩ (fun i H' _ p => Evl.ex_l ((e.trans e1).trans p.2.1) hx) (fun i x H' hi p => by
    obtain ⟨σ2, h1, h2, h3, h4⟩ := (turn i x H1 (e.trans e1) hi).ex
    exact h1 _ H' p.2.1 ⟨h2, cwd_turn p (by have := (List.getElem?_eq_some_iff.mp hi).1; omega) h3 (fun z => (h4 z).1) fun z => (h4 z).2⟩)
    (fun H' p => by
      obtain ⟨p1, p2, _, ys, p4, p5⟩ := p
      exact q Dl ys H' (Evl.fresh_back e1 p1) (e1.trans p2) p4 p5)⟩
theorem eld_lcT {a : Addr} {xs : List V} {tl : TE} {g : TG} {vs : List Nat} (f : Nat → Bool) (d : Nat → PyData) (h : Ev tl σ H (.ref a)) (hx : SqT K H a xs) (hz : xs.length ≤ 40000)
    (turn : ∀ (i : Nat) (x : V) H1, Ex H H1 → xs[i]? = some x → TurnD K g t te σ vs H1 x (f i) (d i)) : EvLD K (tLc (iTup K tl) g t te vs) σ H (givenD xs.length f d) := fun H0 e Q q => h H0 e _ fun H1 e1 => ⟨a, rfl, ⟨xs, Evl.ex_t (e.trans e1) hx⟩, fun Dl hD =>
  lc_tup (xs := xs) (CwD K H1 f d Dl) ⟨hD, Ex.new hD, rfl, [], upd_same, .nil⟩ (fun i H' _ p => Evl.ex_t ((e.trans e1).trans p.2.1) hx) (fun i x H' hi p => by
    obtain ⟨σ2, h1, h2, h3, h4⟩ := (turn i x H1 (e.trans e1) hi).ex
    exact h1 _ H' p.2.1 ⟨h2, cwd_turn p (by have := (List.getElem?_eq_some_iff.mp hi).1; omega) h3 (fun z => (h4 z).1) fun z => (h4 z).2⟩)
    (fun H' p => by
      obtain ⟨p1, p2, _, ys, p4, p5⟩ := p
      exact q Dl ys H' (Evl.fresh_back e1 p1) (e1.trans p2) p4 p5)⟩
/-- over a tuple that is made on the way -/
theorem eld_lcU {xs : List V} {tl : TE} {g : TG} {vs : List Nat} (f : Nat → Bool) (d : Nat → PyData) (h : EvU tl σ H xs) (hz : xs.length ≤ 40000)
    (turn : ∀ (i : Nat) (x : V) H1, Ex H H1 → xs[i]? = some x → TurnD K g t te σ vs H1 x (f i) (d i)) : EvLD K (tLc (iTup K tl) g t te vs) σ H (givenD xs.length f d) := fun H0 e Q q => h H0 e _ fun a H1 ha e1 hx => ⟨a, rfl, ⟨xs, SqT.of hx⟩, fun Dl hD =>
  lc_tup (xs := xs) (CwD K H1 f d Dl) ⟨hD, Ex.new hD, rfl, [], upd_same, .nil⟩ (fun i H' _ p => Evl.ex_t p.2.1 (SqT.of hx)) (fun i x H' hi p => by
    obtain ⟨σ2, h1, h2, h3, h4⟩ := (turn i x H1 (e.trans e1) hi).ex
    exact h1 _ H' p.2.1 ⟨h2, cwd_turn p (by have := (List.getElem?_eq_some_iff.mp hi).1; omega) h3 (fun z => (h4 z).1) fun z => (h4 z).2⟩)
    (fun H' p => by
      obtain ⟨p1, p2, _, ys, p4, p5⟩ := p
      exact q Dl ys H' (Evl.fresh_back e1 p1) (e1.trans p2) p4 p5)⟩
/-- over a new list -/
theorem eld_lcN {ws : List PyData} {tl : TE} {g : TG} {vs : List Nat} (f : Nat → Bool) (d : Nat → PyData) (h : EvLD K tl σ H ws) (hz : ws.length ≤ 40000)
    (turn : ∀ (i : Nat) (x : V) (wd : PyData) H1, Ex H H1 → ws[i]? = some wd → Dp K H1 x wd → TurnD K g t te σ vs H1 x (f i) (d i)) : EvLD K (tLc (iList K tl) g t te vs) σ H (givenD ws.length f d) := fun H0 e Q q => h H0 e _ fun a xs H1 ha e1 hx hd => ⟨a, rfl, ⟨xs, SqL.of hx⟩, fun Dl hD => by
  have el := dlen hd
  rw [← el] at q
  exact lc_list (xs := xs) (CwD K H1 f d Dl) ⟨hD, Ex.new hD, rfl, [], upd_same, .nil⟩ (fun i H' _ p => Evl.ex_l p.2.1 (SqL.of hx)) (fun i x H' hi p => by
    obtain ⟨wd, hw, hx'⟩ := dat2 hd hi
    obtain ⟨σ2, h1, h2, h3, h4⟩ := (turn i x wd H1 (e.trans e1) hw hx').ex
    exact h1 _ H' p.2.1 ⟨h2, cwd_turn p (by have := (List.getElem?_eq_some_iff.mp hi).1; omega) h3 (fun z => (h4 z).1) fun z => (h4 z).2⟩)
    (fun H' p => by
      obtain ⟨p1, p2, _, ys, p4, p5⟩ := p
      exact q Dl ys H' (Evl.fresh_back e1 p1) (e1.trans p2) p4 p5)⟩
theorem eld_lcR1 {ta : TA} {g : TG} {vs : List Nat} {n : Int} (f : Nat → Bool) (d : Nat → PyData) (h : EvA ta σ H [.int n]) (hn : 0 ≤ n ∧ n ≤ 40000)
    (turn : ∀ (i : Nat) H1, Ex H H1 → (i : Int) < n → TurnD K g t te σ vs H1 (.int (0 + (i : Int))) (f i) (d i)) : EvLD K (tLc (iRng1 ta) g t te vs) σ H (givenD n.toNat f d) := fun H0 e Q q => h H0 e _ fun H1 e1 => ⟨n, rfl, by omega, by omega, fun Dl hD =>
  lc_range (lo := 0) (n := n.toNat) (CwD K H1 f d Dl) ⟨hD, Ex.new hD, rfl, [], upd_same, .nil⟩ (fun i H' hi p => by
    obtain ⟨σ2, h1, h2, h3, h4⟩ := (turn i H1 (e.trans e1) (by omega)).ex
    exact h1 _ H' p.2.1 ⟨h2, cwd_turn p (by omega) h3 (fun z => (h4 z).1) fun z => (h4 z).2⟩)
    (fun H' p => by
      obtain ⟨p1, p2, _, ys, p4, p5⟩ := p
      exact q Dl ys H' (Evl.fresh_back e1 p1) (e1.trans p2) p4 p5)⟩
/-- over a text -/
theorem eld_lcS {x : Str} {tl : TE} {g : TG} {vs : List Nat} (f : Nat → Bool) (d : Nat → PyData) (h : Ev tl σ H (.str x)) (hz : x.cps.size ≤ 40000)
    (turn : ∀ (i c : Nat) H1, Ex H H1 → x.cps[i]? = some c → TurnD K g t te σ vs H1 (.str ⟨#[c]⟩) (f i) (d i)) : EvLD K (tLc (iStr tl) g t te vs) σ H (givenD x.cps.size f d) := fun H0 e Q q => h H0 e _ fun H1 e1 => ⟨x, rfl, fun Dl hD => by
  refine ⟨fun i m H' => i ≤ x.cps.size ∧ m = x.cps.size - i ∧ CwD K H1 f d Dl i H', ⟨_, Nat.zero_le _, rfl, hD, Ex.new hD, rfl, [], upd_same, .nil⟩, ?_⟩
  rintro i m H' ⟨hle, rfl, p⟩
  by_cases hi : i < x.cps.size
  · refine .inr ⟨hi, CwD K H1 f d Dl (i + 1), fun H' p => ⟨_, ?_, hi, rfl, p⟩, fun v H2 hy => ?_⟩
    · omega
    · obtain ⟨rfl, c, hc, rfl⟩ := hy
      obtain ⟨σ2, h1, h2, h3, h4⟩ := (turn i c H1 (e.trans e1) hc).ex
      exact h1 _ _ p.2.1 ⟨h2, cwd_turn p (by omega) h3 (fun z => (h4 z).1) fun z => (h4 z).2⟩
  · have ei : i = x.cps.size := by omega
    rw [ei] at p
    obtain ⟨p1, p2, _, ys, p4, p5⟩ := p
    exact .inl ⟨by show x.cps.size ≤ i; omega, q Dl ys H' (Evl.fresh_back e1 p1) (e1.trans p2) p4 p5⟩⟩
end
theorem dstrs {K : PySem.W.Frag} {H : Hp} : ∀ {zs : List Str} {ys : List V}, DpAll K H ys (zs.map PyData.str) → ys = zs.map V.str
  | [], _, .nil => rfl
  | z :: zs, _, .cons (.str _) r => by rw [dstrs r]; rfl
theorem dints {K : PySem.W.Frag} {H : Hp} : ∀ {zs : List Int} {ys : List V}, DpAll K H ys (zs.map PyData.int) → ys = zs.map V.int
  | [], _, .nil => rfl
  | z :: zs, _, .cons (.int _) r => by rw [dints r]; rfl
theorem dints' {K : PySem.W.Frag} {H : Hp} : ∀ (zs : List Int), DpAll K H (zs.map V.int) (zs.map PyData.int)
  | [] => .nil
  | _ :: zs => .cons (.int _) (dints' zs)
theorem noLs_ints : ∀ zs : List Int, noLs (zs.map PyData.int) = true
  | [] => rfl
  | _ :: zs => noLs_ints zs
/-! ### one step of a reading, by its own form -/
section
variable {K : PySem.W.Frag} {σ : L2.St} {H : Hp} {Q : VK} {te ta tb : TE} {r : R2} {t : TT} {QB : Bool → Hp → Prop} {D : Ends} {tu tz : TS} {g : TG}
theorem runL {ds : List PyData} (h : EvLD K te σ H ds) (k : ∀ p ys H2, H p = none → Ex H H2 → H2 p = some (.lst ys) → DpAll K H2 ys ds → Q (.ref p) H2) : te σ H Q := h H (Ex.refl _) Q k
theorem runD {d : PyData} (h : EvD K te σ H d) (k : ∀ v H2, Ex H H2 → Dp K H2 v d → Q v H2) : te σ H Q := h H (Ex.refl _) Q k
theorem runV {v : V} (h : Ev te σ H v) (k : ∀ H2, Ex H H2 → Q v H2) : te σ H Q := h H (Ex.refl _) Q k
theorem go_test (h : te σ H fun x H' => ∃ k, x = .bl k ∧ QB k H') : tTest te σ H QB := h
theorem go_op (h : ta σ H fun x H1 => tb σ H1 fun y H2 => r x y H2 Q) : tOp r ta tb σ H Q := h
theorem go_seq (h : tu { D with nx := tz D } σ H) : tSeq tu tz D σ H := h
theorem go_asg (h : te σ H fun x H1 => g x σ H1 D.nx) : tAsg te g D σ H := h
theorem go_cb1 {r : List V → Hp → VK → Prop} (h : te σ H fun x H1 => r [x] H1 Q) : tCB r (tCons te tNil) σ H Q := h
theorem go_cl1 {sp : Sp} (h : te σ H fun x H1 => sp [x] H1 Q E0) : tCl sp (tCons te tNil) σ H Q := h
theorem go_ret (h : te σ H D.rt) : tRet te D σ H := h
theorem go_next {F B C : L2.St → Hp → Prop} {R : VK} (h : F σ H) : tNext ⟨F, R, B, C⟩ σ H := h
theorem go_if (h : t σ H fun b H1 => if b = true then tu D σ H1 else tz D σ H1) : tIfS t tu tz D σ H := h
theorem go_drop {F B C : L2.St → Hp → Prop} {R : VK} (h : te σ H fun _ H1 => F σ H1) : tDrop te ⟨F, R, B, C⟩ σ H := h
end
end Hs

set_option Elab.async false
set_option linter.all false
set_option maxRecDepth 100000
set_option maxHeartbeats 4000000
/-! works.py: the walk. -/
namespace Hs
open PySem PySem.Spec PyProof.Rows L2
open Evl (Ex)
variable {P : Program} {w : World} {K : PySem.W.Frag} {mg : Str → Option Value} {base : Heap}
/-! ### tests that are known -/
theorem itD {p : Prop} [Decidable p] {A B : Prop} (h : p) (a : A) : if decide p = true then A else B := by
  rw [if_pos (decide_eq_true h)]; exact a
theorem ifD {p : Prop} [Decidable p] {A B : Prop} (h : ¬ p) (b : B) : if decide p = true then A else B := by
  rw [decide_eq_false h]; exact iteF b
theorem itB {c : Bool} {A B : Prop} (h : c = true) (a : A) : if c = true then A else B := by
  rw [if_pos h]; exact a
theorem ifB {c : Bool} {A B : Prop} (h : c = false) (b : B) : if c = true then A else B := by
  rw [h]; exact iteF b
/-! ### two -/
theorem sc_two : FnScope ["many", "found", "turn"] ["many"] (defScope s_two) := ⟨rfl, rfl, rfl, by decide +kernel, rfl, by decide +kernel, by decide +kernel⟩
def sp_two : Sp := fun vs H Q _ => ∃ m : Int, vs = [.int m] ∧ 0 ≤ m ∧ m ≤ 5000 ∧ Q (.int (two m)) H
theorem ok_two (T : Top K mg) : Okd P w K mg base 1 (He.ga K "two") ["many"] sp_two := by
  refine okd_of T.fd_two sc_two (fun vs H Q E h => ?_) (fun _ _ _ _ _ _ us hl => match us, hl with | [_], _ => rfl) (fun cdv A outer s H vs Q E hr h => ?_)
  · obtain ⟨m, rfl, _⟩ := h; rfl
  · obtain ⟨m, rfl, h0, h1, k⟩ := h
    refine ⟨_, pss_cons (ps_set (i := 1) sc_two.nd rfl (.inl rfl) pe_int)
      (pss_cons (ps_for PassesOwn.never rfl (pi_range1 rfl T.f_range (pa_cons (pv 0) pa_nil)) (pg_name (i := 2) sc_two.nd rfl (.inl rfl))
        (pss_one (ps_aug (i := 1) sc_two.nd rfl (.inl rfl) pe_int (iop_mul)))) (pss_one (ps_ret (pv 1)))), ?_⟩
    refine ⟨_, rfl, m, rfl, by omega, by omega, for_range (lo := 0) (n := m.toNat) (fun i σ H1 => H1 = H ∧ ∃ z, σ = [some (.int m), some (.int (2 ^ i)), z]) ⟨rfl, _, rfl⟩ ?_ ?_⟩
    · rintro i σ H1 hi ⟨rfl, z, rfl⟩
      refine ⟨_, rfl, _, _, rfl, rfl, .inr ⟨by decide, by decide⟩, rfl, some (V.int (0 + (i : Int))), ?_⟩
      show _ = [some (V.int m), some (V.int (2 ^ (i + 1))), some (V.int (0 + (i : Int)))]
      rw [Int.pow_succ]; rfl
    · rintro σ H1 ⟨rfl, z, rfl⟩
      exact ⟨_, rfl, k⟩
/-! ### need_number -/
theorem sc_need_number : FnScope ["number"] ["number"] (defScope s_need_number) := ⟨rfl, rfl, rfl, by decide +kernel, rfl, by decide +kernel, by decide +kernel⟩
def Far (n : Int) : Prop := 0 - 10 ^ 60 ≤ n ∧ n ≤ 10 ^ 60
theorem Far.bd {n : Int} (h : Far n) : Bd 200 n := by
  have h1 : (10 : Int) ^ 60 < 2 ^ 200 := by decide
  obtain ⟨a, b⟩ := h
  unfold Bd
  have : (2 : Int) ^ 200 = ((2 ^ 200 : Nat) : Int) := by norm_cast
  omega
def sp_need_number : Sp := fun vs H Q _ => ∃ n : Int, vs = [.int n] ∧ Far n ∧ Q .non H
theorem ok_need_number (T : Top K mg) : Okd P w K mg base 1 (He.ga K "need_number") ["number"] sp_need_number := by
  refine okd_of T.fd_need_number sc_need_number (fun vs H Q E h => ?_) (fun _ _ _ _ _ _ us hl => match us, hl with | [_], _ => rfl) (fun cdv A outer s H vs Q E hr h => ?_)
  · obtain ⟨m, rfl, _⟩ := h; rfl
  · obtain ⟨n, rfl, ⟨h0, h1⟩, k⟩ := h
    obtain ⟨tF, gF⟩ := T.i_FAR
    refine ⟨_, pss_one (ps_if (pt_not (pt_chain op_le op_le (pe_op op_sub pe_int (pgi gF)) (pv 0) (pgi gF))) pss_never pss_nil), ?_⟩
    refine ⟨_, _, rfl, rfl, _, rfl, _, _, rfl, rfl, _, rfl, itD h0 ⟨_, _, rfl, rfl, _, rfl, ?_⟩⟩
    rw [decide_eq_true h1]
    exact iteF k
/-! ### need_card -/
theorem sc_need_card : FnScope ["one", "i", "j", "a", "b"] ["one"] (defScope s_need_card) := ⟨rfl, rfl, rfl, by decide +kernel, rfl, by decide +kernel, by decide +kernel⟩
structure Good (c : Card) : Prop where
  i0 : 0 ≤ c.i
  i1 : c.i ≤ 1000
  j0 : 0 ≤ c.j
  j1 : c.j ≤ 1000
  a0 : 0 ≤ c.a
  a1 : c.a < two c.j
  b : Far c.b
theorem Good.ck {c : Card} (h : Good c) : Ck 1000 200 c := ⟨h.i0, h.i1, h.j0, h.j1, h.a0, h.a1, h.b.bd⟩
def sp_need_card (K : PySem.W.Frag) : Sp := fun vs H Q _ => ∃ v c, vs = [v] ∧ Cd K H v c ∧ Good c ∧ Q .non H
theorem ok_need_card (T : Top K mg) : Okd P w K mg base 2 (He.ga K "need_card") ["one"] (sp_need_card K) := by
  refine okd_of T.fd_need_card sc_need_card (fun vs H Q E h => ?_) (fun _ _ _ _ _ _ us hl => match us, hl with | [_], _ => rfl) (fun cdv A outer s H vs Q E hr h => ?_)
  · obtain ⟨v, c, rfl, _⟩ := h; rfl
  · obtain ⟨v, c, rfl, ⟨p, rfl, hp⟩, g, k⟩ := h
    obtain ⟨tF, gF⟩ := T.i_FAR
    obtain ⟨tB, gB⟩ := T.i_MOST_BITS
    have D := ok_two (P := P) (w := w) (base := base) T
    refine ⟨_, pss_cons (ps_asg (pv 0) (pg_tup rfl (pgs_cons (pg_name (i := 1) sc_need_card.nd rfl (.inl rfl)) (pgs_cons (pg_name (i := 2) sc_need_card.nd rfl (.inl rfl)) (pgs_cons (pg_name (i := 3) sc_need_card.nd rfl (.inl rfl)) (pgs_cons (pg_name (i := 4) sc_need_card.nd rfl (.inl rfl)) pgs_nil))))))
      (pss_cons (ps_if (pt_not (pt_chain op_le op_le pe_int (pv 1) (pgi gB))) pss_never pss_nil)
      (pss_cons (ps_if (pt_not (pt_chain op_le op_le pe_int (pv 2) (pgi gB))) pss_never pss_nil)
      (pss_cons (ps_if (pt_not (pt_chain op_le op_lt pe_int (pv 3) (pc D hr T.g_two (pa_cons (pv 2) pa_nil)))) pss_never pss_nil)
      (pss_one (ps_if (pt_not (pt_chain op_le op_le (pe_op op_sub pe_int (pgi gF)) (pv 4) (pgi gF))) pss_never pss_nil))))), ?_⟩
    refine ⟨_, rfl, p, _, rfl, hp, rfl, _, _, rfl, _, _, rfl, _, _, rfl, _, _, rfl, rfl, ?_⟩
    refine ⟨_, rfl, _, _, rfl, rfl, _, rfl, itD g.i0 ⟨_, _, rfl, rfl, _, rfl, ?_⟩⟩
    rw [decide_eq_true g.i1]
    refine iteF ?_
    refine ⟨_, rfl, _, _, rfl, rfl, _, rfl, itD g.j0 ⟨_, _, rfl, rfl, _, rfl, ?_⟩⟩
    rw [decide_eq_true g.j1]
    refine iteF ?_
    refine ⟨_, rfl, _, _, rfl, rfl, _, rfl, itD g.a0 ⟨_, rfl, c.j, rfl, g.j0, by have := g.j1; omega, _, _, rfl, rfl, _, rfl, ?_⟩⟩
    rw [decide_eq_true g.a1]
    refine iteF ?_
    refine ⟨_, _, rfl, rfl, _, rfl, _, _, rfl, rfl, _, rfl, itD g.b.1 ⟨_, _, rfl, rfl, _, rfl, ?_⟩⟩
    rw [decide_eq_true g.b.2]
    exact iteF k
end Hs

set_option Elab.async false
set_option linter.all false
set_option maxRecDepth 100000
set_option maxHeartbeats 4000000
/-! works.py: works and cards. -/
namespace Hs
open PySem PySem.Spec PyProof.Rows L2
open Evl (Ex)
variable {P : Program} {w : World} {K : PySem.W.Frag} {mg : Str → Option Value} {base : Heap}
/-! ### signs -/
def IsSign (c : Nat) : Prop := c = 43 ∨ c = 45 ∨ c = 50 ∨ c = 47
structure Wk (x : Str) : Prop where
  size : x.cps.size ≤ 20
  all : ∀ c ∈ x.cps.toList, IsSign c
theorem sg_eq {c d : Nat} : (V.str ⟨#[c]⟩ = V.str ⟨#[d]⟩) ↔ c = d := by
  constructor
  · intro h; injection h with h; injection h with h; simpa using h
  · rintro rfl; rfl
theorem tx_two : ("2" : Str) = ⟨#[50]⟩ := by decide +kernel
theorem tx_half : ("/" : Str) = ⟨#[47]⟩ := by decide +kernel
theorem tx_plus : ("+" : Str) = ⟨#[43]⟩ := by decide +kernel
theorem tx_minus : ("-" : Str) = ⟨#[45]⟩ := by decide +kernel
theorem tx_signs : ("+-2/" : Str) = ⟨#[43, 45, 50, 47]⟩ := by decide +kernel
theorem Wk.at_ {x : Str} (h : Wk x) {i c : Nat} (e : x.cps[i]? = some c) : IsSign c ∧ i < 20 := by
  obtain ⟨hi, e2⟩ := Array.getElem?_eq_some_iff.mp e
  refine ⟨h.all c ?_, Nat.lt_of_lt_of_le hi h.size⟩
  rw [← e2]
  exact Array.getElem_mem_toList hi
theorem for_str {x : Str} {g : TG} {tb : TS} {D : Ends} {σ : L2.St} {H : Hp} (Pv : Nat → L2.St → Hp → Prop) (h0 : Pv 0 σ H)
    (hs : ∀ i c σ H, x.cps[i]? = some c → Pv i σ H → g (.str ⟨#[c]⟩) σ H fun σ2 H2 => tb { D with nx := Pv (i + 1), ct := Pv (i + 1), bk := D.nx } σ2 H2) (hd : ∀ σ H, Pv x.cps.size σ H → D.nx σ H) :
    ∃ W : Nat → Nat → L2.St → Hp → Prop, (∃ m, W 0 m σ H) ∧ ∀ i m σ H, W i m σ H →
      ((Its x).stop i H ∧ D.nx σ H) ∨ ((Its x).go i H ∧ ∃ N : L2.St → Hp → Prop, (∀ σ' H', N σ' H' → ∃ m', m' < m ∧ W (i + 1) m' σ' H') ∧ ∀ v H', (Its x).yld i H v H' → g v σ H' fun σ2 H2 => tb { D with nx := N, ct := N, bk := D.nx } σ2 H2) := by
  refine ⟨fun i m σ H => i ≤ x.cps.size ∧ m = x.cps.size - i ∧ Pv i σ H, ⟨_, Nat.zero_le _, rfl, h0⟩, ?_⟩
  rintro i m σ H ⟨hle, rfl, hp⟩
  by_cases hi : i < x.cps.size
  · refine .inr ⟨hi, Pv (i + 1), fun σ' H' p => ⟨_, ?_, hi, rfl, p⟩, fun v H' hy => ?_⟩
    · omega
    · obtain ⟨rfl, c, hc, rfl⟩ := hy
      exact hs i c σ H' hc hp
  · have e : i = x.cps.size := by omega
    rw [e] at hp
    exact .inl ⟨by show x.cps.size ≤ i; omega, hd σ H hp⟩
/-! ### need_work -/
theorem sc_need_work : FnScope ["work", "place", "sign"] ["work"] (defScope s_need_work) := ⟨rfl, rfl, rfl, by decide +kernel, rfl, by decide +kernel, by decide +kernel⟩
def sp_need_work : Sp := fun vs H Q _ => ∃ x : Str, vs = [.str x] ∧ Wk x ∧ ∀ H2, Ex H H2 → Q .non H2
theorem ok_need_work (T : Top K mg) : Okd P w K mg base 1 (He.ga K "need_work") ["work"] sp_need_work := by
  refine okd_of T.fd_need_work sc_need_work (fun vs H Q E h => ?_) (fun _ _ _ _ _ _ us hl => match us, hl with | [_], _ => rfl) (fun cdv A outer s H vs Q E hr h => ?_)
  · obtain ⟨m, rfl, _⟩ := h; rfl
  · obtain ⟨x, rfl, wk, k⟩ := h
    obtain ⟨tM, gM⟩ := T.i_MOST_SIGNS
    obtain ⟨tS, gS⟩ := T.s_SIGNS
    refine ⟨_, pss_one (ps_for PassesOwn.never rfl (pi_enumS rfl T.f_enumerate (pa_cons (pv 0) pa_nil)) (pg_tup rfl (pgs_cons (pg_name (i := 1) sc_need_work.nd rfl (.inl rfl)) (pgs_cons (pg_name (i := 2) sc_need_work.nd rfl (.inl rfl)) pgs_nil)))
      (pss_one (ps_if (PW.pt (pw_or (pt_cmpR op_eq (pv 1) (pgi gM) (nomark _)) (pw_or1 (pt_cmpR op_notIn_sign (pv 2) (pgs gS) rfl)))) pss_never pss_nil))), ?_⟩
    refine ⟨_, rfl, x, rfl, for_enumS (fun i σ H1 => Ex H H1 ∧ ∃ a b, σ = [some (.str x), a, b]) ⟨Ex.refl _, _, _, rfl⟩ ?_ ?_⟩
    · rintro i c T' σ H1 hc ⟨e1, a, b, rfl⟩ hT
      obtain ⟨hs, hi⟩ := wk.at_ hc
      refine ⟨T', _, rfl, SqT.of upd_same, rfl, _, _, rfl, _, _, rfl, rfl, ?_⟩
      refine ⟨_, rfl, rfl, _, rfl, ?_⟩
      have n1 : ¬ (V.int (i : Int) = V.int 400) := fun z => by injection z with z; omega
      rw [decide_eq_false n1]
      refine iteF ?_
      refine ⟨_, rfl, c, _, rfl, rfl, _, rfl, ?_⟩
      have n2 : c ∈ (("+-2/" : Str)).cps.toList := by
        rw [tx_signs]
        rcases hs with z | z | z | z <;> subst z <;> simp
      rw [decide_eq_true n2]
      refine iteF ?_
      exact ⟨e1.trans (Ex.new hT), some (.int (i : Nat)), some (.str ⟨#[c]⟩), rfl⟩
    · rintro σ H1 ⟨e1, _⟩
      exact k H1 e1
/-! ### step_on, run -/
def stepOn (c : Nat) (n : Int) : Int := if c = 50 then 2 * n else if c = 47 then n / 2 else if c = 43 then n + 1 else n - 1
theorem sc_step_on : FnScope ["sign", "number"] ["sign", "number"] (defScope s_step_on) := ⟨rfl, rfl, rfl, by decide +kernel, rfl, by decide +kernel, by decide +kernel⟩
def sp_step_on : Sp := fun vs H Q _ => ∃ (c : Nat) (n : Int), vs = [.str ⟨#[c]⟩, .int n] ∧ Q (.int (stepOn c n)) H
theorem ok_step_on (T : Top K mg) : Okd P w K mg base 1 (He.ga K "step_on") ["sign", "number"] sp_step_on := by
  refine okd_of T.fd_step_on sc_step_on (fun vs H Q E h => ?_) (fun _ _ _ _ _ _ us hl => match us, hl with | [_, _], _ => rfl) (fun cdv A outer s H vs Q E hr h => ?_)
  · obtain ⟨_, _, rfl, _⟩ := h; rfl
  · obtain ⟨c, n, rfl, k⟩ := h
    refine ⟨_, pss_cons (ps_if (pt_cmpR op_eq (pv 0) pe_str (nomark _)) (pss_one (ps_ret (pe_op op_mul pe_int (pv 1)))) pss_nil)
      (pss_cons (ps_if (pt_cmpR op_eq (pv 0) pe_str (nomark _)) (pss_one (ps_ret (pe_op op_fdiv (pv 1) pe_int))) pss_nil)
      (pss_one (ps_ret (pe_ifExp (pt_cmpR op_eq (pv 0) pe_str (nomark _)) (pe_op op_add (pv 1) pe_int) (pe_op op_sub (pv 1) pe_int))))), ?_⟩
    unfold stepOn at k
    refine ⟨_, rfl, rfl, _, rfl, ?_⟩
    rw [tx_two]
    by_cases h1 : c = 50
    · rw [if_pos h1] at k
      refine itD (sg_eq.mpr h1) ⟨_, rfl, _, _, rfl, rfl, .inl ⟨by decide, by decide⟩, k⟩
    rw [if_neg h1] at k
    refine ifD (fun z => h1 (sg_eq.mp z)) ?_
    refine ⟨_, rfl, rfl, _, rfl, ?_⟩
    rw [tx_half]
    by_cases h2 : c = 47
    · rw [if_pos h2] at k
      refine itD (sg_eq.mpr h2) ⟨_, rfl, _, _, rfl, rfl, ⟨by decide, by decide⟩, k⟩
    rw [if_neg h2] at k
    refine ifD (fun z => h2 (sg_eq.mp z)) ?_
    refine ⟨_, rfl, rfl, _, rfl, ?_⟩
    rw [tx_plus]
    by_cases h3 : c = 43
    · rw [if_pos h3] at k
      exact itD (sg_eq.mpr h3) ⟨_, rfl, _, _, rfl, rfl, k⟩
    · rw [if_neg h3] at k
      exact ifD (fun z => h3 (sg_eq.mp z)) ⟨_, rfl, _, _, rfl, rfl, k⟩
def runF (l : List Nat) (n : Int) : Int := l.foldl (fun n c => stepOn c n) n
theorem take_snoc {α : Type} {l : List α} {i : Nat} {c : α} (e : l[i]? = some c) : l.take (i + 1) = l.take i ++ [c] := by
  rw [List.take_add_one, e]; rfl
theorem sc_run : FnScope ["work", "n", "sign"] ["work", "n"] (defScope s_run) := ⟨rfl, rfl, rfl, by decide +kernel, rfl, by decide +kernel, by decide +kernel⟩
def sp_run : Sp := fun vs H Q _ => ∃ (x : Str) (n : Int), vs = [.str x, .int n] ∧ Wk x ∧ Far n ∧ ∀ H2, Ex H H2 → Q (.int (runF x.cps.toList n)) H2
theorem ok_run (T : Top K mg) : Okd P w K mg base 2 (He.ga K "run") ["work", "n"] sp_run := by
  refine okd_of T.fd_run sc_run (fun vs H Q E h => ?_) (fun _ _ _ _ _ _ us hl => match us, hl with | [_, _], _ => rfl) (fun cdv A outer s H vs Q E hr h => ?_)
  · obtain ⟨_, _, rfl, _⟩ := h; rfl
  · obtain ⟨x, n, rfl, wk, far, k⟩ := h
    have D1 := ok_need_work (P := P) (w := w) (base := base) T
    have D2 := ok_need_number (P := P) (w := w) (base := base) T
    have D3 := ok_step_on (P := P) (w := w) (base := base) T
    refine ⟨_, pss_cons (ps_expr (pc D1 hr T.g_need_work (pa_cons (pv 0) pa_nil)))
      (pss_cons (ps_expr (pc D2 hr T.g_need_number (pa_cons (pv 1) pa_nil)))
      (pss_cons (ps_for PassesOwn.never rfl (pi_str (pv 0)) (pg_name (i := 2) sc_run.nd rfl (.inl rfl))
        (pss_one (ps_set (i := 1) sc_run.nd rfl (.inl rfl) (pc D3 hr T.g_step_on (pa_cons (pv 2) (pa_cons (pv 1) pa_nil)))))) (pss_one (ps_ret (pv 1))))), ?_⟩
    refine ⟨_, rfl, x, rfl, wk, fun H1 e1 => ⟨_, rfl, n, rfl, far, _, rfl, x, rfl, for_str (fun i σ H2 => H2 = H1 ∧ ∃ b, σ = [some (.str x), some (.int (runF (x.cps.toList.take i) n)), b]) ⟨rfl, _, rfl⟩ ?_ ?_⟩⟩
    · rintro i c σ H2 hc ⟨rfl, b, rfl⟩
      have hc' : x.cps.toList[i]? = some c := by simpa using hc
      refine ⟨_, rfl, _, rfl, c, _, rfl, rfl, some (.str ⟨#[c]⟩), ?_⟩
      rw [take_snoc hc']
      unfold runF
      rw [List.foldl_append]; rfl
    · rintro σ H2 ⟨rfl, b, rfl⟩
      refine ⟨_, rfl, ?_⟩
      rw [show x.cps.toList.take x.cps.size = x.cps.toList by rw [show x.cps.size = x.cps.toList.length by simp]; exact List.take_length]
      exact k _ e1
/-! ### even -/
def evenF (i j a b : Int) : Card := ⟨i, j, a % two j, b + a / two j * two i⟩
theorem sc_even : FnScope ["i", "j", "a", "b", "whole"] ["i", "j", "a", "b"] (defScope s_even) := ⟨rfl, rfl, rfl, by decide +kernel, rfl, by decide +kernel, by decide +kernel⟩
def sp_even (K : PySem.W.Frag) : Sp := fun vs H Q _ => ∃ (i j a b : Int), vs = [.int i, .int j, .int a, .int b] ∧ 0 ≤ i ∧ i ≤ 1500 ∧ 0 ≤ j ∧ j ≤ 1500 ∧ Bd 100000 a ∧ RetC K (evenF i j a b) H Q
theorem ok_even (T : Top K mg) : Okd P w K mg base 2 (He.ga K "even") ["i", "j", "a", "b"] (sp_even K) := by
  refine okd_of T.fd_even sc_even (fun vs H Q E h => ?_) (fun _ _ _ _ _ _ us hl => match us, hl with | [_, _, _, _], _ => rfl) (fun cdv A outer s H vs Q E hr h => ?_)
  · obtain ⟨_, _, _, _, rfl, _⟩ := h; rfl
  · obtain ⟨i, j, a, b, rfl, i0, i1, j0, j1, ba, k⟩ := h
    have D := ok_two (P := P) (w := w) (base := base) T
    refine ⟨_, pss_cons (ps_set (i := 4) sc_even.nd rfl (.inl rfl) (pc D hr T.g_two (pa_cons (pv 1) pa_nil)))
      (pss_one (ps_ret (pe_tup (pa_cons (pv 0) (pa_cons (pv 1) (pa_cons (pe_op op_mod (pv 2) (pv 4)) (pa_cons (pe_op op_add (pv 3) (pe_op op_mulW (pe_op op_fdivW (pv 2) (pv 4)) (pc D hr T.g_two (pa_cons (pv 0) pa_nil)))) pa_nil))))))), ?_⟩
    refine ⟨_, rfl, j, rfl, j0, by omega, ?_⟩
    refine ⟨_, rfl, _, rfl, _, rfl, _, rfl, _, _, rfl, rfl, two_pos j, _, rfl, _, rfl, _, rfl, _, _, rfl, rfl, wdiv (two_pos j) (two_bdN (n := 1500) (by omega)), _, rfl, i, rfl, i0, by omega, _, _, rfl, rfl, wmul (ba.div _) (two_bdN (n := 1500) (by omega)), _, _, rfl, rfl, (by show 4 ≤ sizeLine; decide), fun p hp => ?_⟩
    exact k _ _ (Ex.new hp) ⟨p, rfl, SqT.of upd_same⟩
theorem evenF_ck {m n : Nat} {i j a b : Int} (i0 : 0 ≤ i) (i1 : i ≤ m) (j0 : 0 ≤ j) (j1 : j ≤ m) {na nb : Nat} (ha : Bd na a) (hb : Bd nb b) (h1 : na + m + 1 ≤ n) (h2 : nb ≤ n) : Ck m (n + 1) (evenF i j a b) where
  i0 := i0
  i1 := i1
  j0 := j0
  j1 := j1
  a0 := Int.emod_nonneg _ (Int.ne_of_gt (two_pos j))
  a1 := Int.emod_lt_of_pos _ (two_pos j)
  b := (hb.mono h2).add (((ha.div _).mul (two_bdN (n := m) i1)).mono (by omega))
/-! ### stepped, card_of, card -/
def steppedF (c : Card) (s : Nat) : Card := if s = 50 then ⟨c.i + 1, c.j, c.a, 2 * c.b⟩ else if s = 47 then (if 0 < c.i then ⟨c.i - 1, c.j, c.a, c.b / 2⟩ else evenF 0 (c.j + 1) (c.a + c.b * two c.j) 0) else ⟨c.i, c.j, c.a, stepOn s c.b⟩
theorem sc_stepped : FnScope ["one", "sign", "i", "j", "a", "b"] ["one", "sign"] (defScope s_stepped) := ⟨rfl, rfl, rfl, by decide +kernel, rfl, by decide +kernel, by decide +kernel⟩
def sp_stepped (K : PySem.W.Frag) : Sp := fun vs H Q _ => ∃ (v : V) (c : Card) (s : Nat), vs = [v, .str ⟨#[s]⟩] ∧ Cd K H v c ∧ Ck 1000 5000 c ∧ RetC K (steppedF c s) H Q
theorem ok_stepped (T : Top K mg) : Okd P w K mg base 3 (He.ga K "stepped") ["one", "sign"] (sp_stepped K) := by
  refine okd_of T.fd_stepped sc_stepped (fun vs H Q E h => ?_) (fun _ _ _ _ _ _ us hl => match us, hl with | [_, _], _ => rfl) (fun cdv A outer s H vs Q E hr h => ?_)
  · obtain ⟨_, _, _, rfl, _⟩ := h; rfl
  · obtain ⟨v, c, sg, rfl, ⟨p, rfl, hp⟩, ck, k⟩ := h
    have D := ok_two (P := P) (w := w) (base := base) T
    have D2 := ok_even (P := P) (w := w) (base := base) T
    have D3 := ok_step_on (P := P) (w := w) (base := base) T
    have nd := sc_stepped.nd
    refine ⟨_, pss_cons (ps_asg (pv 0) (pg_tup rfl (pgs_cons (pg_name (i := 2) nd rfl (.inl rfl)) (pgs_cons (pg_name (i := 3) nd rfl (.inl rfl)) (pgs_cons (pg_name (i := 4) nd rfl (.inl rfl)) (pgs_cons (pg_name (i := 5) nd rfl (.inl rfl)) pgs_nil))))))
      (pss_cons (ps_if (pt_cmpR op_eq (pv 1) pe_str (nomark _)) (pss_one (ps_ret (pe_tup (pa_cons (pe_op op_add (pv 2) pe_int) (pa_cons (pv 3) (pa_cons (pv 4) (pa_cons (pe_op op_mul pe_int (pv 5)) pa_nil))))))) pss_nil)
      (pss_cons (ps_if (pt_cmpR op_ne (pv 1) pe_str (nomark _)) (pss_one (ps_ret (pe_tup (pa_cons (pv 2) (pa_cons (pv 3) (pa_cons (pv 4) (pa_cons (pc D3 hr T.g_step_on (pa_cons (pv 1) (pa_cons (pv 5) pa_nil))) pa_nil))))))) pss_nil)
      (pss_cons (ps_if (pt_cmpR op_gt (pv 2) pe_int (nomark _)) (pss_one (ps_ret (pe_tup (pa_cons (pe_op op_sub (pv 2) pe_int) (pa_cons (pv 3) (pa_cons (pv 4) (pa_cons (pe_op op_fdiv (pv 5) pe_int) pa_nil))))))) pss_nil)
      (pss_one (ps_ret (pc D2 hr T.g_even (pa_cons pe_int (pa_cons (pe_op op_add (pv 3) pe_int) (pa_cons (pe_op op_add (pv 4) (pe_op op_mulW (pv 5) (pc D hr T.g_two (pa_cons (pv 3) pa_nil)))) (pa_cons pe_int pa_nil)))))))))), ?_⟩
    refine ⟨_, rfl, p, _, rfl, hp, rfl, _, _, rfl, _, _, rfl, _, _, rfl, _, _, rfl, rfl, ?_⟩
    unfold steppedF at k
    refine ⟨_, rfl, rfl, _, rfl, ?_⟩
    rw [tx_two]
    by_cases h1 : sg = 50
    · rw [if_pos h1] at k
      refine itD (sg_eq.mpr h1) ⟨_, rfl, _, _, rfl, rfl, _, rfl, _, rfl, _, rfl, _, _, rfl, rfl, .inl ⟨by decide, by decide⟩, (by show 4 ≤ sizeLine; decide), fun q hq => ?_⟩
      exact k _ _ (Ex.new hq) ⟨q, rfl, SqT.of upd_same⟩
    rw [if_neg h1] at k
    refine ifD (fun z => h1 (sg_eq.mp z)) ?_
    refine ⟨_, rfl, rfl, _, rfl, ?_⟩
    rw [tx_half]
    by_cases h2 : sg = 47
    · rw [if_pos h2] at k
      rw [decide_eq_true (sg_eq.mpr h2)]
      refine iteF ?_
      refine ⟨_, rfl, _, _, rfl, rfl, _, rfl, ?_⟩
      by_cases h3 : 0 < c.i
      · rw [if_pos h3] at k
        refine itD h3 ⟨_, rfl, _, _, rfl, rfl, _, rfl, _, rfl, _, rfl, _, _, rfl, rfl, ⟨by decide, by decide⟩, (by show 4 ≤ sizeLine; decide), fun q hq => ?_⟩
        exact k _ _ (Ex.new hq) ⟨q, rfl, SqT.of upd_same⟩
      · rw [if_neg h3] at k
        refine ifD h3 ?_
        have j0 := ck.j0
        have j1 := ck.j1
        have bt : Bd 1001 (two c.j) := two_bdN (n := 1000) (by omega)
        refine ⟨_, rfl, _, _, rfl, rfl, _, rfl, _, rfl, _, rfl, c.j, rfl, j0, by omega, _, _, rfl, rfl, wmul ck.b bt, _, _, rfl, rfl, ?_⟩
        refine ⟨_, _, _, _, rfl, by omega, by omega, by omega, by omega, ?_, k⟩
        exact ((Bd.nn ck.a0 ck.a1 bt).mono (by omega) |>.add (n := 6001) ((ck.b.mul bt).mono (by omega))).mono (by omega)
    · rw [if_neg h2] at k
      rw [decide_eq_false (fun z => h2 (sg_eq.mp z))]
      refine iteT ?_
      refine ⟨_, rfl, _, rfl, _, rfl, _, rfl, _, rfl, sg, _, rfl, (by show 4 ≤ sizeLine; decide), fun q hq => ?_⟩
      exact k _ _ (Ex.new hq) ⟨q, rfl, SqT.of upd_same⟩
theorem stepOn_bd {n s : Nat} {b : Int} (h : Bd n b) : Bd (n + 1) (stepOn s b) := by
  have o : Bd n b → ∀ y, (y = 1 ∨ y = -1) → Bd (n + 1) (b + y) := fun h y hy => by
    unfold Bd at *
    have h2 : b.natAbs + 1 < 2 ^ (n + 1) := by
      have : 0 < 2 ^ n := Nat.pow_pos (by decide)
      rw [Nat.pow_succ]; omega
    rcases hy with e | e <;> subst e <;> omega
  unfold stepOn
  split
  · rw [Int.two_mul]; exact h.add h
  · split
    · exact (h.div _).mono (Nat.le_succ _)
    · split
      · exact o h 1 (.inl rfl)
      · exact o h (-1) (.inr rfl)
theorem steppedF_ck {m n s : Nat} {c : Card} (h : Ck m n c) (hm : m ≤ 20) : Ck (m + 1) (n + 80) (steppedF c s) := by
  have i0 := h.i0; have i1 := h.i1; have j0 := h.j0; have j1 := h.j1
  unfold steppedF
  split
  · exact ⟨by show 0 ≤ c.i + 1; omega, by show c.i + 1 ≤ ((m + 1 : Nat) : Int); omega, h.j0, by show c.j ≤ ((m + 1 : Nat) : Int); omega, h.a0, h.a1, by show Bd _ (2 * c.b); rw [Int.two_mul]; exact (h.b.add h.b).mono (by omega)⟩
  · split
    · split
      · exact ⟨by show 0 ≤ c.i - 1; omega, by show c.i - 1 ≤ ((m + 1 : Nat) : Int); omega, h.j0, by show c.j ≤ ((m + 1 : Nat) : Int); omega, h.a0, h.a1, (h.b.div _).mono (by omega)⟩
      · have bt : Bd (m + 1) (two c.j) := two_bdN (n := m) h.j1
        have ba : Bd (n + m + 2) (c.a + c.b * two c.j) := ((Bd.nn h.a0 h.a1 bt).mono (by omega)).add ((h.b.mul bt).mono (by omega))
        have z := evenF_ck (m := m + 1) (n := n + m + 2 + (m + 1) + 1) (i := 0) (j := c.j + 1) (b := 0) (Int.le_refl 0) (by omega) (by omega) (by omega) ba (nb := 1) (by unfold Bd; decide) (by omega) (by omega)
        exact ⟨z.i0, z.i1, z.j0, z.j1, z.a0, z.a1, z.b.mono (by omega)⟩
    · exact ⟨h.i0, by show c.i ≤ ((m + 1 : Nat) : Int); omega, h.j0, by show c.j ≤ ((m + 1 : Nat) : Int); omega, h.a0, h.a1, (stepOn_bd h.b).mono (by omega)⟩
def cardF (l : List Nat) : Card := l.foldl steppedF ⟨0, 0, 0, 0⟩
theorem cardF_ck : ∀ (l : List Nat) (m n : Nat) (c : Card), Ck m n c → m + l.length ≤ 21 → Ck (m + l.length) (n + 80 * l.length) (l.foldl steppedF c)
  | [], m, n, c, h, _ => by simpa using h
  | s :: r, m, n, c, h, hl => by
    rw [List.length_cons] at hl
    have z := cardF_ck r (m + 1) (n + 80) _ (steppedF_ck (s := s) h (by omega)) (by omega)
    rw [List.foldl_cons, List.length_cons]
    have e1 : m + 1 + r.length = m + (r.length + 1) := by omega
    have e2 : n + 80 + 80 * r.length = n + 80 * (r.length + 1) := by omega
    rw [e1, e2] at z
    exact z
theorem ck0 : Ck 0 1 ⟨0, 0, 0, 0⟩ := ⟨by decide, by decide, by decide, by decide, by decide, by decide, by unfold Bd; decide⟩
theorem cardF_le {l : List Nat} (h : l.length ≤ 20) : Ck 20 2000 (cardF l) := by
  have z := cardF_ck l 0 1 _ ck0 (by omega)
  unfold cardF
  exact ⟨z.i0, Int.le_trans z.i1 (by omega), z.j0, Int.le_trans z.j1 (by omega), z.a0, z.a1, z.b.mono (by omega)⟩
theorem Ck.mono {m m' n n' : Nat} {c : Card} (h : Ck m n c) (h1 : m ≤ m') (h2 : n ≤ n') : Ck m' n' c := ⟨h.i0, Int.le_trans h.i1 (by omega), h.j0, Int.le_trans h.j1 (by omega), h.a0, h.a1, h.b.mono h2⟩
theorem top_nothing (T : Top K mg) (H : Hp) : Cd K H (.ref (He.ga K "NOTHING")) ⟨0, 0, 0, 0⟩ := by
  have h := T.more
  unfold ex at h
  simp only [Bool.and_eq_true] at h
  exact ⟨_, rfl, He.tupB_ok h.2.2.2.2 H⟩
theorem sc_card_of : FnScope ["work", "found", "sign"] ["work"] (defScope s_card_of) := ⟨rfl, rfl, rfl, by decide +kernel, rfl, by decide +kernel, by decide +kernel⟩
def sp_card_of (K : PySem.W.Frag) : Sp := fun vs H Q _ => ∃ (x : Str), vs = [.str x] ∧ Wk x ∧ RetC K (cardF x.cps.toList) H Q
theorem ok_card_of (T : Top K mg) : Okd P w K mg base 4 (He.ga K "card_of") ["work"] (sp_card_of K) := by
  refine okd_of T.fd_card_of sc_card_of (fun vs H Q E h => ?_) (fun _ _ _ _ _ _ us hl => match us, hl with | [_], _ => rfl) (fun cdv A outer s H vs Q E hr h => ?_)
  · obtain ⟨_, rfl, _⟩ := h; rfl
  · obtain ⟨x, rfl, wk, k⟩ := h
    have D := ok_stepped (P := P) (w := w) (base := base) T
    have nd := sc_card_of.nd
    refine ⟨_, pss_cons (ps_set (i := 1) nd rfl (.inl rfl) (pgr T.g_NOTHING))
      (pss_cons (ps_for PassesOwn.never rfl (pi_str (pv 0)) (pg_name (i := 2) nd rfl (.inl rfl))
        (pss_one (ps_set (i := 1) nd rfl (.inl rfl) (pc D hr T.g_stepped (pa_cons (pv 1) (pa_cons (pv 2) pa_nil)))))) (pss_one (ps_ret (pv 1)))), ?_⟩
    refine ⟨_, rfl, x, rfl, for_str (fun i σ H2 => Ex H H2 ∧ ∃ v b, σ = [some (.str x), some v, b] ∧ Cd K H2 v (cardF (x.cps.toList.take i))) ⟨Ex.refl _, _, _, rfl, top_nothing T H⟩ ?_ ?_⟩
    · rintro i c σ H2 hc ⟨e1, v, b, rfl, cd⟩
      have hc' : x.cps.toList[i]? = some c := by simpa using hc
      obtain ⟨hs, hi⟩ := wk.at_ hc
      have ck : Ck 1000 5000 (cardF (x.cps.toList.take i)) := (cardF_le (by rw [List.length_take]; omega)).mono (by omega) (by omega)
      refine ⟨_, rfl, _, rfl, v, _, c, rfl, cd, ck, fun v2 H3 e3 cd3 => ⟨e1.trans e3, v2, some (.str ⟨#[c]⟩), rfl, ?_⟩⟩
      rw [take_snoc hc']
      unfold cardF at *
      rw [List.foldl_append]; exact cd3
    · rintro σ H2 ⟨e1, v, b, rfl, cd⟩
      refine ⟨_, rfl, ?_⟩
      rw [show x.cps.toList.take x.cps.size = x.cps.toList by rw [show x.cps.size = x.cps.toList.length by simp]; exact List.take_length] at cd
      exact k _ _ e1 cd
theorem sc_card : FnScope ["work"] ["work"] (defScope s_card) := ⟨rfl, rfl, rfl, by decide +kernel, rfl, by decide +kernel, by decide +kernel⟩
theorem ok_card (T : Top K mg) : Okd P w K mg base 5 (He.ga K "card") ["work"] (sp_card_of K) := by
  refine okd_of T.fd_card sc_card (fun vs H Q E h => ?_) (fun _ _ _ _ _ _ us hl => match us, hl with | [_], _ => rfl) (fun cdv A outer s H vs Q E hr h => ?_)
  · obtain ⟨_, rfl, _⟩ := h; rfl
  · obtain ⟨x, rfl, wk, k⟩ := h
    have D := ok_need_work (P := P) (w := w) (base := base) T
    have D2 := ok_card_of (P := P) (w := w) (base := base) T
    refine ⟨_, pss_cons (ps_expr (pc D hr T.g_need_work (pa_cons (pv 0) pa_nil))) (pss_one (ps_ret (pc D2 hr T.g_card_of (pa_cons (pv 0) pa_nil)))), ?_⟩
    exact ⟨_, rfl, x, rfl, wk, fun H1 e1 => ⟨_, rfl, x, rfl, wk, fun v H2 e2 cd => k v H2 (e1.trans e2) cd⟩⟩
end Hs

set_option Elab.async false
set_option linter.all false
set_option maxRecDepth 100000
set_option maxHeartbeats 4000000
/-! cards.py. -/
namespace Hs
open PySem PySem.Spec PyProof.Rows L2
open Evl (Ex)
variable {P : Program} {w : World} {K : PySem.W.Frag} {mg : Str → Option Value} {base : Heap}
/-! ### make, made -/
def makeF (c : Card) (n : Int) : Int := (n + c.a) / two c.j * two c.i + c.b
theorem sc_make : FnScope ["one", "number", "i", "j", "a", "b"] ["one", "number"] (defScope s_make) := ⟨rfl, rfl, rfl, by decide +kernel, rfl, by decide +kernel, by decide +kernel⟩
def sp_make (K : PySem.W.Frag) : Sp := fun vs H Q _ => ∃ (v : V) (c : Card) (n : Int), vs = [v, .int n] ∧ Cd K H v c ∧ Ck 1000 5000 c ∧ Bd 500000 n ∧ Q (.int (makeF c n)) H
theorem ok_make (T : Top K mg) : Okd P w K mg base 2 (He.ga K "make") ["one", "number"] (sp_make K) := by
  refine okd_of T.fd_make sc_make (fun vs H Q E h => ?_) (fun _ _ _ _ _ _ us hl => match us, hl with | [_, _], _ => rfl) (fun cdv A outer s H vs Q E hr h => ?_)
  · obtain ⟨_, _, _, rfl, _⟩ := h; rfl
  · obtain ⟨v, c, n, rfl, ⟨p, rfl, hp⟩, ck, bn, k⟩ := h
    have D := ok_two (P := P) (w := w) (base := base) T
    have nd := sc_make.nd
    refine ⟨_, pss_cons (ps_asg (pv 0) (pg_tup rfl (pgs_cons (pg_name (i := 2) nd rfl (.inl rfl)) (pgs_cons (pg_name (i := 3) nd rfl (.inl rfl)) (pgs_cons (pg_name (i := 4) nd rfl (.inl rfl)) (pgs_cons (pg_name (i := 5) nd rfl (.inl rfl)) pgs_nil))))))
      (pss_one (ps_ret (pe_op op_add (pe_op op_mulW (pe_op op_fdivW (pe_op op_add (pv 1) (pv 4)) (pc D hr T.g_two (pa_cons (pv 3) pa_nil))) (pc D hr T.g_two (pa_cons (pv 2) pa_nil))) (pv 5)))), ?_⟩
    have i0 := ck.i0; have i1 := ck.i1; have j0 := ck.j0; have j1 := ck.j1
    have bj : Bd 1001 (two c.j) := two_bdN (n := 1000) (by omega)
    have bi : Bd 1001 (two c.i) := two_bdN (n := 1000) (by omega)
    have bs : Bd 500001 (n + c.a) := bn.add ((Bd.nn ck.a0 ck.a1 bj).mono (by omega))
    refine ⟨_, rfl, p, _, rfl, hp, rfl, _, _, rfl, _, _, rfl, _, _, rfl, _, _, rfl, rfl, ?_⟩
    exact ⟨_, rfl, _, rfl, _, _, rfl, rfl, _, rfl, c.j, rfl, j0, by omega, _, _, rfl, rfl, wdiv (two_pos _) bj, _, rfl, c.i, rfl, i0, by omega, _, _, rfl, rfl, wmul (bs.div _) bi, _, rfl, _, _, rfl, rfl, k⟩
theorem sc_made : FnScope ["one", "n"] ["one", "n"] (defScope s_made) := ⟨rfl, rfl, rfl, by decide +kernel, rfl, by decide +kernel, by decide +kernel⟩
def sp_made (K : PySem.W.Frag) : Sp := fun vs H Q _ => ∃ (v : V) (c : Card) (n : Int), vs = [v, .int n] ∧ Cd K H v c ∧ Good c ∧ Far n ∧ Q (.int (makeF c n)) H
theorem ok_made (T : Top K mg) : Okd P w K mg base 3 (He.ga K "made") ["one", "n"] (sp_made K) := by
  refine okd_of T.fd_made sc_made (fun vs H Q E h => ?_) (fun _ _ _ _ _ _ us hl => match us, hl with | [_, _], _ => rfl) (fun cdv A outer s H vs Q E hr h => ?_)
  · obtain ⟨_, _, _, rfl, _⟩ := h; rfl
  · obtain ⟨v, c, n, rfl, cd, g, far, k⟩ := h
    have D1 := ok_need_card (P := P) (w := w) (base := base) T
    have D2 := ok_need_number (P := P) (w := w) (base := base) T
    have D3 := ok_make (P := P) (w := w) (base := base) T
    refine ⟨_, pss_cons (ps_expr (pc D1 hr T.g_need_card (pa_cons (pv 0) pa_nil)))
      (pss_cons (ps_expr (pc D2 hr T.g_need_number (pa_cons (pv 1) pa_nil)))
      (pss_one (ps_ret (pc D3 hr T.g_make (pa_cons (pv 0) (pa_cons (pv 1) pa_nil)))))), ?_⟩
    exact ⟨_, rfl, v, c, rfl, cd, g, _, rfl, n, rfl, far, _, rfl, _, rfl, v, c, n, rfl, cd, g.ck.mono (by omega) (by omega), far.bd.mono (by omega), k⟩
/-! ### behind, need_few, joined -/
def behindF (c d : Card) : Card := if d.j ≤ c.i then evenF (c.i - d.j + d.i) c.j c.a ((c.b + d.a) / two d.j * two d.i + d.b) else evenF d.i (c.j + d.j - c.i) (c.a + (c.b + d.a) / two c.i * two c.j) d.b
theorem sc_behind : FnScope ["one", "other", "i", "j", "a", "b", "more", "less", "c", "e", "whole"] ["one", "other"] (defScope s_behind) := ⟨rfl, rfl, rfl, by decide +kernel, rfl, by decide +kernel, by decide +kernel⟩
def sp_behind (K : PySem.W.Frag) : Sp := fun vs H Q _ => ∃ (v u : V) (c d : Card), vs = [v, u] ∧ Cd K H v c ∧ Cd K H u d ∧ Ck 500 5000 c ∧ Ck 500 5000 d ∧ RetC K (behindF c d) H Q
theorem ok_behind (T : Top K mg) : Okd P w K mg base 3 (He.ga K "behind") ["one", "other"] (sp_behind K) := by
  refine okd_of T.fd_behind sc_behind (fun vs H Q E h => ?_) (fun _ _ _ _ _ _ us hl => match us, hl with | [_, _], _ => rfl) (fun cdv A outer s H vs Q E hr h => ?_)
  · obtain ⟨_, _, _, _, rfl, _⟩ := h; rfl
  · obtain ⟨v, u, c, d, rfl, ⟨p, rfl, hp⟩, ⟨q, rfl, hq⟩, ck, dk, k⟩ := h
    have D := ok_two (P := P) (w := w) (base := base) T
    have D2 := ok_even (P := P) (w := w) (base := base) T
    have nd := sc_behind.nd
    have g4 : ∀ i0 i1 i2 i3 : Nat, True := fun _ _ _ _ => trivial
    refine ⟨_, pss_cons (ps_asg (pv 0) (pg_tup rfl (pgs_cons (pg_name (i := 2) nd rfl (.inl rfl)) (pgs_cons (pg_name (i := 3) nd rfl (.inl rfl)) (pgs_cons (pg_name (i := 4) nd rfl (.inl rfl)) (pgs_cons (pg_name (i := 5) nd rfl (.inl rfl)) pgs_nil))))))
      (pss_cons (ps_asg (pv 1) (pg_tup rfl (pgs_cons (pg_name (i := 6) nd rfl (.inl rfl)) (pgs_cons (pg_name (i := 7) nd rfl (.inl rfl)) (pgs_cons (pg_name (i := 8) nd rfl (.inl rfl)) (pgs_cons (pg_name (i := 9) nd rfl (.inl rfl)) pgs_nil))))))
      (pss_cons (ps_if (pt_cmpR op_ge (pv 2) (pv 7) (nomark _))
        (pss_one (ps_ret (pc D2 hr T.g_even (pa_cons (pe_op op_add (pe_op op_sub (pv 2) (pv 7)) (pv 6)) (pa_cons (pv 3) (pa_cons (pv 4)
          (pa_cons (pe_op op_add (pe_op op_mulW (pe_op op_fdivW (pe_op op_add (pv 5) (pv 8)) (pc D hr T.g_two (pa_cons (pv 7) pa_nil))) (pc D hr T.g_two (pa_cons (pv 6) pa_nil))) (pv 9)) pa_nil))))))) pss_nil)
      (pss_cons (ps_set (i := 10) nd rfl (.inl rfl) (pe_op op_fdivW (pe_op op_add (pv 5) (pv 8)) (pc D hr T.g_two (pa_cons (pv 2) pa_nil))))
      (pss_one (ps_ret (pc D2 hr T.g_even (pa_cons (pv 6) (pa_cons (pe_op op_sub (pe_op op_add (pv 3) (pv 7)) (pv 2)) (pa_cons (pe_op op_add (pv 4) (pe_op op_mulW (pv 10) (pc D hr T.g_two (pa_cons (pv 3) pa_nil)))) (pa_cons (pv 9) pa_nil)))))))))), ?_⟩
    refine ⟨_, rfl, p, _, rfl, hp, rfl, _, _, rfl, _, _, rfl, _, _, rfl, _, _, rfl, rfl, ?_⟩
    refine ⟨_, rfl, q, _, rfl, hq, rfl, _, _, rfl, _, _, rfl, _, _, rfl, _, _, rfl, rfl, ?_⟩
    have ci0 := ck.i0; have ci1 := ck.i1; have cj0 := ck.j0; have cj1 := ck.j1
    have di0 := dk.i0; have di1 := dk.i1; have dj0 := dk.j0; have dj1 := dk.j1
    have tc : ∀ {m : Int}, m ≤ 500 → Bd 501 (two m) := fun h => two_bdN (n := 500) (by omega)
    have bs : Bd 5001 (c.b + d.a) := ck.b.add ((Bd.nn dk.a0 dk.a1 (tc dj1)).mono (by omega))
    unfold behindF at k
    refine ⟨_, rfl, _, rfl, _, _, rfl, rfl, _, rfl, ?_⟩
    by_cases h1 : d.j ≤ c.i
    · rw [if_pos h1] at k
      refine itD h1 ?_
      refine ⟨_, rfl, _, rfl, _, _, rfl, rfl, _, rfl, _, _, rfl, rfl, _, rfl, _, rfl, _, rfl, _, rfl, _, _, rfl, rfl, _, rfl, d.j, rfl, dj0, by omega, _, _, rfl, rfl, wdiv (two_pos _) (tc dj1), _, rfl, d.i, rfl, di0, by omega, _, _, rfl, rfl, wmul (bs.div _) (tc di1), _, rfl, _, _, rfl, rfl, ?_⟩
      refine ⟨_, _, _, _, rfl, by omega, by omega, by omega, by omega, ?_, k⟩
      exact (Bd.nn ck.a0 ck.a1 (tc cj1)).mono (by omega)
    · rw [if_neg h1] at k
      refine ifD h1 ?_
      refine ⟨_, rfl, _, rfl, _, _, rfl, rfl, _, rfl, c.i, rfl, ci0, by omega, _, _, rfl, rfl, wdiv (two_pos _) (tc ci1), ?_⟩
      refine ⟨_, rfl, _, rfl, _, rfl, _, _, rfl, rfl, _, rfl, _, _, rfl, rfl, _, rfl, _, rfl, _, rfl, c.j, rfl, cj0, by omega, _, _, rfl, rfl, wmul (bs.div _) (tc cj1), _, _, rfl, rfl, _, rfl, ?_⟩
      refine ⟨_, _, _, _, rfl, by omega, by omega, by omega, by omega, ?_, k⟩
      exact (((Bd.nn ck.a0 ck.a1 (tc cj1)).mono (n := 6000) (by omega)).add (((bs.div _).mul (tc cj1)).mono (by omega))).mono (by omega)
theorem behindF_ck {m n : Nat} {c d : Card} (ck : Ck m n c) (dk : Ck m n d) : Ck (2 * m) (2 * n + 5 * m + 20) (behindF c d) := by
  have ci0 := ck.i0; have ci1 := ck.i1; have cj0 := ck.j0; have cj1 := ck.j1
  have di0 := dk.i0; have di1 := dk.i1; have dj0 := dk.j0; have dj1 := dk.j1
  have tc : ∀ {x : Int}, x ≤ m → Bd (m + 1) (two x) := fun h => two_bdN (n := m) h
  have bs : Bd (n + m + 2) (c.b + d.a) := (ck.b.mono (n := n + m + 1) (by omega)).add ((Bd.nn dk.a0 dk.a1 (tc dj1)).mono (by omega))
  unfold behindF
  split
  · have z := evenF_ck (m := 2 * m) (n := 2 * n + 5 * m + 19) (i := c.i - d.j + d.i) (j := c.j) (a := c.a) (b := (c.b + d.a) / two d.j * two d.i + d.b) (by omega) (by omega) (by omega) (by omega) (Bd.nn ck.a0 ck.a1 (tc cj1))
      (((((bs.div _).mul (tc di1)).mono (n := 2 * n + 2 * m + 4) (by omega)).add (dk.b.mono (by omega)))) (by omega) (by omega)
    exact z
  · have ba : Bd (n + 2 * m + 4) (c.a + (c.b + d.a) / two c.i * two c.j) := ((Bd.nn ck.a0 ck.a1 (tc cj1)).mono (n := n + 2 * m + 3) (by omega)).add (((bs.div _).mul (tc cj1)).mono (by omega))
    have z := evenF_ck (m := 2 * m) (n := 2 * n + 5 * m + 19) (i := d.i) (j := c.j + d.j - c.i) (b := d.b) (by omega) (by omega) (by omega) (by omega) ba dk.b (by omega) (by omega)
    exact z
theorem sc_need_few : FnScope ["one"] ["one"] (defScope s_need_few) := ⟨rfl, rfl, rfl, by decide +kernel, rfl, by decide +kernel, by decide +kernel⟩
def sp_need_few (K : PySem.W.Frag) : Sp := fun vs H Q _ => ∃ (p : Addr) (i j : Int) (r : List V), vs = [.ref p] ∧ SqT K H p (.int i :: .int j :: r) ∧ i ≤ 1000 ∧ j ≤ 1000 ∧ Q .non H
theorem ok_need_few (T : Top K mg) : Okd P w K mg base 1 (He.ga K "need_few") ["one"] (sp_need_few K) := by
  refine okd_of T.fd_need_few sc_need_few (fun vs H Q E h => ?_) (fun _ _ _ _ _ _ us hl => match us, hl with | [_], _ => rfl) (fun cdv A outer s H vs Q E hr h => ?_)
  · obtain ⟨_, _, _, _, rfl, _⟩ := h; rfl
  · obtain ⟨p, i, j, r, rfl, hp, h1, h2, k⟩ := h
    obtain ⟨tB, gB⟩ := T.i_MOST_BITS
    refine ⟨_, pss_one (ps_if (PW.pt (pw_or (pt_cmpR op_gt (pe_ix ix_tup (pv 0) pe_int (fun _ _ => rfl)) (pgi gB) (nomark _)) (pw_or1 (pt_cmpR op_gt (pe_ix ix_tup (pv 0) pe_int (fun _ _ => rfl)) (pgi gB) (nomark _))))) pss_never pss_nil), ?_⟩
    refine ⟨_, rfl, p, _, 0, _, rfl, rfl, hp, atI_nat (j := 0) rfl, _, _, rfl, rfl, _, rfl, ?_⟩
    rw [decide_eq_false (by omega)]
    refine iteF ?_
    refine ⟨_, rfl, p, _, 1, _, rfl, rfl, hp, atI_nat (j := 1) rfl, _, _, rfl, rfl, _, rfl, ?_⟩
    rw [decide_eq_false (by omega)]
    exact iteF k
theorem sc_joined : FnScope ["one", "other", "found"] ["one", "other"] (defScope s_joined) := ⟨rfl, rfl, rfl, by decide +kernel, rfl, by decide +kernel, by decide +kernel⟩
/-- what the law hands in: i and j at most 9 -/
structure Sm (c : Card) : Prop where
  i0 : 0 ≤ c.i
  i1 : c.i ≤ 9
  j0 : 0 ≤ c.j
  j1 : c.j ≤ 9
  a0 : 0 ≤ c.a
  a1 : c.a < two c.j
  b : Far c.b
theorem Sm.good {c : Card} (h : Sm c) : Good c := ⟨h.i0, Int.le_trans h.i1 (by decide), h.j0, Int.le_trans h.j1 (by decide), h.a0, h.a1, h.b⟩
theorem Sm.ck {c : Card} (h : Sm c) : Ck 9 200 c := ⟨h.i0, h.i1, h.j0, h.j1, h.a0, h.a1, h.b.bd⟩
def sp_joined (K : PySem.W.Frag) : Sp := fun vs H Q _ => ∃ (v u : V) (c d : Card), vs = [v, u] ∧ Cd K H v c ∧ Cd K H u d ∧ Sm c ∧ Sm d ∧ RetC K (behindF c d) H Q
theorem ok_joined (T : Top K mg) : Okd P w K mg base 4 (He.ga K "joined") ["one", "other"] (sp_joined K) := by
  refine okd_of T.fd_joined sc_joined (fun vs H Q E h => ?_) (fun _ _ _ _ _ _ us hl => match us, hl with | [_, _], _ => rfl) (fun cdv A outer s H vs Q E hr h => ?_)
  · obtain ⟨_, _, _, _, rfl, _⟩ := h; rfl
  · obtain ⟨v, u, c, d, rfl, cd, dd, sc, sd, k⟩ := h
    have D1 := ok_need_card (P := P) (w := w) (base := base) T
    have D2 := ok_behind (P := P) (w := w) (base := base) T
    have D3 := ok_need_few (P := P) (w := w) (base := base) T
    have nd := sc_joined.nd
    refine ⟨_, pss_cons (ps_expr (pc D1 hr T.g_need_card (pa_cons (pv 0) pa_nil))) (pss_cons (ps_expr (pc D1 hr T.g_need_card (pa_cons (pv 1) pa_nil)))
      (pss_cons (ps_set (i := 2) nd rfl (.inl rfl) (pc D2 hr T.g_behind (pa_cons (pv 0) (pa_cons (pv 1) pa_nil))))
      (pss_cons (ps_expr (pc D3 hr T.g_need_few (pa_cons (pv 2) pa_nil))) (pss_one (ps_ret (pv 2)))))), ?_⟩
    refine ⟨_, rfl, v, c, rfl, cd, sc.good, _, rfl, u, d, rfl, dd, sd.good, _, rfl, _, rfl, v, u, c, d, rfl, cd, dd, sc.ck.mono (by omega) (by omega), sd.ck.mono (by omega) (by omega), fun z H2 e2 cz => ?_⟩
    have bk := behindF_ck sc.ck sd.ck
    have i1 := bk.i1; have j1 := bk.j1
    obtain ⟨p, rfl, hp⟩ := cz
    exact ⟨_, rfl, p, _, _, _, rfl, hp, by omega, by omega, _, rfl, k _ _ e2 ⟨p, rfl, hp⟩⟩
/-! ### first_parting, parting -/
def partF (c d : Card) : V :=
  if makeF c 0 ≠ makeF d 0 then .int 0 else
  if two c.j - c.a ≠ two d.j - d.a ∨ c.i ≠ d.i then .int (if two d.j - d.a < two c.j - c.a then two d.j - d.a else two c.j - c.a) else
  if c.j ≠ d.j then .int (two c.j - c.a + two (if d.j < c.j then d.j else c.j)) else .non
theorem sc_first_parting : FnScope ["one", "other", "first", "second"] ["one", "other"] (defScope s_first_parting) := ⟨rfl, rfl, rfl, by decide +kernel, rfl, by decide +kernel, by decide +kernel⟩
def sp_first_parting (K : PySem.W.Frag) : Sp := fun vs H Q _ => ∃ (v u : V) (c d : Card), vs = [v, u] ∧ Cd K H v c ∧ Cd K H u d ∧ Ck 1000 5000 c ∧ Ck 1000 5000 d ∧ Q (partF c d) H
theorem ok_first_parting (T : Top K mg) : Okd P w K mg base 3 (He.ga K "first_parting") ["one", "other"] (sp_first_parting K) := by
  refine okd_of T.fd_first_parting sc_first_parting (fun vs H Q E h => ?_) (fun _ _ _ _ _ _ us hl => match us, hl with | [_, _], _ => rfl) (fun cdv A outer s H vs Q E hr h => ?_)
  · obtain ⟨_, _, _, _, rfl, _⟩ := h; rfl
  · obtain ⟨v, u, c, d, rfl, cd, dd, ck, dk, k⟩ := h
    have D := ok_two (P := P) (w := w) (base := base) T
    have D2 := ok_make (P := P) (w := w) (base := base) T
    have nd := sc_first_parting.nd
    have cj0 := ck.j0; have cj1 := ck.j1; have dj0 := dk.j0; have dj1 := dk.j1
    refine ⟨_, pss_cons (ps_if (pt_cmpR op_ne (pc D2 hr T.g_make (pa_cons (pv 0) (pa_cons pe_int pa_nil))) (pc D2 hr T.g_make (pa_cons (pv 1) (pa_cons pe_int pa_nil))) (nomark _)) (pss_one (ps_ret pe_int)) pss_nil)
      (pss_cons (ps_par (i := 2) (j := 3) rfl nd rfl rfl (by decide) rfl rfl (pa_cons (pe_op op_sub (pc D hr T.g_two (pa_cons (pe_ix ix_tup (pv 0) pe_int (fun _ _ => rfl)) pa_nil)) (pe_ix ix_tup (pv 0) pe_int (fun _ _ => rfl)))
          (pa_cons (pe_op op_sub (pc D hr T.g_two (pa_cons (pe_ix ix_tup (pv 1) pe_int (fun _ _ => rfl)) pa_nil)) (pe_ix ix_tup (pv 1) pe_int (fun _ _ => rfl))) pa_nil)) (by rfl))
      (pss_cons (ps_if (PW.pt (pw_or (pt_cmpR op_ne (pv 2) (pv 3) (nomark _)) (pw_or1 (pt_cmpR op_ne (pe_ix ix_tup (pv 0) pe_int (fun _ _ => rfl)) (pe_ix ix_tup (pv 1) pe_int (fun _ _ => rfl)) (nomark _)))))
        (pss_one (ps_ret (pe_callB (call_min2 rfl) (by rfl) T.f_min (by decide +kernel) (pa_cons (pv 2) (pa_cons (pv 3) pa_nil))))) pss_nil)
      (pss_one (ps_ret (pe_ifExp (pt_cmpR op_ne (pe_ix ix_tup (pv 0) pe_int (fun _ _ => rfl)) (pe_ix ix_tup (pv 1) pe_int (fun _ _ => rfl)) (nomark _))
        (pe_op op_add (pv 2) (pc D hr T.g_two (pa_cons (pe_callB (call_min2 rfl) (by rfl) T.f_min (by decide +kernel) (pa_cons (pe_ix ix_tup (pv 0) pe_int (fun _ _ => rfl)) (pa_cons (pe_ix ix_tup (pv 1) pe_int (fun _ _ => rfl)) pa_nil))) pa_nil))) pe_non))))), ?_⟩
    obtain ⟨p, rfl, hp⟩ := id cd
    obtain ⟨q, rfl, hq⟩ := id dd
    unfold partF at k
    refine ⟨_, rfl, _, c, 0, rfl, cd, ck, .zero, _, rfl, _, d, 0, rfl, dd, dk, .zero, rfl, _, rfl, ?_⟩
    by_cases h1 : makeF c 0 = makeF d 0
    · rw [if_neg (by simp [h1])] at k
      rw [decide_eq_true (congrArg V.int h1)]
      refine iteF ?_
      refine ⟨_, rfl, p, _, 1, _, rfl, rfl, hp, atI_nat (j := 1) rfl, _, rfl, cj0, by omega, ?_⟩
      refine ⟨_, rfl, p, _, 2, _, rfl, rfl, hp, atI_nat (j := 2) rfl, _, _, rfl, rfl, ?_⟩
      refine ⟨_, rfl, q, _, 1, _, rfl, rfl, hq, atI_nat (j := 1) rfl, _, rfl, dj0, by omega, ?_⟩
      refine ⟨_, rfl, q, _, 2, _, rfl, rfl, hq, atI_nat (j := 2) rfl, _, _, rfl, rfl, ?_⟩
      refine ⟨_, _, rfl, ?_⟩
      refine ⟨_, rfl, _, rfl, rfl, _, rfl, ?_⟩
      by_cases h2 : two c.j - c.a = two d.j - d.a
      · rw [decide_eq_true (congrArg V.int h2)]
        refine iteF ?_
        refine ⟨_, rfl, p, _, 0, _, rfl, rfl, hp, atI_nat (j := 0) rfl, _, rfl, q, _, 0, _, rfl, rfl, hq, atI_nat (j := 0) rfl, rfl, _, rfl, ?_⟩
        by_cases h3 : c.i = d.i
        · rw [decide_eq_true (congrArg V.int h3)]
          rw [if_neg (by simp [h2, h3])] at k
          refine iteF ?_
          refine ⟨_, rfl, p, _, 1, _, rfl, rfl, hp, atI_nat (j := 1) rfl, _, rfl, q, _, 1, _, rfl, rfl, hq, atI_nat (j := 1) rfl, rfl, _, rfl, ?_⟩
          by_cases h4 : c.j = d.j
          · rw [decide_eq_true (congrArg V.int h4)]
            rw [if_neg (by simp [h4])] at k
            exact iteF k
          · rw [decide_eq_false (fun z => h4 (V.int.inj z))]
            rw [if_pos h4] at k
            refine iteT ?_
            refine ⟨_, rfl, _, rfl, p, _, 1, _, rfl, rfl, hp, atI_nat (j := 1) rfl, _, rfl, q, _, 1, _, rfl, rfl, hq, atI_nat (j := 1) rfl, _, _, rfl, ⟨_, rfl, ?_, ?_, _, _, rfl, rfl, k⟩⟩
            · split <;> omega
            · split <;> omega
        · rw [decide_eq_false (fun z => h3 (V.int.inj z))]
          rw [if_pos (.inr h3)] at k
          refine iteT ?_
          exact ⟨_, rfl, _, rfl, _, _, rfl, k⟩
      · rw [decide_eq_false (fun z => h2 (V.int.inj z))]
        rw [if_pos (.inl h2)] at k
        refine iteT ?_
        refine iteT ?_
        exact ⟨_, rfl, _, rfl, _, _, rfl, k⟩
    · rw [if_pos h1] at k
      rw [decide_eq_false (fun z => h1 (V.int.inj z))]
      exact iteT k
theorem sc_parting : FnScope ["one", "other"] ["one", "other"] (defScope s_parting) := ⟨rfl, rfl, rfl, by decide +kernel, rfl, by decide +kernel, by decide +kernel⟩
def sp_parting (K : PySem.W.Frag) : Sp := fun vs H Q _ => ∃ (v u : V) (c d : Card), vs = [v, u] ∧ Cd K H v c ∧ Cd K H u d ∧ Good c ∧ Good d ∧ Q (partF c d) H
theorem ok_parting (T : Top K mg) : Okd P w K mg base 4 (He.ga K "parting") ["one", "other"] (sp_parting K) := by
  refine okd_of T.fd_parting sc_parting (fun vs H Q E h => ?_) (fun _ _ _ _ _ _ us hl => match us, hl with | [_, _], _ => rfl) (fun cdv A outer s H vs Q E hr h => ?_)
  · obtain ⟨_, _, _, _, rfl, _⟩ := h; rfl
  · obtain ⟨v, u, c, d, rfl, cd, dd, g, g2, k⟩ := h
    have D1 := ok_need_card (P := P) (w := w) (base := base) T
    have D2 := ok_first_parting (P := P) (w := w) (base := base) T
    refine ⟨_, pss_cons (ps_expr (pc D1 hr T.g_need_card (pa_cons (pv 0) pa_nil))) (pss_cons (ps_expr (pc D1 hr T.g_need_card (pa_cons (pv 1) pa_nil)))
      (pss_one (ps_ret (pc D2 hr T.g_first_parting (pa_cons (pv 0) (pa_cons (pv 1) pa_nil)))))), ?_⟩
    exact ⟨_, rfl, v, c, rfl, cd, g, _, rfl, u, d, rfl, dd, g2, _, rfl, _, rfl, v, u, c, d, rfl, cd, dd, g.ck.mono (by omega) (by omega), g2.ck.mono (by omega) (by omega), k⟩
end Hs

set_option Elab.async false
set_option linter.all false
set_option maxRecDepth 100000
set_option maxHeartbeats 4000000
/-! often; rests.py but stays. -/
namespace Hs
open PySem PySem.Spec PyProof.Rows L2
open Evl (Ex)
variable {P : Program} {w : World} {K : PySem.W.Frag} {mg : Str → Option Value} {base : Heap}
/-- the answer is these data -/
def RetD (K : PySem.W.Frag) (d : PyData) (H : Hp) (Q : VK) : Prop := ∀ v H2, Ex H H2 → Dp K H2 v d → Q v H2
/-! ### often -/
theorem sc_need_count : FnScope ["number", "low", "high"] ["number", "low", "high"] (defScope s_need_count) := ⟨rfl, rfl, rfl, by decide +kernel, rfl, by decide +kernel, by decide +kernel⟩
def sp_need_count : Sp := fun vs H Q _ => ∃ n l h : Int, vs = [.int n, .int l, .int h] ∧ l ≤ n ∧ n ≤ h ∧ Q .non H
theorem ok_need_count (T : Top K mg) : Okd P w K mg base 1 (He.ga K "need_count") ["number", "low", "high"] sp_need_count := by
  refine okd_of T.fd_need_count sc_need_count (fun vs H Q E h => ?_) (fun _ _ _ _ _ _ us hl => match us, hl with | [_, _, _], _ => rfl) (fun cdv A outer s H vs Q E hr h => ?_)
  · obtain ⟨_, _, _, rfl, _⟩ := h; rfl
  · obtain ⟨n, lo, hi, rfl, h0, h1, k⟩ := h
    refine ⟨_, pss_one (ps_if (pt_not (pt_chain op_le op_le (pv 1) (pv 0) (pv 2))) pss_never pss_nil), ?_⟩
    refine ⟨_, rfl, _, rfl, _, _, rfl, rfl, _, rfl, itD h0 ⟨_, rfl, _, _, rfl, rfl, _, rfl, ?_⟩⟩
    rw [decide_eq_true h1]
    exact iteF k
def oftenF (c : Card) : Card := behindF (behindF ⟨0, 0, 0, 0⟩ c) (behindF c c)
theorem sc_often : FnScope ["one", "times", "i", "j", "found"] ["one", "times"] (defScope s_often) := ⟨rfl, rfl, rfl, by decide +kernel, rfl, by decide +kernel, by decide +kernel⟩
def sp_often (K : PySem.W.Frag) : Sp := fun vs H Q _ => ∃ (v : V) (c : Card), vs = [v, .int 3] ∧ Cd K H v c ∧ Sm c ∧ RetC K (oftenF c) H Q
theorem mul_two_le {x : Int} (h0 : 0 ≤ x) (h : x ≤ 9) {d : Int} (hd : d ≤ 9) (h1 : 0 ≤ d) : x + d * 2 ≤ 1000 := by omega
theorem ok_often (T : Top K mg) : ∃ fd, FnOk P w K mg base CX0 5 (He.ga K "often") fd ["one", "times"] (sp_often K) ∧ KBn K fd ["one", "times"] 1 ["times"] (fun us ws => us ++ ws) (fun vs zs => vs ++ zs) ∧ PySem.W.keepIn K (.ref (He.ga K "often")) = true := by
  obtain ⟨fd, F⟩ := T.fd_often
  refine ⟨fd, F.ok sc_often (fun vs H Q E h => ?_) (fun cdv A outer s H vs Q E hr h => ?_), ⟨?_, fun a b => Vals.append a b⟩, F.kp⟩
  · obtain ⟨_, _, rfl, _⟩ := h; rfl
  · obtain ⟨v, c, rfl, cd, sm, k⟩ := h
    have D1 := ok_need_card (P := P) (w := w) (base := base) T
    have D2 := ok_need_count (P := P) (w := w) (base := base) T
    have D3 := ok_need_few (P := P) (w := w) (base := base) T
    have D4 := ok_behind (P := P) (w := w) (base := base) T
    obtain ⟨tM, gM⟩ := T.i_MOST_TIMES
    have nd := sc_often.nd
    have i0 := sm.i0; have i1 := sm.i1; have j0 := sm.j0; have j1 := sm.j1
    refine ⟨_, PSs.nox (pss_cons (ps_expr (pc D1 hr T.g_need_card (pa_cons (pv 0) pa_nil)))
      (pss_cons (ps_expr (pc D2 hr T.g_need_count (pa_cons (pv 1) (pa_cons pe_int (pa_cons (pgi gM) pa_nil)))))
      (pss_cons (ps_par (i := 2) (j := 3) rfl nd rfl rfl (by decide) rfl rfl (pa_cons (pe_ix ix_tup (pv 0) pe_int (fun _ _ => rfl)) (pa_cons (pe_ix ix_tup (pv 0) pe_int (fun _ _ => rfl)) pa_nil)) (by rfl))
      (pss_cons (ps_if (pt_cmpR op_gt (pv 1) pe_int (nomark _)) (pss_one (ps_expr (pc D3 hr T.g_need_few (pa_cons (pe_tup
          (pa_cons (pe_op op_add (pv 2) (pe_op op_mul (pe_callB (call_max2 rfl) (by rfl) T.f_max (by decide +kernel) (pa_cons (pe_op op_sub (pv 2) (pv 3)) (pa_cons pe_int pa_nil))) (pe_op op_sub (pv 1) pe_int)))
          (pa_cons (pe_op op_add (pv 3) (pe_op op_mul (pe_callB (call_max2 rfl) (by rfl) T.f_max (by decide +kernel) (pa_cons (pe_op op_sub (pv 3) (pv 2)) (pa_cons pe_int pa_nil))) (pe_op op_sub (pv 1) pe_int))) pa_nil))) pa_nil)))) pss_nil)
      (pss_cons (ps_set (i := 4) nd rfl (.inl rfl) (pgr T.g_NOTHING))
      (pss_cons (ps_while PassesOwn.never (pt_cmpR op_gt (pv 1) pe_int (nomark _))
        (pss_cons (ps_if (pt_cmpR op_eq (pe_op op_mod (pv 1) pe_int) pe_int (nomark _)) (pss_one (ps_set (i := 4) nd rfl (.inl rfl) (pc D4 hr T.g_behind (pa_cons (pv 4) (pa_cons (pv 0) pa_nil))))) pss_nil)
        (pss_cons (ps_aug (i := 1) nd rfl (.inl rfl) pe_int iop_fdiv)
        (pss_one (ps_set (i := 0) nd rfl (.inl rfl) (pe_ifExp (pt_cmpR op_gt (pv 1) pe_int (nomark _)) (pc D4 hr T.g_behind (pa_cons (pv 0) (pa_cons (pv 0) pa_nil))) (pv 0)))))))
      (pss_one (ps_ret (pv 4))))))))), ?_⟩
    refine ⟨_, rfl, v, c, rfl, cd, sm.good, _, rfl, _, _, _, rfl, by decide, by decide, ?_⟩
    obtain ⟨p, rfl, hp⟩ := id cd
    refine ⟨_, rfl, p, _, 0, _, rfl, rfl, hp, atI_nat (j := 0) rfl, _, rfl, p, _, 1, _, rfl, rfl, hp, atI_nat (j := 1) rfl, _, _, rfl, ?_⟩
    refine ⟨_, rfl, _, _, rfl, rfl, _, rfl, itD (by decide) ?_⟩
    refine ⟨_, rfl, _, rfl, _, rfl, _, _, rfl, rfl, _, _, rfl, _, rfl, _, _, rfl, rfl, _, _, rfl, rfl, .inr ⟨by decide, by decide⟩, _, _, rfl, rfl, ?_⟩
    refine ⟨_, rfl, _, rfl, _, rfl, _, _, rfl, rfl, _, _, rfl, _, rfl, _, _, rfl, rfl, _, _, rfl, rfl, .inr ⟨by decide, by decide⟩, _, _, rfl, rfl, ?_⟩
    refine ⟨(by show 2 ≤ sizeLine; decide), fun q hq => ?_⟩
    refine ⟨q, _, _, [], rfl, SqT.of upd_same, ?_, ?_, ?_⟩
    · show c.i + (if (0 : Int) > c.i - c.j then 0 else c.i - c.j) * (3 - 1) ≤ 1000
      split <;> omega
    · show c.j + (if (0 : Int) > c.j - c.i then 0 else c.j - c.i) * (3 - 1) ≤ 1000
      split <;> omega
    have e1 : Ex H (upd H q (.tup [.int (c.i + (if (0 : Int) > c.i - c.j then 0 else c.i - c.j) * (3 - 1)), .int (c.j + (if (0 : Int) > c.j - c.i then 0 else c.j - c.i) * (3 - 1))])) := Ex.new hq
    have ckN : Ck 9 200 ⟨0, 0, 0, 0⟩ := ck0.mono (by omega) (by omega)
    have ck1 : Ck 18 600 (behindF ⟨0, 0, 0, 0⟩ c) := (behindF_ck ckN sm.ck).mono (by omega) (by omega)
    have ck2 : Ck 18 600 (behindF c c) := (behindF_ck sm.ck sm.ck).mono (by omega) (by omega)
    -- the loop: three states
    refine while_by (fun (σ : L2.St) (H1 : Hp) => Ex H H1 ∧ ((∃ u, σ = [some u, some (.int 3), some (.int c.i), some (.int c.j), some (.ref (He.ga K "NOTHING"))] ∧ Cd K H1 u c) ∨
        (∃ u f, σ = [some u, some (.int 1), some (.int c.i), some (.int c.j), some f] ∧ Cd K H1 u (behindF c c) ∧ Cd K H1 f (behindF ⟨0, 0, 0, 0⟩ c)) ∨ ∃ u f, σ = [some u, some (.int 0), some (.int c.i), some (.int c.j), some f] ∧ Cd K H1 f (oftenF c)))
      (fun (σ : L2.St) (_ : Hp) => match σ[1]? with | some (some (V.int n)) => n.toNat | _ => 0) ⟨e1, .inl ⟨_, rfl, cd.ex e1⟩⟩ ?_ ?_
    · rintro σ H1 ⟨e2, h⟩
      rcases h with ⟨u, rfl, cu⟩ | ⟨u, f, rfl, cu, cf⟩ | ⟨u, f, rfl, cf⟩
      · refine ⟨_, rfl, _, _, rfl, rfl, _, rfl, itD (by decide) ?_⟩
        refine ⟨_, rfl, _, _, rfl, rfl, (by show (0 : Int) < 2; decide), rfl, _, rfl, itD (by decide) ?_⟩
        refine ⟨_, rfl, _, rfl, _, _, _, _, rfl, top_nothing T _, cu, ck0.mono (by omega) (by omega), sm.ck.mono (by omega) (by omega), fun f H2 e3 cf => ?_⟩
        refine ⟨_, rfl, _, _, rfl, rfl, ⟨by decide, by decide⟩, ?_⟩
        refine ⟨_, rfl, _, _, rfl, rfl, _, rfl, itD (by decide) ?_⟩
        refine ⟨_, rfl, _, rfl, _, _, _, _, rfl, cu.ex e3, cu.ex e3, sm.ck.mono (by omega) (by omega), sm.ck.mono (by omega) (by omega), fun u2 H3 e4 cu2 => ?_⟩
        exact ⟨⟨e2.trans (e3.trans e4), .inr (.inl ⟨u2, f, rfl, cu2, cf.ex e4⟩)⟩, (by show ((3 : Int) / 2).toNat < (3 : Int).toNat; decide)⟩
      · refine ⟨_, rfl, _, _, rfl, rfl, _, rfl, itD (by decide) ?_⟩
        refine ⟨_, rfl, _, _, rfl, rfl, (by show (0 : Int) < 2; decide), rfl, _, rfl, itD (by decide) ?_⟩
        refine ⟨_, rfl, _, rfl, _, _, _, _, rfl, cf, cu, ck1.mono (by omega) (by omega), ck2.mono (by omega) (by omega), fun f2 H2 e3 cf2 => ?_⟩
        refine ⟨_, rfl, _, _, rfl, rfl, ⟨by decide, by decide⟩, ?_⟩
        refine ⟨_, rfl, _, _, rfl, rfl, _, rfl, ifD (by decide) ?_⟩
        refine ⟨_, rfl, ?_⟩
        exact ⟨⟨e2.trans e3, .inr (.inr ⟨u, f2, rfl, cf2⟩)⟩, (by show ((1 : Int) / 2).toNat < (1 : Int).toNat; decide)⟩
      · refine ⟨_, rfl, _, _, rfl, rfl, _, rfl, ifD (by decide) ?_⟩
        exact ⟨_, rfl, k _ _ e2 cf⟩
    · rintro σ H1 Q1 Q2 hQ h
      obtain ⟨v1, a1, i1, j1, a2, a3, b1, a4, q4⟩ := h
      exact ⟨v1, a1, i1, j1, a2, a3, b1, a4, hQ _ _ q4⟩
  · obtain ⟨oc, od, dV, kV, doc, pm, an, cdv, ct, osl, rfl, lk, hcd, hd, hk⟩ := F.ex
    intro s us ws _ h1 h2
    match us, h1, ws, h2 with
    | [u], _, [x], _ =>
      rcases hd with ⟨_, rfl⟩ | ⟨z, _⟩
      · exact .of_eq rfl
      · exact absurd rfl z
/-! ### at_last -/
def atF (c : Card) : Nat → Nat → Int → PyData
  | 0, _, _ => .none
  | k + 1, t, n => if makeF c n = n then .tuple [.int (t : Nat), .int n] else atF c k (t + 1) (makeF c n)
def triesF (c : Card) : Nat := if c.j ≤ c.i then 2 else 2000
theorem makeF_bd {N : Nat} {c : Card} {n : Int} (sm : Sm c) (h : Bd N n) (hN : 300 ≤ N) : Bd (N + 30) (makeF c n) := by
  have bj : Bd 10 (two c.j) := two_bdN (n := 9) (by have := sm.j1; omega)
  have bi : Bd 10 (two c.i) := two_bdN (n := 9) (by have := sm.i1; omega)
  have b1 : Bd (N + 1) (n + c.a) := h.add ((Bd.nn sm.a0 sm.a1 bj).mono (by omega))
  unfold makeF
  exact ((((b1.div _).mul bi).mono (n := N + 20) (by omega)).add (sm.b.bd.mono (by omega))).mono (by omega)
theorem sc_at_last : FnScope ["one", "n", "tries", "times", "later"] ["one", "n"] (defScope s_at_last) := ⟨rfl, rfl, rfl, by decide +kernel, rfl, by decide +kernel, by decide +kernel⟩
def sp_at_last (K : PySem.W.Frag) : Sp := fun vs H Q _ => ∃ (v : V) (c : Card) (n : Int), vs = [v, .int n] ∧ Cd K H v c ∧ Sm c ∧ Far n ∧ RetD K (atF c (triesF c) 0 n) H Q
theorem ok_at_last (T : Top K mg) : Okd P w K mg base 4 (He.ga K "at_last") ["one", "n"] (sp_at_last K) := by
  refine okd_of T.fd_at_last sc_at_last (fun vs H Q E h => ?_) (fun _ _ _ _ _ _ us hl => match us, hl with | [_, _], _ => rfl) (fun cdv A outer s H vs Q E hr h => ?_)
  · obtain ⟨_, _, _, rfl, _⟩ := h; rfl
  · obtain ⟨v, c, n, rfl, cd, sm, far, k⟩ := h
    have D1 := ok_need_card (P := P) (w := w) (base := base) T
    have D2 := ok_need_number (P := P) (w := w) (base := base) T
    have D3 := ok_make (P := P) (w := w) (base := base) T
    have nd := sc_at_last.nd
    refine ⟨_, pss_cons (ps_expr (pc D1 hr T.g_need_card (pa_cons (pv 0) pa_nil))) (pss_cons (ps_expr (pc D2 hr T.g_need_number (pa_cons (pv 1) pa_nil)))
      (pss_cons (ps_set (i := 2) nd rfl (.inl rfl) (pe_ifExp (pt_cmpR op_ge (pe_ix ix_tup (pv 0) pe_int (fun _ _ => rfl)) (pe_ix ix_tup (pv 0) pe_int (fun _ _ => rfl)) (nomark _)) pe_int pe_int))
      (pss_cons (ps_for PassesOwn.never rfl (pi_range1 rfl T.f_range (pa_cons (pv 2) pa_nil)) (pg_name (i := 3) nd rfl (.inl rfl))
        (pss_cons (ps_set (i := 4) nd rfl (.inl rfl) (pc D3 hr T.g_make (pa_cons (pv 0) (pa_cons (pv 1) pa_nil))))
        (pss_cons (ps_if (pt_cmpR op_eq (pv 4) (pv 1) (nomark _)) (pss_one (ps_ret (pe_tup (pa_cons (pv 3) (pa_cons (pv 1) pa_nil))))) pss_nil)
        (pss_one (ps_set (i := 1) nd rfl (.inl rfl) (pv 4))))))
      (pss_one (ps_ret pe_non))))), ?_⟩
    refine ⟨_, rfl, v, c, rfl, cd, sm.good, _, rfl, n, rfl, far, ?_⟩
    obtain ⟨p, rfl, hp⟩ := id cd
    have loop : ∀ m : Nat, m ≤ 2000 → RetD K (atF c m 0 n) H Q → (tSeq (tFor (iRng1 (tCons (tVar 2) tNil)) (gName 3)
        (tSeq (tAsg (tCl (sp_make K) (tCons (tVar 0) (tCons (tVar 1) tNil))) (gName 4)) (tSeq (tIfS (tTest (tOp rEq (tVar 4) (tVar 1))) (tRet (tTup (tCons (tVar 3) (tCons (tVar 1) tNil)))) tNext) (tAsg (tVar 4) (gName 1)))))
        (tRet (tC .non))) { nx := fun _ H' => Q .non H', rt := Q } [some (.ref p), some (.int n), some (.int (m : Nat)), none, none] H := by
      intro m hm k
      refine ⟨_, rfl, (m : Int), rfl, by omega, by omega, ?_⟩
      have em : ((m : Int)).toNat = m := by omega
      rw [em]
      refine for_range (lo := 0) (n := m) (fun i σ H1 => H1 = H ∧ i ≤ m ∧ ∃ n' a b, σ = [some (.ref p), some (.int n'), some (.int (m : Nat)), a, b] ∧ Bd (300 + 30 * i) n' ∧ RetD K (atF c (m - i) i n') H Q) ⟨rfl, Nat.zero_le _, n, _, _, rfl, far.bd.mono (by omega), k⟩ ?_ ?_
      · rintro i σ H1 hi ⟨rfl, _, n', a, b, rfl, bn, k'⟩
        refine ⟨_, rfl, _, rfl, _, c, n', rfl, cd, sm.ck.mono (by omega) (by omega), bn.mono (by omega), ?_⟩
        refine ⟨_, rfl, _, rfl, rfl, _, rfl, ?_⟩
        have ei : m - i = (m - (i + 1)) + 1 := by omega
        rw [ei] at k'
        unfold atF at k'
        by_cases h1 : makeF c n' = n'
        · rw [if_pos h1] at k'
          refine itD (congrArg V.int h1) ⟨_, rfl, _, rfl, (by show 2 ≤ sizeLine; decide), fun q hq => ?_⟩
          refine k' _ _ (Ex.new hq) (.tup (SqT.of upd_same) (.cons ?_ (.cons (.int _) .nil)))
          show Dp K _ (.int (0 + (i : Int))) _
          rw [Int.zero_add]
          exact .int _
        · rw [if_neg h1] at k'
          refine ifD (fun z => h1 (V.int.inj z)) ⟨_, rfl, rfl, by omega, makeF c n', some (.int (0 + (i : Int))), some (.int (makeF c n')), rfl, (makeF_bd sm bn (by omega)).mono (by omega), k'⟩
      · rintro σ H1 ⟨rfl, _, n', a, b, rfl, bn, k'⟩
        rw [Nat.sub_self] at k'
        exact k' _ _ (Ex.refl _) .non
    refine ⟨_, rfl, p, _, 0, _, rfl, rfl, hp, atI_nat (j := 0) rfl, _, rfl, p, _, 1, _, rfl, rfl, hp, atI_nat (j := 1) rfl, _, _, rfl, rfl, _, rfl, ?_⟩
    unfold triesF at k
    by_cases h1 : c.j ≤ c.i
    · rw [if_pos h1] at k
      exact itD h1 (loop 2 (by omega) k)
    · rw [if_neg h1] at k
      exact ifD h1 (loop 2000 (by omega) k)
/-! ### leading, undone -/
def leadF (c : Card) (n : Int) : PyData := if (n - c.b) % two c.i = 0 then .tuple [.int ((n - c.b) / two c.i * two c.j - c.a), .int ((n - c.b) / two c.i * two c.j - c.a + two c.j - 1)] else .none
theorem sc_leading : FnScope ["one", "n", "i", "j", "a", "b", "low"] ["one", "n"] (defScope s_leading) := ⟨rfl, rfl, rfl, by decide +kernel, rfl, by decide +kernel, by decide +kernel⟩
def sp_leading (K : PySem.W.Frag) : Sp := fun vs H Q _ => ∃ (v : V) (c : Card) (n : Int), vs = [v, .int n] ∧ Cd K H v c ∧ Good c ∧ Far n ∧ RetD K (leadF c n) H Q
theorem ok_leading (T : Top K mg) : Okd P w K mg base 3 (He.ga K "leading") ["one", "n"] (sp_leading K) := by
  refine okd_of T.fd_leading sc_leading (fun vs H Q E h => ?_) (fun _ _ _ _ _ _ us hl => match us, hl with | [_, _], _ => rfl) (fun cdv A outer s H vs Q E hr h => ?_)
  · obtain ⟨_, _, _, rfl, _⟩ := h; rfl
  · obtain ⟨v, c, n, rfl, cd, g, far, k⟩ := h
    have D1 := ok_need_card (P := P) (w := w) (base := base) T
    have D2 := ok_need_number (P := P) (w := w) (base := base) T
    have D := ok_two (P := P) (w := w) (base := base) T
    have nd := sc_leading.nd
    refine ⟨_, pss_cons (ps_expr (pc D1 hr T.g_need_card (pa_cons (pv 0) pa_nil))) (pss_cons (ps_expr (pc D2 hr T.g_need_number (pa_cons (pv 1) pa_nil)))
      (pss_cons (ps_asg (pv 0) (pg_tup rfl (pgs_cons (pg_name (i := 2) nd rfl (.inl rfl)) (pgs_cons (pg_name (i := 3) nd rfl (.inl rfl)) (pgs_cons (pg_name (i := 4) nd rfl (.inl rfl)) (pgs_cons (pg_name (i := 5) nd rfl (.inl rfl)) pgs_nil))))))
      (pss_cons (ps_if (pt_cmpR op_ne (pe_op op_mod (pe_op op_sub (pv 1) (pv 5)) (pc D hr T.g_two (pa_cons (pv 2) pa_nil))) pe_int (nomark _)) (pss_one (ps_ret pe_non)) pss_nil)
      (pss_cons (ps_set (i := 6) nd rfl (.inl rfl) (pe_op op_sub (pe_op op_mulW (pe_op op_fdivW (pe_op op_sub (pv 1) (pv 5)) (pc D hr T.g_two (pa_cons (pv 2) pa_nil))) (pc D hr T.g_two (pa_cons (pv 3) pa_nil))) (pv 4)))
      (pss_one (ps_ret (pe_tup (pa_cons (pv 6) (pa_cons (pe_op op_sub (pe_op op_add (pv 6) (pc D hr T.g_two (pa_cons (pv 3) pa_nil))) pe_int) pa_nil))))))))), ?_⟩
    refine ⟨_, rfl, v, c, rfl, cd, g, _, rfl, n, rfl, far, ?_⟩
    obtain ⟨p, rfl, hp⟩ := id cd
    have i0 := g.i0; have i1 := g.i1; have j0 := g.j0; have j1 := g.j1
    have bj : Bd 1001 (two c.j) := two_bdN (n := 1000) (by omega)
    have bi : Bd 1001 (two c.i) := two_bdN (n := 1000) (by omega)
    refine ⟨_, rfl, p, _, rfl, hp, rfl, _, _, rfl, _, _, rfl, _, _, rfl, _, _, rfl, rfl, ?_⟩
    refine ⟨_, rfl, _, rfl, _, _, rfl, rfl, _, rfl, _, rfl, i0, by omega, _, _, rfl, rfl, two_pos _, rfl, _, rfl, ?_⟩
    unfold leadF at k
    by_cases h1 : (n - c.b) % two c.i = 0
    · rw [if_pos h1] at k
      rw [decide_eq_true (congrArg V.int h1)]
      refine iteF ?_
      refine ⟨_, rfl, _, rfl, _, _, rfl, rfl, _, rfl, _, rfl, i0, by omega, _, _, rfl, rfl, wdiv (two_pos _) bi, _, rfl, _, rfl, j0, by omega, _, _, rfl, rfl, wmul ((far.bd.sub g.b.bd).div _) bj, _, rfl, _, _, rfl, rfl, ?_⟩
      refine ⟨_, rfl, _, rfl, _, rfl, _, rfl, j0, by omega, _, _, rfl, rfl, _, _, rfl, rfl, (by show 2 ≤ sizeLine; decide), fun q hq => ?_⟩
      exact k _ _ (Ex.new hq) (.tup (SqT.of upd_same) (.cons (.int _) (.cons (.int _) .nil)))
    · rw [if_neg h1] at k
      rw [decide_eq_false (fun z => h1 (V.int.inj z))]
      exact iteT (k _ _ (Ex.refl _) .non)
def undoneF (c : Card) : PyData := .tuple [if c.i = 0 then .tuple [.int c.j, .int 0, .int 0, .int (0 - c.b * two c.j - c.a)] else .none, if c.j = 0 then (evenF 0 c.i (0 - c.b) 0).d else .none]
theorem sc_undone : FnScope ["one", "i", "j", "a", "b", "ahead"] ["one"] (defScope s_undone) := ⟨rfl, rfl, rfl, by decide +kernel, rfl, by decide +kernel, by decide +kernel⟩
def sp_undone (K : PySem.W.Frag) : Sp := fun vs H Q _ => ∃ (v : V) (c : Card), vs = [v] ∧ Cd K H v c ∧ Good c ∧ RetD K (undoneF c) H Q
theorem ok_undone (T : Top K mg) : Okd P w K mg base 3 (He.ga K "undone") ["one"] (sp_undone K) := by
  refine okd_of T.fd_undone sc_undone (fun vs H Q E h => ?_) (fun _ _ _ _ _ _ us hl => match us, hl with | [_], _ => rfl) (fun cdv A outer s H vs Q E hr h => ?_)
  · obtain ⟨_, _, rfl, _⟩ := h; rfl
  · obtain ⟨v, c, rfl, cd, g, k⟩ := h
    have D1 := ok_need_card (P := P) (w := w) (base := base) T
    have D2 := ok_even (P := P) (w := w) (base := base) T
    have D := ok_two (P := P) (w := w) (base := base) T
    have nd := sc_undone.nd
    refine ⟨_, pss_cons (ps_expr (pc D1 hr T.g_need_card (pa_cons (pv 0) pa_nil)))
      (pss_cons (ps_asg (pv 0) (pg_tup rfl (pgs_cons (pg_name (i := 1) nd rfl (.inl rfl)) (pgs_cons (pg_name (i := 2) nd rfl (.inl rfl)) (pgs_cons (pg_name (i := 3) nd rfl (.inl rfl)) (pgs_cons (pg_name (i := 4) nd rfl (.inl rfl)) pgs_nil))))))
      (pss_cons (ps_set (i := 5) nd rfl (.inl rfl) (pe_ifExp (pt_cmpR op_eq (pv 1) pe_int (nomark _))
        (pe_tup (pa_cons (pv 2) (pa_cons pe_int (pa_cons pe_int (pa_cons (pe_op op_sub (pe_op op_sub pe_int (pe_op op_mulW (pv 4) (pc D hr T.g_two (pa_cons (pv 2) pa_nil)))) (pv 3)) pa_nil))))) pe_non))
      (pss_one (ps_ret (pe_tup (pa_cons (pv 5) (pa_cons (pe_ifExp (pt_cmpR op_eq (pv 2) pe_int (nomark _)) (pc D2 hr T.g_even (pa_cons pe_int (pa_cons (pv 1) (pa_cons (pe_op op_sub pe_int (pv 4)) (pa_cons pe_int pa_nil))))) pe_non) pa_nil))))))), ?_⟩
    refine ⟨_, rfl, v, c, rfl, cd, g, ?_⟩
    obtain ⟨p, rfl, hp⟩ := id cd
    have i0 := g.i0; have i1 := g.i1; have j0 := g.j0; have j1 := g.j1
    have bj : Bd 1001 (two c.j) := two_bdN (n := 1000) (by omega)
    refine ⟨_, rfl, p, _, rfl, hp, rfl, _, _, rfl, _, _, rfl, _, _, rfl, _, _, rfl, rfl, ?_⟩
    -- behind the first: ahead's data
    have fin : ∀ (u : V) (H1 : Hp), Ex H H1 → Dp K H1 u (if c.i = 0 then .tuple [.int c.j, .int 0, .int 0, .int (0 - c.b * two c.j - c.a)] else .none) →
        (tRet (tTup (tCons (tVar 5) (tCons (tIf (tTest (tOp rEq (tVar 2) (tC (.int 0)))) (tCl (sp_even K) (tCons (tC (.int 0)) (tCons (tVar 1) (tCons (tOp (rI0 fun i j => .int (i - j)) (tC (.int 0)) (tVar 4)) (tCons (tC (.int 0)) tNil))))) (tC .non)) tNil)))) { nx := fun _ H' => Q .non H', rt := Q }
          [some (.ref p), some (.int c.i), some (.int c.j), some (.int c.a), some (.int c.b), some u] H1 := by
      intro u H1 e1 du
      refine ⟨_, rfl, _, rfl, rfl, _, rfl, ?_⟩
      unfold undoneF at k
      by_cases h2 : c.j = 0
      · refine itD (congrArg V.int h2) ?_
        rw [if_pos h2] at k
        refine ⟨_, rfl, _, rfl, _, _, rfl, rfl, _, _, _, _, rfl, by decide, by decide, i0, by omega, (Bd.zero.sub g.b.bd).mono (by omega), fun z H2 e2 cz => ?_⟩
        refine ⟨(by show 2 ≤ sizeLine; decide), fun q hq => ?_⟩
        exact k _ _ (e1.trans (e2.trans (Ex.new hq))) (.tup (SqT.of upd_same) (.cons (Dp.ex (e2.trans (Ex.new hq)) du) (.cons (Dp.ex (Ex.new hq) cz.dp) .nil)))
      · refine ifD (fun z => h2 (V.int.inj z)) ?_
        rw [if_neg h2] at k
        refine ⟨(by show 2 ≤ sizeLine; decide), fun q hq => ?_⟩
        exact k _ _ (e1.trans (Ex.new hq)) (.tup (SqT.of upd_same) (.cons (Dp.ex (Ex.new hq) du) (.cons .non .nil)))
    refine ⟨_, rfl, rfl, _, rfl, ?_⟩
    by_cases h1 : c.i = 0
    · refine itD (congrArg V.int h1) ?_
      refine ⟨_, rfl, _, rfl, _, rfl, _, rfl, j0, by omega, _, _, rfl, rfl, wmul g.b.bd bj, _, _, rfl, rfl, _, rfl, _, _, rfl, rfl, (by show 4 ≤ sizeLine; decide), fun q hq => ?_⟩
      refine fin _ _ (Ex.new hq) ?_
      rw [if_pos h1]
      exact .tup (SqT.of upd_same) (.cons (.int _) (.cons (.int _) (.cons (.int _) (.cons (.int _) .nil))))
    · refine ifD (fun z => h1 (V.int.inj z)) (fin _ _ (Ex.refl _) ?_)
      rw [if_neg h1]
      exact .non
end Hs

set_option Elab.async false
set_option linter.all false
set_option maxRecDepth 100000
set_option maxHeartbeats 4000000
/-! list(range(a, b)) whatever a and b are; stays. -/
namespace Hs
open PySem PySem.Spec PyProof.Rows L2
open Evl (Ex)
/-! ### a list out of a range beyond the machine's ints: the library's road for small ones, over the long iterator -/
section
variable {prog : Program} {w : World} {A : Around} {E : Value → Shared → Prop} {s : Shared} {r : Addr} {a b c : Int} {t u v : Tok} {n : Nat}
abbrev longO (a n c : Int) : Obj := { cls := .type "longrange_iterator", data := .fields #[rawInt a, rawInt n, rawInt c] }
theorem extend_long {R : Result → Shared → Prop} (hh : A.handled = none) (hr : IsRange s.heap r a b c t u v) (big : Builtin.Range.small a b c = false) (hn : Builtin.Range.rangeSize a b c = n) (few : n ≤ 2 ^ 24) (S : Addr) (res : Value) (c₀ : Nat)
    (hS : s.heap.get? S = some { cls := .type "list", data := .seq #[] c₀ })
    (hR : ∀ h' tk acc' c', (∀ b o, b ≠ S → s.heap.get? b = some o → h'.get? b = some o) → h'.get? S = some { cls := .type "list", dict := none, data := .seq acc' c', slots := #[] } →
      ItemsOf (fun i v => ∃ t, v = .int (a + i * c) t) acc' n → R (.ok (.ret res)) { s with heap := h', toks := tk }) :
    wpAny (model prog w) A.in1 (Builtin.List.listExtendWith (.ref S) (.ref r) res)
      (fun fin s' => match fin with | .done f => R (.ok f) s' | .again c' => c'.quiet = true ∧ codeAny (model prog w) A c' R s') (fun e s' => R (.error e) s') s := by
  have neSr : S ≠ r := fun e => by rw [e, hr] at hS; simp at hS
  have ltS := Heap.lt_size hS
  have neSI : S ≠ s.heap.objs.size := Nat.ne_of_lt ltS
  have outS : S ∉ [s.heap.objs.size] := fun hm => neSI (List.mem_singleton.mp hm)
  have W := (Walks.longrange (prog := prog) (w := w) (A := A.in1) hh s.heap.objs.size a c n).toS
  have loop : ∀ (h : Heap) (c₁ tk : Nat), IsLongIter h s.heap.objs.size (a + ((0 : Nat) : Int) * c) ((n : Int) - ((0 : Nat) : Int)) c → (∀ b o, b ≠ S → s.heap.get? b = some o → h.get? b = some o) →
      h.get? S = some { cls := .type "list", data := .seq #[] c₁ } → codeAny (model prog w) A (.builtin "list.extend.loop" ⟨[.ref S, .ref s.heap.objs.size, res], []⟩) R { s with heap := h, toks := tk } := by
    intro h c₁ tk hit hk h1
    refine codeAny_extend_loopS W (by rw [sizeLine_eq]; omega) S outS res n 0 _ #[] c₁ rfl (Nat.zero_le _) hit h1 (ItemsOf.nil _) fun s2 acc2 c2 mv h2 items => ?_
    rw [mv.eq_with]
    refine hR s2.heap s2.toks acc2 c2 (fun b o hb e => mv.heap b o (fun hm => ?_) (hk b o hb e)) h2 items
    rcases List.mem_cons.mp hm with z | hm
    · exact hb z
    · rw [List.mem_singleton.mp hm] at e
      exact absurd (Heap.lt_size e) (Nat.lt_irrefl _)
  unfold Builtin.List.listExtendWith
  refine wpAny_bind (wpAny_typeOf (T := "range") ⟨_, hr, rfl⟩ ?_)
  have z1 : Builtin.List.listSameRef (.ref S) (.ref r) = false := by simp [Builtin.List.listSameRef, neSr]
  simp only [z1, show (Value.type "range" == Value.type "list") = false by decide, show (Value.type "range" == Value.type "tuple") = false by decide, Bool.or_false, Bool.false_eq_true, if_false]
  refine wpAny_bind (wpAny_pyIter_longrange hr big ?_)
  refine wpAny_bind (wpAny_holding (wpAny_hint_range (n := n) (Heap.get?_push_of_some _ hr) hn few ?_))
  have hit : IsLongIter (s.heap.push (longO a (Builtin.Range.rangeSize a b c) c)) s.heap.objs.size (a + ((0 : Nat) : Int) * c) ((n : Int) - ((0 : Nat) : Int)) c := by
    show IsLongIter _ _ _ _ _
    rw [hn]
    simpa using Heap.get?_push_size s.heap (o := longO a n c) rfl
  have g1 := Heap.get?_push_of_some (longO a (Builtin.Range.rangeSize a b c) c) hS
  refine wpAny_ite_split (fun _ => ?_) fun _ => wpAny_pure ⟨plainId_quiet F.plain_extend_loop _, loop _ c₀ _ hit (fun b o _ e => Heap.get?_push_of_some _ e) g1⟩
  refine wpAny_bind (wpAny_rule ?_)
  refine wpAny_bind ?_
  show wpAny _ _ (updateSeq S (·.push .none) >>= fun _ => updateSeq S (·.pop)) _ _ _
  refine wpAny_bind (wpAny_updateSeq g1 rfl ?_)
  have g2 := Heap.get?_update_self (Obj.mapSeq (·.push Value.none)) g1 rfl
  refine wpAny_updateSeq (hz := by seq_fits) g2 rfl ?_
  have g3 := Heap.get?_update_self (Obj.mapSeq (·.pop)) g2 rfl
  refine wpAny_pure ⟨plainId_quiet F.plain_extend_loop _, loop _ _ _ ?_ (fun b o hb e => ?_) g3⟩
  · exact (Heap.get?_update_other _ _ neSI).trans ((Heap.get?_update_other _ _ neSI).trans hit)
  · exact (Heap.get?_update_other _ _ (Ne.symm hb)).trans ((Heap.get?_update_other _ _ (Ne.symm hb)).trans (Heap.get?_push_of_some _ e))
theorem list_init_long {R : Result → Shared → Prop} (hh : A.handled = none) (hr : IsRange s.heap r a b c t u v) (big : Builtin.Range.small a b c = false) (hn : Builtin.Range.rangeSize a b c = n) (few : n ≤ 2 ^ 24) (S : Addr)
    (hS : s.heap.get? S = some { cls := .type "list", data := .seq #[] })
    (hR : ∀ h' tk acc' c', (∀ b o, b ≠ S → s.heap.get? b = some o → h'.get? b = some o) → h'.get? S = some { cls := .type "list", dict := none, data := .seq acc' c', slots := #[] } →
      ItemsOf (fun i v => ∃ t, v = .int (a + i * c) t) acc' n → R (.ok (.ret .none)) { s with heap := h', toks := tk }) :
    wpAny (model prog w) A.in1 (Builtin.«list.__init__» ⟨[.ref S, .ref r], []⟩)
      (fun fin s' => match fin with | .done f => R (.ok f) s' | .again c' => c'.quiet = true ∧ codeAny (model prog w) A c' R s') (fun e s' => R (.error e) s') s := by
  have neSr : S ≠ r := fun e => by rw [e, hr] at hS; simp at hS
  show wpAny _ _ (do let old ← Builtin.List.listItems (.ref S); Builtin.List.listUpdate (.ref S) (fun _ => #[]); letGo old.toList.reverse; Builtin.List.listExtendWith (.ref S) (.ref r) .none) _ _ s
  refine wpAny_bind ?_
  unfold Builtin.List.listItems
  refine wpAny_bind (wpAny_seqItems hS rfl (wpAny_pure ?_))
  show wpAny _ _ (updateSeq S (fun _ => #[]) >>= fun _ => letGo (#[] : Array Value).toList.reverse >>= fun _ => Builtin.List.listExtendWith (.ref S) (.ref r) .none) _ _ s
  refine wpAny_bind (wpAny_updateSeq hS rfl ?_)
  have g2 := Heap.get?_update_self (Obj.mapSeq (fun _ => (#[] : Array Value))) hS rfl
  have oth : ∀ b o, b ≠ S → s.heap.get? b = some o → (s.heap.update S (Obj.mapSeq (fun _ => (#[] : Array Value)))).get? b = some o :=
    fun b o hb e => (Heap.get?_update_other _ _ (Ne.symm hb)).trans e
  refine wpAny_bind (wpAny_letGo ?_)
  exact extend_long hh (oth r _ (Ne.symm neSr) hr) big hn few S .none _ g2 fun h2 tk acc2 c2 hk e2 items => hR h2 tk acc2 c2 (fun b o hb e => hk b o hb (oth b o hb e)) e2 items
theorem call_list_long {Q : Value → Shared → Prop} (hh : A.handled = none) (hr : IsRange s.heap r a b c t u v) (big : Builtin.Range.small a b c = false) (hn : Builtin.Range.rangeSize a b c = n) (few : n ≤ 2 ^ 24)
    (hQ : ∀ h' tk acc' c', (∀ b o, s.heap.get? b = some o → h'.get? b = some o) →
      h'.get? s.heap.objs.size = some { cls := .type "list", dict := none, data := .seq acc' c', slots := #[] } → ItemsOf (fun i v => ∃ t, v = .int (a + i * c) t) acc' n → Q (.ref s.heap.objs.size) { s with heap := h', toks := tk }) :
    wpAny (model prog w) A (call (.type "list") [.ref r]) Q E s := by
  refine callType_codes (Q₁ := fun obj s₁ => obj = .ref s.heap.objs.size ∧ s₁ = { s with heap := s.heap.push { cls := .type "list", data := .seq #[] } }) F.called_list (F.typeCall_list_1 _) F.entry_list_init
    (code_list_new _ ⟨rfl, rfl⟩) fun obj s₁ h₁ => ?_
  obtain ⟨rfl, rfl⟩ := h₁
  have g : (s.heap.push { cls := .type "list", data := .seq #[] }).get? s.heap.objs.size = some { cls := .type "list", data := .seq #[] } := Heap.get?_push_size _ rfl
  refine ⟨⟨_, g, rfl⟩, F.args_list_init_2 _ _, list_init_long (A := A.in1) hh (Heap.get?_push_of_some _ hr) big hn few _ g fun h2 tk acc2 c2 hk e2 items => ?_⟩
  exact ⟨rfl, hQ h2 tk acc2 c2 (fun b o e => hk b o (Nat.ne_of_lt (Heap.lt_size e)) (Heap.get?_push_of_some _ e)) e2 items⟩
end
section
variable {X : Cx} {e : Expr} {te : L2.St → Hp → (Int → Int → Hp → Prop) → Prop}
/-- list(range(a, b)), few turns -/
def tLstRgW (te : L2.St → Hp → (Int → Int → Hp → Prop) → Prop) : TE := fun σ H Q => te σ H fun a b H1 => (b - a).toNat ≤ 2 ^ 24 ∧ ∀ q, H1 q = none → Q (.ref q) (upd H1 q (.lst (rgV a b)))
theorem pe_listRgW {p pos : Pos} (hc : X.calm = true) (hg : Gl X "list") (hm : X.mg "list" = none) (he : PRg X e te) (na : starEach [e] X.env = (false, eval e X.env) :: starEach [] X.env := by rfl) : PE X (.Call (.Name "list" p) [e] [] pos) (tLstRgW te) := by
  refine ⟨fun pins s σ H Q I h => ?_⟩
  refine Call_ (ld_blt I hg hm boot_list (PyProof.Rows.callWith_type1 (args_cons (thn (he pins s σ H _ I h) fun x s1 ⟨r, a, b, t, u, v, H1, ex, hr, I1, few, q⟩ => args_nil ?_) na) na))
  subst ex
  have fin : ∀ h' tk acc c', (∀ b o, s1.heap.get? b = some o → h'.get? b = some o) → h'.get? s1.heap.objs.size = some { cls := .type "list", dict := none, data := .seq acc c', slots := #[] } → ItemsOf (fun i v => ∃ t, v = .int (a + i * 1) t) acc (b - a).toNat →
      EP X pins σ Q (.ref s1.heap.objs.size) { s1 with heap := h', toks := tk } := fun h' tk acc c' hk e' hi => by
    refine ⟨.ref s1.heap.objs.size, upd H1 s1.heap.objs.size (.lst (rgV a b)), I1.laid hk (Nat.le_refl _) (show ObjOk X.prog X.w _ _ _ (.lst (rgV a b)) from ⟨?_, acc.toList, c', vals_rg hi, ?_⟩), rfl, q _ (I1.hok.fresh (Nat.le_refl _))⟩
    · rw [rgV_length, sizeLine_eq]; omega
    · rw [Array.toArray_toList]; exact e'
  cases hs : Builtin.Range.small a b 1 with
  | true => exact call_list_range (n := (b - a).toNat) (I1.ok.hd hc) hr hs (rangeSize_nat a b) few fin
  | false => exact call_list_long (n := (b - a).toNat) (I1.ok.hd hc) hr hs (rangeSize_nat a b) few fin
end
/-! ### stays -/
variable {P : Program} {w : World} {K : PySem.W.Frag} {mg : Str → Option Value} {base : Heap}
theorem given_all (n : Nat) (v : Nat → V) : Evl.given n (fun _ => true) v = (List.range n).map v := by
  unfold Evl.given
  rw [List.filter_eq_self.mpr (fun _ _ => rfl)]
theorem range_getD {α β : Type} (f : α → β) (d : α) (xs : List α) : ((List.range xs.length).map fun i => f (xs.getD i d)) = xs.map f := by
  refine List.ext_getElem (by simp) fun i h1 h2 => ?_
  have h3 : i < xs.length := by simpa using h2
  simp [List.getD_eq_getElem?_getD, h3]
def rgI (a b : Int) : List Int := (List.range (b - a).toNat).map fun i => a + (i : Nat)
theorem rgV_eq (a b : Int) : rgV a b = (rgI a b).map V.int := by
  unfold rgV rgI
  rw [List.map_map]; rfl
/-- what is multiplied -/
def someF (c : Card) : List Int :=
  if c.j < c.i then (if (c.a + c.b) / two c.j % (two (c.i - c.j) - 1) = 0 then [0 - (c.a + c.b) / two c.j / (two (c.i - c.j) - 1)] else [])
  else rgI ((c.a + c.b - two c.j) / (two c.j - two c.i) + 1) ((c.a + c.b) / (two c.j - two c.i) + 1)
def staysF (c : Card) : PyData :=
  if c.i = c.j then (if (c.a + c.b) / two c.j = 0 then .tuple [.int (c.b % two c.j), .int (two c.j)] else .list []) else .list ((someF c).map fun x => .int (x * two c.i + c.b))
theorem bd_one : Bd 1 1 := by unfold Bd; decide
theorem bd_le {N : Nat} {x y z : Int} (h1 : x ≤ y) (h2 : y ≤ z) (hx : Bd N x) (hz : Bd N z) : Bd N y := by
  unfold Bd at *; omega
theorem someF_bd {c : Card} (sm : Sm c) : ∀ x ∈ someF c, Bd 300 x := by
  have bj : Bd 10 (two c.j) := two_bdN (n := 9) (by have := sm.j1; omega)
  have bs : Bd 201 (c.a + c.b) := ((Bd.nn sm.a0 sm.a1 bj).mono (by omega)).add sm.b.bd
  intro x hx
  unfold someF at hx
  split at hx
  · split at hx
    · have e : x = _ := List.mem_singleton.mp hx
      rw [e]
      exact (Bd.zero.sub (((bs.div _).div _).mono (n := 299) (by omega)))
    · cases hx
  · unfold rgI at hx
    obtain ⟨k, hk, rfl⟩ := List.mem_map.mp hx
    have hk := List.mem_range.mp hk
    have b1 : Bd 300 ((c.a + c.b - two c.j) / (two c.j - two c.i) + 1) := ((((bs.sub (bj.mono (by omega))).div _).mono (n := 299) (by omega)).add (bd_one.mono (by omega)))
    have b2 : Bd 300 ((c.a + c.b) / (two c.j - two c.i) + 1) := (((bs.div _).mono (n := 299) (by omega)).add (bd_one.mono (by omega)))
    exact bd_le (by omega) (by omega) b1 b2
theorem few_turns {s w g : Int} (hg : 0 < g) (hw : 0 ≤ w) : s / g - (s - w) / g ≤ w := by
  have h1 : s ≤ (s - w) + w * g := by
    have : w * 1 ≤ w * g := Int.mul_le_mul_of_nonneg_left (by omega) hw
    omega
  have h2 : s / g ≤ ((s - w) + w * g) / g := Int.ediv_le_ediv hg h1
  rw [Int.add_mul_ediv_right _ _ (Int.ne_of_gt hg)] at h2
  omega
theorem sc_stays : FnScope ["one", "i", "j", "a", "b", "whole", "more", "some", "gap", "last", "x"] ["one"] (defScope s_stays) := ⟨rfl, rfl, rfl, by decide +kernel, rfl, by decide +kernel, by decide +kernel⟩
def sp_stays (K : PySem.W.Frag) : Sp := fun vs H Q _ => ∃ (v : V) (c : Card), vs = [v] ∧ Cd K H v c ∧ Sm c ∧ RetL c H Q where
  /-- a new list, or a tuple -/
  RetL (c : Card) (H : Hp) (Q : VK) : Prop := (c.i = c.j ∧ (c.a + c.b) / two c.j = 0 → ∀ p H2, H p = none → Ex H H2 → H2 p = some (.tup [.int (c.b % two c.j), .int (two c.j)]) → Q (.ref p) H2) ∧
    (¬ (c.i = c.j ∧ (c.a + c.b) / two c.j = 0) → ∀ p H2, H p = none → Ex H H2 → H2 p = some (.lst (if c.i = c.j then [] else (someF c).map fun x => V.int (x * two c.i + c.b))) → Q (.ref p) H2)
theorem ok_stays (T : Top K mg) : Okd P w K mg base 3 (He.ga K "stays") ["one"] (sp_stays K) := by
  refine okd_of T.fd_stays sc_stays (fun vs H Q E h => ?_) (fun _ _ _ _ _ _ us hl => match us, hl with | [_], _ => rfl) (fun cdv A outer s H vs Q E hr h => ?_)
  · obtain ⟨_, _, rfl, _⟩ := h; rfl
  · obtain ⟨v, c, rfl, cd, sm, k1, k2⟩ := h
    have D1 := ok_need_card (P := P) (w := w) (base := base) T
    have D := ok_two (P := P) (w := w) (base := base) T
    have nd := sc_stays.nd
    refine ⟨_, pss_cons (ps_expr (pc D1 hr T.g_need_card (pa_cons (pv 0) pa_nil)))
      (pss_cons (ps_asg (pv 0) (pg_tup rfl (pgs_cons (pg_name (i := 1) nd rfl (.inr rfl)) (pgs_cons (pg_name (i := 2) nd rfl (.inl rfl)) (pgs_cons (pg_name (i := 3) nd rfl (.inl rfl)) (pgs_cons (pg_name (i := 4) nd rfl (.inr rfl)) pgs_nil))))))
      (pss_cons (ps_set (i := 5) nd rfl (.inl rfl) (pc D hr T.g_two (pa_cons (pv 2) pa_nil)))
      (pss_cons (ps_if (pt_cmpR op_eq (pv 1) (pv 2) (nomark _))
        (pss_one (ps_ret (pe_ifExp (pt_cmpR op_eq (pe_op op_fdivW (pe_op op_add (pv 3) (pv 4)) (pv 5)) pe_int (nomark _)) (pe_tup (pa_cons (pe_op op_mod (pv 4) (pv 5)) (pa_cons (pv 5) pa_nil))) (pe_lst pa_nil)))) pss_nil)
      (pss_cons (ps_if (pt_cmpR op_gt (pv 1) (pv 2) (nomark _))
        (pss_cons (ps_set (i := 6) nd rfl (.inl rfl) (pe_op op_fdivW (pe_op op_add (pv 3) (pv 4)) (pv 5)))
        (pss_one (ps_set (i := 7) nd rfl (.inl rfl) (pe_ifExp (pt_cmpR op_eq (pe_op op_mod (pv 6) (pe_op op_sub (pc D hr T.g_two (pa_cons (pe_op op_sub (pv 1) (pv 2)) pa_nil)) pe_int)) pe_int (nomark _))
          (pe_lst (pa_cons (pe_op op_sub pe_int (pe_op op_fdivW (pv 6) (pe_op op_sub (pc D hr T.g_two (pa_cons (pe_op op_sub (pv 1) (pv 2)) pa_nil)) pe_int))) pa_nil)) (pe_lst pa_nil)))))
        (pss_cons (ps_set (i := 8) nd rfl (.inl rfl) (pe_op op_sub (pv 5) (pc D hr T.g_two (pa_cons (pv 1) pa_nil))))
        (pss_cons (ps_set (i := 9) nd rfl (.inl rfl) (pe_op op_fdivW (pe_op op_add (pv 3) (pv 4)) (pv 8)))
        (pss_one (ps_set (i := 7) nd rfl (.inl rfl) (pe_listRgW rfl rfl T.f_list (prg_2 rfl T.f_range (pe_op op_add (pe_op op_fdivW (pe_op op_sub (pe_op op_add (pv 3) (pv 4)) (pv 5)) (pv 8)) pe_int) (pe_op op_add (pv 9) pe_int))))))))
      (pss_one (ps_ret (pe_lc (own := [("x", 10)]) (g := gName 10) (tt := tYes) rfl nd (pi_list (pv 7)) (blkOk_by (own := [("x", 10)]) (N := ["one", "i", "j", "a", "b", "whole", "more", "some", "gap", "last", "x"]) (sc := defScope s_stays) (by decide +kernel))
        (fun _ _ _ _ _ => pg_name (i := 10) nd rfl (Or.inl rfl)) (fun _ _ _ _ _ => pts_nil) (fun _ _ _ _ _ => pe_op op_add (pe_op op_mulW (pv 10) (pc D hr T.g_two (pa_cons (pv 1) pa_nil))) (pv 4))))))))), ?_⟩
    refine ⟨_, rfl, v, c, rfl, cd, sm.good, ?_⟩
    obtain ⟨p, rfl, hp⟩ := id cd
    have i0 := sm.i0; have i1 := sm.i1; have j0 := sm.j0; have j1 := sm.j1
    have tb : ∀ {m : Int}, m ≤ 9 → Bd 10 (two m) := fun h => two_bdN (n := 9) h
    refine ⟨_, rfl, p, _, rfl, hp, rfl, _, _, rfl, _, _, rfl, _, _, rfl, _, _, rfl, rfl, ?_⟩
    refine ⟨_, rfl, c.j, rfl, j0, by omega, ?_⟩
    refine ⟨_, rfl, _, rfl, rfl, _, rfl, ?_⟩
    by_cases h1 : c.i = c.j
    · refine itD (congrArg V.int h1) ?_
      refine ⟨_, rfl, _, rfl, _, _, rfl, rfl, _, rfl, _, _, rfl, rfl, wdiv (two_pos _) (tb j1), rfl, _, rfl, ?_⟩
      by_cases h2 : (c.a + c.b) / two c.j = 0
      · refine itD (congrArg V.int h2) ?_
        refine ⟨_, rfl, _, rfl, _, _, rfl, rfl, two_pos _, _, rfl, (by show 2 ≤ sizeLine; decide), fun q hq => ?_⟩
        exact k1 ⟨h1, h2⟩ _ _ hq (Ex.new hq) upd_same
      · refine ifD (fun z => h2 (V.int.inj z)) ?_
        refine ⟨(by show 0 ≤ sizeLine; decide), fun q hq => ?_⟩
        refine k2 (fun z => h2 z.2) _ _ hq (Ex.new hq) ?_
        rw [if_pos h1]; exact upd_same
    · refine ifD (fun z => h1 (V.int.inj z)) ?_
      -- the end, from the list of what is multiplied
      have fin : ∀ (more gap last : Option V) (l : Addr) (H1 : Hp), Ex H H1 → H1 l = some (.lst ((someF c).map V.int)) → (someF c).length ≤ 40000 →
          (tRet (tLc (iList K (tVar 7)) (gName 10) tYes (tOp (rI0 fun i j => .int (i + j)) (tOp (rI CMulW fun i j => .int (i * j)) (tVar 10) (tCl sp_two (tCons (tVar 1) tNil))) (tVar 4)) [10])) { nx := fun _ H' => Q .non H', rt := Q }
            [some (.ref p), some (.int c.i), some (.int c.j), some (.int c.a), some (.int c.b), some (.int (two c.j)), more, some (.ref l), gap, last, none] H1 := by
        intro more gap last l H1 e1 hl hz
        have key : Evl.EvL (tLc (iList K (tVar 7)) (gName 10) tYes (tOp (rI0 fun i j => .int (i + j)) (tOp (rI CMulW fun i j => .int (i * j)) (tVar 10) (tCl sp_two (tCons (tVar 1) tNil))) (tVar 4)) [10])
            [some (.ref p), some (.int c.i), some (.int c.j), some (.int c.a), some (.int c.b), some (.int (two c.j)), more, some (.ref l), gap, last, none] H1 (Evl.given ((someF c).map V.int).length (fun _ => true) fun i => V.int ((someF c).getD i 0 * two c.i + c.b)) := by
          refine Evl.el_lcL (fun _ => true) _ (Evl.ev_var rfl) (Evl.sq_of hl) (by rw [List.length_map]; exact hz) (fun x => rfl) (fun i x H2 e2 hx => fun H3 e3 Q' k' => k' H3 (Ex.refl _)) (fun i x H2 e2 hx _ => fun H3 e3 Q' k' => ?_)
          rw [List.getElem?_map] at hx
          cases hy : (someF c)[i]? with
          | none => rw [hy] at hx; cases hx
          | some y =>
            rw [hy] at hx
            have ex : x = V.int y := (Option.some.inj hx).symm
            have hm : y ∈ someF c := List.mem_of_getElem? hy
            refine ⟨_, rfl, _, rfl, c.i, rfl, i0, by omega, y, _, ex, rfl, wmul (someF_bd sm y hm) (tb i1), _, rfl, _, _, rfl, rfl, ?_⟩
            have z := k' H3 (Ex.refl _)
            rw [List.getD_eq_getElem?_getD, hy] at z
            exact z
        refine key H1 (Ex.refl _) _ fun q H2 hq e2 h2 => ?_
        refine k2 (fun z => h1 z.1) q H2 (Evl.fresh_back e1 hq) (e1.trans e2) ?_
        rw [if_neg h1, h2, given_all, List.length_map]
        rw [range_getD (fun x => V.int (x * two c.i + c.b)) 0 (someF c)]
      refine ⟨_, rfl, _, rfl, _, _, rfl, rfl, _, rfl, ?_⟩
      by_cases h3 : c.j < c.i
      · refine itD h3 ?_
        have g1 : 0 < two (c.i - c.j) - 1 := by
          have : two 0 < two (c.i - c.j) := two_lt (by decide) (by omega)
          have : two 0 = 1 := rfl
          omega
        have g2 : Bd 12 (two (c.i - c.j) - 1) := (((tb (m := c.i - c.j) (by omega)).mono (n := 11) (by omega)).sub (bd_one.mono (by omega)))
        refine ⟨_, rfl, _, rfl, _, _, rfl, rfl, _, rfl, _, _, rfl, rfl, wdiv (two_pos _) (tb j1), ?_⟩
        refine ⟨_, rfl, _, rfl, _, rfl, _, _, rfl, rfl, c.i - c.j, rfl, by omega, by omega, _, _, rfl, rfl, _, _, rfl, rfl, g1, rfl, _, rfl, ?_⟩
        by_cases h4 : (c.a + c.b) / two c.j % (two (c.i - c.j) - 1) = 0
        · refine itD (congrArg V.int h4) ?_
          refine ⟨_, rfl, _, rfl, _, rfl, _, _, rfl, rfl, c.i - c.j, rfl, by omega, by omega, _, _, rfl, rfl, _, _, rfl, rfl, wdiv g1 g2, _, _, rfl, rfl, (by show 1 ≤ sizeLine; decide), fun q hq => ?_⟩
          have es : someF c = [0 - (c.a + c.b) / two c.j / (two (c.i - c.j) - 1)] := by
            unfold someF; rw [if_pos h3, if_pos h4]
          refine fin _ _ _ q _ (Ex.new hq) ?_ (by rw [es]; show 1 ≤ 40000; omega)
          rw [es]; exact upd_same
        · refine ifD (fun z => h4 (V.int.inj z)) ?_
          refine ⟨(by show 0 ≤ sizeLine; decide), fun q hq => ?_⟩
          have es : someF c = [] := by
            unfold someF; rw [if_pos h3, if_neg h4]
          refine fin _ _ _ q _ (Ex.new hq) ?_ (by rw [es]; decide)
          rw [es]; exact upd_same
      · refine ifD h3 ?_
        have g1 : 0 < two c.j - two c.i := by
          have : two c.i < two c.j := two_lt i0 (by omega)
          omega
        have g2 : Bd 11 (two c.j - two c.i) := (tb j1).sub (tb i1)
        have es : someF c = rgI ((c.a + c.b - two c.j) / (two c.j - two c.i) + 1) ((c.a + c.b) / (two c.j - two c.i) + 1) := by
          unfold someF; rw [if_neg h3]
        have tj : two c.j ≤ 512 := by
          by_cases z : c.j = 9
          · rw [z]; decide
          · have := two_lt j0 (show c.j < 9 by omega)
            have e9 : two 9 = 512 := by decide
            omega
        have few := few_turns (s := c.a + c.b) (w := two c.j) g1 (Int.le_of_lt (two_pos _))
        refine ⟨_, rfl, _, rfl, c.i, rfl, i0, by omega, _, _, rfl, rfl, ?_⟩
        refine ⟨_, rfl, _, rfl, _, _, rfl, rfl, _, rfl, _, _, rfl, rfl, wdiv g1 g2, ?_⟩
        refine ⟨_, rfl, _, rfl, _, _, rfl, rfl, _, rfl, _, _, rfl, rfl, _, rfl, _, _, rfl, rfl, wdiv g1 g2, _, _, rfl, rfl, _, rfl, _, _, rfl, rfl, _, _, rfl, rfl, ?_, fun q hq => ?_⟩
        · show ((c.a + c.b) / (two c.j - two c.i) + 1 - ((c.a + c.b - two c.j) / (two c.j - two c.i) + 1)).toNat ≤ 2 ^ 24
          omega
        · refine fin _ _ _ q _ (Ex.new hq) ?_ ?_
          · rw [es, ← rgV_eq]; exact upd_same
          · rw [es]; unfold rgI; rw [List.length_map, List.length_range]; omega
end Hs

set_option Elab.async false
set_option linter.all false
set_option maxRecDepth 100000
set_option maxHeartbeats 4000000
/-! notes.py. -/
namespace Hs
open PySem PySem.Spec PyProof.Rows L2
open Evl (Ex Ev EvT EvA EvL EvU)
variable {P : Program} {w : World} {K : PySem.W.Frag} {mg : Str → Option Value} {base : Heap}
/-! ### written -/
def wordsF (c : Card) : List Str := [(toString c.i : String), (toString c.j : String), (toString c.a : String), (toString c.b : String)]
def lineF (c : Card) : Str := Txt.join " " (wordsF c)
def writtenF (c : Card) : Str := Txt.join "\n" [lineF c]
theorem text_len {x : Int} (h : Bd 1500 x) : ((toString x : String) : Str).length ≤ 1501 := by
  rw [PySem.ofString_length]
  refine int_text_length_le (k := 1500) (by decide) ?_
  by_cases e : x.natAbs = 0
  · rw [e]; decide
  · exact (Nat.log2_lt e).mpr h
theorem log_lt {x : Int} (h : Bd 1500 x) : x.natAbs.log2 < 1920 := by
  by_cases e : x.natAbs = 0
  · rw [e]; decide
  · exact Nat.lt_of_lt_of_le ((Nat.log2_lt e).mpr h) (by decide)
theorem small_bd {x : Int} (h0 : 0 ≤ x) (h : x ≤ 1000) : Bd 1500 x := by
  have : Bd 11 x := by unfold Bd; omega
  exact this.mono (by decide)
theorem sc_written : FnScope ["cards", "one", "part"] ["cards"] (defScope s_written) := ⟨rfl, rfl, rfl, by decide +kernel, rfl, by decide +kernel, by decide +kernel⟩
def sp_written (K : PySem.W.Frag) : Sp := fun vs H Q _ => ∃ (l : Addr) (v : V) (c : Card), vs = [.ref l] ∧ H l = some (.lst [v]) ∧ Cd K H v c ∧ Good c ∧ ∀ H2, Ex H H2 → Q (.str (writtenF c)) H2
theorem ok_written (T : Top K mg) : Okd P w K mg base 3 (He.ga K "written") ["cards"] (sp_written K) := by
  refine okd_of T.fd_written sc_written (fun vs H Q E h => ?_) (fun _ _ _ _ _ _ us hl => match us, hl with | [_], _ => rfl) (fun cdv A outer s H vs Q E hr h => ?_)
  · obtain ⟨_, _, _, rfl, _⟩ := h; rfl
  · obtain ⟨l, v, c, rfl, hl, cd, g, k⟩ := h
    have D := ok_need_card (P := P) (w := w) (base := base) T
    have nd := sc_written.nd
    have i0 := g.i0; have i1 := g.i1; have j0 := g.j0; have j1 := g.j1
    have ba : Bd 1500 c.a := (Bd.nn g.a0 g.a1 (two_bdN (n := 1000) (by omega))).mono (by omega)
    have bb : Bd 1500 c.b := g.b.bd.mono (by omega)
    have all : ∀ (i : Nat) (x : V), c.vs[i]? = some x → ∃ z : Int, x = .int z ∧ Bd 1500 z ∧ (wordsF c).getD i "" = ((toString z : String) : Str) := by
      intro i x hx
      match i, hx with
      | 0, hx => exact ⟨c.i, (Option.some.inj hx).symm, small_bd i0 i1, rfl⟩
      | 1, hx => exact ⟨c.j, (Option.some.inj hx).symm, small_bd j0 j1, rfl⟩
      | 2, hx => exact ⟨c.a, (Option.some.inj hx).symm, ba, rfl⟩
      | 3, hx => exact ⟨c.b, (Option.some.inj hx).symm, bb, rfl⟩
      | n + 4, hx => cases hx
    have words_sum : ((wordsF c).map (·.length)).sum ≤ 6004 := by
      have h1 := text_len (small_bd i0 i1); have h2 := text_len (small_bd j0 j1); have h3 := text_len ba; have h4 := text_len bb
      have e : ((wordsF c).map (·.length)).sum = ((toString c.i : String) : Str).length + (((toString c.j : String) : Str).length + (((toString c.a : String) : Str).length + (((toString c.b : String) : Str).length + 0))) := rfl
      rw [e]
      omega
    refine ⟨_, pss_cons (ps_for PassesOwn.never rfl (pi_list (pv 0)) (pg_name (i := 1) nd rfl (.inl rfl)) (pss_one (ps_expr (pc D hr T.g_need_card (pa_cons (pv 1) pa_nil)))))
      (pss_one (ps_ret (pjoin pe_str (pe_lc (own := [("one", 1)]) (g := gName 1) (tt := tYes) (te := tM1 (rJn K) (tC (.str " ")) (tLc (iTup K (tVar 1)) (gName 2) tYes (tCB rStrI (tCons (tVar 2) tNil)) [2])) rfl nd (pi_list (pv 0)) (blkOk_by (own := [("one", 1)]) (N := ["cards", "one", "part"]) (sc := defScope s_written) (by decide +kernel))
        (fun _ _ _ _ _ => pg_name (i := 1) nd rfl (Or.inl rfl)) (fun _ _ _ _ _ => pts_nil) (fun _ _ _ _ _ => pjoin pe_str (pe_lc (own := [("part", 2)]) (g := gName 2) (tt := tYes) rfl nd (pi_tup (pv 1)) (blkOk_by (own := [("part", 2)]) (N := ["cards", "one", "part"]) (by rfl))
          (fun _ _ _ _ _ => pg_name (i := 2) nd rfl (Or.inl rfl)) (fun _ _ _ _ _ => pts_nil) (fun _ _ _ _ _ => pe_callTy c_strI (by rfl) T.f_str (by decide +kernel) (pa_cons (pv 2) pa_nil)))))))), ?_⟩
    refine ⟨_, rfl, l, rfl, ⟨_, SqL.of hl⟩, for_list (K := K) (a := l) (xs := [v]) (fun i σ H1 => H1 = H ∧ ∃ z, σ = [some (.ref l), z, none]) ⟨rfl, _, rfl⟩ (fun i σ H1 _ q => by rw [q.1]; exact SqL.of hl) ?_ ?_⟩
    · rintro i x σ H1 hx ⟨rfl, z, rfl⟩
      have ex : v = x := by
        match i, hx with
        | 0, hx => exact Option.some.inj hx
        | n + 1, hx => cases hx
      subst ex
      exact ⟨_, rfl, v, c, rfl, cd, g, rfl, some v, rfl⟩
    · rintro σ H1 ⟨rfl, z, rfl⟩
      obtain ⟨p, rfl, hp⟩ := id cd
      -- the inner text
      have inner : ∀ (σ' : L2.St) (H2 : Hp), σ'.length = 3 → σ'[1]? = some (some (.ref p)) → SqT K H2 p c.vs → Ev (tM1 (rJn K) (tC (.str " ")) (tLc (iTup K (tVar 1)) (gName 2) tYes (tCB rStrI (tCons (tVar 2) tNil)) [2])) σ' H2 (.str (lineF c)) := by
        intro σ' H2 hlen h1 ht H3 e3 Q' k'
        refine ⟨⟨_, rfl⟩, ?_⟩
        refine eld_lcT (K := K) (xs := c.vs) (fun _ => true) (fun i => .str ((wordsF c).getD i "")) (Evl.ev_var h1) ht (by show 4 ≤ 40000; decide) (fun i x H4 e4 hx => ?_) H3 e3 _ fun q ys H4 hq e5 h4 d4 => ?_
        · obtain ⟨z, rfl, hz, ew⟩ := all i x hx
          refine ⟨_, fun Q H5 _ q => q, ?_, fun H5 _ Q q => q H5 (Ex.refl _), fun _ => ⟨?_, rfl⟩⟩
          · match σ', hlen with
            | [a, b, d], _ => rfl
          · intro H5 e5 Q'' k''
            match σ', hlen with
            | [a, b, d], _ =>
              refine ⟨_, rfl, z, rfl, log_lt hz, k'' _ _ (Ex.refl _) ?_⟩
              rw [ew]
              exact .str _
        · have ey : ys = (wordsF c).map V.str := dstrs d4
          refine ⟨" ", q, wordsF c, rfl, rfl, .inl (ey ▸ SqL.of h4), ?_, k' H4 e5⟩
          have : (wordsF c).length * ((" " : Str)).length ≤ 4 := (by show 4 * ((" " : Str)).length ≤ 4; decide +kernel)
          omega
      refine ⟨⟨_, rfl⟩, ?_⟩
      refine eld_lcL (K := K) (xs := [.ref p]) (fun _ => true) (fun i => .str (lineF c)) (Evl.ev_var rfl) (SqL.of hl) (by show 1 ≤ 40000; decide) (fun i x H4 e4 hx => ?_) H1 (Ex.refl _) _ fun q ys H4 hq e5 h4 d4 => ?_
      · have ex : V.ref p = x := by
          match i, hx with
          | 0, hx => exact Option.some.inj hx
          | n + 1, hx => cases hx
        subst ex
        exact ⟨_, fun Q H5 _ q => q, rfl, fun H5 _ Q q => q H5 (Ex.refl _), fun _ => ⟨ed_of (inner _ _ rfl rfl (Evl.ex_t e4 hp)) (.str _), rfl⟩⟩
      · have ey : ys = [lineF c].map V.str := dstrs (zs := [lineF c]) d4
        refine ⟨"\n", q, [lineF c], rfl, rfl, .inl (ey ▸ SqL.of h4), ?_, k H4 e5⟩
        have e1 : (lineF c).length = ((wordsF c).map (·.length)).sum + ((wordsF c).length - 1) * ((" " : Str)).length := size_glued _ _
        have e2 : ((wordsF c).length - 1) * ((" " : Str)).length ≤ 3 := (by show 3 * ((" " : Str)).length ≤ 3; decide +kernel)
        have e3 : [lineF c].length * (("\n" : Str)).length ≤ 1 := (by show 1 * (("\n" : Str)).length ≤ 1; decide +kernel)
        show (lineF c).length + 0 + _ ≤ _
        omega
end Hs

set_option Elab.async false
set_option linter.all false
set_option maxRecDepth 100000
set_option maxHeartbeats 4000000
/-! notes.py: read, at the one text that the law hands in. -/
namespace Hs
open PySem PySem.Spec PyProof.Rows L2
open Evl (Ex Ev EvT EvA EvL EvU)
variable {P : Program} {w : World} {K : PySem.W.Frag} {mg : Str → Option Value} {base : Heap}
theorem et_false {t : TT} {σ : L2.St} {H : Hp} (h : ∀ H1, Ex H H1 → ∀ Q : Bool → Hp → Prop, (∀ H2, Ex H1 H2 → Q false H2) → t σ H1 Q) : EvT t σ H false := h
/-! ### is_number -/
theorem sc_is_number : FnScope ["word", "sign"] ["word"] (defScope s_is_number) := ⟨rfl, rfl, rfl, by decide +kernel, rfl, by decide +kernel, by decide +kernel⟩
def sp_is_number : Sp := fun vs H Q _ => ∃ c : Nat, vs = [.str ⟨#[c]⟩] ∧ 48 ≤ c ∧ c ≤ 57 ∧ ∀ H2, Ex H H2 → Q (.bl true) H2
theorem tx_figures : ("0123456789" : Str) = ⟨#[48, 49, 50, 51, 52, 53, 54, 55, 56, 57]⟩ := by decide +kernel
theorem tx_0 : ("0" : Str) = ⟨#[48]⟩ := by decide +kernel
theorem dnil {K : PySem.W.Frag} {H : Hp} {ys : List V} (h : DpAll K H ys []) : ys = [] := by cases h; rfl
theorem fig_in {c : Nat} (h1 : 48 ≤ c) (h2 : c ≤ 57) : c ∈ (("0123456789" : Str)).cps.toList := by
  rw [tx_figures]
  have h : c = 48 ∨ c = 49 ∨ c = 50 ∨ c = 51 ∨ c = 52 ∨ c = 53 ∨ c = 54 ∨ c = 55 ∨ c = 56 ∨ c = 57 := by omega
  rcases h with z | z | z | z | z | z | z | z | z | z <;> subst z <;> simp
theorem ok_is_number (T : Top K mg) : Okd P w K mg base 1 (He.ga K "is_number") ["word"] sp_is_number := by
  refine okd_of T.fd_is_number sc_is_number (fun vs H Q E h => ?_) (fun _ _ _ _ _ _ us hl => match us, hl with | [_], _ => rfl) (fun cdv A outer s H vs Q E hr h => ?_)
  · obtain ⟨_, rfl, _⟩ := h; rfl
  · obtain ⟨c, rfl, h1, h2, k⟩ := h
    obtain ⟨tM, gM⟩ := T.i_MOST_FIGURES
    obtain ⟨tS, gS⟩ := T.s_FIGURES
    have nd := sc_is_number.nd
    refine ⟨_, pss_cons (ps_if (PW.pt (pw_or (pt_not (pt_chain op_le op_le pe_int (pe_callB call_len_str (by rfl) T.f_len PySem.boot_len (pa_cons (pv 0) pa_nil)) (pgi gM)))
        (pw_or1 (pt_cmpR (op_neD hr.units) (pe_lc (own := [("sign", 1)]) (g := gName 1) rfl nd (pi_str (pv 0)) (blkOk_by (own := [("sign", 1)]) (N := ["word", "sign"]) (sc := defScope s_is_number) (by decide +kernel))
          (fun _ _ _ _ _ => pg_name (i := 1) nd rfl (Or.inl rfl)) (fun _ _ _ _ _ => pts_one (pt_cmpR op_notIn_sign (pv 1) (pgs gS) rfl)) (fun _ _ _ _ _ => pv 1)) (pe_lst pa_nil) (nomark _))))) (pss_one (ps_ret pe_bl)) pss_nil)
      (pss_one (ps_ret (pe_or (pe_cmpR op_eq (pv 0) pe_str (nomark _)) (pe_one (pe_cmpR op_ne (pe_ix ix_str (pv 0) pe_int (fun _ _ => rfl)) pe_str (nomark _)))))), ?_⟩
    have l1 : ((⟨#[c]⟩ : Str).length : Int) = 1 := rfl
    refine ⟨_, rfl, _, rfl, (by show 1 ≤ sizeLine; decide), _, _, rfl, rfl, _, rfl, itD (by rw [l1]; decide) ⟨_, _, rfl, rfl, _, rfl, ?_⟩⟩
    rw [decide_eq_true (by rw [l1]; decide)]
    refine iteF ?_
    refine go_test (go_op (runL (eld_lcS (K := K) (x := ⟨#[c]⟩) (fun _ => false) (fun _ => .none) (Evl.ev_var rfl) (by show 1 ≤ 40000; decide) (fun i d H1 e1 hd => ?_)) fun p ys H2 hp e2 h2' d2 => ?_))
    · refine ⟨_, fun Q H5 _ q => q, rfl, et_false fun H2 e2 Q q => ?_, fun z => by cases z⟩
      have ed : d = c := by
        match i, hd with
        | 0, hd => exact (Option.some.inj hd).symm
        | n + 1, hd => simp at hd
      subst ed
      refine ⟨_, rfl, d, _, rfl, rfl, _, rfl, ?_⟩
      rw [decide_eq_true (fig_in h1 h2)]
      exact q _ (Ex.refl _)
    · refine ⟨by decide, fun q hq => ?_⟩
      refine ⟨.list [], .list [], .lst (SqL.of ?_) .nil, .lst (SqL.of upd_same) .nil, by decide, by decide, _, rfl, ?_⟩
      · rw [upd_ne (ne_of_none h2' hq), h2', dnil d2]
      refine iteF ?_
      have e3 : Ex H (upd H2 q (.lst [])) := e2.trans (Ex.new hq)
      refine ⟨_, rfl, rfl, _, rfl, ?_⟩
      rw [tx_0]
      by_cases z : c = 48
      · refine itD (sg_eq.mpr z) (k _ e3)
      · refine ifD (fun y => z (sg_eq.mp y)) ?_
        refine ⟨_, rfl, ⟨#[c]⟩, 0, c, rfl, rfl, (by show 1 ≤ sizeLine; decide), rfl, ?_⟩
        refine ⟨rfl, ?_⟩
        have e : (!decide (V.str ⟨#[c]⟩ = V.str ⟨#[48]⟩)) = true := by
          rw [decide_eq_false (fun y => z (sg_eq.mp y))]; rfl
        rw [e]
        exact k _ e3
/-! ### is_row -/
def ws0 : List V := [.str "0", .str "0", .str "0", .str "1"]
theorem sc_is_row : FnScope ["words", "last", "word"] ["words"] (defScope s_is_row) := ⟨rfl, rfl, rfl, by decide +kernel, rfl, by decide +kernel, by decide +kernel⟩
def sp_is_row (K : PySem.W.Frag) : Sp := fun vs H Q _ => ∃ l : Addr, vs = [.ref l] ∧ SqL K H l ws0 ∧ ∀ H2, Ex H H2 → Q (.bl true) H2
theorem tx_1 : ("1" : Str) = ⟨#[49]⟩ := by decide +kernel
theorem ok_is_row (T : Top K mg) : Okd P w K mg base 2 (He.ga K "is_row") ["words"] (sp_is_row K) := by
  refine okd_of T.fd_is_row sc_is_row (fun vs H Q E h => ?_) (fun _ _ _ _ _ _ us hl => match us, hl with | [_], _ => rfl) (fun cdv A outer s H vs Q E hr h => ?_)
  · obtain ⟨_, rfl, _⟩ := h; rfl
  · obtain ⟨l, rfl, hl, k⟩ := h
    obtain ⟨tM, gM⟩ := T.i_PARTS
    have D := ok_is_number (P := P) (w := w) (base := base) T
    have nd := sc_is_row.nd
    refine ⟨_, pss_cons (ps_if (PW.pt (pw_or (pt_cmpR op_ne (pe_callB call_len_seq (by rfl) T.f_len PySem.boot_len (pa_cons (pv 0) pa_nil)) (pgi gM) (nomark _))
        (pw_or1 (pt_cmpR (op_neD hr.units) (pe_lc (own := [("word", 2)]) (g := gName 2) rfl nd (pi_list (pe_slice sl_list (pv 0) po_none (po_some (pe_un un_neg pe_int)))) (blkOk_by (own := [("word", 2)]) (N := ["words", "last", "word"]) (sc := defScope s_is_row) (by decide +kernel))
          (fun _ _ _ _ _ => pg_name (i := 2) nd rfl (Or.inl rfl)) (fun _ _ _ _ _ => pts_one (pt_not (pt_val (pc D hr T.g_is_number (pa_cons (pv 2) pa_nil))))) (fun _ _ _ _ _ => pv 2)) (pe_lst pa_nil) (nomark _))))) (pss_one (ps_ret pe_bl)) pss_nil)
      (pss_cons (ps_set (i := 1) nd rfl (.inl rfl) (pe_ix ix_list (pv 0) (pe_un un_neg pe_int) (fun _ _ => rfl)))
      (pss_one (ps_ret (pe_ifExp (pt_cmpR op_eq (pe_slice sl_str (pv 1) po_none (po_some pe_int)) pe_str (nomark _))
        (pe_and (pc D hr T.g_is_number (pa_cons (pe_slice sl_str (pv 1) (po_some pe_int) po_none) pa_nil)) (pe_one (pe_cmpR op_ne (pv 1) pe_str (nomark _))))
        (pc D hr T.g_is_number (pa_cons (pv 1) pa_nil)))))), ?_⟩
    refine ⟨_, rfl, l, ws0, rfl, .inl hl, rfl, _, rfl, iteF ?_⟩
    refine go_test (go_op (runL (eld_lcN (K := K) (ws := [.str "0", .str "0", .str "0"]) (fun _ => false) (fun _ => .none) (fun H1 e1 Q q => ?_) (by decide) (fun i x wd H1 e1 hw hx => ?_)) fun p ys H2 hp e2 h2' d2 => ?_))
    · refine ⟨_, rfl, _, rfl, -1, rfl, l, ws0, rfl, Evl.ex_l e1 hl, fun p hp => q p [.str "0", .str "0", .str "0"] _ hp (Ex.new hp) upd_same (.cons (.str _) (.cons (.str _) (.cons (.str _) .nil)))⟩
    · have ex : x = .str "0" := by
        match i, hw with
        | 0, hw => cases (Option.some.inj hw); cases hx; rfl
        | 1, hw => cases (Option.some.inj hw); cases hx; rfl
        | 2, hw => cases (Option.some.inj hw); cases hx; rfl
        | n + 3, hw => simp at hw
      subst ex
      refine ⟨_, fun Q H5 _ q => q, rfl, et_false fun H2 e2 Q q => ?_, fun z => by cases z⟩
      exact ⟨_, rfl, 48, by rw [tx_0], by decide, by decide, fun H3 e3 => ⟨_, rfl, q _ e3⟩⟩
    · refine ⟨by decide, fun q hq => ?_⟩
      refine ⟨.list [], .list [], .lst (SqL.of ?_) .nil, .lst (SqL.of upd_same) .nil, by decide, by decide, _, rfl, ?_⟩
      · rw [upd_ne (ne_of_none h2' hq), h2', dnil d2]
      refine iteF ?_
      have e3 : Ex H (upd H2 q (.lst [])) := e2.trans (Ex.new hq)
      refine ⟨_, rfl, _, rfl, l, ws0, -1, .str "1", rfl, rfl, Evl.ex_l e3 hl, rfl, ?_⟩
      refine ⟨_, rfl, 1, rfl, "1", rfl, by decide +kernel, rfl, _, rfl, ?_⟩
      refine ifB (by decide +kernel) ?_
      exact ⟨_, rfl, 49, by rw [tx_1], by decide, by decide, fun H3 e4 => k _ (e3.trans e4)⟩
/-! ### read -/
theorem for_enumL {a : Addr} {xs : List V} {g : TG} {tb : TS} {D : Ends} {σ : L2.St} {H : Hp} (Pv : Nat → L2.St → Hp → Prop) (h0 : Pv 0 σ H) (hl : ∀ i σ H, i ≤ xs.length → Pv i σ H → SqL K H a xs)
    (hs : ∀ i x T σ H, xs[i]? = some x → Pv i σ H → H T = none → g (.ref T) σ (upd H T (.tup [.int (i : Nat), x])) fun σ2 H2 => tb { D with nx := Pv (i + 1), ct := Pv (i + 1), bk := D.nx } σ2 H2) (hd : ∀ σ H, Pv xs.length σ H → D.nx σ H) :
    ∃ W : Nat → Nat → L2.St → Hp → Prop, (∃ m, W 0 m σ H) ∧ ∀ i m σ H, W i m σ H →
      ((Ite K a).stop i H ∧ D.nx σ H) ∨ ((Ite K a).go i H ∧ ∃ N : L2.St → Hp → Prop, (∀ σ' H', N σ' H' → ∃ m', m' < m ∧ W (i + 1) m' σ' H') ∧ ∀ v H', (Ite K a).yld i H v H' → g v σ H' fun σ2 H2 => tb { D with nx := N, ct := N, bk := D.nx } σ2 H2) := by
  refine ⟨fun i m σ H => i ≤ xs.length ∧ m = xs.length - i ∧ Pv i σ H, ⟨_, Nat.zero_le _, rfl, h0⟩, ?_⟩
  rintro i m σ H ⟨hle, rfl, hp⟩
  by_cases hi : i < xs.length
  · refine .inr ⟨⟨xs, xs[i], hl i σ H hle hp, List.getElem?_eq_getElem hi⟩, Pv (i + 1), fun σ' H' p => ⟨_, ?_, hi, rfl, p⟩, fun v H' hy => ?_⟩
    · omega
    · obtain ⟨T, x, rfl, hT, rfl, hx⟩ := hy
      exact hs i x T σ H (hx xs (hl i σ H hle hp)) hp hT
  · have e : i = xs.length := by omega
    rw [e] at hp
    exact .inl ⟨⟨xs, hl _ σ H (Nat.le_refl _) hp, by omega⟩, hd σ H hp⟩
def line0 : Str := "0 0 0 1"
theorem split_nl : Txt.split line0 "\n" = [line0] := by decide +kernel
theorem split_sp : (Txt.split line0 " ").map V.str = ws0 := by decide +kernel
theorem sc_read : FnScope ["text", "found", "row", "line", "words", "one", "e", "word"] ["text"] (defScope s_read) := ⟨rfl, rfl, rfl, by decide +kernel, rfl, by decide +kernel, by decide +kernel⟩
def sp_read : Sp := fun vs H Q _ => vs = [.str line0] ∧ ∀ p t H2, H p = none → Ex H H2 → H2 p = some (.lst [.ref t]) → H2 t = some (.tup [.int 0, .int 0, .int 0, .int 1]) → Q (.ref p) H2
theorem good01 : Good ⟨0, 0, 0, 1⟩ := ⟨by decide, by decide, by decide, by decide, by decide, by decide, by decide, by decide⟩
theorem ok_read (T : Top K mg) : Okd P w K mg base 3 (He.ga K "read") ["text"] sp_read := by
  refine okd_of T.fd_read sc_read (fun vs H Q E h => ?_) (fun _ _ _ _ _ _ us hl => match us, hl with | [_], _ => rfl) (fun cdv A outer s H vs Q E hr h => ?_)
  · obtain ⟨rfl, _⟩ := h; rfl
  · obtain ⟨rfl, k⟩ := h
    have D := ok_is_row (P := P) (w := w) (base := base) T
    have D1 := ok_need_card (P := P) (w := w) (base := base) T
    have nd := sc_read.nd
    refine ⟨_, pss_cons (ps_set (i := 1) nd rfl (.inl rfl) (pe_lst pa_nil))
      (pss_cons (ps_for PassesOwn.never rfl (pi_enum rfl T.f_enumerate (pa_cons (pe_ifExp (pt_cmpR op_ne (pv 0) pe_str (nomark _)) (psplit (pv 0) pe_str) (pe_lst pa_nil)) pa_nil)) (pg_tup rfl (pgs_cons (pg_name (i := 2) nd rfl (.inl rfl)) (pgs_cons (pg_name (i := 3) nd rfl (.inl rfl)) pgs_nil)))
        (pss_cons (ps_set (i := 4) nd rfl (.inl rfl) (psplit (pv 3) pe_str))
        (pss_cons (ps_if (pt_not (pt_val (pc D hr T.g_is_row (pa_cons (pv 4) pa_nil)))) pss_never pss_nil)
        (pss_cons (ps_set (i := 5) nd rfl (.inl rfl) (pe_callTy call_tuple_of (by rfl) T.f_tuple (by decide +kernel) (pa_cons (pe_lc (own := [("word", 7)]) (g := gName 7) (tt := tYes) rfl nd (pi_list (pv 4)) (blkOk_by (own := [("word", 7)]) (N := ["text", "found", "row", "line", "words", "one", "e", "word"]) (sc := defScope s_read) (by decide +kernel))
            (fun _ _ _ _ _ => pg_name (i := 7) nd rfl (Or.inl rfl)) (fun _ _ _ _ _ => pts_nil) (fun _ _ _ _ _ => pe_callTy call_int_str (by rfl) T.f_int (by decide +kernel) (pa_cons (pv 7) pa_nil))) pa_nil)))
        (pss_cons (ps_try_thru0 (pss_one (ps_expr (pc D1 hr T.g_need_card (pa_cons (pv 5) pa_nil)))))
        (pss_one (ps_expr (pe_bm PySem.F.plainAttrs_list PySem.F.slot_list_append PySem.F.type_list_append mt_append (pv 1) (pa_cons (pv 5) pa_nil)))))))))
      (pss_one (ps_ret (pv 1)))), ?_⟩
    refine ⟨by decide, fun p0 hp0 => ?_⟩
    refine ⟨_, rfl, rfl, _, rfl, ?_⟩
    refine itB (by decide +kernel) ?_
    refine ⟨_, rfl, ⟨_, rfl⟩, line0, "\n", rfl, rfl, by decide +kernel, by decide +kernel, fun l hl => ?_⟩
    rw [split_nl]
    have n0 : l ≠ p0 := fun z => by rw [z, upd_same] at hl; cases hl
    refine ⟨l, [.str line0], rfl, SqL.of upd_same, for_enumL (xs := [.str line0]) (fun i σ H' => Ex H H' ∧ H' l = some (.lst [.str line0]) ∧ (∃ a b c d, σ = [some (.str line0), some (.ref p0), a, b, c, d, none, none]) ∧ (i = 0 → H' p0 = some (.lst [])) ∧
        (i = 1 → ∃ t, H' p0 = some (.lst [.ref t]) ∧ H' t = some (.tup [.int 0, .int 0, .int 0, .int 1]))) ?_ (fun i σ H' _ q => SqL.of q.2.1) ?_ ?_⟩
    · refine ⟨(Ex.new hp0).trans (Ex.new hl), upd_same, ⟨_, _, _, _, rfl⟩, fun _ => ?_, fun z => by cases z⟩
      show upd _ l _ p0 = _
      rw [upd_ne n0.symm, upd_same]
    · rintro i x T' σ H' hx ⟨e1, h1, ⟨a, b, c, d, rfl⟩, h2, h3⟩ hT
      have ei : i = 0 := by
        match i, hx with
        | 0, hx => rfl
        | n + 1, hx => simp at hx
      subst ei
      have ex : x = .str line0 := (Option.some.inj hx).symm
      subst ex
      have e2 : Ex H' (upd H' T' (.tup [.int ((0 : Nat) : Int), .str line0])) := Ex.new hT
      refine ⟨T', _, rfl, SqT.of upd_same, rfl, _, _, rfl, _, _, rfl, rfl, ?_⟩
      refine ⟨_, rfl, ⟨_, rfl⟩, line0, " ", rfl, rfl, by decide +kernel, by decide +kernel, fun l2 hl2 => ?_⟩
      rw [split_sp]
      refine ⟨_, rfl, l2, rfl, SqL.of upd_same, fun H3 e3 => ⟨_, rfl, ?_⟩⟩
      refine iteF ?_
      refine go_next (go_seq (go_asg (go_cb1 ?_)))
      have e4 : Ex H' H3 := (e2.trans (Ex.new hl2)).trans e3
      refine runL (eld_lcL (K := K) (xs := ws0) (fun _ => true) (fun i => .int (if i = 3 then 1 else 0)) (Evl.ev_var rfl) (Evl.ex_l e3 (SqL.of upd_same)) (by decide) (fun i x H4 e5 hx => ?_)) fun q ys H4 hq e5 h6 d6 => ?_
      · refine ⟨_, fun Q H5 _ q => q, rfl, fun H5 _ Q q => q H5 (Ex.refl _), fun _ => ⟨fun H5 e6 Q q => ?_, rfl⟩⟩
        match i, hx with
        | 0, hx => cases (Option.some.inj hx); exact ⟨_, rfl, "0", 0, rfl, by decide +kernel, by decide +kernel, q _ _ (Ex.refl _) (.int _)⟩
        | 1, hx => cases (Option.some.inj hx); exact ⟨_, rfl, "0", 0, rfl, by decide +kernel, by decide +kernel, q _ _ (Ex.refl _) (.int _)⟩
        | 2, hx => cases (Option.some.inj hx); exact ⟨_, rfl, "0", 0, rfl, by decide +kernel, by decide +kernel, q _ _ (Ex.refl _) (.int _)⟩
        | 3, hx => cases (Option.some.inj hx); exact ⟨_, rfl, "1", 1, rfl, by decide +kernel, by decide +kernel, q _ _ (Ex.refl _) (.int _)⟩
        | n + 4, hx => simp [ws0] at hx
      · have ey : ys = [(0 : Int), 0, 0, 1].map V.int := dints d6
        subst ey
        refine ⟨q, _, rfl, .inl ⟨SqL.of h6, fun t ht => ?_⟩⟩
        have e6 : Ex H' (upd H4 t (.tup [.int 0, .int 0, .int 0, .int 1])) := (e4.trans e5).trans (Ex.new ht)
        refine ⟨_, rfl, .ref t, ⟨0, 0, 0, 1⟩, rfl, ⟨t, rfl, SqT.of upd_same⟩, good01, ?_⟩
        refine ⟨_, rfl, .inl ⟨rfl, _, SqL.of (e6 _ _ (h2 rfl))⟩, _, rfl, p0, [], .ref t, rfl, rfl, e6 _ _ (h2 rfl), by decide, ?_⟩
        refine ⟨Ex.mut (e1.trans e6) hp0, ?_, ⟨_, _, _, _, rfl⟩, fun z => by omega, fun _ => ⟨t, upd_same, ?_⟩⟩
        · rw [upd_ne n0]; exact e6 _ _ h1
        · have nt : t ≠ p0 := fun z => by
            have := (e4.trans e5) _ _ (h2 rfl)
            rw [z, this] at ht; cases ht
          rw [upd_ne nt, upd_same]; rfl
    · rintro σ H' ⟨e1, h1, ⟨a, b, c, d, rfl⟩, h2, h3⟩
      obtain ⟨t, h4, h5⟩ := h3 rfl
      exact ⟨_, rfl, k p0 t H' hp0 e1 h4 h5⟩
end Hs

set_option Elab.async false
set_option linter.all false
set_option maxRecDepth 100000
set_option maxHeartbeats 4000000
/-! The Maker, as plain functions. -/
namespace Hs
open PySem
/-- fewest, in how many ways -/
abbrev FM := Int × Int
/-- digit, carry, what comes from there -/
abbrev Way := Int × Int × FM
abbrev Row2 := Option FM × Option FM
def absI (d : Int) : Int := if d < 0 then -d else d
def bitsF : Int → Nat → List Int
  | _, 0 => []
  | n, k + 1 => n % 2 :: bitsF (n / 2) k
def cost (w : Way) : Int := absI w.1 + w.2.2.1
def minI : List Int → Int
  | [] => 0
  | [x] => x
  | x :: y :: r => if minI (y :: r) < x then minI (y :: r) else x
def leastF (ws : List Way) : Int := minI (ws.map cost)
def manyF (ws : List Way) : Int := ((ws.filter fun w => cost w = leastF ws).map fun w => w.2.2.2).sum
def bestF (ws : List Way) : Option FM := if ws = [] then none else some (leastF ws, manyF ws)
def pick (r : Row2) (low : Int) : Option FM := if low = 0 then r.1 else r.2
def lowAll (bit carry : Int) (ah : Row2) : List Way := ([0, 1] : List Int).filterMap fun low => (pick ah low).map fun m => (bit + low - 2 * carry, low, m)
def lowWays (bit carry : Int) (ah : Row2) : List Way := (lowAll bit carry ah).filter fun w => absI w.1 < 2
def midWays (rest carry : Int) (last : Row2) : List Way := ([0, 1] : List Int).filterMap fun low => (pick last low).map fun m => (rest + carry + low, low, m)
def okDigit (bit carry digit : Int) : Bool := (bit + carry - digit) % 2 = 0 ∧ 0 ≤ bit + carry - digit ∧ bit + carry - digit ≤ 2
def pickH (r : FM × FM) (c : Int) : FM := if c = 0 then r.1 else r.2
def highWay (bit carry : Int) (bh : FM × FM) (digit : Int) : Way := (digit, (bit + carry - digit) / 2, pickH bh ((bit + carry - digit) / 2))
def highWaysOf (ds : List Int) (bit carry : Int) (bh : FM × FM) : List Way := (ds.filter (okDigit bit carry)).map (highWay bit carry bh)
def highWays (bit carry : Int) (bh : FM × FM) : List Way := highWaysOf [-1, 0, 1] bit carry bh
def row0 : Row2 := (some (0, 1), none)
def lowStep (bit : Int) (r : Row2) : Row2 := (bestF (lowWays bit 0 r), bestF (lowWays bit 1 r))
def lowsF : List Int → Row2 → List Row2
  | [], r => [r]
  | b :: bs, r => r :: lowsF bs (lowStep b r)
def lastLow : List Int → Row2 → Row2
  | [], r => r
  | b :: bs, r => lastLow bs (lowStep b r)
def getF (o : Option FM) : FM := o.getD (0, 0)
def midsF (rest : Int) (last : Row2) : FM × FM := (getF (bestF (midWays rest 0 last)), getF (bestF (midWays rest 1 last)))
def highStep (bit : Int) (r : FM × FM) : FM × FM := (getF (bestF (highWays bit 0 r)), getF (bestF (highWays bit 1 r)))
def headH (l : List (FM × FM)) (m : FM × FM) : FM × FM := l.headD m
def highsF : List Int → FM × FM → List (FM × FM)
  | [], m => [m]
  | b :: bs, m => highStep b (headH (highsF bs m) m) :: highsF bs m
structure Mkr where
  ah : List Int
  bh : List Int
  rest : Int
  lows : List Row2
  mids : FM × FM
  highs : List (FM × FM)
def mkF (c : Card) : Mkr :=
  let bh := bitsF (c.b % two c.i) c.i.toNat
  let ah := bitsF c.a c.j.toNat
  let mids := midsF (c.b / two c.i) (lastLow bh row0)
  { ah := ah, bh := bh, rest := c.b / two c.i, lows := lowsF bh row0, mids := mids, highs := highsF ah mids }
def top0 (m : Mkr) : FM := (headH m.highs m.mids).1
def fewestF (m : Mkr) : Int := (m.ah.length : Int) + m.bh.length + (top0 m).1
def howmanyF (m : Mkr) : Int := (top0 m).2
/-! ### the states -/
/-- part, place, carry -/
abbrev Sta := Int × Int × Int
def signsF (d : Int) : List Nat := if 0 < d then List.replicate d.toNat 43 else List.replicate (0 - d).toNat 45
/-- the ways at a state, what is behind (part, place), the least, the end's sign -/
def waysF (m : Mkr) (s : Sta) : List Way :=
  if s.1 = 0 then highWays (m.ah.getD s.2.1.toNat 0) s.2.2 (m.highs.getD (s.2.1.toNat + 1) m.mids)
  else if s.1 = 1 then midWays m.rest s.2.2 (m.lows.getD m.bh.length row0)
  else lowWays (m.bh.getD s.2.1.toNat 0) s.2.2 (m.lows.getD s.2.1.toNat row0)
def behindS (m : Mkr) (s : Sta) : Int × Int :=
  if s.1 = 0 then (if s.2.1 + 1 < m.ah.length then (0, s.2.1 + 1) else (1, 0))
  else if s.1 = 1 then (2, (m.bh.length : Int) - 1) else (2, s.2.1 - 1)
def leastS (m : Mkr) (s : Sta) : Int :=
  if s.1 = 0 then (pickH (m.highs.getD s.2.1.toNat m.mids) s.2.2).1
  else if s.1 = 1 then (pickH m.mids s.2.2).1
  else (getF (pick (m.lows.getD (s.2.1.toNat + 1) row0) s.2.2)).1
def endS (m : Mkr) (s : Sta) : List Nat :=
  if s.1 = 0 then [47] else if s.1 = 1 then (if 0 < m.bh.length then [50] else []) else (if 0 < s.2.1 then [50] else [])
/-- text, how many, where next -/
abbrev NRow := List Nat × Int × Sta
def nrow (m : Mkr) (s : Sta) (w : Way) : NRow := (signsF w.1 ++ endS m s, w.2.2.2, ((behindS m s).1, (behindS m s).2, w.2.1))
def rowsF (m : Mkr) (s : Sta) : List NRow := ((waysF m s).filter fun w => cost w = leastS m s).map (nrow m s)
def beginF (m : Mkr) : Sta := if m.ah = [] then (1, 0, 0) else (0, 0, 0)
end Hs

set_option Elab.async false
set_option linter.all false
set_option maxRecDepth 100000
set_option maxHeartbeats 4000000
/-! shortest.py: bits_of, digits_text, the Maker's ways. -/
namespace Hs
open PySem PySem.Spec PyProof.Rows L2
open Evl (Ex Ev EvT EvA EvL EvU)
variable {P : Program} {w : World} {K : PySem.W.Frag} {mg : Str → Option Value} {base : Heap}
/-! ### bits_of -/
theorem halves (n : Int) (i : Nat) : n / 2 ^ i / 2 = n / 2 ^ (i + 1) := by
  rw [Int.ediv_ediv_of_nonneg (Int.le_of_lt (Int.pow_pos (by decide))), ← Int.pow_succ]
theorem bitsF_snoc : ∀ (k : Nat) (n : Int), bitsF n (k + 1) = bitsF n k ++ [n / 2 ^ k % 2]
  | 0, n => by simp [bitsF]
  | k + 1, n => by
    have h := bitsF_snoc k (n / 2)
    have e : n / 2 / 2 ^ k = n / 2 ^ (k + 1) := by
      rw [Int.ediv_ediv_of_nonneg (by decide), Int.pow_succ, Int.mul_comm]
    rw [e] at h
    show n % 2 :: bitsF (n / 2) (k + 1) = n % 2 :: (bitsF (n / 2) k ++ _)
    rw [h]
theorem bitsF_len : ∀ (k : Nat) (n : Int), (bitsF n k).length = k
  | 0, _ => rfl
  | k + 1, n => by show (bitsF (n / 2) k).length + 1 = k + 1; rw [bitsF_len]
theorem sc_bits_of : FnScope ["number", "many", "found", "turn"] ["number", "many"] (defScope s_bits_of) := ⟨rfl, rfl, rfl, by decide +kernel, rfl, by decide +kernel, by decide +kernel⟩
def sp_bits_of : Sp := fun vs H Q _ => ∃ n m : Int, vs = [.int n, .int m] ∧ 0 ≤ m ∧ m ≤ 1000 ∧ ∀ p H2, H p = none → Ex H H2 → H2 p = some (.lst ((bitsF n m.toNat).map V.int)) → Q (.ref p) H2
theorem ok_bits_of (T : Top K mg) : Okd P w K mg base 1 (He.ga K "bits_of") ["number", "many"] sp_bits_of := by
  refine okd_of T.fd_bits_of sc_bits_of (fun vs H Q E h => ?_) (fun _ _ _ _ _ _ us hl => match us, hl with | [_, _], _ => rfl) (fun cdv A outer s H vs Q E hr h => ?_)
  · obtain ⟨_, _, rfl, _⟩ := h; rfl
  · obtain ⟨n, m, rfl, m0, m1, k⟩ := h
    have nd := sc_bits_of.nd
    refine ⟨_, pss_cons (ps_set (i := 2) nd rfl (.inl rfl) (pe_lst pa_nil))
      (pss_cons (ps_for PassesOwn.never rfl (pi_range1 rfl T.f_range (pa_cons (pv 1) pa_nil)) (pg_name (i := 3) nd rfl (.inl rfl))
        (pss_cons (ps_expr (pe_bm PySem.F.plainAttrs_list PySem.F.slot_list_append PySem.F.type_list_append mt_append (pv 2) (pa_cons (pe_op op_mod (pv 0) pe_int) pa_nil)))
          (pss_one (ps_aug (i := 0) nd rfl (.inl rfl) pe_int iop_fdiv)))) (pss_one (ps_ret (pv 2)))), ?_⟩
    refine ⟨(by show 0 ≤ sizeLine; decide), fun p hp => ?_⟩
    refine ⟨_, rfl, m, rfl, by omega, by omega, for_range (lo := 0) (n := m.toNat) (fun i σ H1 => Ex H H1 ∧ H1 p = some (.lst ((bitsF n i).map V.int)) ∧ ∃ z, σ = [some (.int (n / 2 ^ i)), some (.int m), some (.ref p), z]) ⟨Ex.new hp, upd_same, none, ?_⟩ ?_ ?_⟩
    · show _ = [some (V.int (n / 1)), _, _, _]
      rw [Int.ediv_one]; rfl
    · rintro i σ H1 hi ⟨e1, h1, z, rfl⟩
      refine ⟨_, rfl, .inl ⟨rfl, _, SqL.of h1⟩, _, rfl, _, _, rfl, rfl, (by show (0 : Int) < 2; decide), p, _, _, rfl, rfl, h1, ?_, ?_⟩
      · rw [List.length_map, bitsF_len]; exact Evl.sz_lt (by omega)
      · refine ⟨_, rfl, _, _, rfl, rfl, ⟨by decide, by decide⟩, Ex.mut e1 hp, ?_, some (.int (0 + (i : Int))), ?_⟩
        · rw [upd_same, bitsF_snoc, List.map_append]; rfl
        · rw [← halves]; rfl
    · rintro σ H1 ⟨e1, h1, z, rfl⟩
      exact ⟨_, rfl, k p H1 hp e1 h1⟩
/-! ### digits_text -/
theorem sc_digits_text : FnScope ["digit"] ["digit"] (defScope s_digits_text) := ⟨rfl, rfl, rfl, by decide +kernel, rfl, by decide +kernel, by decide +kernel⟩
def sp_digits_text : Sp := fun vs H Q _ => ∃ d : Int, vs = [.int d] ∧ -100000 ≤ d ∧ d ≤ 100000 ∧ Q (.str ⟨(signsF d).toArray⟩) H
theorem ok_digits_text (T : Top K mg) : Okd P w K mg base 1 (He.ga K "digits_text") ["digit"] sp_digits_text := by
  refine okd_of T.fd_digits_text sc_digits_text (fun vs H Q E h => ?_) (fun _ _ _ _ _ _ us hl => match us, hl with | [_], _ => rfl) (fun cdv A outer s H vs Q E hr h => ?_)
  · obtain ⟨_, rfl, _⟩ := h; rfl
  · obtain ⟨d, rfl, d0, d1, k⟩ := h
    refine ⟨_, pss_one (ps_ret (pe_ifExp (pt_cmpR op_gt (pv 0) pe_int (nomark _)) (pe_op op_mulS pe_str (pv 0)) (pe_op op_mulS pe_str (pe_op op_sub pe_int (pv 0))))), ?_⟩
    refine ⟨_, rfl, _, _, rfl, rfl, _, rfl, ?_⟩
    unfold signsF at k
    by_cases h : 0 < d
    · rw [if_pos h] at k
      exact itD h ⟨_, rfl, 43, d, congrArg V.str tx_plus, rfl, by omega, d1, k⟩
    · rw [if_neg h] at k
      exact ifD h ⟨_, rfl, _, _, rfl, rfl, 45, _, congrArg V.str tx_minus, rfl, by omega, by omega, k⟩
/-! ### data -/
def fmD (m : FM) : PyData := .tuple [.int m.1, .int m.2]
def wayD (x : Way) : PyData := .tuple [.int x.1, .int x.2.1, fmD x.2.2]
def optD : Option FM → PyData
  | none => .none
  | some m => fmD m
def rowD (r : Row2) : PyData := .list [optD r.1, optD r.2]
def rowH (r : FM × FM) : PyData := .list [fmD r.1, fmD r.2]
section
variable {H : Hp} {v : V}
theorem int_inv {i : Int} (h : Dp K H v (.int i)) : v = .int i := by cases h; rfl
theorem fm_inv {m : FM} (h : Dp K H v (fmD m)) : ∃ a, v = .ref a ∧ SqT K H a [.int m.1, .int m.2] := by
  unfold fmD at h
  cases h with
  | tup h r =>
    cases r with
    | cons a r =>
      cases r with
      | cons b r =>
        cases r
        cases int_inv a
        cases int_inv b
        exact ⟨_, rfl, h⟩
theorem way_inv {x : Way} (h : Dp K H v (wayD x)) : ∃ a m, v = .ref a ∧ SqT K H a [.int x.1, .int x.2.1, m] ∧ Dp K H m (fmD x.2.2) := by
  unfold wayD at h
  cases h with
  | tup h r =>
    cases r with
    | cons a r =>
      cases r with
      | cons b r =>
        cases r with
        | cons c r =>
          cases r
          cases int_inv a
          cases int_inv b
          exact ⟨_, _, rfl, h, c⟩
theorem row_inv {r : Row2} (h : Dp K H v (rowD r)) : ∃ a x y, v = .ref a ∧ SqL K H a [x, y] ∧ Dp K H x (optD r.1) ∧ Dp K H y (optD r.2) := by
  unfold rowD at h
  cases h with
  | lst h r =>
    cases r with
    | cons a r =>
      cases r with
      | cons b r =>
        cases r
        exact ⟨_, _, _, rfl, h, a, b⟩
theorem rowH_inv {r : FM × FM} (h : Dp K H v (rowH r)) : ∃ a x y, v = .ref a ∧ SqL K H a [x, y] ∧ Dp K H x (fmD r.1) ∧ Dp K H y (fmD r.2) := by
  unfold rowH at h
  cases h with
  | lst h r =>
    cases r with
    | cons a r =>
      cases r with
      | cons b r =>
        cases r
        exact ⟨_, _, _, rfl, h, a, b⟩
theorem list_inv {ds : List PyData} (h : Dp K H v (.list ds)) : ∃ a xs, v = .ref a ∧ SqL K H a xs ∧ DpAll K H xs ds := by
  cases h with
  | lst h r => exact ⟨_, _, rfl, h, r⟩
end
/-! ### comprehensions over lists of data -/
theorem given_list {α : Type} (xs : List α) (z : α) (p : α → Bool) (e : α → PyData) : givenD xs.length (fun i => p (xs.getD i z)) (fun i => e (xs.getD i z)) = (xs.filter p).map e := by
  have h : (List.range xs.length).map (fun i => xs.getD i z) = xs := by
    refine List.ext_getElem? fun i => ?_
    by_cases hi : i < xs.length
    · rw [List.getElem?_map, List.getElem?_range hi, Option.map_some, List.getD_eq_getElem?_getD, List.getElem?_eq_getElem hi]; rfl
    · rw [List.getElem?_eq_none (by simpa using hi), List.getElem?_eq_none (by omega)]
  unfold givenD
  have e1 : ((List.range xs.length).filter fun i => p (xs.getD i z)).map (fun i => e (xs.getD i z)) = (((List.range xs.length).map (fun i => xs.getD i z)).filter p).map e := by
    rw [List.filter_map, List.map_map]; rfl
  rw [e1, h]
section
variable {σ : L2.St} {H : Hp} {te tl : TE} {t : TT} {g : TG} {vs : List Nat}
theorem eld_lcB {β : Type} {bs : List β} {v : V} (z : β) (enc : β → PyData) (p : β → Bool) (e : β → PyData) (h : Ev tl σ H v) (hv : Dp K H v (.list (bs.map enc))) (hz : bs.length ≤ 40000)
    (turn : ∀ b x H1, b ∈ bs → Ex H H1 → Dp K H1 x (enc b) → TurnD K g t te σ vs H1 x (p b) (e b)) : EvLD K (tLc (iList K tl) g t te vs) σ H ((bs.filter p).map e) := by
  obtain ⟨a, xs, rfl, hx, hd⟩ := list_inv hv
  have el : xs.length = bs.length := by rw [dlen hd, List.length_map]
  rw [← given_list bs z p e, ← el]
  refine eld_lcL (K := K) _ _ h hx (by omega) fun i x H1 e1 hi => ?_
  obtain ⟨d, h1, h2⟩ := dat2 hd hi
  rw [List.getElem?_map] at h1
  cases hb : bs[i]? with
  | none => rw [hb] at h1; cases h1
  | some b =>
    rw [hb] at h1
    have ed : enc b = d := Option.some.inj h1
    have eg : bs.getD i z = b := by rw [List.getD_eq_getElem?_getD, hb]; rfl
    rw [eg]
    exact turn b x H1 (List.mem_of_getElem? hb) e1 (Dp.ex e1 (ed ▸ h2))
theorem eld_lcBN {β : Type} {bs : List β} (z : β) (enc : β → PyData) (p : β → Bool) (e : β → PyData) (h : EvLD K tl σ H (bs.map enc)) (hz : bs.length ≤ 40000)
    (turn : ∀ b x H1, b ∈ bs → Ex H H1 → Dp K H1 x (enc b) → TurnD K g t te σ vs H1 x (p b) (e b)) : EvLD K (tLc (iList K tl) g t te vs) σ H ((bs.filter p).map e) := by
  rw [← given_list bs z p e, show bs.length = (bs.map enc).length by rw [List.length_map]]
  refine eld_lcN (K := K) _ _ h (by rw [List.length_map]; exact hz) fun i x wd H1 e1 h1 h2 => ?_
  rw [List.getElem?_map] at h1
  cases hb : bs[i]? with
  | none => rw [hb] at h1; cases h1
  | some b =>
    rw [hb] at h1
    have ed : enc b = wd := Option.some.inj h1
    have eg : bs.getD i z = b := by rw [List.getD_eq_getElem?_getD, hb]; rfl
    rw [eg]
    exact turn b x H1 (List.mem_of_getElem? hb) e1 (ed ▸ h2)
end
/-! ### best -/
theorem minI_le : ∀ (l : List Int) (x : Int), x ∈ l → minI l ≤ x
  | [], _, h => by cases h
  | [a], x, h => by rw [List.mem_singleton.mp h]; exact Int.le_refl _
  | a :: b :: r, x, h => by
    have ih := minI_le (b :: r)
    unfold minI
    rcases List.mem_cons.mp h with z | z
    · subst z; split <;> omega
    · have := ih x z; split <;> omega
theorem minI_mem : ∀ (l : List Int), l ≠ [] → minI l ∈ l
  | [], h => absurd rfl h
  | [a], _ => List.mem_singleton.mpr rfl
  | a :: b :: r, _ => by
    have ih := minI_mem (b :: r) (by simp)
    unfold minI
    split
    · exact List.mem_cons_of_mem _ ih
    · exact List.mem_cons_self
theorem laysAll {n : Nat} : ∀ {ds : List PyData}, (∀ d ∈ ds, d.canLay0 = true ∧ d.depth ≤ n) → PyData.canLayAll0 ds = true ∧ PyData.depthAll ds ≤ n
  | [], _ => ⟨rfl, Nat.zero_le _⟩
  | d :: ds, h => by
    obtain ⟨a, b⟩ := h d List.mem_cons_self
    obtain ⟨a', b'⟩ := laysAll (ds := ds) fun x hx => h x (List.mem_cons_of_mem _ hx)
    refine ⟨by simp [PyData.canLayAll0, a, a'], ?_⟩
    show max d.depth (PyData.depthAll ds) ≤ n
    omega
def costD (x : Way) : PyData := .tuple [.int (cost x), .int x.2.2.2]
theorem shaped_costs (ws : List Way) : SeqAt.shaped (.list (ws.map costD)) = true := by
  obtain ⟨a, b⟩ := laysAll (n := 1) (ds := ws.map costD) fun d hd => by
    obtain ⟨x, _, rfl⟩ := List.mem_map.mp hd
    exact ⟨rfl, by simp [costD, PyData.depth, PyData.depthAll]⟩
  unfold SeqAt.shaped
  rw [Bool.and_eq_true]
  refine ⟨?_, decide_eq_true ?_⟩
  · show PyData.canLayAll0 _ = true
    exact a
  · show PyData.depthAll _ + 1 ≤ 64
    omega
theorem sc_best : FnScope ["self", "ways", "found", "least", "digit", "carry", "more", "cost", "many"] ["self", "ways"] (defScope s_Maker_best) := ⟨rfl, rfl, rfl, by decide +kernel, rfl, by decide +kernel, by decide +kernel⟩
def sp_best (K : PySem.W.Frag) : Sp := fun vs H Q _ => ∃ (me v : V) (ws : List Way), vs = [me, v] ∧ Dp K H v (.list (ws.map wayD)) ∧ ws.length ≤ 1000 ∧ ∀ u H2, Ex H H2 → Dp K H2 u (optD (bestF ws)) → Q u H2
theorem fill_all {α : Type} (ws : List α) : ws.filter (fun _ => true) = ws := by simp
theorem map_ints {α : Type} (f : α → Int) (ws : List α) : ws.map (fun x => PyData.int (f x)) = (ws.map f).map PyData.int := by rw [List.map_map]; rfl
theorem ok_best (T : Top K mg) : Okd P w K mg base 1 (He.ma K (He.ga K "Maker") "best") ["self", "ways"] (sp_best K) := by
  refine okd_of T.fd_Maker_best sc_best (fun vs H Q E h => ?_) (fun _ _ _ _ _ _ us hl => match us, hl with | [_, _], _ => rfl) (fun cdv A outer s H vs Q E hr h => ?_)
  · obtain ⟨_, _, _, rfl, _⟩ := h; rfl
  · obtain ⟨me, v, ws, rfl, dv, hz, k⟩ := h
    have nd := sc_best.nd
    refine ⟨_, pss_cons (ps_setLc (i := 2) (own := [("digit", 4), ("carry", 5), ("more", 6)]) (g := gTup K 3 (gCons (gName 4) (gCons (gName 5) (gCons (gName 6) gNil)))) (tt := tYes)
        (te := tTup (tCons (tOp (rI0 fun i j => .int (i + j)) (tCB (fun xs H Q => ∃ i, xs = [.int i] ∧ Q (.int (if i < 0 then -i else i)) H) (tCons (tVar 4) tNil)) (tOp (rIxT K) (tVar 6) (tC (.int 0)))) (tCons (tOp (rIxT K) (tVar 6) (tC (.int 1))) tNil)))
        rfl nd rfl rfl (sw_true rfl rfl rfl (by decide +kernel)) (pi_list (pv 1)) (blkOk_by (own := [("digit", 4), ("carry", 5), ("more", 6)]) (N := ["self", "ways", "found", "least", "digit", "carry", "more", "cost", "many"]) (sc := defScope s_Maker_best) (by decide +kernel))
        (fun _ _ _ _ _ => pg_tup rfl (pgs_cons (pg_name (i := 4) nd rfl (Or.inl rfl)) (pgs_cons (pg_name (i := 5) nd rfl (Or.inl rfl)) (pgs_cons (pg_name (i := 6) nd rfl (Or.inl rfl)) pgs_nil)))) (fun _ _ _ _ _ => pts_nil)
        (fun _ _ _ _ _ => pe_tup (pa_cons (pe_op op_add (pe_callB call_abs (by rfl) T.f_abs (by decide +kernel) (pa_cons (pv 4) pa_nil)) (pe_ix ix_tup (pv 6) pe_int (fun _ _ => rfl))) (pa_cons (pe_ix ix_tup (pv 6) pe_int (fun _ _ => rfl)) pa_nil))))
      (pss_cons (ps_if (pt_cmpR (op_eqD hr.units) (pv 2) (pe_lst pa_nil) (nomark _)) (pss_one (ps_ret pe_non)) pss_nil)
      (pss_cons (ps_set (i := 3) nd rfl (.inr rfl) (pe_callB (cr_min rfl) (by rfl) T.f_min (by decide +kernel) (pa_cons
        (pe_lc (own := [("cost", 7), ("many", 8)]) (g := gTup K 2 (gCons (gName 7) (gCons (gName 8) gNil))) (tt := tYes) (te := tVar 7) rfl nd (pi_list (pv 2))
          (blkOk_by (own := [("cost", 7), ("many", 8)]) (N := ["self", "ways", "found", "least", "digit", "carry", "more", "cost", "many"]) (sc := defScope s_Maker_best) (by decide +kernel))
          (fun _ _ _ _ _ => pg_tup rfl (pgs_cons (pg_name (i := 7) nd rfl (Or.inl rfl)) (pgs_cons (pg_name (i := 8) nd rfl (Or.inl rfl)) pgs_nil))) (fun _ _ _ _ _ => pts_nil) (fun _ _ _ _ _ => pv 7)) pa_nil)))
      (pss_one (ps_ret (pe_tup (pa_cons (pv 3) (pa_cons (pe_callB (cr_sum rfl) (by rfl) T.f_sum (by decide +kernel) (pa_cons
        (pe_lc (own := [("cost", 7), ("many", 8)]) (g := gTup K 2 (gCons (gName 7) (gCons (gName 8) gNil))) (te := tVar 8) rfl nd (pi_list (pv 2))
          (blkOk_by (own := [("cost", 7), ("many", 8)]) (N := ["self", "ways", "found", "least", "digit", "carry", "more", "cost", "many"]) (sc := defScope s_Maker_best) (by decide +kernel))
          (fun _ _ _ _ _ => pg_tup rfl (pgs_cons (pg_name (i := 7) nd rfl (Or.inl rfl)) (pgs_cons (pg_name (i := 8) nd rfl (Or.inl rfl)) pgs_nil))) (fun _ _ _ _ _ => pts_one (pt_cmpR op_eq (pv 7) (pv 3) (nomark _))) (fun _ _ _ _ _ => pv 8)) pa_nil)) pa_nil))))))), ?_⟩
    refine go_seq (go_asg (runL (eld_lcB (K := K) (bs := ws) (0, 0, 0, 0) wayD (fun _ => true) costD (Evl.ev_var rfl) dv (by omega) (fun x u H1 hx e1 hd => ?_)) fun p ys H1 hp e1 h1 d1 => ?_))
    · obtain ⟨a, m, rfl, ha, hm⟩ := way_inv hd
      obtain ⟨b, rfl, hb⟩ := fm_inv hm
      refine ⟨_, fun Q H5 e5 q => ⟨a, _, rfl, Evl.ex_t e5 ha, rfl, _, _, rfl, _, _, rfl, _, _, rfl, rfl, q⟩, rfl, fun H5 _ Q q => q H5 (Ex.refl _), fun _ => ⟨fun H5 e5 Q q => ?_, rfl⟩⟩
      refine ⟨_, rfl, _, rfl, _, rfl, b, _, 0, _, rfl, rfl, Evl.ex_t e5 hb, atI_nat (j := 0) rfl, _, _, rfl, rfl, _, rfl, b, _, 1, _, rfl, rfl, Evl.ex_t e5 hb, atI_nat (j := 1) rfl, (by show 2 ≤ sizeLine; decide), fun r hr => ?_⟩
      exact q _ _ (Ex.new hr) (.tup (SqT.of upd_same) (.cons (.int _) (.cons (.int _) .nil)))
    · rw [fill_all] at d1
      refine ⟨_, rfl, (by show 0 ≤ sizeLine; decide), fun q hq => ?_⟩
      have e2 : Ex H (upd H1 q (.lst [])) := e1.trans (Ex.new hq)
      have d2 : Dp K (upd H1 q (.lst [])) (.ref p) (.list (ws.map costD)) := Dp.ex (Ex.new hq) (.lst (SqL.of h1) d1)
      refine ⟨_, .list [], d2, .lst (SqL.of upd_same) .nil, shaped_costs ws, by decide, _, rfl, ?_⟩
      by_cases hw : ws = []
      · subst hw
        refine iteT ?_
        refine k _ _ e2 ?_
        exact .non
      · have ne : PyData.eqv (.list (ws.map costD)) (.list []) = false := by
          cases ws with
          | nil => exact absurd rfl hw
          | cons a r => rfl
        rw [ne]
        refine iteF ?_
        generalize upd H1 q (.lst []) = H2 at e2 d2
        refine go_next (go_seq (go_asg (go_cb1 (runL (eld_lcB (K := K) (bs := ws) (0, 0, 0, 0) costD (fun _ => true) (fun x => .int (cost x)) (Evl.ev_var rfl) d2 (by omega) (fun x u H3 hx e3 hd => ?_)) fun p2 ys2 H3 hp2 e3 h3 d3 => ?_))))
        · obtain ⟨a, rfl, ha⟩ := fm_inv (m := (cost x, x.2.2.2)) hd
          exact ⟨_, fun Q H5 e5 q => ⟨a, _, rfl, Evl.ex_t e5 ha, rfl, _, _, rfl, _, _, rfl, rfl, q⟩, rfl, fun H5 _ Q q => q H5 (Ex.refl _), fun _ => ⟨ed_of (Evl.ev_var rfl) (.int _), rfl⟩⟩
        · rw [fill_all, map_ints] at d3
          have ey := dints d3
          subst ey
          refine ⟨p2, ws.map cost, rfl, SqL.of h3, by rw [List.length_map]; exact List.length_pos_iff.mpr hw, fun m hm hle => ?_⟩
          have em : m = leastF ws := by
            have a1 := minI_le (ws.map cost) m hm
            have a2 := hle _ (minI_mem (ws.map cost) (by simpa using hw))
            unfold leastF; omega
          subst em
          refine ⟨_, rfl, ?_⟩
          refine go_cb1 (runL (eld_lcB (K := K) (bs := ws) (0, 0, 0, 0) costD (fun x => decide (cost x = leastF ws)) (fun x => .int x.2.2.2) (Evl.ev_var rfl) (Dp.ex e3 d2) (by omega) (fun x u H4 hx e4 hd => ?_)) fun p4 ys4 H4 hp4 e4 h4 d4 => ?_)
          · obtain ⟨a, rfl, ha⟩ := fm_inv (m := (cost x, x.2.2.2)) hd
            refine ⟨_, fun Q H5 e5 q => ⟨a, _, rfl, Evl.ex_t e5 ha, rfl, _, _, rfl, _, _, rfl, rfl, q⟩, rfl, fun H5 _ Q q => ?_, fun _ => ⟨ed_of (Evl.ev_var rfl) (.int _), rfl⟩⟩
            refine ⟨_, rfl, _, rfl, rfl, _, rfl, ?_⟩
            have z := q H5 (Ex.refl _)
            rw [show decide (V.int (cost x) = V.int (leastF ws)) = decide (cost x = leastF ws) by simp]
            cases hc : decide (cost x = leastF ws) with
            | true => rw [hc] at z; exact z
            | false => rw [hc] at z; exact z
          · rw [map_ints] at d4
            have ey := dints d4
            subst ey
            refine ⟨p4, _, rfl, SqL.of h4, (by show 2 ≤ sizeLine; decide), fun r hr => ?_⟩
            refine k _ _ ((e2.trans (e3.trans e4)).trans (Ex.new hr)) ?_
            have eb : bestF ws = some (leastF ws, manyF ws) := by unfold bestF; rw [if_neg hw]
            rw [eb]
            exact .tup (SqT.of upd_same) (.cons (.int _) (.cons (.int _) .nil))
end Hs

set_option Elab.async false
set_option linter.all false
set_option maxRecDepth 100000
set_option maxHeartbeats 4000000
/-! shortest.py: low_ways, middle_ways, high_ways. -/
namespace Hs
open PySem PySem.Spec PyProof.Rows L2
open Evl (Ex Ev EvT EvA EvL EvU)
variable {P : Program} {w : World} {K : PySem.W.Frag} {mg : Str → Option Value} {base : Heap}
theorem opt_inv {H : Hp} {v : V} {o : Option FM} (h : Dp K H v (optD o)) : (o = none ∧ v = .non) ∨ ∃ m a, o = some m ∧ v = .ref a ∧ Dp K H (.ref a) (fmD m) := by
  cases o with
  | none => cases h; exact .inl ⟨rfl, rfl⟩
  | some m =>
    have h' : Dp K H v (fmD m) := h
    obtain ⟨a, rfl, _⟩ := fm_inv h'
    exact .inr ⟨m, a, rfl, rfl, h'⟩
theorem pick_inv {H : Hp} {x y : V} {r : Row2} {z : Int} (hx : Dp K H x (optD r.1)) (hy : Dp K H y (optD r.2)) (hz : z = 0 ∨ z = 1) : ∃ v, atI [x, y] z = some v ∧ Dp K H v (optD (pick r z)) := by
  rcases hz with rfl | rfl
  · exact ⟨x, atI_nat (j := 0) rfl, hx⟩
  · exact ⟨y, atI_nat (j := 1) rfl, hy⟩
section
variable {σ : L2.St} {H : Hp} {te tl : TE} {t : TT} {g : TG} {vs : List Nat}
/-- over a tuple of ints that is made on the way -/
theorem eld_lcZ {zs : List Int} (p : Int → Bool) (e : Int → PyData) (h : EvU tl σ H (zs.map V.int)) (hz : zs.length ≤ 40000)
    (turn : ∀ z H1, z ∈ zs → Ex H H1 → TurnD K g t te σ vs H1 (.int z) (p z) (e z)) : EvLD K (tLc (iTup K tl) g t te vs) σ H ((zs.filter p).map e) := by
  rw [← given_list zs 0 p e, show zs.length = (zs.map V.int).length by rw [List.length_map]]
  refine eld_lcU (K := K) _ _ h (by rw [List.length_map]; exact hz) fun i x H1 e1 hi => ?_
  rw [List.getElem?_map] at hi
  cases hb : zs[i]? with
  | none => rw [hb] at hi; cases hi
  | some b =>
    rw [hb] at hi
    have ed : V.int b = x := Option.some.inj hi
    subst ed
    have eg : zs.getD i 0 = b := by rw [List.getD_eq_getElem?_getD, hb]; rfl
    rw [eg]
    exact turn b H1 (List.mem_of_getElem? hb) e1
end
theorem ways_of (r : Row2) (f : Int → Int) : (([0, 1] : List Int).filter (fun z => (pick r z).isSome)).map (fun z => wayD (f z, z, getF (pick r z))) = ((([0, 1] : List Int).filterMap fun z => (pick r z).map fun m => ((f z, z, m) : Way)).map wayD) := by
  obtain ⟨a, b⟩ := r
  cases a <;> cases b <;> rfl
theorem ev01 {σ : L2.St} {H : Hp} : EvU (tTup (tCons (tC (.int 0)) (tCons (tC (.int 1)) tNil))) σ H (([0, 1] : List Int).map V.int) := fun H1 e Q k => ⟨(by show 2 ≤ sizeLine; decide), fun p hp => k p _ hp (Ex.new hp) upd_same⟩
/-! ### low_ways -/
theorem sc_low_ways : FnScope ["self", "bit", "carry", "ahead", "rows", "low", "row"] ["self", "bit", "carry", "ahead"] (defScope s_Maker_low_ways) := ⟨rfl, rfl, rfl, by decide +kernel, rfl, by decide +kernel, by decide +kernel⟩
def sp_low_ways (K : PySem.W.Frag) : Sp := fun vs H Q _ => ∃ (me v : V) (bit carry : Int) (r : Row2), vs = [me, .int bit, .int carry, v] ∧ Dp K H v (rowD r) ∧ ∀ u H2, Ex H H2 → Dp K H2 u (.list ((lowWays bit carry r).map wayD)) → Q u H2
theorem ok_low_ways (T : Top K mg) : Okd P w K mg base 1 (He.ma K (He.ga K "Maker") "low_ways") ["self", "bit", "carry", "ahead"] (sp_low_ways K) := by
  refine okd_of T.fd_Maker_low_ways sc_low_ways (fun vs H Q E h => ?_) (fun _ _ _ _ _ _ us hl => match us, hl with | [_, _, _, _], _ => rfl) (fun cdv A outer s H vs Q E hr h => ?_)
  · obtain ⟨_, _, _, _, _, rfl, _⟩ := h; rfl
  · obtain ⟨me, v, bit, carry, r, rfl, dv, k⟩ := h
    obtain ⟨p, x, y, rfl, hp, dx, dy⟩ := row_inv dv
    have nd := sc_low_ways.nd
    refine ⟨_, pss_cons (ps_setLc (i := 4) (own := [("low", 5)]) (g := gName 5) (tt := tTest (tOp (fun x y H Q => y = .non ∧ Q (.bl (!decide (x = .non))) H) (tOp (rIxL K) (tVar 3) (tVar 5)) (tC .non)))
        (te := tTup (tCons (tOp (rI0 fun i j => .int (i - j)) (tOp (rI0 fun i j => .int (i + j)) (tVar 1) (tVar 5)) (tOp (rI CMul fun i j => .int (i * j)) (tC (.int 2)) (tVar 2))) (tCons (tVar 5) (tCons (tOp (rIxL K) (tVar 3) (tVar 5)) tNil))))
        rfl nd rfl rfl (sw_true rfl rfl rfl (by decide +kernel)) (pi_tup (pe_tup (pa_cons pe_int (pa_cons pe_int pa_nil)))) (blkOk_by (own := [("low", 5)]) (N := ["self", "bit", "carry", "ahead", "rows", "low", "row"]) (sc := defScope s_Maker_low_ways) (by decide +kernel))
        (fun _ _ _ _ _ => pg_name (i := 5) nd rfl (Or.inl rfl)) (fun _ _ _ _ _ => pts_one (pt_cmpR op_notN (pe_ix ix_list (pv 3) (pv 5) (fun _ _ => rfl)) pe_non (nomark _)))
        (fun _ _ _ _ _ => pe_tup (pa_cons (pe_op op_sub (pe_op op_add (pv 1) (pv 5)) (pe_op op_mul pe_int (pv 2))) (pa_cons (pv 5) (pa_cons (pe_ix ix_list (pv 3) (pv 5) (fun _ _ => rfl)) pa_nil)))))
      (pss_one (ps_ret (pe_lc (own := [("row", 6)]) (g := gName 6) (tt := tTest (tOp (rI0 fun i j => .bl (decide (i < j))) (tCB (fun xs H Q => ∃ i, xs = [.int i] ∧ Q (.int (if i < 0 then -i else i)) H) (tCons (tOp (rIxT K) (tVar 6) (tC (.int 0))) tNil)) (tC (.int 2)))) (te := tVar 6) rfl nd (pi_list (pv 4))
        (blkOk_by (own := [("row", 6)]) (N := ["self", "bit", "carry", "ahead", "rows", "low", "row"]) (sc := defScope s_Maker_low_ways) (by decide +kernel))
        (fun _ _ _ _ _ => pg_name (i := 6) nd rfl (Or.inl rfl)) (fun _ _ _ _ _ => pts_one (pt_cmpR op_lt (pe_callB call_abs (by rfl) T.f_abs (by decide +kernel) (pa_cons (pe_ix ix_tup (pv 6) pe_int (fun _ _ => rfl)) pa_nil)) pe_int (nomark _)))
        (fun _ _ _ _ _ => pv 6)))), ?_⟩
    refine go_seq (go_asg (runL (eld_lcZ (K := K) (zs := [0, 1]) (fun z => (pick r z).isSome) (fun z => wayD (bit + z - 2 * carry, z, getF (pick r z))) ev01 (by decide) (fun z H1 hz e1 => ?_)) fun q ys H1 hq e1 h1 d1 => ?_))
    · have hz' : z = 0 ∨ z = 1 := by simpa using hz
      obtain ⟨u, hu, du⟩ := pick_inv (Dp.ex e1 dx) (Dp.ex e1 dy) hz'
      refine ⟨_, fun Q H5 e5 q => q, rfl, fun H5 e5 Q q => ⟨_, rfl, _, rfl, p, _, _, u, rfl, rfl, Evl.ex_l (e1.trans e5) hp, hu, rfl, _, rfl, ?_⟩, fun hs => ?_⟩
      · rcases opt_inv du with ⟨e, rfl⟩ | ⟨m, a, e, rfl, _⟩
        · rw [e] at q; exact q H5 (Ex.refl _)
        · rw [e] at q; exact q H5 (Ex.refl _)
      · rcases opt_inv du with ⟨e, _⟩ | ⟨m, a, e, rfl, dm⟩
        · rw [e] at hs; cases hs
        · refine ⟨fun H5 e5 Q q => ?_, rfl⟩
          refine ⟨_, rfl, _, rfl, _, _, rfl, rfl, _, rfl, _, _, rfl, rfl, .inl ⟨by decide, by decide⟩, _, _, rfl, rfl, _, rfl, _, rfl, _, rfl, p, _, _, _, rfl, rfl, Evl.ex_l (e1.trans e5) hp, hu, (by show 3 ≤ sizeLine; decide), fun t ht => ?_⟩
          refine q _ _ (Ex.new ht) (.tup (SqT.of upd_same) (.cons (.int _) (.cons (.int _) (.cons ?_ .nil))))
          rw [e]
          exact Dp.ex (e5.trans (Ex.new ht)) dm
    · rw [ways_of r fun z => bit + z - 2 * carry] at d1
      refine runL (eld_lcB (K := K) (bs := lowAll bit carry r) (0, 0, 0, 0) wayD (fun x => decide (absI x.1 < 2)) wayD (Evl.ev_var rfl) (.lst (SqL.of h1) d1) ?_ (fun x u H2 hx e2 hd => ?_)) fun p2 ys2 H2 hp2 e2 h2 d2 => ?_
      · exact Nat.le_trans (List.length_filterMap_le _ _) (by decide)
      · obtain ⟨a, m, rfl, ha, hm⟩ := way_inv hd
        refine ⟨_, fun Q H5 e5 q => q, rfl, fun H5 e5 Q q => ⟨_, rfl, a, _, 0, _, rfl, rfl, Evl.ex_t e5 ha, atI_nat (j := 0) rfl, _, rfl, _, _, rfl, rfl, _, rfl, q H5 (Ex.refl _)⟩, fun _ => ⟨ed_of (Evl.ev_var rfl) hd, rfl⟩⟩
      · exact k _ _ (e1.trans e2) (.lst (SqL.of h2) d2)
/-! ### middle_ways -/
theorem sc_middle_ways : FnScope ["self", "carry", "last", "low"] ["self", "carry"] (defScope s_Maker_middle_ways) := ⟨rfl, rfl, rfl, by decide +kernel, rfl, by decide +kernel, by decide +kernel⟩
/-- lows, rest -/
structure LowsAt (K : PySem.W.Frag) (H : Hp) (a : Addr) (rest : Int) (last : Row2) : Prop where
  ex : ∃ dx fs l xs v, H a = some (.ins (He.ga K "Maker") dx fs) ∧ fs.lookup ("rest" : Str) = some (.int rest) ∧ fs.lookup ("lows" : Str) = some (.ref l) ∧ SqL K H l (xs ++ [v]) ∧ Dp K H v (rowD last)
def sp_middle_ways (K : PySem.W.Frag) : Sp := fun vs H Q _ => ∃ (a : Addr) (carry rest : Int) (last : Row2), vs = [.ref a, .int carry] ∧ LowsAt K H a rest last ∧ ∀ u H2, Ex H H2 → Dp K H2 u (.list ((midWays rest carry last).map wayD)) → Q u H2
theorem ok_middle_ways (T : Top K mg) : Okd P w K mg base 1 (He.ma K (He.ga K "Maker") "middle_ways") ["self", "carry"] (sp_middle_ways K) := by
  refine okd_of T.fd_Maker_middle_ways sc_middle_ways (fun vs H Q E h => ?_) (fun _ _ _ _ _ _ us hl => match us, hl with | [_, _], _ => rfl) (fun cdv A outer s H vs Q E hr h => ?_)
  · obtain ⟨_, _, _, _, rfl, _⟩ := h; rfl
  · obtain ⟨me, carry, rest, r, rfl, ⟨dx, fs, l, xs, v, hi, hre, hlo, hl, dv⟩, k⟩ := h
    obtain ⟨p, x, y, rfl, hp, dx', dy⟩ := row_inv dv
    have nd := sc_middle_ways.nd
    have n1 := T.n_Maker_rest
    have n2 := T.n_Maker_lows
    refine ⟨_, pss_cons (ps_set (i := 2) nd rfl (.inr rfl) (pe_ix ix_list (pe_fld (pv 0) rfl) (pe_un un_neg pe_int) (fun _ _ => rfl)))
      (pss_one (ps_ret (pe_lc (own := [("low", 3)]) (g := gName 3) (tt := tTest (tOp (fun x y H Q => y = .non ∧ Q (.bl (!decide (x = .non))) H) (tOp (rIxL K) (tVar 2) (tVar 3)) (tC .non)))
        (te := tTup (tCons (tOp (rI0 fun i j => .int (i + j)) (tOp (rI0 fun i j => .int (i + j)) (tFld K (tVar 0) "rest") (tVar 1)) (tVar 3)) (tCons (tVar 3) (tCons (tOp (rIxL K) (tVar 2) (tVar 3)) tNil))))
        rfl nd (pi_tup (pe_tup (pa_cons pe_int (pa_cons pe_int pa_nil)))) (blkOk_by (own := [("low", 3)]) (N := ["self", "carry", "last", "low"]) (sc := defScope s_Maker_middle_ways) (by decide +kernel))
        (fun _ _ _ _ _ => pg_name (i := 3) nd rfl (Or.inl rfl)) (fun _ _ _ _ _ => pts_one (pt_cmpR op_notN (pe_ix ix_list (pv 2) (pv 3) (fun _ _ => rfl)) pe_non (nomark _)))
        (fun _ _ _ _ _ => pe_tup (pa_cons (pe_op op_add (pe_op op_add (pe_fld (pv 0) rfl) (pv 1)) (pv 3)) (pa_cons (pv 3) (pa_cons (pe_ix ix_list (pv 2) (pv 3) (fun _ _ => rfl)) pa_nil))))))), ?_⟩
    refine ⟨_, rfl, me, _, dx, fs, _, rfl, hi, T.c_Maker, n2, hlo, _, rfl, l, _, _, .ref p, rfl, rfl, hl, atI_last _ _, ?_⟩
    refine runL (eld_lcZ (K := K) (zs := [0, 1]) (fun z => (pick r z).isSome) (fun z => wayD (rest + carry + z, z, getF (pick r z))) ev01 (by decide) (fun z H1 hz e1 => ?_)) fun q ys H1 hq e1 h1 d1 => ?_
    · have hz' : z = 0 ∨ z = 1 := by simpa using hz
      obtain ⟨u, hu, du⟩ := pick_inv (Dp.ex e1 dx') (Dp.ex e1 dy) hz'
      refine ⟨_, fun Q H5 e5 q => q, rfl, fun H5 e5 Q q => ⟨_, rfl, _, rfl, p, _, _, u, rfl, rfl, Evl.ex_l (e1.trans e5) hp, hu, rfl, _, rfl, ?_⟩, fun hs => ?_⟩
      · rcases opt_inv du with ⟨e, rfl⟩ | ⟨m, a, e, rfl, _⟩
        · rw [e] at q; exact q H5 (Ex.refl _)
        · rw [e] at q; exact q H5 (Ex.refl _)
      · rcases opt_inv du with ⟨e, _⟩ | ⟨m, a, e, rfl, dm⟩
        · rw [e] at hs; cases hs
        · refine ⟨fun H5 e5 Q q => ?_, rfl⟩
          refine ⟨_, rfl, me, _, dx, fs, _, rfl, (e1.trans e5) _ _ hi, T.c_Maker, n1, hre, _, rfl, _, _, rfl, rfl, _, rfl, _, _, rfl, rfl, _, rfl, _, rfl, _, rfl, p, _, _, _, rfl, rfl, Evl.ex_l (e1.trans e5) hp, hu, (by show 3 ≤ sizeLine; decide), fun t ht => ?_⟩
          refine q _ _ (Ex.new ht) (.tup (SqT.of upd_same) (.cons (.int _) (.cons (.int _) (.cons ?_ .nil))))
          rw [e]
          exact Dp.ex (e5.trans (Ex.new ht)) dm
    · rw [ways_of r fun z => rest + carry + z] at d1
      exact k _ _ e1 (.lst (SqL.of h1) d1)
/-! ### high_ways -/
theorem sc_high_ways : FnScope ["self", "bit", "carry", "behind", "rows", "digit"] ["self", "bit", "carry", "behind"] (defScope s_Maker_high_ways) := ⟨rfl, rfl, rfl, by decide +kernel, rfl, by decide +kernel, by decide +kernel⟩
def sp_high_ways (K : PySem.W.Frag) : Sp := fun vs H Q _ => ∃ (me v : V) (bit carry : Int) (r : FM × FM), vs = [me, .int bit, .int carry, v] ∧ Dp K H v (rowH r) ∧ ∀ u H2, Ex H H2 → Dp K H2 u (.list ((highWays bit carry r).map wayD)) → Q u H2
theorem noLs_ways : ∀ l : List Way, noLs (l.map wayD) = true
  | [] => rfl
  | _ :: l => noLs_ways l
theorem ok_high_ways (T : Top K mg) : Okd P w K mg base 1 (He.ma K (He.ga K "Maker") "high_ways") ["self", "bit", "carry", "behind"] (sp_high_ways K) := by
  refine okd_of T.fd_Maker_high_ways sc_high_ways (fun vs H Q E h => ?_) (fun _ _ _ _ _ _ us hl => match us, hl with | [_, _, _, _], _ => rfl) (fun cdv A outer s H vs Q E hr h => ?_)
  · obtain ⟨_, _, _, _, _, rfl, _⟩ := h; rfl
  · obtain ⟨me, v, bit, carry, r, rfl, dv, k⟩ := h
    obtain ⟨b, x, y, rfl, hb, dx, dy⟩ := rowH_inv dv
    have nd := sc_high_ways.nd
    refine ⟨_, pss_cons (ps_set (i := 4) nd rfl (.inl rfl) (pe_lst pa_nil))
      (pss_cons (ps_for PassesOwn.never rfl (pi_tup (pe_tup (pa_cons (pe_op op_sub pe_int pe_int) (pa_cons pe_int (pa_cons pe_int pa_nil))))) (pg_name (i := 5) nd rfl (.inl rfl))
        (pss_one (ps_if (PW.pt (pw_and (pt_cmpR op_eq (pe_op op_mod (pe_op op_sub (pe_op op_add (pv 1) (pv 2)) (pv 5)) pe_int) pe_int (nomark _)) (pw_and1 (pt_chain op_le op_le pe_int (pe_op op_sub (pe_op op_add (pv 1) (pv 2)) (pv 5)) pe_int))))
          (pss_one (ps_expr (pe_bm PySem.F.plainAttrs_list PySem.F.slot_list_append PySem.F.type_list_append mt_append (pv 4) (pa_cons (pe_tup (pa_cons (pv 5) (pa_cons (pe_op op_fdiv (pe_op op_sub (pe_op op_add (pv 1) (pv 2)) (pv 5)) pe_int)
            (pa_cons (pe_ix ix_list (pv 3) (pe_op op_fdiv (pe_op op_sub (pe_op op_add (pv 1) (pv 2)) (pv 5)) pe_int) (fun _ _ => rfl)) pa_nil)))) pa_nil)))) pss_nil)))
        (pss_one (ps_ret (pv 4)))), ?_⟩
    refine ⟨(by show 0 ≤ sizeLine; decide), fun p hp => ?_⟩
    refine ⟨_, _, rfl, rfl, (by show 3 ≤ sizeLine; decide), fun t ht => ⟨t, rfl, ⟨_, SqT.of upd_same⟩, ?_⟩⟩
    have nt : t ≠ p := fun z => by rw [z, upd_same] at ht; cases ht
    refine for_tup (K := K) (xs := ([-1, 0, 1] : List Int).map V.int) (fun i σ H1 => Ex H H1 ∧ H1 t = some (.tup (([-1, 0, 1] : List Int).map V.int)) ∧ (∃ ys, H1 p = some (.lst ys) ∧ DpAll K H1 ys ((highWaysOf (([-1, 0, 1] : List Int).take i) bit carry r).map wayD)) ∧ ∃ z, σ = [some me, some (.int bit), some (.int carry), some (.ref b), some (.ref p), z])
      ⟨(Ex.new hp).trans (Ex.new ht), upd_same, ⟨[], by rw [upd_ne (Ne.symm nt), upd_same], .nil⟩, none, rfl⟩ (fun i σ H1 _ q => SqT.of q.2.1) ?_ ?_
    · rintro i u σ H1 hu ⟨e1, h1, ⟨ys, h2, d2⟩, z, rfl⟩
      rw [List.getElem?_map] at hu
      cases hg : ([-1, 0, 1] : List Int)[i]? with
      | none => rw [hg] at hu; cases hu
      | some d =>
        rw [hg] at hu
        have eu : V.int d = u := Option.some.inj hu
        subst eu
        have hd : d ∈ ([-1, 0, 1] : List Int) := List.mem_of_getElem? hg
        have take_ : ([-1, 0, 1] : List Int).take (i + 1) = ([-1, 0, 1] : List Int).take i ++ [d] := take_snoc hg
        have yes : okDigit bit carry d = true → highWaysOf (([-1, 0, 1] : List Int).take (i + 1)) bit carry r = highWaysOf (([-1, 0, 1] : List Int).take i) bit carry r ++ [highWay bit carry r d] := fun z => by
          unfold highWaysOf
          rw [take_, List.filter_append, List.map_append]
          simp [z]
        have no : okDigit bit carry d = false → highWaysOf (([-1, 0, 1] : List Int).take (i + 1)) bit carry r = highWaysOf (([-1, 0, 1] : List Int).take i) bit carry r := fun z => by
          unfold highWaysOf
          rw [take_, List.filter_append]
          simp [z]
        have skip : okDigit bit carry d = false → Ex H H1 ∧ H1 t = some (.tup (([-1, 0, 1] : List Int).map V.int)) ∧ (∃ ys, H1 p = some (.lst ys) ∧ DpAll K H1 ys ((highWaysOf (([-1, 0, 1] : List Int).take (i + 1)) bit carry r).map wayD)) ∧ ∃ z, [some me, some (V.int bit), some (V.int carry), some (V.ref b), some (V.ref p), some (V.int d)] = [some me, some (V.int bit), some (V.int carry), some (V.ref b), some (V.ref p), z] := fun z => by
          rw [no z]; exact ⟨e1, h1, ⟨ys, h2, d2⟩, _, rfl⟩
        refine ⟨_, rfl, _, rfl, _, _, rfl, rfl, _, rfl, _, _, rfl, rfl, _, _, rfl, rfl, (by show (0 : Int) < 2; decide), rfl, _, rfl, ?_⟩
        by_cases c1 : (bit + carry - d) % 2 = 0
        · refine itD (congrArg V.int c1) ⟨_, rfl, _, rfl, _, _, rfl, rfl, _, rfl, _, _, rfl, rfl, _, _, rfl, rfl, _, rfl, ?_⟩
          by_cases c2 : 0 ≤ bit + carry - d
          · refine itD c2 ⟨_, _, rfl, rfl, _, rfl, ?_⟩
            by_cases c3 : bit + carry - d ≤ 2
            · refine itD c3 ?_
              have ok : okDigit bit carry d = true := by unfold okDigit; exact decide_eq_true ⟨c1, c2, c3⟩
              have hx : ∃ u, atI [x, y] ((bit + carry - d) / 2) = some u ∧ Dp K H u (fmD (pickH r ((bit + carry - d) / 2))) := by
                have hc : (bit + carry - d) / 2 = 0 ∨ (bit + carry - d) / 2 = 1 := by omega
                rcases hc with hc | hc
                · rw [hc]; exact ⟨x, atI_nat (j := 0) rfl, dx⟩
                · rw [hc]; exact ⟨y, atI_nat (j := 1) rfl, dy⟩
              obtain ⟨u, hu, du⟩ := hx
              refine ⟨_, rfl, .inl ⟨rfl, _, SqL.of h2⟩, _, rfl, _, rfl, _, rfl, _, _, rfl, rfl, _, rfl, _, _, rfl, rfl, _, _, rfl, rfl, ⟨by decide, by decide⟩, _, rfl, _, rfl, _, rfl, _, _, rfl, rfl, _, rfl, _, _, rfl, rfl, _, _, rfl, rfl, ⟨by decide, by decide⟩, b, _, _, u, rfl, rfl, Evl.ex_l e1 hb, hu, (by show 3 ≤ sizeLine; decide), fun q hq => ?_⟩
              have e2 : Ex H1 (upd H1 q (.tup [.int d, .int ((bit + carry - d) / 2), u])) := Ex.new hq
              have nq : q ≠ p := fun z => by rw [z, h2] at hq; cases hq
              refine ⟨p, ys, _, rfl, rfl, e2 _ _ h2, ?_, ?_⟩
              · have l1 := dlen d2
                rw [List.length_map] at l1
                have l2 : (highWaysOf (([-1, 0, 1] : List Int).take i) bit carry r).length ≤ 3 := by
                  unfold highWaysOf
                  rw [List.length_map]
                  refine Nat.le_trans (List.length_filter_le _ _) ?_
                  rw [List.length_take]
                  exact Nat.min_le_right _ _
                exact Evl.sz_lt (by omega)
              · refine ⟨Ex.mut (e1.trans e2) hp, ?_, ⟨_, upd_same, ?_⟩, some (.int d), rfl⟩
                · rw [upd_ne nt]; exact e2 _ _ h1
                · rw [yes ok, List.map_append]
                  have e3 : ExT (upd H1 q (.tup [.int d, .int ((bit + carry - d) / 2), u])) (upd (upd H1 q (.tup [.int d, .int ((bit + carry - d) / 2), u])) p (.lst (ys ++ [.ref q]))) := ExT.mut (fun _ _ h _ => h) (e2 _ _ h2)
                  refine dsnoc (DpAll.exT (ExT.trans (Ex.t e2) e3) (noLs_ways _) d2) (Dp.exT e3 rfl (.tup (SqT.of upd_same) (.cons (.int _) (.cons (.int _) (.cons ?_ .nil)))))
                  exact Dp.ex (e1.trans e2) du
            · exact ifD c3 (skip (by unfold okDigit; exact decide_eq_false fun z => c3 z.2.2))
          · refine ifD c2 ?_
            exact ⟨_, rfl, skip (by unfold okDigit; exact decide_eq_false fun z => c2 z.2.1)⟩
        · exact ifD (fun z => c1 (V.int.inj z)) (skip (by unfold okDigit; exact decide_eq_false fun z => c1 z.1))
    · rintro σ H1 ⟨e1, h1, ⟨ys, h2, d2⟩, z, rfl⟩
      exact ⟨_, rfl, k _ _ e1 (.lst (SqL.of h2) d2)⟩
end Hs

set_option Elab.async false
set_option linter.all false
set_option maxRecDepth 100000
set_option maxHeartbeats 4000000
/-! Plain facts on the Maker's tables and states. -/
namespace Hs
open PySem
theorem bits01 : ∀ (k : Nat) (n : Int) (x : Int), x ∈ bitsF n k → x = 0 ∨ x = 1
  | 0, _, _, h => by cases h
  | k + 1, n, x, h => by
    rcases List.mem_cons.mp h with e | e
    · omega
    · exact bits01 k _ x e
theorem lastLow_app : ∀ (bs : List Int) (b : Int) (r : Row2), lastLow (bs ++ [b]) r = lowStep b (lastLow bs r)
  | [], _, _ => rfl
  | x :: bs, b, r => lastLow_app bs b (lowStep x r)
theorem lowsF_app : ∀ (bs : List Int) (b : Int) (r : Row2), lowsF (bs ++ [b]) r = lowsF bs r ++ [lowStep b (lastLow bs r)]
  | [], _, _ => rfl
  | x :: bs, b, r => by
    show r :: lowsF (bs ++ [b]) (lowStep x r) = r :: (lowsF bs (lowStep x r) ++ _)
    rw [lowsF_app bs b]; rfl
theorem lowsF_last : ∀ (bs : List Int) (r : Row2), ∃ l, lowsF bs r = l ++ [lastLow bs r]
  | [], r => ⟨[], rfl⟩
  | x :: bs, r => by
    obtain ⟨l, h⟩ := lowsF_last bs (lowStep x r)
    exact ⟨r :: l, by show r :: lowsF bs (lowStep x r) = r :: (l ++ _); rw [h]; rfl⟩
theorem lowsF_len : ∀ (bs : List Int) (r : Row2), (lowsF bs r).length = bs.length + 1
  | [], _ => rfl
  | x :: bs, r => by show (lowsF bs (lowStep x r)).length + 1 = bs.length + 1 + 1; rw [lowsF_len]
theorem lowsF_get : ∀ (bs : List Int) (r z : Row2) (k : Nat), k < bs.length → (lowsF bs r).getD (k + 1) z = lowStep (bs.getD k 0) ((lowsF bs r).getD k z)
  | x :: bs, r, z, 0, _ => by
    show (lowsF bs (lowStep x r)).getD 0 z = lowStep x r
    cases bs <;> rfl
  | x :: bs, r, z, k + 1, h => lowsF_get bs (lowStep x r) z k (by simpa using h)
theorem lowsF_end : ∀ (bs : List Int) (r z : Row2), (lowsF bs r).getD bs.length z = lastLow bs r
  | [], _, _ => rfl
  | x :: bs, r, z => lowsF_end bs (lowStep x r) z
theorem lowsF_zero (bs : List Int) (r z : Row2) : (lowsF bs r).getD 0 z = r := by cases bs <;> rfl
theorem highsF_end : ∀ (bs : List Int) (m z : FM × FM), (highsF bs m).getD bs.length z = m
  | [], _, _ => rfl
  | x :: bs, m, z => highsF_end bs m z
theorem highsF_head (bs : List Int) (m : FM × FM) : headH (highsF bs m) m = (highsF bs m).getD 0 m := by cases bs <;> rfl
theorem highsF_get : ∀ (bs : List Int) (m : FM × FM) (k : Nat), k < bs.length → (highsF bs m).getD k m = highStep (bs.getD k 0) ((highsF bs m).getD (k + 1) m)
  | x :: bs, m, 0, _ => by
    show highStep x (headH (highsF bs m) m) = highStep x ((highsF bs m).getD 0 m)
    rw [highsF_head]
  | x :: bs, m, k + 1, h => highsF_get bs m k (by simpa using h)
theorem highsF_ne (bs : List Int) (m : FM × FM) : ∃ l, (highsF bs m).reverse = l ++ [headH (highsF bs m) m] := by
  cases bs with
  | nil => exact ⟨[], rfl⟩
  | cons x bs => exact ⟨(highsF bs m).reverse, by show (_ :: highsF bs m).reverse = _; rw [List.reverse_cons]; rfl⟩
theorem bestF_some {ws : List Way} (h : ws ≠ []) : bestF ws = some (leastF ws, manyF ws) := by unfold bestF; rw [if_neg h]
theorem bestF_get {ws : List Way} (h : ws ≠ []) : bestF ws = some (getF (bestF ws)) := by rw [bestF_some h]; rfl
theorem bestF_back {ws : List Way} (h : (bestF ws).isSome = true) : ws ≠ [] := by
  rintro rfl
  cases h
/-! ### there are ways -/
theorem lowWays_ne {b : Int} {r : Row2} (hb : b = 0 ∨ b = 1) (h : r.1.isSome = true) : lowWays b 0 r ≠ [] := by
  obtain ⟨x, y⟩ := r
  cases x with
  | none => cases h
  | some m =>
    intro e
    have hm : ((b + 0 - 2 * 0, 0, m) : Way) ∈ lowWays b 0 (some m, y) := by
      unfold lowWays
      rw [List.mem_filter]
      refine ⟨?_, ?_⟩
      · unfold lowAll
        rw [List.mem_filterMap]
        exact ⟨0, by simp, rfl⟩
      · rcases hb with rfl | rfl <;> rfl
    rw [e] at hm
    cases hm
theorem lastLow_some : ∀ (bs : List Int) (r : Row2), (∀ x ∈ bs, x = 0 ∨ x = 1) → r.1.isSome = true → (lastLow bs r).1.isSome = true
  | [], _, _, h => h
  | x :: bs, r, hx, h => lastLow_some bs _ (fun y hy => hx y (List.mem_cons_of_mem _ hy)) (by
    show (bestF (lowWays x 0 r)).isSome = true
    rw [bestF_some (lowWays_ne (hx x List.mem_cons_self) h)]; rfl)
theorem midWays_ne {rest c : Int} {r : Row2} (h : r.1.isSome = true) : midWays rest c r ≠ [] := by
  obtain ⟨x, y⟩ := r
  cases x with
  | none => cases h
  | some m =>
    intro e
    have hm : ((rest + c + 0, 0, m) : Way) ∈ midWays rest c (some m, y) := by
      unfold midWays
      rw [List.mem_filterMap]
      exact ⟨0, by simp, rfl⟩
    rw [e] at hm
    cases hm
theorem highWays_ne {b c : Int} {r : FM × FM} (hb : b = 0 ∨ b = 1) (hc : c = 0 ∨ c = 1) : highWays b c r ≠ [] := by
  intro e
  have key : ∀ d, d ∈ ([-1, 0, 1] : List Int) → okDigit b c d = true → False := fun d hd ho => by
    have hm : highWay b c r d ∈ highWays b c r := by
      unfold highWays highWaysOf
      exact List.mem_map.mpr ⟨d, List.mem_filter.mpr ⟨hd, ho⟩, rfl⟩
    rw [e] at hm
    cases hm
  rcases hb with rfl | rfl <;> rcases hc with rfl | rfl
  · exact key 0 (by decide) (by decide)
  · exact key 1 (by decide) (by decide)
  · exact key 1 (by decide) (by decide)
  · exact key 0 (by decide) (by decide)
/-! ### costs are not below 0, ways not below 1 -/
def PosM (m : FM) : Prop := 0 ≤ m.1 ∧ 1 ≤ m.2
def PosW (ws : List Way) : Prop := ∀ x ∈ ws, PosM x.2.2
def PosR (r : Row2) : Prop := (∀ m, r.1 = some m → PosM m) ∧ ∀ m, r.2 = some m → PosM m
def PosH (r : FM × FM) : Prop := PosM r.1 ∧ PosM r.2
theorem minI_in : ∀ (l : List Int), l ≠ [] → minI l ∈ l
  | [], h => absurd rfl h
  | [a], _ => List.mem_singleton.mpr rfl
  | a :: b :: r, _ => by
    have ih := minI_in (b :: r) (by simp)
    unfold minI
    split
    · exact List.mem_cons_of_mem _ ih
    · exact List.mem_cons_self
theorem absI_nn (d : Int) : 0 ≤ absI d := by unfold absI; split <;> omega
theorem least_in {ws : List Way} (h : ws ≠ []) : ∃ x ∈ ws, cost x = leastF ws := by
  have := minI_in (ws.map cost) (by simpa using h)
  obtain ⟨x, h1, h2⟩ := List.mem_map.mp this
  exact ⟨x, h1, h2⟩
theorem sum_pos {l : List Int} (h : ∀ x ∈ l, 1 ≤ x) : l ≠ [] → 1 ≤ l.sum := by
  have nn : ∀ l : List Int, (∀ x ∈ l, 1 ≤ x) → 0 ≤ l.sum := by
    intro l
    induction l with
    | nil => intro _; decide
    | cons a r ih =>
      intro h
      rw [List.sum_cons]
      have := h a List.mem_cons_self
      have := ih fun x hx => h x (List.mem_cons_of_mem _ hx)
      omega
  cases l with
  | nil => intro z; exact absurd rfl z
  | cons a r =>
    intro _
    rw [List.sum_cons]
    have := h a List.mem_cons_self
    have := nn r fun x hx => h x (List.mem_cons_of_mem _ hx)
    omega
theorem best_pos {ws : List Way} (h : PosW ws) (hn : ws ≠ []) : PosM (leastF ws, manyF ws) := by
  obtain ⟨x, hx, e⟩ := least_in hn
  refine ⟨?_, ?_⟩
  · show 0 ≤ leastF ws
    rw [← e]
    have := (h x hx).1
    have := absI_nn x.1
    unfold cost; omega
  · show 1 ≤ manyF ws
    unfold manyF
    refine sum_pos (fun y hy => ?_) ?_
    · obtain ⟨z, hz, rfl⟩ := List.mem_map.mp hy
      exact (h z (List.mem_filter.mp hz).1).2
    · intro z
      have hm : x ∈ ws.filter fun w => cost w = leastF ws := List.mem_filter.mpr ⟨hx, decide_eq_true e⟩
      rw [List.map_eq_nil_iff] at z
      rw [z] at hm
      cases hm
theorem bestF_pos {ws : List Way} (h : PosW ws) {m : FM} (e : bestF ws = some m) : PosM m := by
  have hn : ws ≠ [] := bestF_back (by rw [e]; rfl)
  rw [bestF_some hn] at e
  rw [← Option.some.inj e]
  exact best_pos h hn
theorem pick_pos {r : Row2} (h : PosR r) {z : Int} {m : FM} (e : pick r z = some m) : PosM m := by
  unfold pick at e
  split at e
  · exact h.1 m e
  · exact h.2 m e
theorem lowAll_in {b c : Int} {r : Row2} {x : Way} (h : x ∈ lowAll b c r) : (x.2.1 = 0 ∨ x.2.1 = 1) ∧ pick r x.2.1 = some x.2.2 := by
  unfold lowAll at h
  obtain ⟨z, hz, e⟩ := List.mem_filterMap.mp h
  have hz' : z = 0 ∨ z = 1 := by simpa using hz
  cases hp : pick r z with
  | none => rw [hp] at e; cases e
  | some m =>
    rw [hp] at e
    rw [← Option.some.inj e]
    exact ⟨hz', hp⟩
theorem lowWays_in {b c : Int} {r : Row2} {x : Way} (h : x ∈ lowWays b c r) : (x.2.1 = 0 ∨ x.2.1 = 1) ∧ pick r x.2.1 = some x.2.2 := lowAll_in (List.mem_filter.mp h).1
theorem midWays_in {b c : Int} {r : Row2} {x : Way} (h : x ∈ midWays b c r) : (x.2.1 = 0 ∨ x.2.1 = 1) ∧ pick r x.2.1 = some x.2.2 := by
  unfold midWays at h
  obtain ⟨z, hz, e⟩ := List.mem_filterMap.mp h
  have hz' : z = 0 ∨ z = 1 := by simpa using hz
  cases hp : pick r z with
  | none => rw [hp] at e; cases e
  | some m =>
    rw [hp] at e
    rw [← Option.some.inj e]
    exact ⟨hz', hp⟩
theorem highWays_in {b c : Int} {r : FM × FM} {x : Way} (h : x ∈ highWays b c r) : (x.2.1 = 0 ∨ x.2.1 = 1) ∧ pickH r x.2.1 = x.2.2 := by
  unfold highWays highWaysOf at h
  obtain ⟨d, hd, rfl⟩ := List.mem_map.mp h
  have ho := (List.mem_filter.mp hd).2
  unfold okDigit at ho
  have ho := of_decide_eq_true ho
  exact ⟨by show (b + c - d) / 2 = 0 ∨ (b + c - d) / 2 = 1; omega, rfl⟩
theorem pickH_pos {r : FM × FM} (h : PosH r) (z : Int) : PosM (pickH r z) := by
  unfold pickH
  split
  · exact h.1
  · exact h.2
theorem lowWays_pos {b c : Int} {r : Row2} (h : PosR r) : PosW (lowWays b c r) := fun x hx => pick_pos h (lowWays_in hx).2
theorem midWays_pos {b c : Int} {r : Row2} (h : PosR r) : PosW (midWays b c r) := fun x hx => pick_pos h (midWays_in hx).2
theorem highWays_pos {b c : Int} {r : FM × FM} (h : PosH r) : PosW (highWays b c r) := fun x hx => by
  rw [← (highWays_in hx).2]; exact pickH_pos h _
theorem lowStep_pos {b : Int} {r : Row2} (h : PosR r) : PosR (lowStep b r) := ⟨fun m e => bestF_pos (lowWays_pos h) e, fun m e => bestF_pos (lowWays_pos h) e⟩
theorem row0_pos : PosR row0 := ⟨fun m e => by cases e; exact ⟨by decide, by decide⟩, fun m e => by cases e⟩
theorem lowsF_pos : ∀ (bs : List Int) (r z : Row2) (k : Nat), PosR r → PosR z → PosR ((lowsF bs r).getD k z)
  | [], r, z, 0, h, _ => h
  | [], r, z, k + 1, _, h => h
  | x :: bs, r, z, 0, h, _ => h
  | x :: bs, r, z, k + 1, h, h2 => lowsF_pos bs _ z k (lowStep_pos h) h2
theorem lastLow_pos : ∀ (bs : List Int) (r : Row2), PosR r → PosR (lastLow bs r)
  | [], _, h => h
  | x :: bs, r, h => lastLow_pos bs _ (lowStep_pos h)
theorem getF_pos {ws : List Way} (h : PosW ws) (hn : ws ≠ []) : PosM (getF (bestF ws)) := by
  rw [bestF_some hn]; exact best_pos h hn
theorem highsF_pos : ∀ (bs : List Int) (m : FM × FM) (k : Nat), (∀ x ∈ bs, x = 0 ∨ x = 1) → PosH m → PosH ((highsF bs m).getD k m)
  | [], m, 0, _, h => h
  | [], m, k + 1, _, h => h
  | x :: bs, m, 0, hx, h => by
    show PosH (highStep x (headH (highsF bs m) m))
    rw [highsF_head]
    have ih := highsF_pos bs m 0 (fun y hy => hx y (List.mem_cons_of_mem _ hy)) h
    have h1 := hx x List.mem_cons_self
    exact ⟨getF_pos (highWays_pos ih) (highWays_ne h1 (.inl rfl)), getF_pos (highWays_pos ih) (highWays_ne h1 (.inr rfl))⟩
  | x :: bs, m, k + 1, hx, h => highsF_pos bs m k (fun y hy => hx y (List.mem_cons_of_mem _ hy)) h
/-! ### a Maker whose tables hold together -/
structure MOk (m : Mkr) : Prop where
  ah01 : ∀ x ∈ m.ah, x = 0 ∨ x = 1
  bh01 : ∀ x ∈ m.bh, x = 0 ∨ x = 1
  lows : m.lows = lowsF m.bh row0
  mids : m.mids = midsF m.rest (lastLow m.bh row0)
  highs : m.highs = highsF m.ah m.mids
theorem mkF_ok (c : Card) : MOk (mkF c) := ⟨fun x h => bits01 _ _ x h, fun x h => bits01 _ _ x h, rfl, rfl, rfl⟩
theorem getD01 {l : List Int} (h : ∀ x ∈ l, x = 0 ∨ x = 1) (k : Nat) : l.getD k 0 = 0 ∨ l.getD k 0 = 1 := by
  rw [List.getD_eq_getElem?_getD]
  cases e : l[k]? with
  | none => exact .inl rfl
  | some x => exact h x (List.mem_of_getElem? e)
section
variable {m : Mkr}
theorem MOk.last (h : MOk m) : (lastLow m.bh row0).1.isSome = true := lastLow_some _ _ h.bh01 rfl
theorem MOk.midsPos (h : MOk m) : PosH m.mids := by
  rw [h.mids]
  have hp := lastLow_pos m.bh row0 row0_pos
  exact ⟨getF_pos (midWays_pos hp) (midWays_ne h.last), getF_pos (midWays_pos hp) (midWays_ne h.last)⟩
/-- a state: a place in one of the three parts, or the end -/
def StOk (m : Mkr) (s : Sta) : Prop :=
  (s.1 = 0 ∧ 0 ≤ s.2.1 ∧ s.2.1 < m.ah.length ∧ (s.2.2 = 0 ∨ s.2.2 = 1)) ∨ (s.1 = 1 ∧ s.2.1 = 0 ∧ (s.2.2 = 0 ∨ s.2.2 = 1)) ∨
  (s.1 = 2 ∧ 0 ≤ s.2.1 ∧ s.2.1 < m.bh.length ∧ (s.2.2 = 0 ∨ s.2.2 = 1) ∧ (pick (m.lows.getD (s.2.1.toNat + 1) row0) s.2.2).isSome = true) ∨ (s.1 = 2 ∧ s.2.1 = -1)
def meas (m : Mkr) (s : Sta) : Nat := if s.1 = 0 then (m.ah.length - s.2.1.toNat) + 1 + m.bh.length else if s.1 = 1 then 1 + m.bh.length else (s.2.1 + 1).toNat
/-- a way leads on -/
structure GoesOn (m : Mkr) (s : Sta) (x : Way) : Prop where
  pos : PosM x.2.2
  ok : StOk m (nrow m s x).2.2
  least : 0 ≤ (nrow m s x).2.2.2.1 → leastS m (nrow m s x).2.2 = x.2.2.1
  less : meas m (nrow m s x).2.2 < meas m s
theorem pickH_step {b c : Int} {r : FM × FM} (hc : c = 0 ∨ c = 1) : pickH (highStep b r) c = getF (bestF (highWays b c r)) := by
  rcases hc with rfl | rfl <;> rfl
theorem pick_step {b c : Int} {r : Row2} (hc : c = 0 ∨ c = 1) : pick (lowStep b r) c = bestF (lowWays b c r) := by
  rcases hc with rfl | rfl <;> rfl
theorem state_step (h : MOk m) {s : Sta} (hs : StOk m s) (h0 : 0 ≤ s.2.1) : waysF m s ≠ [] ∧ leastS m s = leastF (waysF m s) ∧ ∀ x ∈ waysF m s, GoesOn m s x := by
  obtain ⟨part, place, carry⟩ := s
  rcases hs with ⟨e1, p0, p1, hc⟩ | ⟨e1, e2, hc⟩ | ⟨e1, p0, p1, hc, hso⟩ | ⟨e1, e2⟩
  · simp only at e1 p0 p1 hc
    subst e1
    have hb := getD01 h.ah01 place.toNat
    have ew : waysF m (0, place, carry) = highWays (m.ah.getD place.toNat 0) carry (m.highs.getD (place.toNat + 1) m.mids) := rfl
    have hne : waysF m (0, place, carry) ≠ [] := by rw [ew]; exact highWays_ne hb hc
    have hpos : PosH (m.highs.getD (place.toNat + 1) m.mids) := by rw [h.highs]; exact highsF_pos _ _ _ h.ah01 h.midsPos
    refine ⟨hne, ?_, fun x hx => ?_⟩
    · show (pickH (m.highs.getD place.toNat m.mids) carry).1 = _
      rw [ew, h.highs, highsF_get _ _ _ (by omega), pickH_step hc, bestF_some (highWays_ne hb hc)]; rfl
    · rw [ew] at hx
      obtain ⟨hl, hp⟩ := highWays_in hx
      by_cases hlast : place + 1 < m.ah.length
      · have en : (nrow m (0, place, carry) x).2.2 = (0, place + 1, x.2.1) := by unfold nrow behindS; simp [hlast]
        refine ⟨by rw [← hp]; exact pickH_pos hpos _, ?_, fun _ => ?_, ?_⟩
        · rw [en]; exact .inl ⟨rfl, by show 0 ≤ place + 1; omega, hlast, hl⟩
        · rw [en]
          show (pickH (m.highs.getD (place + 1).toNat m.mids) x.2.1).1 = _
          rw [show (place + 1).toNat = place.toNat + 1 by omega, hp]
        · rw [en]
          show (m.ah.length - (place + 1).toNat) + 1 + m.bh.length < (m.ah.length - place.toNat) + 1 + m.bh.length
          omega
      · have en : (nrow m (0, place, carry) x).2.2 = (1, 0, x.2.1) := by unfold nrow behindS; simp [hlast]
        refine ⟨by rw [← hp]; exact pickH_pos hpos _, ?_, fun _ => ?_, ?_⟩
        · rw [en]; exact .inr (.inl ⟨rfl, rfl, hl⟩)
        · rw [en]
          show (pickH m.mids x.2.1).1 = _
          have e : m.highs.getD (place.toNat + 1) m.mids = m.mids := by
            rw [h.highs, show place.toNat + 1 = m.ah.length by omega, highsF_end]
          rw [e] at hp
          rw [hp]
        · rw [en]
          show 1 + m.bh.length < (m.ah.length - place.toNat) + 1 + m.bh.length
          omega
  · simp only at e1 e2 hc
    subst e1 e2
    have el : m.lows.getD m.bh.length row0 = lastLow m.bh row0 := by rw [h.lows, lowsF_end]
    have ew : waysF m (1, 0, carry) = midWays m.rest carry (lastLow m.bh row0) := by
      show midWays m.rest carry (m.lows.getD m.bh.length row0) = _
      rw [el]
    have hne : waysF m (1, 0, carry) ≠ [] := by rw [ew]; exact midWays_ne h.last
    refine ⟨hne, ?_, fun x hx => ?_⟩
    · show (pickH m.mids carry).1 = _
      rw [ew, h.mids]
      rcases hc with rfl | rfl
      · show (getF (bestF (midWays m.rest 0 (lastLow m.bh row0)))).1 = _
        rw [bestF_some (midWays_ne h.last)]; rfl
      · show (getF (bestF (midWays m.rest 1 (lastLow m.bh row0)))).1 = _
        rw [bestF_some (midWays_ne h.last)]; rfl
    · rw [ew] at hx
      obtain ⟨hl, hp⟩ := midWays_in hx
      have en : (nrow m (1, 0, carry) x).2.2 = (2, (m.bh.length : Int) - 1, x.2.1) := rfl
      refine ⟨pick_pos (lastLow_pos _ _ row0_pos) hp, ?_, fun h1 => ?_, ?_⟩
      · rw [en]
        by_cases hz : m.bh.length = 0
        · exact .inr (.inr (.inr ⟨rfl, by show (m.bh.length : Int) - 1 = -1; omega⟩))
        · refine .inr (.inr (.inl ⟨rfl, by show 0 ≤ (m.bh.length : Int) - 1; omega, by show (m.bh.length : Int) - 1 < m.bh.length; omega, hl, ?_⟩))
          show (pick (m.lows.getD (((m.bh.length : Int) - 1).toNat + 1) row0) x.2.1).isSome = true
          rw [show ((m.bh.length : Int) - 1).toNat + 1 = m.bh.length by omega, el, hp]; rfl
      · rw [en] at h1 ⊢
        have h1 : 0 ≤ (m.bh.length : Int) - 1 := h1
        show (getF (pick (m.lows.getD (((m.bh.length : Int) - 1).toNat + 1) row0) x.2.1)).1 = _
        rw [show ((m.bh.length : Int) - 1).toNat + 1 = m.bh.length by omega, el, hp]; rfl
      · rw [en]
        show ((m.bh.length : Int) - 1 + 1).toNat < 1 + m.bh.length
        omega
  · simp only at e1 p0 p1 hc hso
    subst e1
    have es : pick (m.lows.getD (place.toNat + 1) row0) carry = bestF (lowWays (m.bh.getD place.toNat 0) carry (m.lows.getD place.toNat row0)) := by
      rw [h.lows, lowsF_get _ _ _ _ (by omega), pick_step hc]
    have ew : waysF m (2, place, carry) = lowWays (m.bh.getD place.toNat 0) carry (m.lows.getD place.toNat row0) := rfl
    have hne : waysF m (2, place, carry) ≠ [] := by
      rw [ew]
      rw [es] at hso
      exact bestF_back hso
    have hpos : PosR (m.lows.getD place.toNat row0) := by rw [h.lows]; exact lowsF_pos _ _ _ _ row0_pos row0_pos
    refine ⟨hne, ?_, fun x hx => ?_⟩
    · show (getF (pick (m.lows.getD (place.toNat + 1) row0) carry)).1 = _
      rw [ew] at hne ⊢
      rw [es, bestF_some hne]; rfl
    · rw [ew] at hx
      obtain ⟨hl, hp⟩ := lowWays_in hx
      have en : (nrow m (2, place, carry) x).2.2 = (2, place - 1, x.2.1) := rfl
      refine ⟨pick_pos hpos hp, ?_, fun h1 => ?_, ?_⟩
      · rw [en]
        by_cases hz : place = 0
        · exact .inr (.inr (.inr ⟨rfl, by show place - 1 = -1; omega⟩))
        · refine .inr (.inr (.inl ⟨rfl, by show 0 ≤ place - 1; omega, by show place - 1 < m.bh.length; omega, hl, ?_⟩))
          show (pick (m.lows.getD ((place - 1).toNat + 1) row0) x.2.1).isSome = true
          rw [show (place - 1).toNat + 1 = place.toNat by omega, hp]; rfl
      · rw [en] at h1 ⊢
        have h1 : 0 ≤ place - 1 := h1
        show (getF (pick (m.lows.getD ((place - 1).toNat + 1) row0) x.2.1)).1 = _
        rw [show (place - 1).toNat + 1 = place.toNat by omega, hp]; rfl
      · rw [en]
        show (place - 1 + 1).toNat < (place + 1).toNat
        omega
  · simp only at e1 e2 h0
    omega
theorem begin_ok (h : MOk m) : StOk m (beginF m) := by
  unfold beginF
  by_cases e : m.ah = []
  · rw [if_pos e]; exact .inr (.inl ⟨rfl, rfl, .inl rfl⟩)
  · rw [if_neg e]
    refine .inl ⟨rfl, Int.le_refl _, ?_, .inl rfl⟩
    have := List.length_pos_iff.mpr e
    show (0 : Int) < m.ah.length
    omega
theorem begin_least (h : MOk m) : leastS m (beginF m) = (top0 m).1 := by
  unfold beginF top0
  by_cases e : m.ah = []
  · rw [if_pos e]
    show (pickH m.mids 0).1 = (headH m.highs m.mids).1.1
    rw [h.highs, e]; rfl
  · rw [if_neg e]
    show (pickH (m.highs.getD 0 m.mids) 0).1 = (headH m.highs m.mids).1.1
    rw [h.highs, highsF_head]; rfl
theorem top0_pos (h : MOk m) : PosM (top0 m) := by
  unfold top0
  rw [h.highs, highsF_head]
  exact (highsF_pos _ _ _ h.ah01 h.midsPos).1
theorem rows_in {s : Sta} {r : NRow} (h : r ∈ rowsF m s) : ∃ x ∈ waysF m s, cost x = leastS m s ∧ r = nrow m s x := by
  unfold rowsF at h
  obtain ⟨x, hx, rfl⟩ := List.mem_map.mp h
  obtain ⟨h1, h2⟩ := List.mem_filter.mp hx
  exact ⟨x, h1, of_decide_eq_true h2, rfl⟩
theorem rows_ne (h : MOk m) {s : Sta} (hs : StOk m s) (h0 : 0 ≤ s.2.1) : rowsF m s ≠ [] := by
  obtain ⟨a, b, _⟩ := state_step h hs h0
  obtain ⟨x, hx, e⟩ := least_in a
  intro z
  have : nrow m s x ∈ rowsF m s := List.mem_map.mpr ⟨x, List.mem_filter.mpr ⟨hx, decide_eq_true (e.trans b.symm)⟩, rfl⟩
  rw [z] at this
  cases this
end
end Hs

set_option Elab.async false
set_option linter.all false
set_option maxRecDepth 100000
set_option maxHeartbeats 4000000
/-! shortest.py: Maker.__init__. -/
namespace Hs
open PySem PySem.Spec PyProof.Rows L2
open Evl (Ex Ev EvT EvA EvL EvU)
variable {P : Program} {w : World} {K : PySem.W.Frag} {mg : Str → Option Value} {base : Heap}
/-! ### lists and tuples stay; the rest may change -/
def isSq : HO → Prop
  | .lst _ => True
  | .tup _ => True
  | .frz _ _ => True
  | _ => False
def ExD (H H' : Hp) : Prop := ∀ a u, H a = some u → isSq u → H' a = some u
theorem ExD.refl (H : Hp) : ExD H H := fun _ _ h _ => h
theorem Ex.d {H H' : Hp} (e : Ex H H') : ExD H H' := fun a u h _ => e a u h
theorem ExD.trans {H H1 H2 : Hp} (e : ExD H H1) (f : ExD H1 H2) : ExD H H2 := fun a u h z => f a u (e a u h z) z
theorem ExD.ins {H : Hp} {x C dx : Addr} {fs gs : List (Str × V)} (h : H x = some (.ins C dx fs)) : ExD H (upd H x (.ins C dx gs)) := fun a u hu z => by
  have hne : a ≠ x := by
    rintro rfl
    rw [h] at hu
    cases hu
    exact z
  rw [upd_ne hne]; exact hu
/-- a new list, then changed -/
theorem ExD.mut {H H' : Hp} {q : Addr} {o : HO} (e : ExD H H') (h : H q = none) : ExD H (upd H' q o) := fun a u hu z => by
  have hne : a ≠ q := by
    rintro rfl
    rw [h] at hu
    cases hu
  rw [upd_ne hne]; exact e a u hu z
section
variable {H H' : Hp}
theorem exD_t {a : Addr} {xs : List V} (e : ExD H H') (h : SqT K H a xs) : SqT K H' a xs := by
  rcases h with (h | ⟨o, h⟩) | h
  · exact .inl (.inl (e _ _ h trivial))
  · exact .inl (.inr ⟨o, e _ _ h trivial⟩)
  · exact .inr h
theorem exD_l {a : Addr} {xs : List V} (e : ExD H H') (h : SqL K H a xs) : SqL K H' a xs := by
  rcases h with (h | ⟨o, h⟩) | h
  · exact .inl (.inl (e _ _ h trivial))
  · exact .inl (.inr ⟨o, e _ _ h trivial⟩)
  · exact .inr h
mutual
theorem Dp.exD (e : ExD H H') : ∀ {v : V} {d : PyData}, Dp K H v d → Dp K H' v d
  | _, _, .non => .non
  | _, _, .bl b => .bl b
  | _, _, .int i => .int i
  | _, _, .str x => .str x
  | _, _, .lst h r => .lst (exD_l e h) (DpAll.exD e r)
  | _, _, .tup h r => .tup (exD_t e h) (DpAll.exD e r)
theorem DpAll.exD (e : ExD H H') : ∀ {vs : List V} {ds : List PyData}, DpAll K H vs ds → DpAll K H' vs ds
  | _, _, .nil => .nil
  | _, _, .cons h r => .cons (Dp.exD e h) (DpAll.exD e r)
end
end
theorem drev {H : Hp} : ∀ {vs : List V} {ds : List PyData}, DpAll K H vs ds → DpAll K H vs.reverse ds.reverse
  | _, _, .nil => .nil
  | _, _, .cons a r => by rw [List.reverse_cons, List.reverse_cons]; exact dsnoc (drev r) a
theorem dsplit {H : Hp} {d : PyData} : ∀ {ds : List PyData} {vs : List V}, DpAll K H vs (ds ++ [d]) → ∃ us v, vs = us ++ [v] ∧ DpAll K H us ds ∧ Dp K H v d
  | [], _, .cons a .nil => ⟨[], _, rfl, .nil, a⟩
  | x :: ds, _, .cons a r => by
    obtain ⟨us, v, rfl, h1, h2⟩ := dsplit (ds := ds) r
    exact ⟨_ :: us, v, rfl, .cons a h1, h2⟩
/-! ### a list of rows that grows -/
def flat1 : PyData → Bool
  | .list ds => noLs ds
  | _ => false
structure RowsIn (K : PySem.W.Frag) (H : Hp) (q : Addr) (ys : List V) (ds : List PyData) : Prop where
  at_ : H q = some (.lst ys)
  d : DpAll K H ys ds
  ne : ∀ y ∈ ys, y ≠ .ref q
  flat : ∀ x ∈ ds, flat1 x = true
section
variable {H H' : Hp} {q : Addr} {ys : List V} {ds : List PyData}
theorem RowsIn.exD (h : RowsIn K H q ys ds) (e : ExD H H') : RowsIn K H' q ys ds := ⟨e _ _ h.at_ trivial, DpAll.exD e h.d, h.ne, h.flat⟩
theorem row_keep {v : V} {d : PyData} {zs : List V} (hq : H q = some (.lst ys)) (h : Dp K H v d) (hv : v ≠ .ref q) (hf : flat1 d = true) : Dp K (upd H q (.lst zs)) v d := by
  have e3 : ExT H (upd H q (.lst zs)) := ExT.mut (fun _ _ h _ => h) hq
  cases h with
  | lst h r =>
    rename_i a xs es
    have ne : a ≠ q := fun z => hv (by rw [z])
    refine .lst ?_ (DpAll.exT e3 hf r)
    rcases h with (h | ⟨o, h⟩) | h
    · exact .inl (.inl (by rw [upd_ne ne]; exact h))
    · exact .inl (.inr ⟨o, by rw [upd_ne ne]; exact h⟩)
    · exact .inr h
  | non => cases hf
  | bl => cases hf
  | int => cases hf
  | str => cases hf
  | tup => cases hf
theorem rows_keep {zs ws : List V} (hq : H q = some (.lst ws)) : ∀ {ys : List V} {ds : List PyData}, DpAll K H ys ds → (∀ y ∈ ys, y ≠ .ref q) → (∀ x ∈ ds, flat1 x = true) → DpAll K (upd H q (.lst zs)) ys ds
  | _, _, .nil, _, _ => .nil
  | _, _, .cons a r, h1, h2 => .cons (row_keep hq a (h1 _ List.mem_cons_self) (h2 _ List.mem_cons_self)) (rows_keep hq r (fun y hy => h1 y (List.mem_cons_of_mem _ hy)) fun x hx => h2 x (List.mem_cons_of_mem _ hx))
theorem RowsIn.app {u : V} {d : PyData} (h : RowsIn K H q ys ds) (hd : Dp K H u d) (hu : u ≠ .ref q) (hf : flat1 d = true) : RowsIn K (upd H q (.lst (ys ++ [u]))) q (ys ++ [u]) (ds ++ [d]) := by
  refine ⟨upd_same, dsnoc (rows_keep h.at_ h.d h.ne h.flat) (row_keep h.at_ hd hu hf), fun y hy => ?_, fun x hx => ?_⟩
  · rcases List.mem_append.mp hy with z | z
    · exact h.ne y z
    · rw [List.mem_singleton.mp z]; exact hu
  · rcases List.mem_append.mp hx with z | z
    · exact h.flat x z
    · rw [List.mem_singleton.mp z]; exact hf
end
/-! ### the fields -/
structure Flds (fs : List (Str × V)) (ah bh rest lows mids highs : Option V) : Prop where
  ah : fs.lookup ("aheads" : Str) = ah
  bh : fs.lookup ("behinds" : Str) = bh
  rest : fs.lookup ("rest" : Str) = rest
  lows : fs.lookup ("lows" : Str) = lows
  mids : fs.lookup ("middles" : Str) = mids
  highs : fs.lookup ("highs" : Str) = highs
  best : fs.lookup ("best" : Str) = none
  low_ways : fs.lookup ("low_ways" : Str) = none
  middle_ways : fs.lookup ("middle_ways" : Str) = none
  high_ways : fs.lookup ("high_ways" : Str) = none
  nexts : fs.lookup ("nexts" : Str) = none
  begin_ : fs.lookup ("begin" : Str) = none
  fewest : fs.lookup ("fewest" : Str) = none
  many : fs.lookup ("many" : Str) = none
  numbered : fs.lookup ("numbered" : Str) = none
  rank : fs.lookup ("rank" : Str) = none
theorem flds0 : Flds [] none none none none none none := ⟨rfl, rfl, rfl, rfl, rfl, rfl, rfl, rfl, rfl, rfl, rfl, rfl, rfl, rfl, rfl, rfl⟩
section
variable {fs : List (Str × V)} {ah bh rest lows mids highs : Option V}
theorem lk_same {f : Str} {v : V} : (putF f v fs).lookup f = some v := by rw [lookup_putF, if_pos rfl]
theorem lk_ne {f g : Str} {v : V} {o : Option V} (h : g ≠ f) (e : fs.lookup g = o) : (putF f v fs).lookup g = o := by rw [lookup_putF, if_neg h]; exact e
theorem Flds.pAh (h : Flds fs ah bh rest lows mids highs) (v : V) : Flds (putF "aheads" v fs) (some v) bh rest lows mids highs :=
  ⟨lk_same, lk_ne (by decide) h.bh, lk_ne (by decide) h.rest, lk_ne (by decide) h.lows, lk_ne (by decide) h.mids, lk_ne (by decide) h.highs, lk_ne (by decide) h.best, lk_ne (by decide) h.low_ways, lk_ne (by decide) h.middle_ways, lk_ne (by decide) h.high_ways, lk_ne (by decide) h.nexts, lk_ne (by decide) h.begin_, lk_ne (by decide) h.fewest, lk_ne (by decide) h.many, lk_ne (by decide) h.numbered, lk_ne (by decide) h.rank⟩
theorem Flds.pBh (h : Flds fs ah bh rest lows mids highs) (v : V) : Flds (putF "behinds" v fs) ah (some v) rest lows mids highs :=
  ⟨lk_ne (by decide) h.ah, lk_same, lk_ne (by decide) h.rest, lk_ne (by decide) h.lows, lk_ne (by decide) h.mids, lk_ne (by decide) h.highs, lk_ne (by decide) h.best, lk_ne (by decide) h.low_ways, lk_ne (by decide) h.middle_ways, lk_ne (by decide) h.high_ways, lk_ne (by decide) h.nexts, lk_ne (by decide) h.begin_, lk_ne (by decide) h.fewest, lk_ne (by decide) h.many, lk_ne (by decide) h.numbered, lk_ne (by decide) h.rank⟩
theorem Flds.pRest (h : Flds fs ah bh rest lows mids highs) (v : V) : Flds (putF "rest" v fs) ah bh (some v) lows mids highs :=
  ⟨lk_ne (by decide) h.ah, lk_ne (by decide) h.bh, lk_same, lk_ne (by decide) h.lows, lk_ne (by decide) h.mids, lk_ne (by decide) h.highs, lk_ne (by decide) h.best, lk_ne (by decide) h.low_ways, lk_ne (by decide) h.middle_ways, lk_ne (by decide) h.high_ways, lk_ne (by decide) h.nexts, lk_ne (by decide) h.begin_, lk_ne (by decide) h.fewest, lk_ne (by decide) h.many, lk_ne (by decide) h.numbered, lk_ne (by decide) h.rank⟩
theorem Flds.pLows (h : Flds fs ah bh rest lows mids highs) (v : V) : Flds (putF "lows" v fs) ah bh rest (some v) mids highs :=
  ⟨lk_ne (by decide) h.ah, lk_ne (by decide) h.bh, lk_ne (by decide) h.rest, lk_same, lk_ne (by decide) h.mids, lk_ne (by decide) h.highs, lk_ne (by decide) h.best, lk_ne (by decide) h.low_ways, lk_ne (by decide) h.middle_ways, lk_ne (by decide) h.high_ways, lk_ne (by decide) h.nexts, lk_ne (by decide) h.begin_, lk_ne (by decide) h.fewest, lk_ne (by decide) h.many, lk_ne (by decide) h.numbered, lk_ne (by decide) h.rank⟩
theorem Flds.pMids (h : Flds fs ah bh rest lows mids highs) (v : V) : Flds (putF "middles" v fs) ah bh rest lows (some v) highs :=
  ⟨lk_ne (by decide) h.ah, lk_ne (by decide) h.bh, lk_ne (by decide) h.rest, lk_ne (by decide) h.lows, lk_same, lk_ne (by decide) h.highs, lk_ne (by decide) h.best, lk_ne (by decide) h.low_ways, lk_ne (by decide) h.middle_ways, lk_ne (by decide) h.high_ways, lk_ne (by decide) h.nexts, lk_ne (by decide) h.begin_, lk_ne (by decide) h.fewest, lk_ne (by decide) h.many, lk_ne (by decide) h.numbered, lk_ne (by decide) h.rank⟩
theorem Flds.pHighs (h : Flds fs ah bh rest lows mids highs) (v : V) : Flds (putF "highs" v fs) ah bh rest lows mids (some v) :=
  ⟨lk_ne (by decide) h.ah, lk_ne (by decide) h.bh, lk_ne (by decide) h.rest, lk_ne (by decide) h.lows, lk_ne (by decide) h.mids, lk_same, lk_ne (by decide) h.best, lk_ne (by decide) h.low_ways, lk_ne (by decide) h.middle_ways, lk_ne (by decide) h.high_ways, lk_ne (by decide) h.nexts, lk_ne (by decide) h.begin_, lk_ne (by decide) h.fewest, lk_ne (by decide) h.many, lk_ne (by decide) h.numbered, lk_ne (by decide) h.rank⟩
end
/-- the Maker of m -/
structure MakerAt (K : PySem.W.Frag) (H : Hp) (a : Addr) (m : Mkr) : Prop where
  ex : ∃ dx fs va vb vl vm vh, H a = some (.ins (He.ga K "Maker") dx fs) ∧ Flds fs (some va) (some vb) (some (.int m.rest)) (some vl) (some vm) (some vh) ∧
    Dp K H va (.list (m.ah.map PyData.int)) ∧ Dp K H vb (.list (m.bh.map PyData.int)) ∧ Dp K H vl (.list (m.lows.map rowD)) ∧ Dp K H vm (rowH m.mids) ∧ Dp K H vh (.list (m.highs.map rowH))
theorem MakerAt.exx {H H' : Hp} {a : Addr} {m : Mkr} (h : MakerAt K H a m) (e : Ex H H') : MakerAt K H' a m := by
  obtain ⟨dx, fs, va, vb, vl, vm, vh, h1, h2, h3, h4, h5, h6, h7⟩ := h.ex
  exact ⟨dx, fs, va, vb, vl, vm, vh, e _ _ h1, h2, Dp.ex e h3, Dp.ex e h4, Dp.ex e h5, Dp.ex e h6, Dp.ex e h7⟩
theorem flat_rowD (r : Row2) : flat1 (rowD r) = true := by
  obtain ⟨a, b⟩ := r
  cases a <;> cases b <;> rfl
theorem flat_rowH (r : FM × FM) : flat1 (rowH r) = true := rfl
end Hs

set_option Elab.async false
set_option linter.all false
set_option maxRecDepth 100000
set_option maxHeartbeats 4000000
/-! shortest.py: Maker.__init__. -/
namespace Hs
open PySem PySem.Spec PyProof.Rows L2
open Evl (Ex Ev EvT EvA EvL EvU)
variable {P : Program} {w : World} {K : PySem.W.Frag} {mg : Str → Option Value} {base : Heap}
/-- all but x stays -/
def ExB (x : Addr) (H H' : Hp) : Prop := ∀ a u, a ≠ x → H a = some u → H' a = some u
theorem ExB.ex {x : Addr} {H H1 H2 : Hp} (e : ExB x H H1) (f : Ex H1 H2) : ExB x H H2 := fun a u n h => f a u (e a u n h)
theorem ExB.set {x : Addr} {H H1 : Hp} {o : HO} (e : ExB x H H1) : ExB x H (upd H1 x o) := fun a u n h => by rw [upd_ne n]; exact e a u n h
theorem ExB.mut {x q : Addr} {H H1 : Hp} {o : HO} (e : ExB x H H1) (hq : H q = none) : ExB x H (upd H1 q o) := fun a u n h => by
  have hne : a ≠ q := by
    rintro rfl
    rw [hq] at h; cases h
  rw [upd_ne hne]; exact e a u n h
theorem plen {f : Str} {v : V} {fs : List (Str × V)} {n : Nat} (h : fs.length < n) : (putF f v fs).length < n + 1 := by
  have := length_putF f v fs
  omega
abbrev N_init : List Str := ["self", "one", "i", "j", "a", "b", "bit", "ahead", "behind", "carry"]
theorem sc_init : FnScope N_init ["self", "one"] (defScope s_Maker_init) := ⟨rfl, rfl, rfl, by decide +kernel, rfl, by decide +kernel, by decide +kernel⟩
def sp_init (K : PySem.W.Frag) : Sp := fun vs H Q _ => ∃ (x dx : Addr) (v : V) (c : Card), vs = [.ref x, v] ∧ H x = some (.ins (He.ga K "Maker") dx []) ∧ Cd K H v c ∧ Ck 1000 5000 c ∧ ∀ H2, ExB x H H2 → MakerAt K H2 x (mkF c) → Q .non H2
/-- [self.best(self.low_ways(bit, carry, ahead)) for carry in (0, 1)] -/
def te_low (K : PySem.W.Frag) : TE := tMt (He.ga K "Maker") "best" (sp_best K) (tVar 0) (tCons (tMt (He.ga K "Maker") "low_ways" (sp_low_ways K) (tVar 0) (tCons (tVar 6) (tCons (tVar 9) (tCons (tVar 7) tNil)))) tNil)
def te_mid (K : PySem.W.Frag) : TE := tMt (He.ga K "Maker") "best" (sp_best K) (tVar 0) (tCons (tMt (He.ga K "Maker") "middle_ways" (sp_middle_ways K) (tVar 0) (tCons (tVar 9) tNil)) tNil)
def te_high (K : PySem.W.Frag) : TE := tMt (He.ga K "Maker") "best" (sp_best K) (tVar 0) (tCons (tMt (He.ga K "Maker") "high_ways" (sp_high_ways K) (tVar 0) (tCons (tVar 6) (tCons (tVar 9) (tCons (tVar 8) tNil)))) tNil)
def tl01 : TE := tTup (tCons (tC (.int 0)) (tCons (tC (.int 1)) tNil))
section
variable {σ : L2.St} {H : Hp} {x dx : Addr} {fs : List (Str × V)} {ah bh rest lows mids highs : Option V}
theorem low_len (b c : Int) (r : Row2) : (lowWays b c r).length ≤ 1000 := by
  unfold lowWays
  refine Nat.le_trans (List.length_filter_le _ _) (Nat.le_trans (List.length_filterMap_le _ _) (by decide))
theorem mid_len (b c : Int) (r : Row2) : (midWays b c r).length ≤ 1000 := by
  unfold midWays
  exact Nat.le_trans (List.length_filterMap_le _ _) (by decide)
theorem high_len (b c : Int) (r : FM × FM) : (highWays b c r).length ≤ 1000 := by
  unfold highWays highWaysOf
  rw [List.length_map]
  exact Nat.le_trans (List.length_filter_le _ _) (by decide)
theorem noL_opt (o : Option FM) : noL (optD o) = true := by cases o <;> rfl
theorem row_low {r : Row2} {vah : V} {b : Int} {v1 v2 v3 v4 v5 v8 v9 : Option V} (hx : H x = some (.ins (He.ga K "Maker") dx fs)) (fl : Flds fs ah bh rest lows mids highs) (hah : Dp K H vah (rowD r)) :
    EvLD K (tLc (iTup K tl01) (gName 9) tYes (te_low K) [9]) [some (.ref x), v1, v2, v3, v4, v5, some (.int b), some vah, v8, v9] H [optD (lowStep b r).1, optD (lowStep b r).2] := by
  refine eld_lcZ (K := K) (zs := [0, 1]) (fun _ => true) (fun z => optD (bestF (lowWays b z r))) ev01 (by decide) fun z H1 hz e1 => ?_
  refine ⟨_, fun Q H5 e5 q => q, rfl, fun H5 _ Q q => q H5 (Ex.refl _), fun _ => ⟨fun H5 e5 Q q => ?_, noL_opt _⟩⟩
  refine ⟨_, rfl, x, dx, fs, rfl, (e1.trans e5) _ _ hx, fl.best, _, rfl, x, dx, fs, rfl, (e1.trans e5) _ _ hx, fl.low_ways, _, rfl, _, rfl, _, rfl, ?_⟩
  exact ⟨_, _, b, z, r, rfl, Dp.ex (e1.trans e5) hah, fun u H6 e6 d6 => ⟨_, _, _, rfl, d6, low_len _ _ _, fun u2 H7 e7 d7 => q u2 H7 (e6.trans e7) d7⟩⟩
theorem row_high {r : FM × FM} {vah : V} {b : Int} {v1 v2 v3 v4 v5 v7 v9 : Option V} (hx : H x = some (.ins (He.ga K "Maker") dx fs)) (fl : Flds fs ah bh rest lows mids highs) (hah : Dp K H vah (rowH r)) (hb : b = 0 ∨ b = 1) :
    EvLD K (tLc (iTup K tl01) (gName 9) tYes (te_high K) [9]) [some (.ref x), v1, v2, v3, v4, v5, some (.int b), v7, some vah, v9] H [fmD (highStep b r).1, fmD (highStep b r).2] := by
  refine eld_lcZ (K := K) (zs := [0, 1]) (fun _ => true) (fun z => fmD (getF (bestF (highWays b z r)))) ev01 (by decide) fun z H1 hz e1 => ?_
  refine ⟨_, fun Q H5 e5 q => q, rfl, fun H5 _ Q q => q H5 (Ex.refl _), fun _ => ⟨fun H5 e5 Q q => ?_, rfl⟩⟩
  have hz' : z = 0 ∨ z = 1 := by simpa using hz
  have e : fmD (getF (bestF (highWays b z r))) = optD (bestF (highWays b z r)) := by rw [bestF_some (highWays_ne hb hz')]; rfl
  rw [e] at q
  refine ⟨_, rfl, x, dx, fs, rfl, (e1.trans e5) _ _ hx, fl.best, _, rfl, x, dx, fs, rfl, (e1.trans e5) _ _ hx, fl.high_ways, _, rfl, _, rfl, _, rfl, ?_⟩
  exact ⟨_, _, b, z, r, rfl, Dp.ex (e1.trans e5) hah, fun u H6 e6 d6 => ⟨_, _, _, rfl, d6, high_len _ _ _, fun u2 H7 e7 d7 => q u2 H7 (e6.trans e7) d7⟩⟩
theorem row_mid {r : Row2} {n : Int} {l : Addr} {ys : List V} {u : V} {v1 v2 v3 v4 v5 v6 v7 v8 v9 : Option V} (hx : H x = some (.ins (He.ga K "Maker") dx fs)) (fl : Flds fs ah bh (some (.int n)) (some (.ref l)) mids highs) (hl : SqL K H l (ys ++ [u])) (hu : Dp K H u (rowD r)) (hr : r.1.isSome = true) :
    EvLD K (tLc (iTup K tl01) (gName 9) tYes (te_mid K) [9]) [some (.ref x), v1, v2, v3, v4, v5, v6, v7, v8, v9] H [fmD (midsF n r).1, fmD (midsF n r).2] := by
  refine eld_lcZ (K := K) (zs := [0, 1]) (fun _ => true) (fun z => fmD (getF (bestF (midWays n z r)))) ev01 (by decide) fun z H1 hz e1 => ?_
  refine ⟨_, fun Q H5 e5 q => q, rfl, fun H5 _ Q q => q H5 (Ex.refl _), fun _ => ⟨fun H5 e5 Q q => ?_, rfl⟩⟩
  have e : fmD (getF (bestF (midWays n z r))) = optD (bestF (midWays n z r)) := by rw [bestF_some (midWays_ne hr)]; rfl
  rw [e] at q
  refine ⟨_, rfl, x, dx, fs, rfl, (e1.trans e5) _ _ hx, fl.best, _, rfl, x, dx, fs, rfl, (e1.trans e5) _ _ hx, fl.middle_ways, _, rfl, ?_⟩
  exact ⟨x, z, n, r, rfl, ⟨dx, fs, l, ys, u, (e1.trans e5) _ _ hx, fl.rest, fl.lows, Evl.ex_l (e1.trans e5) hl, Dp.ex (e1.trans e5) hu⟩, fun u H6 e6 d6 => ⟨_, _, _, rfl, d6, mid_len _ _ _, fun u2 H7 e7 d7 => q u2 H7 (e6.trans e7) d7⟩⟩
end
end Hs

set_option Elab.async false
set_option linter.all false
set_option maxRecDepth 100000
set_option maxHeartbeats 4000000
/-! shortest.py: Maker.__init__, its walk. -/
namespace Hs
open PySem PySem.Spec PyProof.Rows L2
open Evl (Ex Ev EvT EvA EvL EvU)
variable {P : Program} {w : World} {K : PySem.W.Frag} {mg : Str → Option Value} {base : Heap}
theorem ExB.fresh {x q : Addr} {H H1 : Hp} {o : HO} (e : ExB x H H1) (hx : H1 x = some o) (h : H1 q = none) : H q = none := by
  cases hq : H q with
  | none => rfl
  | some u =>
    by_cases n : q = x
    · subst n; rw [hx] at h; cases h
    · rw [e q u n hq] at h; cases h
theorem go_fld {K : PySem.W.Frag} {ta tv : TE} {f : Str} {D : Ends} {σ : L2.St} {H : Hp} (h : tv σ H fun y H1 => ta σ H1 fun x H2 => ∃ a C dx fs, x = .ref a ∧ H2 a = some (.ins C dx fs) ∧ Cls K C ∧ NoAttr K C f ∧ fs.length < 1000 ∧ D.nx σ (upd H2 a (.ins C dx (putF f y fs)))) : sFld K ta tv f D σ H := h
theorem highsF_len : ∀ (bs : List Int) (m : FM × FM), (highsF bs m).length = bs.length + 1
  | [], _ => rfl
  | x :: bs, m => by show (highsF bs m).length + 1 = bs.length + 1 + 1; rw [highsF_len]
theorem ok_init (T : Top K mg) : Okd P w K mg base 2 (He.ma K (He.ga K "Maker") "__init__") ["self", "one"] (sp_init K) := by
  refine okd_of T.fd_Maker_init sc_init (fun vs H Q E h => ?_) (fun _ _ _ _ _ _ us hl => match us, hl with | [_, _], _ => rfl) (fun cdv A outer s H vs Q E hr h => ?_)
  · obtain ⟨_, _, _, _, rfl, _⟩ := h; rfl
  · obtain ⟨x, dx, v, c, rfl, hx, ⟨p0, rfl, hp0⟩, ck, k⟩ := h
    have D1 := ok_bits_of (P := P) (w := w) (base := base) T
    have D2 := ok_two (P := P) (w := w) (base := base) T
    have D3 := ok_best (P := P) (w := w) (base := base) T
    have D4 := ok_low_ways (P := P) (w := w) (base := base) T
    have D5 := ok_middle_ways (P := P) (w := w) (base := base) T
    have D6 := ok_high_ways (P := P) (w := w) (base := base) T
    have nd := sc_init.nd
    have cM := T.c_Maker
    have i0 := ck.i0; have i1 := ck.i1; have j0 := ck.j0; have j1 := ck.j1
    have bo : BlkOk N_init (defScope s_Maker_init) (defScope s_Maker_init) [("carry", 9)] → True := fun _ => trivial
    refine ⟨_, pss_cons (ps_asg (pv 1) (pg_tup rfl (pgs_cons (pg_name (i := 2) nd rfl (.inl rfl)) (pgs_cons (pg_name (i := 3) nd rfl (.inl rfl)) (pgs_cons (pg_name (i := 4) nd rfl (.inl rfl)) (pgs_cons (pg_name (i := 5) nd rfl (.inl rfl)) pgs_nil))))))
      (pss_cons (ps_fld (pv 0) (pc D1 hr T.g_bits_of (pa_cons (pv 4) (pa_cons (pv 3) pa_nil))) (by rfl))
      (pss_cons (ps_fld (pv 0) (pc D1 hr T.g_bits_of (pa_cons (pe_op op_mod (pv 5) (pc D2 hr T.g_two (pa_cons (pv 2) pa_nil))) (pa_cons (pv 2) pa_nil))) (by rfl))
      (pss_cons (ps_fld (pv 0) (pe_op op_fdivW (pv 5) (pc D2 hr T.g_two (pa_cons (pv 2) pa_nil))) (by rfl))
      (pss_cons (ps_fld (pv 0) (pe_lst (pa_cons (pe_lst (pa_cons (pe_tup (pa_cons pe_int (pa_cons pe_int pa_nil))) (pa_cons pe_non pa_nil))) pa_nil)) (by rfl))
      (pss_cons (ps_for PassesOwn.never rfl (pi_list (pe_fld (pv 0) rfl)) (pg_name (i := 6) nd rfl (.inr rfl))
        (pss_cons (ps_set (i := 7) nd rfl (.inr rfl) (pe_ix ix_list (pe_fld (pv 0) rfl) (pe_un un_neg pe_int) (fun _ _ => rfl)))
          (pss_one (ps_expr (pe_bm PySem.F.plainAttrs_list PySem.F.slot_list_append PySem.F.type_list_append mt_append (pe_fld (pv 0) rfl) (pa_cons
            (pe_lc (own := [("carry", 9)]) (g := gName 9) (tt := tYes) (te := te_low K) rfl nd (pi_tup (pe_tup (pa_cons pe_int (pa_cons pe_int pa_nil)))) (blkOk_by (own := [("carry", 9)]) (N := N_init) (sc := defScope s_Maker_init) (by decide +kernel))
              (fun _ _ _ _ _ => pg_name (i := 9) nd rfl (Or.inl rfl)) (fun _ _ _ _ _ => pts_nil) (fun _ _ _ _ _ => pm (pv 0) cM T.m_Maker_best D3 hr (pa_cons (pm (pv 0) cM T.m_Maker_low_ways D4 hr (pa_cons (pv 6) (pa_cons (pv 9) (pa_cons (pv 7) pa_nil)))) pa_nil))) pa_nil))))))
      (pss_cons (ps_fld (pv 0) (pe_lc (own := [("carry", 9)]) (g := gName 9) (tt := tYes) (te := te_mid K) rfl nd (pi_tup (pe_tup (pa_cons pe_int (pa_cons pe_int pa_nil)))) (blkOk_by (own := [("carry", 9)]) (N := N_init) (sc := defScope s_Maker_init) (by decide +kernel))
              (fun _ _ _ _ _ => pg_name (i := 9) nd rfl (Or.inl rfl)) (fun _ _ _ _ _ => pts_nil) (fun _ _ _ _ _ => pm (pv 0) cM T.m_Maker_best D3 hr (pa_cons (pm (pv 0) cM T.m_Maker_middle_ways D5 hr (pa_cons (pv 9) pa_nil)) pa_nil))) (by rfl))
      (pss_cons (ps_fld (pv 0) (pe_lst (pa_cons (pe_fld (pv 0) rfl) pa_nil)) (by rfl))
      (pss_cons (ps_for PassesOwn.never rfl (pi_list (pe_revL (pe_fld (pv 0) rfl))) (pg_name (i := 6) nd rfl (.inr rfl))
        (pss_cons (ps_set (i := 8) nd rfl (.inr rfl) (pe_ix ix_list (pe_fld (pv 0) rfl) (pe_un un_neg pe_int) (fun _ _ => rfl)))
          (pss_one (ps_expr (pe_bm PySem.F.plainAttrs_list PySem.F.slot_list_append PySem.F.type_list_append mt_append (pe_fld (pv 0) rfl) (pa_cons
            (pe_lc (own := [("carry", 9)]) (g := gName 9) (tt := tYes) (te := te_high K) rfl nd (pi_tup (pe_tup (pa_cons pe_int (pa_cons pe_int pa_nil)))) (blkOk_by (own := [("carry", 9)]) (N := N_init) (sc := defScope s_Maker_init) (by decide +kernel))
              (fun _ _ _ _ _ => pg_name (i := 9) nd rfl (Or.inl rfl)) (fun _ _ _ _ _ => pts_nil) (fun _ _ _ _ _ => pm (pv 0) cM T.m_Maker_best D3 hr (pa_cons (pm (pv 0) cM T.m_Maker_high_ways D6 hr (pa_cons (pv 6) (pa_cons (pv 9) (pa_cons (pv 8) pa_nil)))) pa_nil))) pa_nil))))))
      (pss_one (ps_fld (pv 0) (pe_revL (pe_fld (pv 0) rfl)) (by rfl))))))))))), ?_⟩
    refine ⟨_, rfl, p0, _, rfl, hp0, rfl, _, _, rfl, _, _, rfl, _, _, rfl, _, _, rfl, rfl, ?_⟩
    refine ⟨_, rfl, _, rfl, c.a, c.j, rfl, j0, by omega, fun pa H1 hpa e1 h1 => ⟨_, rfl, x, _, dx, [], rfl, e1 _ _ hx, cM, T.n_Maker_aheads, by show 0 < 1000; decide, ?_⟩⟩
    have l1 := plen (f := "aheads") (v := .ref pa) (fs := []) (n := 1) (by show 0 < 1; decide)
    have f1 := flds0.pAh (.ref pa)
    generalize putF "aheads" (V.ref pa) [] = fs1 at l1 f1
    have b1 : ExB x H (upd H1 x (.ins (He.ga K "Maker") dx fs1)) := ((show ExB x H H from fun _ _ _ h => h).ex e1).set
    have d1 : Dp K (upd H1 x (.ins (He.ga K "Maker") dx fs1)) (.ref pa) (.list ((bitsF c.a c.j.toNat).map PyData.int)) := Dp.exD (ExD.ins (e1 _ _ hx)) (.lst (SqL.of h1) (dints' _))
    have x1 : (upd H1 x (.ins (He.ga K "Maker") dx fs1)) x = some (.ins (He.ga K "Maker") dx fs1) := upd_same
    generalize upd H1 x (.ins (He.ga K "Maker") dx fs1) = H2 at b1 d1 x1
    refine ⟨_, rfl, _, rfl, c.i, rfl, i0, by omega, _, _, rfl, rfl, two_pos _, _, rfl, c.b % two c.i, c.i, rfl, i0, by omega, fun pb H3 hpb e3 h3 => ⟨_, rfl, x, _, dx, fs1, rfl, e3 _ _ x1, cM, T.n_Maker_behinds, by omega, ?_⟩⟩
    have l2 := plen (f := "behinds") (v := .ref pb) l1
    have f2 := f1.pBh (.ref pb)
    generalize putF "behinds" (V.ref pb) fs1 = fs2 at l2 f2
    have b2 : ExB x H (upd H3 x (.ins (He.ga K "Maker") dx fs2)) := (b1.ex e3).set
    have d2 := Dp.exD (K := K) ((Ex.d e3).trans (ExD.ins (gs := fs2) (e3 _ _ x1))) d1
    have c2 : Dp K (upd H3 x (.ins (He.ga K "Maker") dx fs2)) (.ref pb) (.list ((bitsF (c.b % two c.i) c.i.toNat).map PyData.int)) := Dp.exD (ExD.ins (e3 _ _ x1)) (.lst (SqL.of h3) (dints' _))
    have x2 : (upd H3 x (.ins (He.ga K "Maker") dx fs2)) x = some (.ins (He.ga K "Maker") dx fs2) := upd_same
    generalize upd H3 x (.ins (He.ga K "Maker") dx fs2) = H4 at b2 d2 c2 x2
    refine ⟨_, rfl, _, rfl, c.i, rfl, i0, by omega, _, _, rfl, rfl, wdiv (two_pos _) (two_bdN (n := 1000) (by omega)), _, rfl, x, _, dx, fs2, rfl, x2, cM, T.n_Maker_rest, by omega, ?_⟩
    have l3 := plen (f := "rest") (v := .int (c.b / two c.i)) l2
    have f3 := f2.pRest (.int (c.b / two c.i))
    generalize putF "rest" (V.int (c.b / two c.i)) fs2 = fs3 at l3 f3
    have b3 : ExB x H (upd H4 x (.ins (He.ga K "Maker") dx fs3)) := b2.set
    have d3 := Dp.exD (K := K) (ExD.ins (gs := fs3) x2) d2
    have c3 := Dp.exD (K := K) (ExD.ins (gs := fs3) x2) c2
    have x3 : (upd H4 x (.ins (He.ga K "Maker") dx fs3)) x = some (.ins (He.ga K "Maker") dx fs3) := upd_same
    generalize upd H4 x (.ins (He.ga K "Maker") dx fs3) = H5 at b3 d3 c3 x3
    refine ⟨(by show 2 ≤ sizeLine; decide), fun t ht => ⟨(by show 2 ≤ sizeLine; decide), fun q1 hq1 => ⟨(by show 1 ≤ sizeLine; decide), fun q hq => ⟨_, rfl, x, _, dx, fs3, rfl, ?_, cM, T.n_Maker_lows, by omega, ?_⟩⟩⟩⟩
    · exact ((Ex.new ht).trans ((Ex.new hq1).trans (Ex.new hq))) _ _ x3
    have l4 := plen (f := "lows") (v := .ref q) l3
    have f4 := f3.pLows (.ref q)
    generalize putF "lows" (V.ref q) fs3 = fs4 at l4 f4
    have eq5 : ∃ H6, upd (upd (upd H5 t (.tup [.int 0, .int 1])) q1 (.lst [.ref t, .non])) q (.lst [.ref q1]) = H6 ∧ Ex H5 H6 ∧ RowsIn K H6 q [.ref q1] (([row0]).map rowD) := by
      refine ⟨_, rfl, (Ex.new ht).trans ((Ex.new hq1).trans (Ex.new hq)), upd_same, ?_, ?_, ?_⟩
      · refine .cons (.lst (SqL.of ((Ex.new hq) _ _ upd_same)) (.cons (.tup (SqT.of (((Ex.new hq1).trans (Ex.new hq)) _ _ upd_same)) (.cons (.int _) (.cons (.int _) .nil))) (.cons .non .nil))) .nil
      · intro y hy
        rw [List.mem_singleton.mp hy]
        intro z
        have z : q1 = q := V.ref.inj z
        rw [← z, upd_same] at hq
        cases hq
      · intro y hy
        rw [List.mem_singleton.mp hy]; rfl
    obtain ⟨H6, eH, e6, r6⟩ := eq5
    rw [eH]
    have hq5 : H5 q = none := Evl.fresh_back ((Ex.new ht).trans (Ex.new hq1)) hq
    have hqH : H q = none := b3.fresh x3 hq5
    have b4 : ExB x H (upd H6 x (.ins (He.ga K "Maker") dx fs4)) := (b3.ex e6).set
    have g4 : ExD H5 (upd H6 x (.ins (He.ga K "Maker") dx fs4)) := (Ex.d e6).trans (ExD.ins (e6 _ _ x3))
    have r4 := r6.exD (ExD.ins (gs := fs4) (e6 _ _ x3))
    have x4 : (upd H6 x (.ins (He.ga K "Maker") dx fs4)) x = some (.ins (He.ga K "Maker") dx fs4) := upd_same
    generalize upd H6 x (.ins (He.ga K "Maker") dx fs4) = H7 at b4 g4 r4 x4
    have eah : bitsF c.a c.j.toNat = (mkF c).ah := rfl
    have ebh : bitsF (c.b % two c.i) c.i.toNat = (mkF c).bh := rfl
    have lah : (mkF c).ah.length ≤ 1000 := by rw [← eah, bitsF_len]; omega
    have lbh : (mkF c).bh.length ≤ 1000 := by rw [← ebh, bitsF_len]; omega
    have mok := mkF_ok c
    rw [eah] at d3
    rw [ebh] at c3
    obtain ⟨pb', xs, epb, hlb, hdb⟩ := list_inv c3
    cases epb
    have exs := dints hdb
    subst exs
    refine ⟨_, rfl, x, _, dx, fs4, _, rfl, x4, cM, T.n_Maker_behinds, f4.bh, pb, rfl, ⟨_, exD_l g4 hlb⟩, for_list (K := K) (a := pb) (xs := (mkF c).bh.map V.int)
      (fun i σ H1 => ExB x H H1 ∧ H1 x = some (.ins (He.ga K "Maker") dx fs4) ∧ ExD H5 H1 ∧ (∃ ys, RowsIn K H1 q ys ((lowsF ((mkF c).bh.take i) row0).map rowD)) ∧ ∃ v6 v7, σ = [some (.ref x), some (.ref p0), some (.int c.i), some (.int c.j), some (.int c.a), some (.int c.b), v6, v7, none, none])
      ⟨b4, x4, g4, ⟨_, r4⟩, none, none, rfl⟩ (fun i σ H1 _ z => exD_l z.2.2.1 hlb) ?_ ?_⟩
    · rintro i u σ H1 hu ⟨b, hx', ed, ⟨ys, r⟩, v6, v7, rfl⟩
      rw [List.getElem?_map] at hu
      cases hg : (mkF c).bh[i]? with
      | none => rw [hg] at hu; cases hu
      | some bit =>
        rw [hg] at hu
        have eu : V.int bit = u := Option.some.inj hu
        subst eu
        obtain ⟨l0, el⟩ := lowsF_last ((mkF c).bh.take i) row0
        have rd := r.d
        rw [el, List.map_append] at rd
        obtain ⟨us, v, rfl, du, dv⟩ := dsplit rd
        have hi : i < (mkF c).bh.length := (List.getElem?_eq_some_iff.mp hg).1
        refine ⟨_, rfl, x, _, dx, fs4, _, rfl, hx', cM, T.n_Maker_lows, f4.lows, _, rfl, q, _, _, v, rfl, rfl, SqL.of r.at_, atI_last _ _, ?_⟩
        refine ⟨_, rfl, x, _, dx, fs4, _, rfl, hx', cM, T.n_Maker_lows, f4.lows, .inl ⟨rfl, _, SqL.of r.at_⟩, ?_⟩
        refine runL (row_low hx' f4 dv) fun p2 ys2 H2 hp2 e2 h2 d2 => ?_
        have nq : p2 ≠ q := fun z => by rw [z, r.at_] at hp2; cases hp2
        have dr : Dp K H2 (.ref p2) (rowD (lowStep bit (lastLow ((mkF c).bh.take i) row0))) := .lst (SqL.of h2) d2
        have r2 := (r.exD (Ex.d e2)).app dr (fun z => nq (V.ref.inj z)) (flat_rowD _)
        refine ⟨q, _, _, rfl, rfl, e2 _ _ r.at_, ?_, (b.ex e2).mut hqH, ?_, (ed.trans (Ex.d e2)).mut hq5, ⟨us ++ [v] ++ [.ref p2], ?_⟩, some (.int bit), some v, rfl⟩
        · have := dlen r.d
          rw [List.length_map, lowsF_len, List.length_take] at this
          exact Evl.sz_lt (by omega)
        · have nx : x ≠ q := fun z => by rw [← z, x3] at hq5; cases hq5
          rw [upd_ne nx]; exact e2 _ _ hx'
        · rw [take_snoc hg, lowsF_app, List.map_append]
          exact r2
    · rintro σ H1 ⟨b, hx', ed, ⟨ys, r⟩, v6, v7, rfl⟩
      rw [List.length_map, List.take_length] at r
      obtain ⟨l0, el⟩ := lowsF_last (mkF c).bh row0
      have vlows : Dp K H1 (.ref q) (.list ((mkF c).lows.map rowD)) := .lst (SqL.of r.at_) r.d
      have rd := r.d
      rw [el, List.map_append] at rd
      obtain ⟨us, v, rfl, du, dv⟩ := dsplit rd
      refine go_next (go_seq (go_fld ?_))
      refine runL (row_mid hx' f4 (SqL.of r.at_) dv mok.last) fun pm ys3 H2 hpm e2 h2 d2m => ⟨_, rfl, x, _, dx, fs4, rfl, e2 _ _ hx', cM, T.n_Maker_middles, by omega, ?_⟩
      have l5 := plen (f := "middles") (v := .ref pm) l4
      have f5 := f4.pMids (.ref pm)
      generalize putF "middles" (V.ref pm) fs4 = fs5 at l5 f5
      have b5 : ExB x H (upd H2 x (.ins (He.ga K "Maker") dx fs5)) := (b.ex e2).set
      have g5 : ExD H5 (upd H2 x (.ins (He.ga K "Maker") dx fs5)) := (ed.trans (Ex.d e2)).trans (ExD.ins (e2 _ _ hx'))
      have lo5 := Dp.exD (K := K) ((Ex.d e2).trans (ExD.ins (gs := fs5) (e2 _ _ hx'))) vlows
      have mi5 : Dp K (upd H2 x (.ins (He.ga K "Maker") dx fs5)) (.ref pm) (rowH (mkF c).mids) := Dp.exD (ExD.ins (e2 _ _ hx')) (.lst (SqL.of h2) d2m)
      have x5 : (upd H2 x (.ins (He.ga K "Maker") dx fs5)) x = some (.ins (He.ga K "Maker") dx fs5) := upd_same
      have pm5 : (upd H2 x (.ins (He.ga K "Maker") dx fs5)) pm = some (.lst ys3) := by
        have n : pm ≠ x := fun z => by rw [z, hx'] at hpm; cases hpm
        rw [upd_ne n]; exact h2
      generalize upd H2 x (.ins (He.ga K "Maker") dx fs5) = H8 at b5 g5 lo5 mi5 x5 pm5
      refine ⟨_, rfl, x, _, dx, fs5, _, rfl, x5, cM, T.n_Maker_middles, f5.mids, (by show 1 ≤ sizeLine; decide), fun q2 hq2 => ⟨_, rfl, x, _, dx, fs5, rfl, (Ex.new hq2) _ _ x5, cM, T.n_Maker_highs, by omega, ?_⟩⟩
      have l6 := plen (f := "highs") (v := .ref q2) l5
      have f6 := f5.pHighs (.ref q2)
      generalize putF "highs" (V.ref q2) fs5 = fs6 at l6 f6
      have hq2H : H q2 = none := b5.fresh x5 hq2
      have nq2 : pm ≠ q2 := fun z => by rw [← z, pm5] at hq2; cases hq2
      have eq9 : ∃ H9, upd H8 q2 (.lst [.ref pm]) = H9 ∧ Ex H8 H9 ∧ RowsIn K H9 q2 [.ref pm] ([(mkF c).mids].map rowH) := by
        refine ⟨_, rfl, Ex.new hq2, upd_same, .cons (Dp.ex (Ex.new hq2) mi5) .nil, ?_, ?_⟩
        · intro y hy
          rw [List.mem_singleton.mp hy]
          exact fun z => nq2 (V.ref.inj z)
        · intro y hy
          rw [List.mem_singleton.mp hy]; rfl
      obtain ⟨H9, eH9, e9, r9⟩ := eq9
      rw [eH9]
      have b6 : ExB x H (upd H9 x (.ins (He.ga K "Maker") dx fs6)) := (b5.ex e9).set
      have g6 : ExD H8 (upd H9 x (.ins (He.ga K "Maker") dx fs6)) := (Ex.d e9).trans (ExD.ins (e9 _ _ x5))
      have r6' := r9.exD (ExD.ins (gs := fs6) (e9 _ _ x5))
      have x6 : (upd H9 x (.ins (He.ga K "Maker") dx fs6)) x = some (.ins (He.ga K "Maker") dx fs6) := upd_same
      generalize upd H9 x (.ins (He.ga K "Maker") dx fs6) = Ha at b6 g6 r6' x6
      obtain ⟨pa', xs, epa, hla, hda⟩ := list_inv d3
      cases epa
      have exs := dints hda
      subst exs
      refine ⟨_, rfl, x, _, dx, fs6, _, rfl, x6, cM, T.n_Maker_aheads, f6.ah, pa, _, rfl, exD_l (g5.trans g6) hla, fun pr hpr => ⟨pr, rfl, ⟨_, SqL.of upd_same⟩, ?_⟩⟩
      rw [← List.map_reverse]
      have npr : pr ≠ q2 := fun z => by rw [z, r6'.at_] at hpr; cases hpr
      refine for_list (K := K) (a := pr) (xs := (mkF c).ah.reverse.map V.int)
        (fun i σ H1 => ExB x H H1 ∧ H1 x = some (.ins (He.ga K "Maker") dx fs6) ∧ ExD H8 H1 ∧ H1 pr = some (.lst ((mkF c).ah.reverse.map V.int)) ∧ (∃ ys, RowsIn K H1 q2 ys ((highsF ((mkF c).ah.reverse.take i).reverse (mkF c).mids).reverse.map rowH)) ∧ ∃ v6 v8, σ = [some (.ref x), some (.ref p0), some (.int c.i), some (.int c.j), some (.int c.a), some (.int c.b), v6, v7, v8, none])
        ⟨b6.ex (Ex.new hpr), (Ex.new hpr) _ _ x6, g6.trans (Ex.d (Ex.new hpr)), upd_same, ⟨_, r6'.exD (Ex.d (Ex.new hpr))⟩, v6, none, rfl⟩ (fun i σ H1 _ z => SqL.of z.2.2.2.1) ?_ ?_
      · rintro i u σ H1 hu ⟨b, hx', ed, hpr', ⟨ys, r⟩, v6, v8, rfl⟩
        rw [List.getElem?_map] at hu
        cases hg : (mkF c).ah.reverse[i]? with
        | none => rw [hg] at hu; cases hu
        | some bit =>
          rw [hg] at hu
          have eu : V.int bit = u := Option.some.inj hu
          subst eu
          have b01 : bit = 0 ∨ bit = 1 := mok.ah01 bit (List.mem_reverse.mp (List.mem_of_getElem? hg))
          have elen := r.d
          obtain ⟨l0, el⟩ := highsF_ne ((mkF c).ah.reverse.take i).reverse (mkF c).mids
          have rd := r.d
          rw [el, List.map_append] at rd
          obtain ⟨us, v, rfl, du, dv⟩ := dsplit rd
          refine ⟨_, rfl, x, _, dx, fs6, _, rfl, hx', cM, T.n_Maker_highs, f6.highs, _, rfl, q2, _, _, v, rfl, rfl, SqL.of r.at_, atI_last _ _, ?_⟩
          refine ⟨_, rfl, x, _, dx, fs6, _, rfl, hx', cM, T.n_Maker_highs, f6.highs, .inl ⟨rfl, _, SqL.of r.at_⟩, ?_⟩
          refine runL (row_high hx' f6 dv b01) fun p2 ys2 H2 hp2 e2 h2 d2 => ?_
          have nq : p2 ≠ q2 := fun z => by rw [z, r.at_] at hp2; cases hp2
          have dr : Dp K H2 (.ref p2) (rowH (highStep bit (headH (highsF ((mkF c).ah.reverse.take i).reverse (mkF c).mids) (mkF c).mids))) := .lst (SqL.of h2) d2
          have r2 := (r.exD (Ex.d e2)).app dr (fun z => nq (V.ref.inj z)) (flat_rowH _)
          refine ⟨q2, _, _, rfl, rfl, e2 _ _ r.at_, ?_, (b.ex e2).mut hq2H, ?_, (ed.trans (Ex.d e2)).mut hq2, ?_, ⟨us ++ [v] ++ [.ref p2], ?_⟩, some (.int bit), some v, rfl⟩
          · have := dlen elen
            rw [List.length_map, List.length_reverse, highsF_len, List.length_reverse, List.length_take, List.length_reverse] at this
            exact Evl.sz_lt (by omega)
          · have nx : x ≠ q2 := fun z => by rw [← z, x5] at hq2; cases hq2
            rw [upd_ne nx]; exact e2 _ _ hx'
          · rw [upd_ne npr]; exact e2 _ _ hpr'
          · rw [take_snoc hg, List.reverse_append]
            show RowsIn K _ q2 _ ((highStep bit (headH (highsF ((mkF c).ah.reverse.take i).reverse (mkF c).mids) (mkF c).mids) :: highsF ((mkF c).ah.reverse.take i).reverse (mkF c).mids).reverse.map rowH)
            rw [List.reverse_cons, List.map_append]
            exact r2
      · rintro σ H1 ⟨b, hx', ed, hpr', ⟨ys, r⟩, v6, v8, rfl⟩
        rw [List.length_map, List.take_length, List.reverse_reverse] at r
        refine ⟨_, rfl, x, _, dx, fs6, _, rfl, hx', cM, T.n_Maker_highs, f6.highs, q2, ys, rfl, SqL.of r.at_, fun q3 hq3 => ⟨_, rfl, x, _, dx, fs6, rfl, (Ex.new hq3) _ _ hx', cM, T.n_Maker_highs, by omega, ?_⟩⟩
        have f7 := f6.pHighs (.ref q3)
        generalize putF "highs" (V.ref q3) fs6 = fs7 at f7
        have g7 : ExD H1 (upd (upd H1 q3 (.lst ys.reverse)) x (.ins (He.ga K "Maker") dx fs7)) := (Ex.d (Ex.new hq3)).trans (ExD.ins ((Ex.new hq3) _ _ hx'))
        refine k _ ((b.ex (Ex.new hq3)).set) ⟨dx, fs7, .ref pa, .ref pb, .ref q, .ref pm, .ref q3, upd_same, f7, ?_, ?_, ?_, ?_, ?_⟩
        · exact Dp.exD ((g5.trans ed).trans g7) d3
        · exact Dp.exD ((g5.trans ed).trans g7) c3
        · exact Dp.exD (ed.trans g7) lo5
        · exact Dp.exD (ed.trans g7) mi5
        · have z := drev r.d
          rw [← List.map_reverse, List.reverse_reverse] at z
          refine .lst (SqL.of ?_) (DpAll.exD g7 z)
          have n3 : q3 ≠ x := fun z => by rw [z, hx'] at hq3; cases hq3
          rw [upd_ne n3, upd_same]
end Hs

set_option Elab.async false
set_option linter.all false
set_option maxRecDepth 100000
set_option maxHeartbeats 4000000
/-! sorted(rows): tuples of a text, an int and a tuple of ints. -/
namespace Hs
open PySem PySem.Spec PyProof.Rows L2
open Evl (Ex)
def rowE (r : NRow) : PyData := .tuple [.str ⟨r.1.toArray⟩, .int r.2.1, .tuple [.int r.2.2.1, .int r.2.2.2.1, .int r.2.2.2.2]]
def sortR (rs : List NRow) : List NRow := rs.mergeSort (PySem.W.dataLe false rowE)
def rSortD (K : PySem.W.Frag) : List V → Hp → VK → Prop := fun vs H Q => ∃ (v : V) (bs : List NRow), vs = [v] ∧ Dp K H v (.list (bs.map rowE)) ∧ bs.length ≤ 1000 ∧
  ∀ p ys H2, H p = none → Ex H H2 → H2 p = some (.lst ys) → DpAll K H2 ys ((sortR bs).map rowE) → Q (.ref p) H2
theorem each_in {K : PySem.W.Frag} {H : Hp} : ∀ {xs : List V} {us : List Value} {bs : List NRow}, Vals xs us → DpAll K H xs (bs.map rowE) → PySem.W.EachIs (fun v b => ∃ x, RelV x v ∧ Dp K H x (rowE b)) us bs
  | _, _, [], r, d => by
    have d' : DpAll K H _ [] := d
    cases d'
    cases r
    exact .nil
  | _, _, b :: bs, r, d => by
    have d' : DpAll K H _ (rowE b :: bs.map rowE) := d
    cases d' with
    | cons a d2 =>
      cases r with
      | cons p q => exact .cons ⟨_, p, a⟩ (each_in q d2)
theorem each_out {K : PySem.W.Frag} {H : Hp} : ∀ {us : List Value} {bs : List NRow}, PySem.W.EachIs (fun v b => ∃ x, RelV x v ∧ Dp K H x (rowE b)) us bs → ∃ ys, Vals ys us ∧ DpAll K H ys (bs.map rowE)
  | _, _, .nil => ⟨[], .nil, .nil⟩
  | _, _, .cons ⟨x, r, d⟩ t => by
    obtain ⟨ys, h1, h2⟩ := each_out t
    exact ⟨x :: ys, .cons r h1, .cons d h2⟩
theorem cr_sortD {X : Cx} (hu : X.A.units + 64 < cLine) : CallR X (.builtin "sorted") (rSortD X.K) := by
  intro pins s σ H vs us Q I r h
  obtain ⟨v, bs, rfl, hd, hz, q⟩ := h
  cases hd with
  | lst hs hr =>
    obtain ⟨its, rv, hl, _⟩ := I.list hs
    rw [Vals.ref1 r]
    have eo := each_in rv hr
    refine PySem.W.sorted_data (R := fun v b => ∃ x, RelV x v ∧ Dp X.K H x (rowE b)) (enc := rowE) (bs := bs) hl.isList eo ?_ ?_ ?_ ?_ ?_ fun out ho h2 => ?_
    · exact eo.mono fun v b ⟨x, r, d⟩ => Dp.reads I _ _ _ d r
    · exact PySem.W.AllAlike.of fun b b' => by simp [rowE, PySem.W.alike, PySem.W.alikeAll]
    · exact PySem.W.Sortable.tuples fun b => ⟨_, _, rfl⟩
    · rw [sizeLine_eq]; omega
    · intro b _
      have : (rowE b).depth = 2 := by simp [rowE, PyData.depth, PyData.depthAll]
      omega
    · obtain ⟨ys, h3, h4⟩ := each_out h2
      obtain ⟨ep, he'⟩ := PyProof.Rows.sortedAll_at s.heap its out.toArray
      have hlen : ys.length ≤ sizeLine := by
        rw [h3.length, ho, sizeLine_eq]; omega
      have hn : H (s.heap.objs.size + 1) = none := I.hok.fresh (Nat.le_succ _)
      have h3' : Vals ys out.toArray.toList := h3
      exact ⟨.ref _, upd H (s.heap.objs.size + 1) (.lst ys), I.laid (t' := s.toks) (fun _ _ => PyProof.Rows.sortedAll_old) (Nat.le_succ _) ⟨hlen, out, ep, h3', he'⟩, rfl, q _ ys _ hn (Ex.new hn) upd_same (DpAll.ex (Ex.new hn) h4)⟩
end Hs

set_option Elab.async false
set_option linter.all false
set_option maxRecDepth 100000
set_option maxHeartbeats 4000000
/-! shortest.py: nexts, begin, fewest, many. -/
namespace Hs
open PySem PySem.Spec PyProof.Rows L2
open Evl (Ex Ev EvT EvA EvL EvU)
variable {P : Program} {w : World} {K : PySem.W.Frag} {mg : Str → Option Value} {base : Heap}
theorem dix {β : Type} {H : Hp} {bs : List β} {v : V} {i : Int} (enc : β → PyData) (z : β) (h : Dp K H v (.list (bs.map enc))) (h0 : 0 ≤ i) (h1 : i < bs.length) : ∃ p xs u, v = .ref p ∧ SqL K H p xs ∧ atI xs i = some u ∧ Dp K H u (enc (bs.getD i.toNat z)) := by
  obtain ⟨p, xs, rfl, hl, hd⟩ := list_inv h
  have hb : bs[i.toNat]? = some (bs.getD i.toNat z) := by
    rw [List.getD_eq_getElem?_getD, List.getElem?_eq_getElem (by omega)]; rfl
  obtain ⟨u, hu, du⟩ := dat (i := i.toNat) (d := enc (bs.getD i.toNat z)) hd (by rw [List.getElem?_map, hb]; rfl)
  have e := atI_nat hu
  rw [show ((i.toNat : Nat) : Int) = i by omega] at e
  exact ⟨p, xs, u, rfl, hl, e, du⟩
/-! ### begin -/
theorem shaped_ints (l : List Int) : SeqAt.shaped (.list (l.map PyData.int)) = true := by
  obtain ⟨a, b⟩ := laysAll (n := 0) (ds := l.map PyData.int) fun d hd => by
    obtain ⟨x, _, rfl⟩ := List.mem_map.mp hd
    exact ⟨rfl, Nat.le_refl _⟩
  unfold SeqAt.shaped
  rw [Bool.and_eq_true]
  refine ⟨?_, decide_eq_true ?_⟩
  · show PyData.canLayAll0 _ = true
    exact a
  · show PyData.depthAll _ + 1 ≤ 64
    omega
theorem sc_begin : FnScope ["self"] ["self"] (defScope s_Maker_begin) := ⟨rfl, rfl, rfl, by decide +kernel, rfl, by decide +kernel, by decide +kernel⟩
def stD (s : Sta) : PyData := .tuple [.int s.1, .int s.2.1, .int s.2.2]
def sp_begin (K : PySem.W.Frag) : Sp := fun vs H Q _ => ∃ (a : Addr) (m : Mkr), vs = [.ref a] ∧ MakerAt K H a m ∧ ∀ u H2, Ex H H2 → Dp K H2 u (stD (beginF m)) → Q u H2
theorem ok_begin (T : Top K mg) : Okd P w K mg base 1 (He.ma K (He.ga K "Maker") "begin") ["self"] (sp_begin K) := by
  refine okd_of T.fd_Maker_begin sc_begin (fun vs H Q E h => ?_) (fun _ _ _ _ _ _ us hl => match us, hl with | [_], _ => rfl) (fun cdv A outer s H vs Q E hr h => ?_)
  · obtain ⟨_, _, rfl, _⟩ := h; rfl
  · obtain ⟨a, m, rfl, ⟨dx, fs, va, vb, vl, vm, vh, hx, fl, da, db, dl, dm, dh⟩, k⟩ := h
    refine ⟨_, pss_one (ps_ret (pe_ifExp (pt_cmpR (op_neD hr.units) (pe_fld (pv 0) rfl) (pe_lst pa_nil) (nomark _)) (pe_tup (pa_cons pe_int (pa_cons pe_int (pa_cons pe_int pa_nil)))) (pe_tup (pa_cons pe_int (pa_cons pe_int (pa_cons pe_int pa_nil)))))), ?_⟩
    refine ⟨_, rfl, a, _, dx, fs, _, rfl, hx, T.c_Maker, T.n_Maker_aheads, fl.ah, (by show 0 ≤ sizeLine; decide), fun q hq => ?_⟩
    refine ⟨_, .list [], Dp.ex (Ex.new hq) da, .lst (SqL.of upd_same) .nil, shaped_ints _, by decide, _, rfl, ?_⟩
    unfold beginF at k
    by_cases h : m.ah = []
    · rw [if_pos h] at k
      rw [h]
      refine iteF ⟨(by show 3 ≤ sizeLine; decide), fun r hr => k _ _ ((Ex.new hq).trans (Ex.new hr)) ?_⟩
      exact .tup (SqT.of upd_same) (.cons (.int _) (.cons (.int _) (.cons (.int _) .nil)))
    · rw [if_neg h] at k
      have e : (!PyData.eqv (.list (m.ah.map PyData.int)) (.list [])) = true := by
        cases hh : m.ah with
        | nil => exact absurd hh h
        | cons x r => rfl
      rw [e]
      refine iteT ⟨(by show 3 ≤ sizeLine; decide), fun r hr => k _ _ ((Ex.new hq).trans (Ex.new hr)) ?_⟩
      exact .tup (SqT.of upd_same) (.cons (.int _) (.cons (.int _) (.cons (.int _) .nil)))
/-! ### fewest, many -/
theorem sc_mfewest : FnScope ["self"] ["self"] (defScope s_Maker_fewest) := ⟨rfl, rfl, rfl, by decide +kernel, rfl, by decide +kernel, by decide +kernel⟩
theorem highs_len {m : Mkr} (h : MOk m) : m.highs.length = m.ah.length + 1 := by rw [h.highs, highsF_len]
theorem highs_top {m : Mkr} (h : MOk m) (z : FM × FM) : m.highs.getD 0 z = headH m.highs m.mids := by
  have l := highs_len h
  cases e : m.highs with
  | nil => rw [e] at l; simp at l
  | cons a r => rfl
def sp_mfewest (K : PySem.W.Frag) : Sp := fun vs H Q _ => ∃ (a : Addr) (m : Mkr), vs = [.ref a] ∧ MakerAt K H a m ∧ MOk m ∧ Q (.int (fewestF m)) H
theorem ok_mfewest (T : Top K mg) : Okd P w K mg base 1 (He.ma K (He.ga K "Maker") "fewest") ["self"] (sp_mfewest K) := by
  refine okd_of T.fd_Maker_fewest sc_mfewest (fun vs H Q E h => ?_) (fun _ _ _ _ _ _ us hl => match us, hl with | [_], _ => rfl) (fun cdv A outer s H vs Q E hr h => ?_)
  · obtain ⟨_, _, rfl, _⟩ := h; rfl
  · obtain ⟨a, m, rfl, ⟨dx, fs, va, vb, vl, vm, vh, hx, fl, da, db, dl, dm, dh⟩, mo, k⟩ := h
    have cM := T.c_Maker
    refine ⟨_, pss_one (ps_ret (pe_op op_add (pe_op op_add (pe_callB call_len_seq (by rfl) T.f_len PySem.boot_len (pa_cons (pe_fld (pv 0) rfl) pa_nil)) (pe_callB call_len_seq (by rfl) T.f_len PySem.boot_len (pa_cons (pe_fld (pv 0) rfl) pa_nil)))
      (pe_ix ix_tup (pe_ix ix_list (pe_ix ix_list (pe_fld (pv 0) rfl) pe_int (fun _ _ => rfl)) pe_int (fun _ _ => rfl)) pe_int (fun _ _ => rfl)))), ?_⟩
    obtain ⟨pa, xa, rfl, hla, hda⟩ := list_inv da
    obtain ⟨pb, xb, rfl, hlb, hdb⟩ := list_inv db
    have la := dlen hda
    have lb := dlen hdb
    rw [List.length_map] at la lb
    obtain ⟨ph, xh, u, rfl, hlh, hu, du⟩ := dix (i := 0) rowH m.mids dh (by decide) (by rw [highs_len mo]; omega)
    obtain ⟨pr, x, y, rfl, hr2, dx2, dy2⟩ := rowH_inv du
    obtain ⟨pf, rfl, hf⟩ := fm_inv dx2
    refine ⟨_, rfl, a, _, dx, fs, _, rfl, hx, cM, T.n_Maker_aheads, fl.ah, pa, xa, rfl, .inl hla, _, rfl, a, _, dx, fs, _, rfl, hx, cM, T.n_Maker_behinds, fl.bh, pb, xb, rfl, .inl hlb, _, _, rfl, rfl, ?_⟩
    refine ⟨_, rfl, a, _, dx, fs, _, rfl, hx, cM, T.n_Maker_highs, fl.highs, ph, xh, 0, _, rfl, rfl, hlh, hu, pr, _, 0, _, rfl, rfl, hr2, atI_nat (j := 0) rfl, pf, _, 0, _, rfl, rfl, hf, atI_nat (j := 0) rfl, _, _, rfl, rfl, ?_⟩
    unfold fewestF top0 at k
    rw [← highs_top mo m.mids] at k
    rw [la, lb]
    exact k
theorem sc_mmany : FnScope ["self"] ["self"] (defScope s_Maker_many) := ⟨rfl, rfl, rfl, by decide +kernel, rfl, by decide +kernel, by decide +kernel⟩
def sp_mmany (K : PySem.W.Frag) : Sp := fun vs H Q _ => ∃ (a : Addr) (m : Mkr), vs = [.ref a] ∧ MakerAt K H a m ∧ MOk m ∧ Q (.int (howmanyF m)) H
theorem ok_mmany (T : Top K mg) : Okd P w K mg base 1 (He.ma K (He.ga K "Maker") "many") ["self"] (sp_mmany K) := by
  refine okd_of T.fd_Maker_many sc_mmany (fun vs H Q E h => ?_) (fun _ _ _ _ _ _ us hl => match us, hl with | [_], _ => rfl) (fun cdv A outer s H vs Q E hr h => ?_)
  · obtain ⟨_, _, rfl, _⟩ := h; rfl
  · obtain ⟨a, m, rfl, ⟨dx, fs, va, vb, vl, vm, vh, hx, fl, da, db, dl, dm, dh⟩, mo, k⟩ := h
    have cM := T.c_Maker
    refine ⟨_, pss_one (ps_ret (pe_ix ix_tup (pe_ix ix_list (pe_ix ix_list (pe_fld (pv 0) rfl) pe_int (fun _ _ => rfl)) pe_int (fun _ _ => rfl)) pe_int (fun _ _ => rfl))), ?_⟩
    obtain ⟨ph, xh, u, rfl, hlh, hu, du⟩ := dix (i := 0) rowH m.mids dh (by decide) (by rw [highs_len mo]; omega)
    obtain ⟨pr, x, y, rfl, hr2, dx2, dy2⟩ := rowH_inv du
    obtain ⟨pf, rfl, hf⟩ := fm_inv dx2
    refine ⟨_, rfl, a, _, dx, fs, _, rfl, hx, cM, T.n_Maker_highs, fl.highs, ph, xh, 0, _, rfl, rfl, hlh, hu, pr, _, 0, _, rfl, rfl, hr2, atI_nat (j := 0) rfl, pf, _, 1, _, rfl, rfl, hf, atI_nat (j := 1) rfl, ?_⟩
    unfold howmanyF top0 at k
    rw [← highs_top mo m.mids] at k
    exact k
end Hs

set_option Elab.async false
set_option linter.all false
set_option maxRecDepth 100000
set_option maxHeartbeats 4000000
/-! shortest.py: nexts. -/
namespace Hs
open PySem PySem.Spec PyProof.Rows L2
open Evl (Ex Ev EvT EvA EvL EvU)
variable {P : Program} {w : World} {K : PySem.W.Frag} {mg : Str → Option Value} {base : Heap}
theorem seq_by {tu tz : TS} {D : Ends} {σ : L2.St} {H : Hp} (Pm : L2.St → Hp → Prop) (h2 : ∀ σ' H', Pm σ' H' → tz D σ' H') (h1 : (∀ σ' H', Pm σ' H' → ({ D with nx := tz D } : Ends).nx σ' H') → tu { D with nx := tz D } σ H) : tSeq tu tz D σ H := h1 h2
theorem pickH_inv {H : Hp} {x y : V} {r : FM × FM} {z : Int} (hx : Dp K H x (fmD r.1)) (hy : Dp K H y (fmD r.2)) (hz : z = 0 ∨ z = 1) : ∃ p, atI [x, y] z = some (.ref p) ∧ SqT K H p [.int (pickH r z).1, .int (pickH r z).2] := by
  rcases hz with rfl | rfl
  · obtain ⟨p, rfl, h⟩ := fm_inv hx
    exact ⟨p, atI_nat (j := 0) rfl, h⟩
  · obtain ⟨p, rfl, h⟩ := fm_inv hy
    exact ⟨p, atI_nat (j := 1) rfl, h⟩
theorem tx_cat (a b : List Nat) : (⟨a.toArray⟩ : Str) ++ ⟨b.toArray⟩ = ⟨(a ++ b).toArray⟩ := by
  show Str.mk (a.toArray ++ b.toArray) = _
  simp
theorem tx_none : ("" : Str) = ⟨#[]⟩ := by decide +kernel
theorem rows_take {m : Mkr} {s : Sta} : rowsF m s = ((waysF m s).filter fun w => cost w = leastS m s).map (nrow m s) := rfl
theorem noLs_rows : ∀ l : List NRow, noLs (l.map rowE) = true
  | [] => rfl
  | _ :: l => noLs_rows l
abbrev N_nexts : List Str := ["self", "part", "place", "carry", "size", "width", "ways", "behind", "least", "end", "rows", "digit", "later", "more"]
theorem sc_nexts : FnScope N_nexts ["self", "part", "place", "carry"] (defScope s_Maker_nexts) := ⟨rfl, rfl, rfl, by decide +kernel, rfl, by decide +kernel, by decide +kernel⟩
def sp_nexts (K : PySem.W.Frag) : Sp := fun vs H Q _ => ∃ (a : Addr) (m : Mkr) (s : Sta), vs = [.ref a, .int s.1, .int s.2.1, .int s.2.2] ∧ MakerAt K H a m ∧ MOk m ∧ StOk m s ∧ 0 ≤ s.2.1 ∧ leastS m s ≤ 100000 ∧
  ∀ p ys H2, H p = none → Ex H H2 → H2 p = some (.lst ys) → DpAll K H2 ys ((sortR (rowsF m s)).map rowE) → Q (.ref p) H2
theorem ways_len (m : Mkr) (s : Sta) : (waysF m s).length ≤ 1000 := by
  unfold waysF
  split
  · exact high_len _ _ _
  · split
    · exact mid_len _ _ _
    · exact low_len _ _ _
theorem ok_nexts (T : Top K mg) : Okd P w K mg base 2 (He.ma K (He.ga K "Maker") "nexts") ["self", "part", "place", "carry"] (sp_nexts K) := by
  refine okd_of T.fd_Maker_nexts sc_nexts (fun vs H Q E h => ?_) (fun _ _ _ _ _ _ us hl => match us, hl with | [_, _, _, _], _ => rfl) (fun cdv A outer s H vs Q E hr h => ?_)
  · obtain ⟨_, _, _, rfl, _⟩ := h; rfl
  · obtain ⟨a, m, st, rfl, ma, mo, so, p0, le, k⟩ := h
    obtain ⟨part, place, carry⟩ := st
    have ma0 := ma
    obtain ⟨dx, fs, va, vb, vl, vm, vh, hx, fl, da, db, dl, dm, dh⟩ := ma
    have cM := T.c_Maker
    have nd := sc_nexts.nd
    have D3 := ok_digits_text (P := P) (w := w) (base := base) T
    have D4 := ok_low_ways (P := P) (w := w) (base := base) T
    have D5 := ok_middle_ways (P := P) (w := w) (base := base) T
    have D6 := ok_high_ways (P := P) (w := w) (base := base) T
    refine ⟨_, pss_cons (ps_par (i := 4) (j := 5) rfl nd rfl rfl (by decide) rfl rfl (pa_cons (pe_callB call_len_seq (by rfl) T.f_len PySem.boot_len (pa_cons (pe_fld (pv 0) rfl) pa_nil)) (pa_cons (pe_callB call_len_seq (by rfl) T.f_len PySem.boot_len (pa_cons (pe_fld (pv 0) rfl) pa_nil)) pa_nil)) (by rfl))
      (pss_cons (ps_if (pt_cmpR op_eq (pv 1) pe_int (nomark _))
        (pss_cons (ps_set (i := 6) nd rfl (.inl rfl) (pm (pv 0) cM T.m_Maker_high_ways D6 hr (pa_cons (pe_ix ix_list (pe_fld (pv 0) rfl) (pv 2) (fun _ _ => rfl)) (pa_cons (pv 3) (pa_cons (pe_ix ix_list (pe_fld (pv 0) rfl) (pe_op op_add (pv 2) pe_int) (fun _ _ => rfl)) pa_nil)))))
        (pss_cons (ps_set (i := 7) nd rfl (.inl rfl) (pe_ifExp (pt_cmpR op_lt (pe_op op_add (pv 2) pe_int) (pv 4) (nomark _)) (pe_tup (pa_cons pe_int (pa_cons (pe_op op_add (pv 2) pe_int) pa_nil))) (pe_tup (pa_cons pe_int (pa_cons pe_int pa_nil)))))
        (pss_one (ps_par (i := 8) (j := 9) rfl nd rfl rfl (by decide) rfl rfl (pa_cons (pe_ix ix_tup (pe_ix ix_list (pe_ix ix_list (pe_fld (pv 0) rfl) (pv 2) (fun _ _ => rfl)) (pv 3) (fun _ _ => rfl)) pe_int (fun _ _ => rfl)) (pa_cons pe_str pa_nil)) (by rfl)))))
        (pss_one (ps_if (pt_cmpR op_eq (pv 1) pe_int (nomark _))
          (pss_cons (ps_set (i := 6) nd rfl (.inl rfl) (pm (pv 0) cM T.m_Maker_middle_ways D5 hr (pa_cons (pv 3) pa_nil)))
          (pss_cons (ps_set (i := 7) nd rfl (.inl rfl) (pe_tup (pa_cons pe_int (pa_cons (pe_op op_sub (pv 5) pe_int) pa_nil))))
          (pss_one (ps_par (i := 8) (j := 9) rfl nd rfl rfl (by decide) rfl rfl (pa_cons (pe_ix ix_tup (pe_ix ix_list (pe_fld (pv 0) rfl) (pv 3) (fun _ _ => rfl)) pe_int (fun _ _ => rfl)) (pa_cons (pe_ifExp (pt_cmpR op_gt (pv 5) pe_int (nomark _)) pe_str pe_str) pa_nil)) (by rfl)))))
          (pss_cons (ps_set (i := 6) nd rfl (.inl rfl) (pm (pv 0) cM T.m_Maker_low_ways D4 hr (pa_cons (pe_ix ix_list (pe_fld (pv 0) rfl) (pv 2) (fun _ _ => rfl)) (pa_cons (pv 3) (pa_cons (pe_ix ix_list (pe_fld (pv 0) rfl) (pv 2) (fun _ _ => rfl)) pa_nil)))))
          (pss_cons (ps_set (i := 7) nd rfl (.inl rfl) (pe_tup (pa_cons pe_int (pa_cons (pe_op op_sub (pv 2) pe_int) pa_nil))))
          (pss_one (ps_par (i := 8) (j := 9) rfl nd rfl rfl (by decide) rfl rfl (pa_cons (pe_ix ix_tup (pe_ix ix_list (pe_ix ix_list (pe_fld (pv 0) rfl) (pe_op op_add (pv 2) pe_int) (fun _ _ => rfl)) (pv 3) (fun _ _ => rfl)) pe_int (fun _ _ => rfl)) (pa_cons (pe_ifExp (pt_cmpR op_gt (pv 2) pe_int (nomark _)) pe_str pe_str) pa_nil)) (by rfl))))))))
      (pss_cons (ps_set (i := 10) nd rfl (.inl rfl) (pe_lst pa_nil))
      (pss_cons (ps_for PassesOwn.never rfl (pi_list (pv 6)) (pg_tup rfl (pgs_cons (pg_name (i := 11) nd rfl (.inl rfl)) (pgs_cons (pg_name (i := 12) nd rfl (.inl rfl)) (pgs_cons (pg_name (i := 13) nd rfl (.inl rfl)) pgs_nil))))
        (pss_one (ps_if (pt_cmpR op_eq (pe_op op_add (pe_callB call_abs (by rfl) T.f_abs (by decide +kernel) (pa_cons (pv 11) pa_nil)) (pe_ix ix_tup (pv 13) pe_int (fun _ _ => rfl))) (pv 8) (nomark _))
          (pss_one (ps_expr (pe_bm PySem.F.plainAttrs_list PySem.F.slot_list_append PySem.F.type_list_append mt_append (pv 10) (pa_cons (pe_tup (pa_cons (pe_op op_add_str (pc D3 hr T.g_digits_text (pa_cons (pv 11) pa_nil)) (pv 9)) (pa_cons (pe_ix ix_tup (pv 13) pe_int (fun _ _ => rfl)) (pa_cons (pe_op op_catT (pv 7) (pe_tup (pa_cons (pv 12) pa_nil))) pa_nil)))) pa_nil)))) pss_nil)))
      (pss_one (ps_ret (pe_callB (cr_sortD hr.units) (by rfl) T.f_sorted (by decide +kernel) (pa_cons (pv 10) pa_nil))))))), ?_⟩
    obtain ⟨pa, xa, rfl, hla, hda⟩ := list_inv da
    obtain ⟨pb, xb, rfl, hlb, hdb⟩ := list_inv db
    have la := dlen hda
    have lb := dlen hdb
    rw [List.length_map] at la lb
    refine ⟨_, rfl, a, _, dx, fs, _, rfl, hx, cM, T.n_Maker_aheads, fl.ah, pa, xa, rfl, .inl hla, _, rfl, a, _, dx, fs, _, rfl, hx, cM, T.n_Maker_behinds, fl.bh, pb, xb, rfl, .inl hlb, _, _, rfl, ?_⟩
    rw [la, lb]
    refine go_next ?_
    refine seq_by (fun σ1 H1 => Ex H H1 ∧ ∃ uw pk v4 v5, σ1 = [some (.ref a), some (.int part), some (.int place), some (.int carry), v4, v5, some uw, some (.ref pk), some (.int (leastS m (part, place, carry))), some (.str ⟨(endS m (part, place, carry)).toArray⟩), none, none, none, none] ∧
      Dp K H1 uw (.list ((waysF m (part, place, carry)).map wayD)) ∧ SqT K H1 pk [.int (behindS m (part, place, carry)).1, .int (behindS m (part, place, carry)).2]) ?_ ?_
    · rintro σ1 H1 ⟨e1, uw, pk, v4, v5, rfl, dw, hk⟩
      refine ⟨(by show 0 ≤ sizeLine; decide), fun p hp => ?_⟩
      obtain ⟨pw, xw, rfl, hlw, hdw⟩ := list_inv dw
      have lw := dlen hdw
      rw [List.length_map] at lw
      have wl := ways_len m (part, place, carry)
      have step := (state_step mo so p0).2.2
      have e2 : Ex H1 (upd H1 p (.lst [])) := Ex.new hp
      refine ⟨_, rfl, pw, rfl, ⟨_, Evl.ex_l e2 hlw⟩, for_list (K := K) (a := pw) (xs := xw)
        (fun i σ H2 => Ex H1 H2 ∧ (∃ ys, H2 p = some (.lst ys) ∧ DpAll K H2 ys (((((waysF m (part, place, carry)).take i).filter fun w => cost w = leastS m (part, place, carry)).map (nrow m (part, place, carry))).map rowE)) ∧ ∃ v11 v12 v13, σ = [some (.ref a), some (.int part), some (.int place), some (.int carry), v4, v5, some (.ref pw), some (.ref pk), some (.int (leastS m (part, place, carry))), some (.str ⟨(endS m (part, place, carry)).toArray⟩), some (.ref p), v11, v12, v13])
        ⟨e2, ⟨[], upd_same, .nil⟩, none, none, none, rfl⟩ (fun i σ H2 _ z => Evl.ex_l z.1 hlw) ?_ ?_⟩
      · rintro i u σ H2 hu ⟨e3, ⟨ys, h3, d3⟩, v11, v12, v13, rfl⟩
        obtain ⟨d, hd, du⟩ := dat2 hdw hu
        rw [List.getElem?_map] at hd
        cases hg : (waysF m (part, place, carry))[i]? with
        | none => rw [hg] at hd; cases hd
        | some x =>
          rw [hg] at hd
          have ed : wayD x = d := Option.some.inj hd
          subst ed
          obtain ⟨pt, pm, rfl, ht, hm⟩ := way_inv (Dp.ex e3 du)
          obtain ⟨pf, rfl, hf⟩ := fm_inv hm
          have hi := (List.getElem?_eq_some_iff.mp hg).1
          refine ⟨pt, _, rfl, ht, rfl, _, _, rfl, _, _, rfl, _, _, rfl, rfl, ?_⟩
          refine ⟨_, rfl, _, rfl, _, rfl, pf, _, 0, _, rfl, rfl, hf, atI_nat (j := 0) rfl, _, _, rfl, rfl, _, rfl, rfl, _, rfl, ?_⟩
          by_cases hc : cost x = leastS m (part, place, carry)
          · refine itD (congrArg V.int hc) ?_
            have go := step x (List.mem_of_getElem? hg)
            have pos := go.pos.1
            have ab : absI x.1 ≤ 100000 := by unfold cost at hc; omega
            have dlo : -100000 ≤ x.1 ∧ x.1 ≤ 100000 := by unfold absI at ab; split at ab <;> omega
            refine ⟨_, rfl, .inl ⟨rfl, _, SqL.of h3⟩, _, rfl, x.1, rfl, dlo.1, dlo.2, _, rfl, _, _, rfl, rfl, ?_, ?_⟩
            · have l1 : (signsF x.1).length ≤ 100000 := by
                unfold signsF
                split <;> rw [List.length_replicate] <;> omega
              have l2 : (endS m (part, place, carry)).length ≤ 1 := by
                unfold endS
                split
                · simp
                · split <;> split <;> simp
              show (signsF x.1).toArray.size + (endS m (part, place, carry)).toArray.size ≤ sizeLine
              rw [List.size_toArray, List.size_toArray, sizeLine_eq]
              omega
            · rw [tx_cat]
              refine ⟨_, rfl, pf, _, 1, _, rfl, rfl, hf, atI_nat (j := 1) rfl, _, rfl, _, rfl, (by show 1 ≤ sizeLine; decide), fun q hq => ?_⟩
              have e4 : Ex H2 (upd H2 q (.tup [.int x.2.1])) := Ex.new hq
              refine ⟨pk, q, _, _, rfl, rfl, Evl.ex_t (e3.trans e4) hk, SqT.of upd_same, by simp, (by show 3 ≤ sizeLine; decide), fun z => (by cases z), fun _ q2 hq2 => ⟨(by show 3 ≤ sizeLine; decide), fun q3 hq3 => ?_⟩⟩
              have e5 : Ex H2 (upd (upd (upd H2 q (.tup [.int x.2.1])) q2 (.tup ([.int (behindS m (part, place, carry)).1, .int (behindS m (part, place, carry)).2] ++ [.int x.2.1]))) q3 (.tup [.str ⟨(signsF x.1 ++ endS m (part, place, carry)).toArray⟩, .int x.2.2.2, .ref q2])) := e4.trans ((Ex.new hq2).trans (Ex.new hq3))
              have dn : Dp K (upd (upd (upd H2 q (.tup [.int x.2.1])) q2 (.tup ([.int (behindS m (part, place, carry)).1, .int (behindS m (part, place, carry)).2] ++ [.int x.2.1]))) q3 (.tup [.str ⟨(signsF x.1 ++ endS m (part, place, carry)).toArray⟩, .int x.2.2.2, .ref q2])) (.ref q3) (rowE (nrow m (part, place, carry) x)) :=
                .tup (SqT.of upd_same) (.cons (.str _) (.cons (.int _) (.cons (.tup (SqT.of ((Ex.new hq3) _ _ upd_same)) (.cons (.int _) (.cons (.int _) (.cons (.int _) .nil)))) .nil)))
              generalize upd (upd (upd H2 q (.tup [.int x.2.1])) q2 (.tup ([.int (behindS m (part, place, carry)).1, .int (behindS m (part, place, carry)).2] ++ [.int x.2.1]))) q3 (.tup [.str ⟨(signsF x.1 ++ endS m (part, place, carry)).toArray⟩, .int x.2.2.2, .ref q2]) = H3 at e5 dn
              refine ⟨p, ys, _, rfl, rfl, e5 _ _ h3, ?_, ?_⟩
              · have l1 := dlen d3
                rw [List.length_map, List.length_map] at l1
                have l2 := List.length_filter_le (fun w => decide (cost w = leastS m (part, place, carry))) ((waysF m (part, place, carry)).take i)
                rw [List.length_take] at l2
                exact Evl.sz_lt (by omega)
              · have e6 : ExT H3 (upd H3 p (.lst (ys ++ [.ref q3]))) := ExT.mut (fun _ _ h _ => h) (e5 _ _ h3)
                refine ⟨Ex.mut (e3.trans e5) hp, ⟨_, upd_same, ?_⟩, some (.int x.1), some (.int x.2.1), some (.ref pf), rfl⟩
                rw [take_snoc hg, List.filter_append, List.map_append, List.map_append]
                have ef : [x].filter (fun w => decide (cost w = leastS m (part, place, carry))) = [x] := by simp [hc]
                rw [ef]
                exact dsnoc (DpAll.exT (ExT.trans (Ex.t e5) e6) (noLs_rows _) d3) (Dp.exT e6 rfl dn)
          · refine ifD (fun z => hc (V.int.inj z)) ?_
            refine ⟨e3, ⟨ys, h3, ?_⟩, some (.int x.1), some (.int x.2.1), some (.ref pf), rfl⟩
            rw [take_snoc hg, List.filter_append]
            have ef : [x].filter (fun w => decide (cost w = leastS m (part, place, carry))) = [] := by simp [hc]
            rw [ef, List.append_nil]
            exact d3
      · rintro σ H2 ⟨e3, ⟨ys, h3, d3⟩, v11, v12, v13, rfl⟩
        rw [lw, List.take_length] at d3
        refine ⟨_, rfl, _, rowsF m (part, place, carry), rfl, .lst (SqL.of h3) d3, ?_, fun p2 ys2 H4 hp2 e4 h4 d4 => k p2 ys2 H4 (Evl.fresh_back (e1.trans e3) hp2) ((e1.trans e3).trans e4) h4 d4⟩
        have l1 := dlen d3
        unfold rowsF
        rw [List.length_map]
        exact Nat.le_trans (List.length_filter_le _ _) wl
    · intro k2
      rcases so with ⟨e1, q0, q1, hc⟩ | ⟨e1, e2, hc⟩ | ⟨e1, q0, q1, hc, hso⟩ | ⟨e1, e2⟩
      · simp only at e1 q0 q1 hc
        subst e1
        obtain ⟨pa', xa', u, ea, hla', hu, du⟩ := dix (i := place) PyData.int 0 da q0 q1
        cases int_inv du
        obtain ⟨ph, xh, uh, rfl, hlh, huh, duh⟩ := dix (i := place + 1) rowH m.mids dh (by omega) (by rw [highs_len mo]; omega)
        obtain ⟨ph', xh', uh', eh, hlh', huh', duh'⟩ := dix (i := place) rowH m.mids dh (by omega) (by rw [highs_len mo]; omega)
        cases ea
        cases eh
        rw [show (place + 1).toNat = place.toNat + 1 by omega] at duh
        obtain ⟨pr, x, y, rfl, hr2, dx2, dy2⟩ := rowH_inv duh'
        obtain ⟨pf, hpf, hf⟩ := pickH_inv dx2 dy2 hc
        refine ⟨_, rfl, rfl, _, rfl, itD rfl ?_⟩
        refine ⟨_, rfl, a, dx, fs, rfl, hx, fl.high_ways, _, rfl, a, _, dx, fs, _, rfl, hx, cM, T.n_Maker_aheads, fl.ah, _, rfl, pa, _, _, _, rfl, rfl, hla', hu, _, rfl, _, rfl, a, _, dx, fs, _, rfl, hx, cM, T.n_Maker_highs, fl.highs, _, rfl, _, _, rfl, rfl, ph, _, _, _, rfl, rfl, hlh, huh, ?_⟩
        refine ⟨_, uh, _, carry, _, rfl, duh, fun uw H1 e1 dw => ?_⟩
        refine ⟨_, rfl, _, _, rfl, rfl, _, rfl, _, _, rfl, rfl, _, rfl, ?_⟩
        by_cases hlt : place + 1 < m.ah.length
        · refine itD hlt ⟨_, rfl, _, _, rfl, rfl, (by show 2 ≤ sizeLine; decide), fun pk hpk => ?_⟩
          have e2 := e1.trans (Ex.new (o := .tup [.int 0, .int (place + 1)]) hpk)
          have eb : behindS m (0, place, carry) = (0, place + 1) := by unfold behindS; simp [hlt]
          refine ⟨_, rfl, a, _, dx, fs, _, rfl, e2 _ _ hx, cM, T.n_Maker_highs, fl.highs, _, rfl, ph, _, _, _, rfl, rfl, Evl.ex_l e2 hlh', huh', _, rfl, pr, _, _, _, rfl, rfl, Evl.ex_l e2 hr2, hpf, pf, _, 0, _, rfl, rfl, Evl.ex_t e2 hf, atI_nat (j := 0) rfl, _, _, rfl, k2 _ _ ⟨e2, uw, pk, some (.int m.ah.length), some (.int m.bh.length), ?_, Dp.ex (Ex.new hpk) dw, ?_⟩⟩
          · rw [show ("/" : Str) = ⟨#[47]⟩ from tx_half]; rfl
          · rw [eb]; exact SqT.of upd_same
        · refine ifD hlt ⟨(by show 2 ≤ sizeLine; decide), fun pk hpk => ?_⟩
          have e2 := e1.trans (Ex.new (o := .tup [.int 1, .int 0]) hpk)
          have eb : behindS m (0, place, carry) = (1, 0) := by unfold behindS; simp [hlt]
          refine ⟨_, rfl, a, _, dx, fs, _, rfl, e2 _ _ hx, cM, T.n_Maker_highs, fl.highs, _, rfl, ph, _, _, _, rfl, rfl, Evl.ex_l e2 hlh', huh', _, rfl, pr, _, _, _, rfl, rfl, Evl.ex_l e2 hr2, hpf, pf, _, 0, _, rfl, rfl, Evl.ex_t e2 hf, atI_nat (j := 0) rfl, _, _, rfl, k2 _ _ ⟨e2, uw, pk, some (.int m.ah.length), some (.int m.bh.length), ?_, Dp.ex (Ex.new hpk) dw, ?_⟩⟩
          · rw [show ("/" : Str) = ⟨#[47]⟩ from tx_half]; rfl
          · rw [eb]; exact SqT.of upd_same
      · simp only at e1 e2 hc
        subst e1 e2
        have el : m.lows.getD m.bh.length row0 = lastLow m.bh row0 := by rw [mo.lows, lowsF_end]
        have ew : waysF m (1, 0, carry) = midWays m.rest carry (lastLow m.bh row0) := by
          show midWays m.rest carry (m.lows.getD m.bh.length row0) = _
          rw [el]
        obtain ⟨l, xl, rfl, hll, hdl⟩ := list_inv dl
        obtain ⟨l0, ell⟩ := lowsF_last m.bh row0
        rw [mo.lows, ell, List.map_append] at hdl
        obtain ⟨us, v, rfl, du, dv⟩ := dsplit hdl
        obtain ⟨pr, x, y, rfl, hr2, dx2, dy2⟩ := rowH_inv dm
        obtain ⟨pf, hpf, hf⟩ := pickH_inv dx2 dy2 hc
        refine ⟨_, rfl, rfl, _, rfl, ifD (fun z => absurd (V.int.inj z) (by show ¬ (1 : Int) = 0; decide)) ?_⟩
        refine ⟨_, rfl, rfl, _, rfl, itD rfl ?_⟩
        refine ⟨_, rfl, a, dx, fs, rfl, hx, fl.middle_ways, _, rfl, a, carry, m.rest, _, rfl, ⟨dx, fs, l, us, v, hx, fl.rest, fl.lows, hll, dv⟩, fun uw H1 e1 dw => ?_⟩
        rw [← ew] at dw
        refine ⟨_, rfl, _, _, rfl, rfl, (by show 2 ≤ sizeLine; decide), fun pk hpk => ?_⟩
        have e2 := e1.trans (Ex.new (o := .tup [.int 2, .int ((m.bh.length : Int) - 1)]) hpk)
        refine ⟨_, rfl, a, _, dx, fs, _, rfl, e2 _ _ hx, cM, T.n_Maker_middles, fl.mids, _, rfl, pr, _, _, _, rfl, rfl, Evl.ex_l e2 hr2, hpf, pf, _, 0, _, rfl, rfl, Evl.ex_t e2 hf, atI_nat (j := 0) rfl, _, rfl, _, _, rfl, rfl, _, rfl, ?_⟩
        by_cases hb : 0 < m.bh.length
        · refine itD (by omega) ⟨_, _, rfl, k2 _ _ ⟨e2, uw, pk, some (.int m.ah.length), some (.int m.bh.length), ?_, Dp.ex (Ex.new hpk) dw, SqT.of upd_same⟩⟩
          rw [show endS m (1, 0, carry) = [50] by unfold endS; simp [hb], show ("2" : Str) = ⟨#[50]⟩ from tx_two]; rfl
        · refine ifD (by omega) ⟨_, _, rfl, k2 _ _ ⟨e2, uw, pk, some (.int m.ah.length), some (.int m.bh.length), ?_, Dp.ex (Ex.new hpk) dw, SqT.of upd_same⟩⟩
          rw [show endS m (1, 0, carry) = [] by unfold endS; simp [hb], show ("" : Str) = ⟨#[]⟩ from tx_none]; rfl
      · simp only at e1 q0 q1 hc hso
        subst e1
        have ll : m.lows.length = m.bh.length + 1 := by rw [mo.lows, lowsF_len]
        obtain ⟨pb', xb', u, eb, hlb', hu, du⟩ := dix (i := place) PyData.int 0 db q0 q1
        cases int_inv du
        obtain ⟨pl, xl, ul, rfl, hll, hul, dul⟩ := dix (i := place) rowD row0 dl (by omega) (by rw [ll]; omega)
        obtain ⟨pl', xl', ul', el, hll', hul', dul'⟩ := dix (i := place + 1) rowD row0 dl (by omega) (by rw [ll]; omega)
        cases eb
        cases el
        rw [show (place + 1).toNat = place.toNat + 1 by omega] at dul'
        obtain ⟨pr, x, y, rfl, hr2, dx2, dy2⟩ := row_inv dul'
        obtain ⟨uf, hpf, hf⟩ := pick_inv dx2 dy2 hc
        rcases opt_inv hf with ⟨eo, _⟩ | ⟨fm, af, eo, rfl, dfm⟩
        · rw [eo] at hso; cases hso
        obtain ⟨pf, epf, hff⟩ := fm_inv dfm
        cases epf
        have els : leastS m (2, place, carry) = fm.1 := by
          show (getF (pick (m.lows.getD (place.toNat + 1) row0) carry)).1 = _
          rw [eo]; rfl
        refine ⟨_, rfl, rfl, _, rfl, ifD (fun z => absurd (V.int.inj z) (by show ¬ (2 : Int) = 0; decide)) ?_⟩
        refine ⟨_, rfl, rfl, _, rfl, ifD (fun z => absurd (V.int.inj z) (by show ¬ (2 : Int) = 1; decide)) ?_⟩
        refine ⟨_, rfl, a, dx, fs, rfl, hx, fl.low_ways, _, rfl, a, _, dx, fs, _, rfl, hx, cM, T.n_Maker_behinds, fl.bh, _, rfl, pb, _, _, _, rfl, rfl, hlb', hu, _, rfl, _, rfl, a, _, dx, fs, _, rfl, hx, cM, T.n_Maker_lows, fl.lows, _, rfl, pl, _, _, _, rfl, rfl, hll, hul, ?_⟩
        refine ⟨_, ul, _, carry, _, rfl, dul, fun uw H1 e1 dw => ?_⟩
        refine ⟨_, rfl, _, _, rfl, rfl, (by show 2 ≤ sizeLine; decide), fun pk hpk => ?_⟩
        have e2 := e1.trans (Ex.new (o := .tup [.int 2, .int (place - 1)]) hpk)
        refine ⟨_, rfl, a, _, dx, fs, _, rfl, e2 _ _ hx, cM, T.n_Maker_lows, fl.lows, _, rfl, _, _, rfl, rfl, pl, _, _, _, rfl, rfl, Evl.ex_l e2 hll', hul', _, rfl, pr, _, _, _, rfl, rfl, Evl.ex_l e2 hr2, hpf, af, _, 0, _, rfl, rfl, Evl.ex_t e2 hff, atI_nat (j := 0) rfl, _, rfl, _, _, rfl, rfl, _, rfl, ?_⟩
        by_cases hb : 0 < place
        · refine itD hb ⟨_, _, rfl, k2 _ _ ⟨e2, uw, pk, some (.int m.ah.length), some (.int m.bh.length), ?_, Dp.ex (Ex.new hpk) dw, SqT.of upd_same⟩⟩
          rw [els, show endS m (2, place, carry) = [50] by unfold endS; simp [hb], show ("2" : Str) = ⟨#[50]⟩ from tx_two]; rfl
        · refine ifD hb ⟨_, _, rfl, k2 _ _ ⟨e2, uw, pk, some (.int m.ah.length), some (.int m.bh.length), ?_, Dp.ex (Ex.new hpk) dw, SqT.of upd_same⟩⟩
          rw [els, show endS m (2, place, carry) = [] by unfold endS; simp [hb], show ("" : Str) = ⟨#[]⟩ from tx_none]; rfl
      · simp only at e1 e2 p0
        omega
end Hs

set_option Elab.async false
set_option linter.all false
set_option maxRecDepth 100000
set_option maxHeartbeats 4000000
/-! shortest.py: numbered(0). -/
namespace Hs
open PySem PySem.Spec PyProof.Rows L2
open Evl (Ex Ev EvT EvA EvL EvU)
variable {P : Program} {w : World} {K : PySem.W.Frag} {mg : Str → Option Value} {base : Heap}
def numF (m : Mkr) : Nat → Sta → List Nat → List Nat
  | 0, _, found => found
  | n + 1, s, found => if s.2.1 < 0 then found else match sortR (rowsF m s) with
    | [] => found
    | r :: _ => numF m n r.2.2 (found ++ r.1)
theorem numF_end {m : Mkr} {s : Sta} {found : List Nat} (n : Nat) (h : s.2.1 < 0) : numF m n s found = found := by
  cases n with
  | zero => rfl
  | succ n => unfold numF; rw [if_pos h]
theorem numF_step {m : Mkr} {s : Sta} {found : List Nat} {n : Nat} {r : NRow} {rs : List NRow} (h : ¬ s.2.1 < 0) (e : sortR (rowsF m s) = r :: rs) : numF m (n + 1) s found = numF m n r.2.2 (found ++ r.1) := by
  show (if s.2.1 < 0 then found else _) = _
  rw [if_neg h, e]
theorem sortR_in {rs : List NRow} {r : NRow} (h : r ∈ sortR rs) : r ∈ rs := (List.mergeSort_perm rs _).mem_iff.mp h
theorem meas_pos {m : Mkr} {s : Sta} (hs : StOk m s) (h : ¬ s.2.1 < 0) : 1 ≤ meas m s := by
  unfold meas
  split
  · omega
  · split
    · omega
    · omega
theorem st_inv {H : Hp} {u : V} {s : Sta} (h : Dp K H u (stD s)) : ∃ p, u = .ref p ∧ SqT K H p [.int s.1, .int s.2.1, .int s.2.2] := by
  unfold stD at h
  cases h with
  | tup h r =>
    cases r with
    | cons a r =>
      cases r with
      | cons b r =>
        cases r with
        | cons c r =>
          cases r
          cases int_inv a
          cases int_inv b
          cases int_inv c
          exact ⟨_, rfl, h⟩
theorem nrow_inv {H : Hp} {u : V} {r : NRow} (h : Dp K H u (rowE r)) : ∃ p z, u = .ref p ∧ SqT K H p [.str ⟨r.1.toArray⟩, .int r.2.1, z] ∧ Dp K H z (stD r.2.2) := by
  unfold rowE at h
  cases h with
  | tup h r =>
    cases r with
    | cons a r =>
      cases r with
      | cons b r =>
        cases r with
        | cons c r =>
          cases r
          cases a
          cases int_inv b
          exact ⟨_, _, rfl, h, c⟩
structure RowOk (m : Mkr) (s : Sta) (r : NRow) : Prop where
  ok : StOk m r.2.2
  least : 0 ≤ r.2.2.2.1 → leastS m r.2.2 ≤ leastS m s
  less : meas m r.2.2 < meas m s
  many : 1 ≤ r.2.1
  size : leastS m s ≤ 400 → r.1.length ≤ 401
theorem row_ok {m : Mkr} (mo : MOk m) {s : Sta} (hs : StOk m s) (h0 : 0 ≤ s.2.1) {r : NRow} (h : r ∈ sortR (rowsF m s)) : RowOk m s r := by
  obtain ⟨x, hx, hc, rfl⟩ := rows_in (sortR_in h)
  have go := (state_step mo hs h0).2.2 x hx
  have ab := absI_nn x.1
  have p1 := go.pos.1
  have hc' : absI x.1 + x.2.2.1 = leastS m s := hc
  refine ⟨go.ok, fun z => ?_, go.less, go.pos.2, fun z => ?_⟩
  · rw [go.least z]; omega
  · have ab2 : absI x.1 ≤ 400 := by omega
    have dlo : -400 ≤ x.1 ∧ x.1 ≤ 400 := by unfold absI at ab2; split at ab2 <;> omega
    show (signsF x.1 ++ endS m s).length ≤ 401
    rw [List.length_append]
    have l1 : (signsF x.1).length ≤ 400 := by
      unfold signsF
      split <;> rw [List.length_replicate] <;> omega
    have l2 : (endS m s).length ≤ 1 := by
      unfold endS
      split
      · simp
      · split <;> split <;> simp
    omega
theorem begin_meas (m : Mkr) : meas m (beginF m) ≤ m.ah.length + 1 + m.bh.length := by
  unfold beginF meas
  split
  · show 1 + m.bh.length ≤ _; omega
  · show m.ah.length - 0 + 1 + m.bh.length ≤ _; omega
def workF (m : Mkr) : List Nat := numF m 2001 (beginF m) []
abbrev N_numbered : List Str := ["self", "number", "found", "state", "text", "ways", "later"]
theorem sc_numbered : FnScope N_numbered ["self", "number"] (defScope s_Maker_numbered) := ⟨rfl, rfl, rfl, by decide +kernel, rfl, by decide +kernel, by decide +kernel⟩
def sp_numbered (K : PySem.W.Frag) : Sp := fun vs H Q _ => ∃ (a : Addr) (m : Mkr), vs = [.ref a, .int 0] ∧ MakerAt K H a m ∧ MOk m ∧ m.ah.length ≤ 1000 ∧ m.bh.length ≤ 1000 ∧ (top0 m).1 ≤ 400 ∧ ∀ H2, Ex H H2 → Q (.str ⟨(workF m).toArray⟩) H2
theorem ok_numbered (T : Top K mg) : Okd P w K mg base 3 (He.ma K (He.ga K "Maker") "numbered") ["self", "number"] (sp_numbered K) := by
  refine okd_of T.fd_Maker_numbered sc_numbered (fun vs H Q E h => ?_) (fun _ _ _ _ _ _ us hl => match us, hl with | [_, _], _ => rfl) (fun cdv A outer s H vs Q E hr h => ?_)
  · obtain ⟨_, _, rfl, _⟩ := h; rfl
  · obtain ⟨a, m, rfl, ma, mo, la, lb, le, k⟩ := h
    have ma0 := ma
    obtain ⟨dx, fs, va, vb, vl, vm, vh, hx, fl, da, db, dl, dm, dh⟩ := ma
    have cM := T.c_Maker
    have nd := sc_numbered.nd
    have Db := ok_begin (P := P) (w := w) (base := base) T
    have Dn := ok_nexts (P := P) (w := w) (base := base) T
    refine ⟨_, pss_cons (ps_set (i := 2) nd rfl (.inl rfl) pe_str)
      (pss_cons (ps_set (i := 3) nd rfl (.inl rfl) (pm0 (pv 0) cM T.m_Maker_begin Db hr))
      (pss_cons (ps_while PassesOwn.never (pt_cmpR op_ge (pe_ix ix_tup (pv 3) pe_int (fun _ _ => rfl)) pe_int (nomark _))
        (pss_one (ps_for PassesOwn.never rfl (pi_list (pm (pv 0) cM T.m_Maker_nexts Dn hr (pa_cons (pe_ix ix_tup (pv 3) pe_int (fun _ _ => rfl)) (pa_cons (pe_ix ix_tup (pv 3) pe_int (fun _ _ => rfl)) (pa_cons (pe_ix ix_tup (pv 3) pe_int (fun _ _ => rfl)) pa_nil)))))
          (pg_tup rfl (pgs_cons (pg_name (i := 4) nd rfl (.inl rfl)) (pgs_cons (pg_name (i := 5) nd rfl (.inl rfl)) (pgs_cons (pg_name (i := 6) nd rfl (.inl rfl)) pgs_nil))))
          (pss_cons (ps_if (pt_cmpR op_lt (pv 1) (pv 5) (nomark _)) (pss_cons (ps_set (i := 2) nd rfl (.inl rfl) (pe_op op_add_str (pv 2) (pv 4))) (pss_cons (ps_set (i := 3) nd rfl (.inl rfl) (pv 6)) (pss_one ps_break))) pss_nil)
            (pss_one (ps_aug (i := 1) nd rfl (.inl rfl) (pv 5) iop_sub))))))
      (pss_one (ps_ret (pv 2))))), ?_⟩
    refine ⟨_, rfl, a, dx, fs, rfl, hx, fl.begin_, a, m, rfl, ma0, fun u H1 e1 du => ?_⟩
    have bm := begin_meas m
    refine ⟨fun n σ H2 => ∃ st found u v4 v5 v6, σ = [some (.ref a), some (.int 0), some (.str ⟨(found : List Nat).toArray⟩), some u, v4, v5, v6] ∧ Ex H H2 ∧ Dp K H2 u (stD st) ∧ StOk m st ∧ (0 ≤ st.2.1 → leastS m st ≤ 400) ∧ meas m st ≤ n ∧ found.length + 402 * n ≤ 804402 ∧ numF m n st found = workF m,
      ⟨2001, beginF m, [], u, none, none, none, ?_, e1, du, begin_ok mo, fun _ => by rw [begin_least mo]; exact le, by omega, by simp, rfl⟩, ?_⟩
    · show _ = [_, _, some (V.str ⟨#[]⟩), _, _, _, _]
      rw [← tx_none]; rfl
    · rintro n σ H2 ⟨st, found, u, v4, v5, v6, rfl, e2, du, so, hle, hm, hlen, hnum⟩
      obtain ⟨p, rfl, hp⟩ := st_inv du
      refine ⟨_, rfl, p, _, 1, _, rfl, rfl, hp, atI_nat (j := 1) rfl, _, _, rfl, rfl, _, rfl, ?_⟩
      by_cases h0 : st.2.1 ≥ 0
      · have hneg : ¬ st.2.1 < 0 := by omega
        refine itD h0 ?_
        have mp := meas_pos so hneg
        obtain ⟨n', rfl⟩ : ∃ n', n = n' + 1 := ⟨n - 1, by omega⟩
        refine ⟨fun σ' H' => ∃ m', m' < n' + 1 ∧ ∃ st found u v4 v5 v6, σ' = [some (.ref a), some (.int 0), some (.str ⟨(found : List Nat).toArray⟩), some u, v4, v5, v6] ∧ Ex H H' ∧ Dp K H' u (stD st) ∧ StOk m st ∧ (0 ≤ st.2.1 → leastS m st ≤ 400) ∧ meas m st ≤ m' ∧ found.length + 402 * m' ≤ 804402 ∧ numF m m' st found = workF m, fun σ' H' z => z, ?_⟩
        refine ⟨_, rfl, a, dx, fs, rfl, e2 _ _ hx, fl.nexts, _, rfl, p, _, 0, _, rfl, rfl, hp, atI_nat (j := 0) rfl, _, rfl, p, _, 1, _, rfl, rfl, hp, atI_nat (j := 1) rfl, _, rfl, p, _, 2, _, rfl, rfl, hp, atI_nat (j := 2) rfl, ?_⟩
        have hle' := hle h0
        refine ⟨a, m, st, rfl, ma0.exx e2, mo, so, h0, by omega, fun pl ys H3 hpl e3 h3 d3 => ⟨pl, rfl, ⟨_, SqL.of h3⟩, ?_⟩⟩
        have hne : sortR (rowsF m st) ≠ [] := fun z => rows_ne mo so h0 (by
          have := (List.mergeSort_perm (rowsF m st) (PySem.W.dataLe false rowE)).length_eq
          have z' : (rowsF m st).mergeSort (PySem.W.dataLe false rowE) = [] := z
          rw [z'] at this
          exact List.length_eq_zero_iff.mp this.symm)
        have ly := dlen d3
        rw [List.length_map] at ly
        cases es : sortR (rowsF m st) with
        | nil => exact absurd es hne
        | cons r rs =>
          rw [es] at d3 ly
          have ro : RowOk m st r := row_ok mo so h0 (by rw [es]; exact List.mem_cons_self)
          refine for_list (K := K) (a := pl) (xs := ys) (fun i σ H4 => i = 0 ∧ H4 = H3 ∧ σ = [some (.ref a), some (.int 0), some (.str ⟨found.toArray⟩), some (.ref p), v4, v5, v6]) ⟨rfl, rfl, rfl⟩ (fun i σ H4 _ z => by rw [z.2.1]; exact SqL.of h3) ?_ ?_
          · rintro i x σ H4 hx4 ⟨rfl, rfl, rfl⟩
            obtain ⟨d, hd, dx4⟩ := dat2 d3 hx4
            have ed : rowE r = d := Option.some.inj hd
            subst ed
            obtain ⟨pt, z, rfl, ht, dz⟩ := nrow_inv dx4
            have sz := ro.size hle'
            refine ⟨pt, _, rfl, ht, rfl, _, _, rfl, _, _, rfl, _, _, rfl, rfl, ?_⟩
            refine ⟨_, rfl, _, rfl, _, _, rfl, rfl, _, rfl, itD (by have := ro.many; omega) ?_⟩
            refine ⟨_, rfl, _, rfl, _, _, rfl, rfl, ?_, _, rfl, n', Nat.lt_succ_self _, r.2.2, found ++ r.1, z, some (.str ⟨r.1.toArray⟩), some (.int r.2.1), some z, ?_, e2.trans e3, dz, ro.ok, fun z => ?_, ?_, ?_, ?_⟩
            · show found.toArray.size + r.1.toArray.size ≤ sizeLine
              rw [List.size_toArray, List.size_toArray, sizeLine_eq]
              omega
            · rw [← tx_cat]; rfl
            · have := ro.least z; omega
            · have := ro.less; omega
            · rw [List.length_append]; omega
            · rw [← hnum, numF_step hneg es]
          · rintro σ H4 ⟨z, _⟩
            rw [ly] at z
            simp at z
      · refine ifD h0 ⟨_, rfl, ?_⟩
        rw [numF_end n (by omega)] at hnum
        rw [hnum]
        exact k _ e2
end Hs

set_option Elab.async false
set_option linter.all false
set_option maxRecDepth 100000
set_option maxHeartbeats 4000000
/-! The rank of a shortest work ends: words cut short by nine rules that keep the card; the words that no rule cuts, all of them, by running. -/
namespace Hs
open PySem
/-! ### rank, plain -/
/-- does this row's text lie at this place? -/
def fits (x : List Nat) (at_ : Nat) (r : NRow) : Bool := (x.drop at_).take r.1.length == r.1
/-- every state meets one row that fits -/
def okR (m : Mkr) (x : List Nat) : Nat → Sta → Nat → Bool
  | fuel, s, at_ => if s.2.1 < 0 then true else
    match fuel with
    | 0 => false
    | f + 1 => match (rowsF m s).filter (fits x at_) with
      | [r] => okR m x f r.2.2 (at_ + r.1.length)
      | _ => false
def goodW (x : List Nat) : Bool :=
  let m := mkF (cardF x)
  let f := fewestF m
  decide (f < x.length) || (decide (f = x.length) && okR m x (m.ah.length + m.bh.length + 1) (beginF m) 0)
def red1 : List Nat → Option (List Nat)
  | 43 :: 45 :: r => some r
  | 45 :: 43 :: r => some r
  | 50 :: 47 :: r => some r
  | 50 :: 43 :: 47 :: r => some r
  | 50 :: 45 :: 47 :: r => some (45 :: r)
  | 50 :: 43 :: 43 :: r => some (43 :: 50 :: r)
  | 50 :: 45 :: 45 :: r => some (45 :: 50 :: r)
  | 43 :: 43 :: 47 :: r => some (47 :: 43 :: r)
  | 45 :: 45 :: 47 :: r => some (47 :: 45 :: r)
  | _ => none
def tree : Nat → List Nat → Bool
  | 0, x => goodW x
  | n + 1, x => goodW x && ([43, 45, 50, 47].all fun c => (red1 (c :: x)).isSome || tree n (c :: x))
theorem tree_step {n : Nat} {x : List Nat} (h : goodW x = true) (h1 : (red1 (43 :: x)).isSome = true ∨ tree n (43 :: x) = true) (h2 : (red1 (45 :: x)).isSome = true ∨ tree n (45 :: x) = true) (h3 : (red1 (50 :: x)).isSome = true ∨ tree n (50 :: x) = true) (h4 : (red1 (47 :: x)).isSome = true ∨ tree n (47 :: x) = true) : tree (n + 1) x = true := by
  unfold tree
  have f : ∀ c, (red1 (c :: x)).isSome = true ∨ tree n (c :: x) = true → ((red1 (c :: x)).isSome || tree n (c :: x)) = true := fun c h => by
    rcases h with z | z <;> rw [z] <;> simp
  simp [h, f 43 h1, f 45 h2, f 50 h3, f 47 h4]

theorem t_43_43_43 : tree 6 [43, 43, 43] = true := by decide +kernel
theorem t_47_43_43 : tree 6 [47, 43, 43] = true := by decide +kernel
theorem t_43_43 : tree 7 [43, 43] = true := tree_step (by decide +kernel) (.inr t_43_43_43) (.inl rfl) (.inl rfl) (.inr t_47_43_43)
theorem t_43_50_43 : tree 6 [43, 50, 43] = true := by decide +kernel
theorem t_45_50_43 : tree 6 [45, 50, 43] = true := by decide +kernel
theorem t_50_50_43 : tree 6 [50, 50, 43] = true := by decide +kernel
theorem t_47_50_43 : tree 6 [47, 50, 43] = true := by decide +kernel
theorem t_50_43 : tree 7 [50, 43] = true := tree_step (by decide +kernel) (.inr t_43_50_43) (.inr t_45_50_43) (.inr t_50_50_43) (.inr t_47_50_43)
theorem t_43_47_43 : tree 6 [43, 47, 43] = true := by decide +kernel
theorem t_45_47_43 : tree 6 [45, 47, 43] = true := by decide +kernel
theorem t_47_47_43 : tree 6 [47, 47, 43] = true := by decide +kernel
theorem t_47_43 : tree 7 [47, 43] = true := tree_step (by decide +kernel) (.inr t_43_47_43) (.inr t_45_47_43) (.inl rfl) (.inr t_47_47_43)
theorem t_43 : tree 8 [43] = true := tree_step (by decide +kernel) (.inr t_43_43) (.inl rfl) (.inr t_50_43) (.inr t_47_43)
theorem t_45_45_45 : tree 6 [45, 45, 45] = true := by decide +kernel
theorem t_47_45_45 : tree 6 [47, 45, 45] = true := by decide +kernel
theorem t_45_45 : tree 7 [45, 45] = true := tree_step (by decide +kernel) (.inl rfl) (.inr t_45_45_45) (.inl rfl) (.inr t_47_45_45)
theorem t_43_50_45 : tree 6 [43, 50, 45] = true := by decide +kernel
theorem t_45_50_45 : tree 6 [45, 50, 45] = true := by decide +kernel
theorem t_50_50_45 : tree 6 [50, 50, 45] = true := by decide +kernel
theorem t_47_50_45 : tree 6 [47, 50, 45] = true := by decide +kernel
theorem t_50_45 : tree 7 [50, 45] = true := tree_step (by decide +kernel) (.inr t_43_50_45) (.inr t_45_50_45) (.inr t_50_50_45) (.inr t_47_50_45)
theorem t_43_47_45 : tree 6 [43, 47, 45] = true := by decide +kernel
theorem t_45_47_45 : tree 6 [45, 47, 45] = true := by decide +kernel
theorem t_47_47_45 : tree 6 [47, 47, 45] = true := by decide +kernel
theorem t_47_45 : tree 7 [47, 45] = true := tree_step (by decide +kernel) (.inr t_43_47_45) (.inr t_45_47_45) (.inl rfl) (.inr t_47_47_45)
theorem t_45 : tree 8 [45] = true := tree_step (by decide +kernel) (.inl rfl) (.inr t_45_45) (.inr t_50_45) (.inr t_47_45)
theorem t_43_43_50 : tree 6 [43, 43, 50] = true := by decide +kernel
theorem t_50_43_50 : tree 6 [50, 43, 50] = true := by decide +kernel
theorem t_47_43_50 : tree 6 [47, 43, 50] = true := by decide +kernel
theorem t_43_50 : tree 7 [43, 50] = true := tree_step (by decide +kernel) (.inr t_43_43_50) (.inl rfl) (.inr t_50_43_50) (.inr t_47_43_50)
theorem t_45_45_50 : tree 6 [45, 45, 50] = true := by decide +kernel
theorem t_50_45_50 : tree 6 [50, 45, 50] = true := by decide +kernel
theorem t_47_45_50 : tree 6 [47, 45, 50] = true := by decide +kernel
theorem t_45_50 : tree 7 [45, 50] = true := tree_step (by decide +kernel) (.inl rfl) (.inr t_45_45_50) (.inr t_50_45_50) (.inr t_47_45_50)
theorem t_43_50_50 : tree 6 [43, 50, 50] = true := by decide +kernel
theorem t_45_50_50 : tree 6 [45, 50, 50] = true := by decide +kernel
theorem t_50_50_50 : tree 6 [50, 50, 50] = true := by decide +kernel
theorem t_47_50_50 : tree 6 [47, 50, 50] = true := by decide +kernel
theorem t_50_50 : tree 7 [50, 50] = true := tree_step (by decide +kernel) (.inr t_43_50_50) (.inr t_45_50_50) (.inr t_50_50_50) (.inr t_47_50_50)
theorem t_43_47_50 : tree 6 [43, 47, 50] = true := by decide +kernel
theorem t_45_47_50 : tree 6 [45, 47, 50] = true := by decide +kernel
theorem t_47_47_50 : tree 6 [47, 47, 50] = true := by decide +kernel
theorem t_47_50 : tree 7 [47, 50] = true := tree_step (by decide +kernel) (.inr t_43_47_50) (.inr t_45_47_50) (.inl rfl) (.inr t_47_47_50)
theorem t_50 : tree 8 [50] = true := tree_step (by decide +kernel) (.inr t_43_50) (.inr t_45_50) (.inr t_50_50) (.inr t_47_50)
theorem t_47_43_47 : tree 6 [47, 43, 47] = true := by decide +kernel
theorem t_43_47 : tree 7 [43, 47] = true := tree_step (by decide +kernel) (.inl rfl) (.inl rfl) (.inl rfl) (.inr t_47_43_47)
theorem t_47_45_47 : tree 6 [47, 45, 47] = true := by decide +kernel
theorem t_45_47 : tree 7 [45, 47] = true := tree_step (by decide +kernel) (.inl rfl) (.inl rfl) (.inl rfl) (.inr t_47_45_47)
theorem t_43_47_47 : tree 6 [43, 47, 47] = true := by decide +kernel
theorem t_45_47_47 : tree 6 [45, 47, 47] = true := by decide +kernel
theorem t_47_47_47 : tree 6 [47, 47, 47] = true := by decide +kernel
theorem t_47_47 : tree 7 [47, 47] = true := tree_step (by decide +kernel) (.inr t_43_47_47) (.inr t_45_47_47) (.inl rfl) (.inr t_47_47_47)
theorem t_47 : tree 8 [47] = true := tree_step (by decide +kernel) (.inr t_43_47) (.inr t_45_47) (.inl rfl) (.inr t_47_47)
theorem t : tree 9 [] = true := tree_step (by decide +kernel) (.inr t_43) (.inr t_45) (.inr t_50) (.inr t_47)
end Hs

set_option Elab.async false
set_option linter.all false
set_option maxRecDepth 100000
set_option maxHeartbeats 4000000
/-! shortest.py: rank. -/
namespace Hs
open PySem PySem.Spec PyProof.Rows L2
open Evl (Ex Ev EvT EvA EvL EvU)
variable {P : Program} {w : World} {K : PySem.W.Frag} {mg : Str → Option Value} {base : Heap}
def firstFit (x : List Nat) (at_ : Nat) : List NRow → Int → Option (NRow × Int)
  | [], _ => none
  | r :: rs, f => if fits x at_ r = true then some (r, f) else firstFit x at_ rs (f + r.2.1)
def rankF (m : Mkr) (x : List Nat) : Nat → Sta → Nat → Int → Int
  | 0, _, _, found => found
  | n + 1, s, at_, found => if s.2.1 < 0 then found else match firstFit x at_ (sortR (rowsF m s)) found with
    | none => found
    | some (r, f) => rankF m x n r.2.2 (at_ + r.1.length) f
theorem rankF_end {m : Mkr} {x : List Nat} {s : Sta} {at_ : Nat} {found : Int} (n : Nat) (h : s.2.1 < 0) : rankF m x n s at_ found = found := by
  cases n with
  | zero => rfl
  | succ n => unfold rankF; rw [if_pos h]
theorem fit_in {x : List Nat} {at_ : Nat} : ∀ {rs : List NRow} {f f' : Int} {r : NRow}, firstFit x at_ rs f = some (r, f') → r ∈ rs.filter (fits x at_)
  | [], _, _, _, h => by cases h
  | a :: rs, f, f', r, h => by
    unfold firstFit at h
    by_cases c : fits x at_ a = true
    · rw [if_pos c] at h
      have e := Option.some.inj h
      have e1 : a = r := (Prod.mk.inj e).1
      subst e1
      rw [List.filter_cons_of_pos c]
      exact List.mem_cons_self
    · rw [if_neg c] at h
      rw [List.filter_cons_of_neg c]
      exact fit_in h
theorem fit_none {x : List Nat} {at_ : Nat} : ∀ {rs : List NRow} {f : Int}, firstFit x at_ rs f = none → rs.filter (fits x at_) = []
  | [], _, _ => rfl
  | a :: rs, f, h => by
    unfold firstFit at h
    by_cases c : fits x at_ a = true
    · rw [if_pos c] at h; cases h
    · rw [if_neg c] at h
      rw [List.filter_cons_of_neg c]
      exact fit_none h
/-- the one row that fits is the one that is met -/
theorem okR_step {m : Mkr} {x : List Nat} {n : Nat} {s : Sta} {at_ : Nat} {found : Int} (h : okR m x n s at_ = true) (h0 : ¬ s.2.1 < 0) :
    ∃ n' r f, n = n' + 1 ∧ firstFit x at_ (sortR (rowsF m s)) found = some (r, f) ∧ okR m x n' r.2.2 (at_ + r.1.length) = true ∧ rankF m x n s at_ found = rankF m x n' r.2.2 (at_ + r.1.length) f := by
  cases n with
  | zero => unfold okR at h; rw [if_neg h0] at h; cases h
  | succ n' =>
    unfold okR at h
    rw [if_neg h0] at h
    have hp : ((sortR (rowsF m s)).filter (fits x at_)).Perm ((rowsF m s).filter (fits x at_)) := (List.mergeSort_perm (rowsF m s) (PySem.W.dataLe false rowE)).filter _
    cases hf : (rowsF m s).filter (fits x at_) with
    | nil => rw [hf] at h; cases h
    | cons r rs =>
      cases rs with
      | cons r2 rs2 => rw [hf] at h; cases h
      | nil =>
        rw [hf] at h hp
        have es := List.perm_singleton.mp hp
        cases hg : firstFit x at_ (sortR (rowsF m s)) found with
        | none =>
          have := fit_none hg
          rw [es] at this
          cases this
        | some z =>
          obtain ⟨r', f⟩ := z
          have := fit_in hg
          rw [es] at this
          have e := List.mem_singleton.mp this
          subst e
          refine ⟨n', r', f, rfl, rfl, h, ?_⟩
          show (if s.2.1 < 0 then found else _) = _
          rw [if_neg h0, hg]
theorem cut_eq (x : Str) (i l : Nat) : cutS x (some (i : Int)) (some ((i : Int) + (l : Int))) = ⟨((x.cps.toList.drop i).take l).toArray⟩ := by
  have hl : x.length = x.cps.toList.length := by simp [Str.length]
  have e : ((i : Int) + (l : Int)) = ((i + l : Nat) : Int) := by omega
  unfold cutS
  rw [e, HT.sIx_nat, HT.sIx_nat, hl]
  congr 1
  congr 1
  refine List.ext_getElem? fun k => ?_
  rw [List.getElem?_take, List.getElem?_take, List.getElem?_drop, List.getElem?_drop]
  by_cases h1 : i ≤ x.cps.toList.length
  · rw [Nat.min_eq_left h1]
    by_cases h2 : k < l
    · rw [if_pos h2]
      by_cases h3 : i + k < x.cps.toList.length
      · rw [if_pos (by omega)]
      · rw [List.getElem?_eq_none (by omega)]
        split <;> rfl
    · rw [if_neg h2, if_neg (by omega)]
  · rw [List.getElem?_eq_none (l := x.cps.toList) (i := i + k) (by omega)]
    rw [List.getElem?_eq_none (by omega)]
    split <;> split <;> rfl
abbrev N_rank : List Str := ["self", "work", "found", "at", "state", "text", "ways", "later"]
theorem sc_rank : FnScope N_rank ["self", "work"] (defScope s_Maker_rank) := ⟨rfl, rfl, rfl, by decide +kernel, rfl, by decide +kernel, by decide +kernel⟩
def rankM (m : Mkr) (x : List Nat) : Int := rankF m x (m.ah.length + m.bh.length + 1) (beginF m) 0 0
def sp_rank (K : PySem.W.Frag) : Sp := fun vs H Q _ => ∃ (a : Addr) (m : Mkr) (x : Str), vs = [.ref a, .str x] ∧ MakerAt K H a m ∧ MOk m ∧ x.cps.size ≤ 100000 ∧ (top0 m).1 ≤ 400 ∧ okR m x.cps.toList (m.ah.length + m.bh.length + 1) (beginF m) 0 = true ∧ ∀ H2, Ex H H2 → Q (.int (rankM m x.cps.toList)) H2
theorem fit_iff {x : Str} {i : Nat} {r : NRow} : (V.str ⟨((x.cps.toList.drop i).take r.1.length).toArray⟩ = V.str ⟨r.1.toArray⟩) ↔ fits x.cps.toList i r = true := by
  unfold fits
  rw [beq_iff_eq]
  constructor
  · intro h
    have h1 := V.str.inj h
    have h2 := Str.mk.inj h1
    exact (List.toArray_inj h2)
  · intro h; rw [h]
theorem ok_rank (T : Top K mg) : Okd P w K mg base 3 (He.ma K (He.ga K "Maker") "rank") ["self", "work"] (sp_rank K) := by
  refine okd_of T.fd_Maker_rank sc_rank (fun vs H Q E h => ?_) (fun _ _ _ _ _ _ us hl => match us, hl with | [_, _], _ => rfl) (fun cdv A outer s H vs Q E hr h => ?_)
  · obtain ⟨_, _, _, rfl, _⟩ := h; rfl
  · obtain ⟨a, m, x, rfl, ma, mo, hxs, le, okr, k⟩ := h
    have ma0 := ma
    obtain ⟨dx, fs, va, vb, vl, vm, vh, hx, fl, da, db, dl, dm, dh⟩ := ma
    have cM := T.c_Maker
    have nd := sc_rank.nd
    have Db := ok_begin (P := P) (w := w) (base := base) T
    have Dn := ok_nexts (P := P) (w := w) (base := base) T
    refine ⟨_, pss_cons (ps_asg (pe_tup (pa_cons pe_int (pa_cons pe_int pa_nil))) (pg_tup rfl (pgs_cons (pg_name (i := 2) nd rfl (.inl rfl)) (pgs_cons (pg_name (i := 3) nd rfl (.inl rfl)) pgs_nil))))
      (pss_cons (ps_set (i := 4) nd rfl (.inl rfl) (pm0 (pv 0) cM T.m_Maker_begin Db hr))
      (pss_cons (ps_while PassesOwn.never (pt_cmpR op_ge (pe_ix ix_tup (pv 4) pe_int (fun _ _ => rfl)) pe_int (nomark _))
        (pss_one (ps_for PassesOwn.never rfl (pi_list (pm (pv 0) cM T.m_Maker_nexts Dn hr (pa_cons (pe_ix ix_tup (pv 4) pe_int (fun _ _ => rfl)) (pa_cons (pe_ix ix_tup (pv 4) pe_int (fun _ _ => rfl)) (pa_cons (pe_ix ix_tup (pv 4) pe_int (fun _ _ => rfl)) pa_nil)))))
          (pg_tup rfl (pgs_cons (pg_name (i := 5) nd rfl (.inl rfl)) (pgs_cons (pg_name (i := 6) nd rfl (.inl rfl)) (pgs_cons (pg_name (i := 7) nd rfl (.inl rfl)) pgs_nil))))
          (pss_cons (ps_if (pt_cmpR op_eq (pe_slice sl_str (pv 1) (po_some (pv 3)) (po_some (pe_op op_add (pv 3) (pe_callB call_len_str (by rfl) T.f_len PySem.boot_len (pa_cons (pv 5) pa_nil))))) (pv 5) (nomark _))
            (pss_cons (ps_aug (i := 3) nd rfl (.inl rfl) (pe_callB call_len_str (by rfl) T.f_len PySem.boot_len (pa_cons (pv 5) pa_nil)) iop_add) (pss_cons (ps_set (i := 4) nd rfl (.inl rfl) (pv 7)) (pss_one ps_break))) pss_nil)
            (pss_one (ps_aug (i := 2) nd rfl (.inl rfl) (pv 6) iop_add))))))
      (pss_one (ps_ret (pv 2))))), ?_⟩
    refine ⟨(by show 2 ≤ sizeLine; decide), fun t0 ht0 => ⟨t0, _, rfl, SqT.of upd_same, rfl, _, _, rfl, _, _, rfl, rfl, ?_⟩⟩
    have e00 : Ex H (upd H t0 (.tup [.int 0, .int 0])) := Ex.new ht0
    refine ⟨_, rfl, a, dx, fs, rfl, e00 _ _ hx, fl.begin_, a, m, rfl, ma0.exx e00, fun u H1 e1' du => ?_⟩
    have e1 := e00.trans e1'
    refine ⟨fun n σ H2 => ∃ st at_ found u v4 v5 v6, σ = [some (.ref a), some (.str x), some (.int found), some (.int ((at_ : Nat) : Int)), some u, v4, v5, v6] ∧ Ex H H2 ∧ Dp K H2 u (stD st) ∧ StOk m st ∧ (0 ≤ st.2.1 → leastS m st ≤ 400) ∧ okR m x.cps.toList n st at_ = true ∧ rankF m x.cps.toList n st at_ found = rankM m x.cps.toList,
      ⟨m.ah.length + m.bh.length + 1, beginF m, 0, 0, u, none, none, none, rfl, e1, du, begin_ok mo, fun _ => by rw [begin_least mo]; exact le, okr, rfl⟩, ?_⟩
    rintro n σ H2 ⟨st, at_, found, u, v4, v5, v6, rfl, e2, du, so, hle, hok, hnum⟩
    obtain ⟨p, rfl, hp⟩ := st_inv du
    refine ⟨_, rfl, p, _, 1, _, rfl, rfl, hp, atI_nat (j := 1) rfl, _, _, rfl, rfl, _, rfl, ?_⟩
    by_cases h0 : st.2.1 ≥ 0
    · have hneg : ¬ st.2.1 < 0 := by omega
      refine itD h0 ?_
      obtain ⟨n', r, f, rfl, hff, hok', hrk⟩ := okR_step (found := found) hok hneg
      refine ⟨fun σ' H' => ∃ m', m' < n' + 1 ∧ ∃ st at_ found u v4 v5 v6, σ' = [some (.ref a), some (.str x), some (.int found), some (.int ((at_ : Nat) : Int)), some u, v4, v5, v6] ∧ Ex H H' ∧ Dp K H' u (stD st) ∧ StOk m st ∧ (0 ≤ st.2.1 → leastS m st ≤ 400) ∧ okR m x.cps.toList m' st at_ = true ∧ rankF m x.cps.toList m' st at_ found = rankM m x.cps.toList, fun σ' H' z => z, ?_⟩
      refine ⟨_, rfl, a, dx, fs, rfl, e2 _ _ hx, fl.nexts, _, rfl, p, _, 0, _, rfl, rfl, hp, atI_nat (j := 0) rfl, _, rfl, p, _, 1, _, rfl, rfl, hp, atI_nat (j := 1) rfl, _, rfl, p, _, 2, _, rfl, rfl, hp, atI_nat (j := 2) rfl, ?_⟩
      have hle' := hle h0
      refine ⟨a, m, st, rfl, ma0.exx e2, mo, so, h0, by omega, fun pl ys H3 hpl e3 h3 d3 => ⟨pl, rfl, ⟨_, SqL.of h3⟩, ?_⟩⟩
      have ly := dlen d3
      rw [List.length_map] at ly
      have rows : ∀ r ∈ sortR (rowsF m st), RowOk m st r := fun r hr => row_ok mo so h0 hr
      generalize sortR (rowsF m st) = rs at ly d3 hff rows
      refine for_list (K := K) (a := pl) (xs := ys) (fun i σ H4 => H4 = H3 ∧ ∃ fi v5 v6 v7, σ = [some (.ref a), some (.str x), some (.int fi), some (.int (at_ : Int)), some (.ref p), v5, v6, v7] ∧ firstFit x.cps.toList at_ (rs.drop i) fi = some (r, f)) ⟨rfl, found, v4, v5, v6, rfl, hff⟩ (fun i σ H4 _ z => by rw [z.1]; exact SqL.of h3) ?_ ?_
      · rintro i xv σ H4 hx4 ⟨rfl, fi, v5, v6, v7, rfl, hfi⟩
        obtain ⟨d, hd, dx4⟩ := dat2 d3 hx4
        rw [List.getElem?_map] at hd
        cases hg : rs[i]? with
        | none => rw [hg] at hd; cases hd
        | some r2 =>
          rw [hg] at hd
          have ed : rowE r2 = d := Option.some.inj hd
          subst ed
          have hlt := (List.getElem?_eq_some_iff.mp hg).1
          have edrop : rs.drop i = r2 :: rs.drop (i + 1) := by
            rw [List.drop_eq_getElem_cons hlt]
            rw [(List.getElem?_eq_some_iff.mp hg).2]
          rw [edrop] at hfi
          obtain ⟨pt, z, rfl, ht, dz⟩ := nrow_inv dx4
          have ro := rows r2 (List.mem_of_getElem? hg)
          have sz := ro.size hle'
          have lsz : (⟨r2.1.toArray⟩ : Str).length = r2.1.length := by simp [Str.length]
          have lss : (⟨r2.1.toArray⟩ : Str).length ≤ sizeLine := by rw [lsz, sizeLine_eq]; omega
          refine ⟨pt, _, rfl, ht, rfl, _, _, rfl, _, _, rfl, _, _, rfl, rfl, ?_⟩
          refine ⟨_, rfl, _, rfl, (at_ : Int), rfl, _, rfl, _, rfl, _, rfl, lss, _, _, rfl, rfl, (at_ : Int) + (⟨r2.1.toArray⟩ : Str).length, rfl, x, rfl, ?_, _, rfl, rfl, _, rfl, ?_⟩
          · show x.cps.size ≤ sizeLine
            rw [sizeLine_eq]; omega
          · rw [lsz, cut_eq]
            unfold firstFit at hfi
            by_cases c : fits x.cps.toList at_ r2 = true
            · rw [if_pos c] at hfi
              have e := Option.some.inj hfi
              have e1 : r2 = r := (Prod.mk.inj e).1
              have e2' : fi = f := (Prod.mk.inj e).2
              subst e1 e2'
              refine itD (fit_iff.mpr c) ⟨_, rfl, _, rfl, _, rfl, lss, _, _, rfl, rfl, _, rfl, n', Nat.lt_succ_self _, r2.2.2, at_ + r2.1.length, fi, z, some (.str ⟨r2.1.toArray⟩), some (.int r2.2.1), some z, ?_, e2.trans e3, dz, ro.ok, fun z => ?_, hok', ?_⟩
              · rw [lsz]
                have : ((at_ + r2.1.length : Nat) : Int) = (at_ : Int) + (r2.1.length : Int) := by omega
                rw [this]; rfl
              · have := ro.least z; omega
              · rw [← hrk]; exact hnum
            · rw [if_neg c] at hfi
              refine ifD (fun z => c (fit_iff.mp z)) ⟨_, rfl, _, rfl, _, _, rfl, rfl, rfl, fi + r2.2.1, some (.str ⟨r2.1.toArray⟩), some (.int r2.2.1), some z, rfl, hfi⟩
      · rintro σ H4 ⟨_, fi, _, _, _, _, z⟩
        rw [ly, List.drop_length] at z
        cases z
    · refine ifD h0 ⟨_, rfl, ?_⟩
      rw [rankF_end n (by omega)] at hnum
      rw [hnum]
      exact k _ e2
end Hs

set_option Elab.async false
set_option linter.all false
set_option maxRecDepth 100000
set_option maxHeartbeats 4000000
/-! Every word of nine signs or fewer: shorter ones exist, or its rank is found. -/
namespace Hs
open PySem
def Cv (c : Card) : Prop := 0 ≤ c.i ∧ 0 ≤ c.j
theorem cv_step {c : Card} (h : Cv c) (s : Nat) : Cv (steppedF c s) := by
  obtain ⟨h1, h2⟩ := h
  unfold steppedF
  split
  · exact ⟨by show 0 ≤ c.i + 1; omega, h2⟩
  · split
    · split
      · exact ⟨by show 0 ≤ c.i - 1; omega, h2⟩
      · exact ⟨by show (0 : Int) ≤ 0; omega, by show 0 ≤ c.j + 1; omega⟩
    · exact ⟨h1, h2⟩
theorem cv_fold : ∀ (l : List Nat) (c : Card), Cv c → Cv (l.foldl steppedF c)
  | [], _, h => h
  | s :: l, c, h => cv_fold l _ (cv_step h s)
theorem st_plus (c : Card) : steppedF c 43 = ⟨c.i, c.j, c.a, c.b + 1⟩ := rfl
theorem st_minus (c : Card) : steppedF c 45 = ⟨c.i, c.j, c.a, c.b - 1⟩ := rfl
theorem st_two (c : Card) : steppedF c 50 = ⟨c.i + 1, c.j, c.a, 2 * c.b⟩ := rfl
theorem st_half (c : Card) : steppedF c 47 = if 0 < c.i then ⟨c.i - 1, c.j, c.a, c.b / 2⟩ else evenF 0 (c.j + 1) (c.a + c.b * two c.j) 0 := rfl
theorem card_ext {i j a b b' : Int} (h : b = b') : (⟨i, j, a, b⟩ : Card) = ⟨i, j, a, b'⟩ := by rw [h]
theorem half_two {c : Card} (h : Cv c) (b : Int) : steppedF ⟨c.i + 1, c.j, c.a, b⟩ 47 = ⟨c.i, c.j, c.a, b / 2⟩ := by
  rw [st_half]
  have h1 : 0 < c.i + 1 := by have := h.1; omega
  rw [if_pos h1]
  show (⟨c.i + 1 - 1, c.j, c.a, b / 2⟩ : Card) = _
  rw [show c.i + 1 - 1 = c.i by omega]
theorem half_more {c : Card} (h : Cv c) (d : Int) : steppedF ⟨c.i, c.j, c.a, c.b + 2 * d⟩ 47 = ⟨(steppedF c 47).i, (steppedF c 47).j, (steppedF c 47).a, (steppedF c 47).b + d⟩ := by
  rw [st_half, st_half]
  by_cases h1 : 0 < c.i
  · rw [if_pos h1, if_pos (show 0 < (⟨c.i, c.j, c.a, c.b + 2 * d⟩ : Card).i from h1)]
    refine card_ext ?_
    show (c.b + 2 * d) / 2 = c.b / 2 + d
    omega
  · rw [if_neg h1, if_neg (show ¬ 0 < (⟨c.i, c.j, c.a, c.b + 2 * d⟩ : Card).i from h1)]
    have e : two (c.j + 1) = 2 * two c.j := two_succ h.2
    have e2 : c.a + (c.b + 2 * d) * two c.j = c.a + c.b * two c.j + two (c.j + 1) * d := by
      rw [e, Int.add_mul, Int.add_assoc]
      congr 2
      rw [Int.mul_assoc, Int.mul_comm d (two c.j), Int.mul_assoc]
    show (⟨0, c.j + 1, (c.a + (c.b + 2 * d) * two c.j) % two (c.j + 1), 0 + (c.a + (c.b + 2 * d) * two c.j) / two (c.j + 1) * two 0⟩ : Card) = ⟨0, c.j + 1, (c.a + c.b * two c.j) % two (c.j + 1), 0 + (c.a + c.b * two c.j) / two (c.j + 1) * two 0 + d⟩
    rw [e2, Int.add_mul_emod_self_left, Int.add_mul_ediv_left _ _ (Int.ne_of_gt (two_pos _))]
    refine card_ext ?_
    have t0 : two 0 = 1 := rfl
    rw [t0]
    omega
theorem red1_fold {l l' : List Nat} (e : red1 l = some l') {c : Card} (h : Cv c) : l.foldl steppedF c = l'.foldl steppedF c := by
  unfold red1 at e
  split at e <;> first | (cases e; done) | skip
  · rw [← Option.some.inj e, List.foldl_cons, List.foldl_cons, st_plus, st_minus]
    congr 1
    refine card_ext ?_
    show c.b + 1 - 1 = c.b
    omega
  · rw [← Option.some.inj e, List.foldl_cons, List.foldl_cons, st_minus, st_plus]
    congr 1
    refine card_ext ?_
    show c.b - 1 + 1 = c.b
    omega
  · rw [← Option.some.inj e, List.foldl_cons, List.foldl_cons, st_two, half_two h]
    congr 1
    refine card_ext ?_
    omega
  · rw [← Option.some.inj e, List.foldl_cons, List.foldl_cons, List.foldl_cons, st_two, st_plus, half_two h]
    congr 1
    refine card_ext ?_
    show (2 * c.b + 1) / 2 = c.b
    omega
  · rw [← Option.some.inj e, List.foldl_cons, List.foldl_cons, List.foldl_cons, List.foldl_cons, st_two, st_minus, half_two h, st_minus]
    congr 1
    refine card_ext ?_
    show (2 * c.b - 1) / 2 = c.b - 1
    omega
  · rw [← Option.some.inj e, List.foldl_cons, List.foldl_cons, List.foldl_cons, List.foldl_cons, List.foldl_cons, st_two, st_plus, st_plus, st_plus, st_two]
    congr 1
    refine card_ext ?_
    show 2 * c.b + 1 + 1 = 2 * (c.b + 1)
    omega
  · rw [← Option.some.inj e, List.foldl_cons, List.foldl_cons, List.foldl_cons, List.foldl_cons, List.foldl_cons, st_two, st_minus, st_minus, st_minus, st_two]
    congr 1
    refine card_ext ?_
    show 2 * c.b - 1 - 1 = 2 * (c.b - 1)
    omega
  · rw [← Option.some.inj e, List.foldl_cons, List.foldl_cons, List.foldl_cons, List.foldl_cons, List.foldl_cons, st_plus, st_plus, st_plus (steppedF c 47)]
    congr 1
    have z := half_more h 1
    rw [show c.b + 2 * 1 = c.b + 1 + 1 by omega] at z
    exact z
  · rw [← Option.some.inj e, List.foldl_cons, List.foldl_cons, List.foldl_cons, List.foldl_cons, List.foldl_cons, st_minus, st_minus, st_minus (steppedF c 47)]
    congr 1
    have z := half_more h (-1)
    rw [show c.b + 2 * -1 = c.b - 1 - 1 by omega, show (steppedF c 47).b + -1 = (steppedF c 47).b - 1 by omega] at z
    exact z
theorem red1_less {l l' : List Nat} (e : red1 l = some l') : l'.length < l.length ∧ ∀ x ∈ l', x ∈ l ∨ IsSign x := by
  unfold red1 at e
  split at e <;> first | (cases e; done) | skip
  all_goals
    rw [← Option.some.inj e]
    refine ⟨by simp only [List.length_cons]; omega, fun x hx => ?_⟩
    simp only [List.mem_cons] at hx ⊢
    unfold IsSign
    grind
def irr : List Nat → Bool
  | [] => true
  | c :: x => (red1 (c :: x)).isNone && irr x
theorem irr_tail : ∀ (u x : List Nat), irr (u ++ x) = true → irr x = true
  | [], _, h => h
  | a :: u, x, h => irr_tail u x (by
    have h' : ((red1 (a :: (u ++ x))).isNone && irr (u ++ x)) = true := h
    exact (Bool.and_eq_true_iff.mp h').2)
theorem irr_head {c : Nat} {x : List Nat} (h : irr (c :: x) = true) : (red1 (c :: x)).isSome = false := by
  have h' : ((red1 (c :: x)).isNone && irr x) = true := h
  have := (Bool.and_eq_true_iff.mp h').1
  cases e : red1 (c :: x) with
  | none => rfl
  | some z => rw [e] at this; cases this
theorem tree_ok : ∀ (u : List Nat) (n : Nat) (x : List Nat), tree n x = true → u.length ≤ n → (∀ c ∈ u, IsSign c) → irr (u.reverse ++ x) = true → goodW (u.reverse ++ x) = true
  | [], n, x, h, _, _, _ => by
    cases n with
    | zero => exact h
    | succ n =>
      have h' : (goodW x && ([43, 45, 50, 47].all fun c => (red1 (c :: x)).isSome || tree n (c :: x))) = true := h
      exact (Bool.and_eq_true_iff.mp h').1
  | c :: u, 0, x, h, hl, _, _ => by simp at hl
  | c :: u, n + 1, x, h, hl, hs, hi => by
    have h' : (goodW x && ([43, 45, 50, 47].all fun c => (red1 (c :: x)).isSome || tree n (c :: x))) = true := h
    have ha := List.all_eq_true.mp (Bool.and_eq_true_iff.mp h').2 c (by
      rcases hs c List.mem_cons_self with e | e | e | e <;> subst e <;> simp)
    rw [List.reverse_cons, List.append_assoc] at hi ⊢
    have hi' : irr (c :: x) = true := irr_tail u.reverse ([c] ++ x) hi
    rw [irr_head hi', Bool.false_or] at ha
    exact tree_ok u n (c :: x) ha (by simpa using hl) (fun d hd => hs d (List.mem_cons_of_mem _ hd)) hi
theorem good_irr {x : List Nat} (hl : x.length ≤ 9) (hs : ∀ c ∈ x, IsSign c) (hi : irr x = true) : goodW x = true := by
  have z := tree_ok x.reverse 9 [] t (by simpa using hl) (fun c hc => hs c (List.mem_reverse.mp hc)) (by rw [List.reverse_reverse, List.append_nil]; exact hi)
  rw [List.reverse_reverse, List.append_nil] at z
  exact z
/-- a word that a rule cuts: a shorter one with its card -/
theorem cut : ∀ (x : List Nat), irr x = false → (∀ c ∈ x, IsSign c) → ∃ y : List Nat, y.length < x.length ∧ (∀ c ∈ y, IsSign c) ∧ ∀ c, Cv c → x.foldl steppedF c = y.foldl steppedF c
  | [], h, _ => by cases h
  | a :: x, h, hs => by
    cases e : red1 (a :: x) with
    | some y =>
      obtain ⟨h1, h2⟩ := red1_less e
      refine ⟨y, h1, fun c hc => ?_, fun c hc => red1_fold e hc⟩
      rcases h2 c hc with z | z
      · exact hs c z
      · exact z
    | none =>
      have h' : ((red1 (a :: x)).isNone && irr x) = false := h
      rw [e] at h'
      have hx : irr x = false := h'
      obtain ⟨y, h1, h2, h3⟩ := cut x hx fun c hc => hs c (List.mem_cons_of_mem _ hc)
      refine ⟨a :: y, by simpa using h1, fun c hc => ?_, fun c hc => h3 _ (cv_step hc a)⟩
      rcases List.mem_cons.mp hc with z | z
      · rw [z]; exact hs a List.mem_cons_self
      · exact h2 c z
theorem few_good {x : List Nat} (h : goodW x = true) : fewestF (mkF (cardF x)) ≤ x.length := by
  unfold goodW at h
  simp only [Bool.or_eq_true, Bool.and_eq_true, decide_eq_true_eq] at h
  rcases h with h | ⟨h, _⟩ <;> omega
theorem few_le : ∀ (n : Nat) (x : List Nat), x.length ≤ n → x.length ≤ 9 → (∀ c ∈ x, IsSign c) → fewestF (mkF (cardF x)) ≤ x.length
  | 0, x, h, h9, hs => by
    have : x = [] := List.length_eq_zero_iff.mp (by omega)
    subst this
    exact few_good (good_irr (by decide) (fun c hc => by cases hc) rfl)
  | n + 1, x, h, h9, hs => by
    cases hi : irr x with
    | true => exact few_good (good_irr h9 hs hi)
    | false =>
      obtain ⟨y, h1, h2, h3⟩ := cut x hi hs
      have e : cardF x = cardF y := h3 _ ⟨by decide, by decide⟩
      have := few_le n y (by omega) (by omega) h2
      rw [e]
      omega
theorem word_ok {x : List Nat} (h9 : x.length ≤ 9) (hs : ∀ c ∈ x, IsSign c) (hf : ¬ fewestF (mkF (cardF x)) < x.length) :
    fewestF (mkF (cardF x)) = x.length ∧ okR (mkF (cardF x)) x ((mkF (cardF x)).ah.length + (mkF (cardF x)).bh.length + 1) (beginF (mkF (cardF x))) 0 = true := by
  cases hi : irr x with
  | true =>
    have h := good_irr h9 hs hi
    unfold goodW at h
    simp only [Bool.or_eq_true, Bool.and_eq_true, decide_eq_true_eq] at h
    rcases h with h | h
    · exact absurd h hf
    · exact h
  | false =>
    obtain ⟨y, h1, h2, h3⟩ := cut x hi hs
    have e : cardF x = cardF y := h3 _ ⟨by decide, by decide⟩
    have := few_le y.length y (Nat.le_refl _) (by omega) h2
    rw [e] at hf
    omega
end Hs

set_option Elab.async false
set_option linter.all false
set_option maxRecDepth 100000
set_option maxHeartbeats 4000000
/-! shortest.py: fewest, how_many, work_at, number_of. -/
namespace Hs
open PySem PySem.Spec PyProof.Rows L2
open Evl (Ex Ev EvT EvA EvL EvU)
section
variable {P : Program} {w : World} {K : PySem.W.Frag} {mg : Str → Option Value} {base : Heap}
/-- a def that may let an error out -/
structure Okx (P : Program) (w : World) (K : PySem.W.Frag) (mg : Str → Option Value) (base : Heap) (k : Nat) (f : Addr) (ps : List Str) (sp : Sp) : Prop where
  ex : ∃ fd, FnOk P w K mg base (CX P w) k f fd ps sp ∧ L2.Binds K fd ps []
  kp : PySem.W.keepIn K (.ref f) = true
theorem okx_of {x qual : Str} {params : Arguments} {body : List Stmt} {scope : Scope} {f : Addr} {N ps : List Str} {k : Nat} {sp : Sp} (F : ∃ fd, FunD K x qual params body scope [] [] f fd) (S : FnScope N ps scope) (len : ∀ vs H Q E, sp vs H Q E → vs.length = ps.length)
    (hb : ∀ (kV doc pm : Value) (an : Option Addr) (cdv ct : Value) (us : List Value), us.length = ps.length → bindArgs (PySem.W.fnOf x qual params body scope .none kV doc pm an cdv ct) ⟨us, []⟩ = pure (ps.zip us))
    (hbody : ∀ (cdv : Value) (A : Around) (outer : List Env) (s : Shared) (H : Hp) (vs : List V) (Q : VK) (E : XK), Room k (A.deeper (envOfC qual scope s.heap.objs.size f cdv)) → sp vs H Q E →
      ∃ t, PSs (cxOf (CX P w) P w K mg base N qual scope f cdv A outer s H E) body t ∧ t { nx := fun _ H' => Q .non H', rt := Q } (start N vs) H) : Okx P w K mg base (k + 1) f ps sp := by
  obtain ⟨fd, D⟩ := F
  exact ⟨⟨fd, D.ok S len hbody, D.bindsN hb⟩, D.kp⟩
end
def tMk (C : Addr) (sp : Sp) (t : TA) : TE := fun σ H Q => t σ H fun vs H1 => ∀ x dx, H1 x = none → H1 dx = none → dx ≠ x → sp (.ref x :: vs) (upd (upd H1 dx (.own x)) x (.ins C dx [])) (fun v H2 => v = .non ∧ Q (.ref x) H2) E0
/-- C(e, ..) -/
theorem pmk {X : Cx} {k j : Nat} {f C : Addr} {ps : List Str} {sp : Sp} {x : Str} {p pos : Pos} {e : Expr} {es : List Expr} {t : TA} (M : Mk X.K C f) (D : Okd X.prog X.w X.K X.mg X.base k f ps sp) (hr : Room j X.A) (hm : X.mg x = some (.ref C)) (ha : PA X (e :: es) t) (hk : k + 1 ≤ j := by decide) (hg : Gl X x := by rfl)
    (hdb : (x == ("__debug__" : Str)) = false := by decide) (he : starEach (e :: es) X.env = (false, eval e X.env) :: starEach es X.env := by rfl) (hpl : (backTo pos (starEach es X.env)).any (·.1) = false := by rfl) : PE X (.Call (.Name x p) (e :: es) [] pos) (tMk C sp t) := by
  obtain ⟨fd, F, b⟩ := D.ex
  have z := pe_make (x := x) (p := p) (pos := pos) (E := E0) M F (hr.mono hk) hg hm b .nil pass0 ha hdb he hpl
  refine ⟨fun pins s σ H Q I h => z.run pins s σ H Q I ?_⟩
  show t σ H fun vs H1 => ∀ x dx, H1 x = none → H1 dx = none → dx ≠ x → sp (.ref x :: (vs ++ [])) (upd (upd H1 dx (.own x)) x (.ins C dx [])) (fun v H2 => v = .non ∧ Q (.ref x) H2) E0
  simp only [List.append_nil]
  exact h
theorem mk_ex {H1 H2 : Hp} {x dx : Addr} {o o' : HO} (hx : H1 x = none) (hd : H1 dx = none) (b : ExB x (upd (upd H1 dx o) x o') H2) : Ex H1 H2 := fun a u h => by
  have n1 : a ≠ x := fun z => by rw [z, hx] at h; cases h
  have n2 : a ≠ dx := fun z => by rw [z, hd] at h; cases h
  exact b a u n1 (by rw [upd_ne n1, upd_ne n2]; exact h)
theorem mk_cd {K : PySem.W.Frag} {H1 : Hp} {x dx : Addr} {o o' : HO} {v : V} {c : Card} (hx : H1 x = none) (hd : H1 dx = none) (n : dx ≠ x) (cd : Cd K H1 v c) : Cd K (upd (upd H1 dx o) x o') v c := by
  have n' : (upd H1 dx o) x = none := by rw [upd_ne (Ne.symm n)]; exact hx
  exact cd.ex ((Ex.new hd).trans (Ex.new n'))
section
variable {P : Program} {w : World} {K : PySem.W.Frag} {mg : Str → Option Value} {base : Heap}
theorem mk_lens {m n : Nat} {c : Card} (ck : Ck m n c) : (mkF c).ah.length ≤ m ∧ (mkF c).bh.length ≤ m := by
  have i0 := ck.i0; have i1 := ck.i1; have j0 := ck.j0; have j1 := ck.j1
  refine ⟨?_, ?_⟩
  · show (bitsF c.a c.j.toNat).length ≤ m
    rw [bitsF_len]; omega
  · show (bitsF (c.b % two c.i) c.i.toNat).length ≤ m
    rw [bitsF_len]; omega
/-! ### fewest, how_many -/
theorem sc_fewest : FnScope ["one"] ["one"] (defScope s_fewest) := ⟨rfl, rfl, rfl, by decide +kernel, rfl, by decide +kernel, by decide +kernel⟩
theorem sc_how_many : FnScope ["one"] ["one"] (defScope s_how_many) := ⟨rfl, rfl, rfl, by decide +kernel, rfl, by decide +kernel, by decide +kernel⟩
def sp_fewest (K : PySem.W.Frag) (f : Card → Int) : Sp := fun vs H Q _ => ∃ (v : V) (c : Card), vs = [v] ∧ Cd K H v c ∧ Good c ∧ ∀ H2, Ex H H2 → Q (.int (f c)) H2
theorem ok_fewest (T : Top K mg) : Okd P w K mg base 4 (He.ga K "fewest") ["one"] (sp_fewest K fun c => fewestF (mkF c)) := by
  refine okd_of T.fd_fewest sc_fewest (fun vs H Q E h => ?_) (fun _ _ _ _ _ _ us hl => match us, hl with | [_], _ => rfl) (fun cdv A outer s H vs Q E hr h => ?_)
  · obtain ⟨_, _, rfl, _⟩ := h; rfl
  · obtain ⟨v, c, rfl, cd, g, k⟩ := h
    have D1 := ok_need_card (P := P) (w := w) (base := base) T
    have D2 := ok_init (P := P) (w := w) (base := base) T
    have D3 := ok_mfewest (P := P) (w := w) (base := base) T
    refine ⟨_, pss_cons (ps_expr (pc D1 hr T.g_need_card (pa_cons (pv 0) pa_nil))) (pss_one (ps_ret (pm0 (pmk T.mk_Maker D2 hr T.g_Maker (pa_cons (pv 0) pa_nil)) T.c_Maker T.m_Maker_fewest D3 hr))), ?_⟩
    refine ⟨_, rfl, v, c, rfl, cd, g, _, rfl, fun x dx hx hd n => ?_⟩
    refine ⟨x, dx, v, c, rfl, upd_same, mk_cd hx hd n cd, g.ck.mono (by omega) (by omega), fun H2 b ma => ⟨rfl, ?_⟩⟩
    have ma0 := ma
    obtain ⟨dx2, fs, va, vb, vl, vm, vh, h1, fl, _⟩ := ma
    exact ⟨x, dx2, fs, rfl, h1, fl.fewest, x, mkF c, rfl, ma0, mkF_ok c, k H2 (mk_ex hx hd b)⟩
theorem ok_how_many (T : Top K mg) : Okd P w K mg base 4 (He.ga K "how_many") ["one"] (sp_fewest K fun c => howmanyF (mkF c)) := by
  refine okd_of T.fd_how_many sc_how_many (fun vs H Q E h => ?_) (fun _ _ _ _ _ _ us hl => match us, hl with | [_], _ => rfl) (fun cdv A outer s H vs Q E hr h => ?_)
  · obtain ⟨_, _, rfl, _⟩ := h; rfl
  · obtain ⟨v, c, rfl, cd, g, k⟩ := h
    have D1 := ok_need_card (P := P) (w := w) (base := base) T
    have D2 := ok_init (P := P) (w := w) (base := base) T
    have D3 := ok_mmany (P := P) (w := w) (base := base) T
    refine ⟨_, pss_cons (ps_expr (pc D1 hr T.g_need_card (pa_cons (pv 0) pa_nil))) (pss_one (ps_ret (pm0 (pmk T.mk_Maker D2 hr T.g_Maker (pa_cons (pv 0) pa_nil)) T.c_Maker T.m_Maker_many D3 hr))), ?_⟩
    refine ⟨_, rfl, v, c, rfl, cd, g, _, rfl, fun x dx hx hd n => ?_⟩
    refine ⟨x, dx, v, c, rfl, upd_same, mk_cd hx hd n cd, g.ck.mono (by omega) (by omega), fun H2 b ma => ⟨rfl, ?_⟩⟩
    have ma0 := ma
    obtain ⟨dx2, fs, va, vb, vl, vm, vh, h1, fl, _⟩ := ma
    exact ⟨x, dx2, fs, rfl, h1, fl.many, x, mkF c, rfl, ma0, mkF_ok c, k H2 (mk_ex hx hd b)⟩
/-! ### work_at(one, 0) -/
theorem sc_work_at : FnScope ["one", "number", "maker"] ["one", "number"] (defScope s_work_at) := ⟨rfl, rfl, rfl, by decide +kernel, rfl, by decide +kernel, by decide +kernel⟩
def sp_work_at (K : PySem.W.Frag) : Sp := fun vs H Q E => ∃ (v : V) (c : Card), vs = [v, .int 0] ∧ Cd K H v c ∧ Good c ∧ ∀ H2, Ex H H2 → (400 < fewestF (mkF c) → E (.ref (He.ga K "TooMany")) none H2) ∧ (¬ 400 < fewestF (mkF c) → Q (.str ⟨(workF (mkF c)).toArray⟩) H2)
theorem ok_work_at (T : Top K mg) : Okx P w K mg base 4 (He.ga K "work_at") ["one", "number"] (sp_work_at K) := by
  refine okx_of T.fd_work_at sc_work_at (fun vs H Q E h => ?_) (fun _ _ _ _ _ _ us hl => match us, hl with | [_, _], _ => rfl) (fun cdv A outer s H vs Q E hr h => ?_)
  · obtain ⟨_, _, rfl, _⟩ := h; rfl
  · obtain ⟨v, c, rfl, cd, g, k⟩ := h
    obtain ⟨tS, gS⟩ := T.i_MOST_SIGNS
    obtain ⟨xT, kT, bT, tT⟩ := T.e_TooMany
    have nd := sc_work_at.nd
    have D1 := ok_need_card (P := P) (w := w) (base := base) T
    have D2 := ok_init (P := P) (w := w) (base := base) T
    have D3 := ok_mfewest (P := P) (w := w) (base := base) T
    have D4 := ok_mmany (P := P) (w := w) (base := base) T
    have D5 := ok_numbered (P := P) (w := w) (base := base) T
    refine ⟨_, pss_cons (ps_expr (pc D1 hr T.g_need_card (pa_cons (pv 0) pa_nil))) (pss_cons (ps_set (i := 2) nd rfl (.inl rfl) (pmk T.mk_Maker D2 hr T.g_Maker (pa_cons (pv 0) pa_nil)))
      (pss_cons (ps_if (pt_not (pt_chain op_le op_lt pe_int (pv 1) (pm0 (pv 2) T.c_Maker T.m_Maker_many D4 hr))) pss_never pss_nil)
      (pss_cons (ps_if (pt_cmpR op_gt (pm0 (pv 2) T.c_Maker T.m_Maker_fewest D3 hr) (pgi gS) (nomark _)) (pss_one (ps_raise rfl (takes_of rfl rfl rfl rfl) (pmk_own PySem.F.excBase_ValueError xT T.g_TooMany kT (raises_own bT tT) rfl))) pss_nil)
      (pss_one (ps_ret (pm (pv 2) T.c_Maker T.m_Maker_numbered D5 hr (pa_cons (pv 1) pa_nil))))))), ?_⟩
    refine ⟨_, rfl, v, c, rfl, cd, g, _, rfl, fun x dx hx hd n => ?_⟩
    refine ⟨x, dx, v, c, rfl, upd_same, mk_cd hx hd n cd, g.ck.mono (by omega) (by omega), fun H2 b ma => ⟨rfl, ?_⟩⟩
    have ma0 := ma
    obtain ⟨dx2, fs, va, vb, vl, vm, vh, h1, fl, _⟩ := ma
    have mo := mkF_ok c
    have e2 := mk_ex hx hd b
    obtain ⟨k1, k2⟩ := k H2 e2
    have pos := top0_pos mo
    have hmany : 0 < howmanyF (mkF c) := by have := pos.2; unfold howmanyF; omega
    obtain ⟨la, lb⟩ := mk_lens g.ck
    refine ⟨_, rfl, _, _, rfl, rfl, _, rfl, itD (Int.le_refl 0) ⟨_, rfl, x, dx2, fs, rfl, h1, fl.many, x, mkF c, rfl, ma0, mo, _, _, rfl, rfl, _, rfl, ?_⟩⟩
    rw [decide_eq_true hmany]
    refine iteF ?_
    refine ⟨_, rfl, x, dx2, fs, rfl, h1, fl.fewest, x, mkF c, rfl, ma0, mo, _, _, rfl, rfl, _, rfl, ?_⟩
    by_cases hf : 400 < fewestF (mkF c)
    · exact itD hf (k1 hf)
    · refine ifD hf ⟨_, rfl, x, dx2, fs, rfl, h1, fl.numbered, _, rfl, x, mkF c, rfl, ma0, mo, la, lb, ?_, fun H3 e3 => ?_⟩
      · unfold fewestF at hf
        omega
      · exact (k H3 (e2.trans e3)).2 hf
/-! ### number_of -/
theorem sc_number_of : FnScope ["work", "maker"] ["work"] (defScope s_number_of) := ⟨rfl, rfl, rfl, by decide +kernel, rfl, by decide +kernel, by decide +kernel⟩
def sp_number_of (K : PySem.W.Frag) : Sp := fun vs H Q E => ∃ (x : Str), vs = [.str x] ∧ Wk x ∧ x.cps.size ≤ 9 ∧ ∀ H2, Ex H H2 → (fewestF (mkF (cardF x.cps.toList)) < x.cps.toList.length → E (.ref (He.ga K "Longer")) none H2) ∧
  (¬ fewestF (mkF (cardF x.cps.toList)) < x.cps.toList.length → Q (.int (rankM (mkF (cardF x.cps.toList)) x.cps.toList)) H2)
theorem ok_number_of (T : Top K mg) : Okx P w K mg base 5 (He.ga K "number_of") ["work"] (sp_number_of K) := by
  refine okx_of T.fd_number_of sc_number_of (fun vs H Q E h => ?_) (fun _ _ _ _ _ _ us hl => match us, hl with | [_], _ => rfl) (fun cdv A outer s H vs Q E hr h => ?_)
  · obtain ⟨_, rfl, _⟩ := h; rfl
  · obtain ⟨x, rfl, wk, h9, k⟩ := h
    obtain ⟨xT, kT, bT, tT⟩ := T.e_Longer
    have nd := sc_number_of.nd
    have D0 := ok_need_work (P := P) (w := w) (base := base) T
    have D1 := ok_card_of (P := P) (w := w) (base := base) T
    have D2 := ok_init (P := P) (w := w) (base := base) T
    have D3 := ok_mfewest (P := P) (w := w) (base := base) T
    have D5 := ok_rank (P := P) (w := w) (base := base) T
    refine ⟨_, pss_cons (ps_expr (pc D0 hr T.g_need_work (pa_cons (pv 0) pa_nil))) (pss_cons (ps_set (i := 1) nd rfl (.inl rfl) (pmk T.mk_Maker D2 hr T.g_Maker (pa_cons (pc D1 hr T.g_card_of (pa_cons (pv 0) pa_nil)) pa_nil)))
      (pss_cons (ps_if (pt_cmpR op_lt (pm0 (pv 1) T.c_Maker T.m_Maker_fewest D3 hr) (pe_callB call_len_str (by rfl) T.f_len PySem.boot_len (pa_cons (pv 0) pa_nil)) (nomark _)) (pss_one (ps_raise rfl (takes_of rfl rfl rfl rfl) (pmk_own PySem.F.excBase_ValueError xT T.g_Longer kT (raises_own bT tT) rfl))) pss_nil)
      (pss_one (ps_ret (pm (pv 1) T.c_Maker T.m_Maker_rank D5 hr (pa_cons (pv 0) pa_nil)))))), ?_⟩
    have lx : x.cps.toList.length = x.cps.size := by simp
    have lx2 : (x.length : Int) = x.cps.toList.length := by rw [lx]; rfl
    have ck : Ck 1000 5000 (cardF x.cps.toList) := (cardF_le (by rw [lx]; omega)).mono (by omega) (by omega)
    refine ⟨_, rfl, x, rfl, wk, fun Ha ea => ⟨_, rfl, x, rfl, wk, fun v H1 e1 cd x0 dx hx hd n => ?_⟩⟩
    refine ⟨x0, dx, v, _, rfl, upd_same, mk_cd hx hd n cd, ck, fun H2 b ma => ⟨rfl, ?_⟩⟩
    have ma0 := ma
    obtain ⟨dx2, fs, va, vb, vl, vm, vh, h1, fl, _⟩ := ma
    have mo := mkF_ok (cardF x.cps.toList)
    have e2 := ea.trans (e1.trans (mk_ex hx hd b))
    have pos := top0_pos mo
    refine ⟨_, rfl, x0, dx2, fs, rfl, h1, fl.fewest, x0, _, rfl, ma0, mo, _, rfl, x, rfl, ?_, _, _, rfl, rfl, _, rfl, ?_⟩
    · show x.cps.size ≤ sizeLine
      rw [sizeLine_eq]; omega
    rw [lx2]
    by_cases hf : fewestF (mkF (cardF x.cps.toList)) < x.cps.toList.length
    · exact itD hf ((k H2 e2).1 hf)
    · obtain ⟨w1, w2⟩ := word_ok (by omega) wk.all hf
      refine ifD hf ⟨_, rfl, x0, dx2, fs, rfl, h1, fl.rank, _, rfl, x0, _, x, rfl, ma0, mo, by omega, ?_, w2, fun H3 e3 => ?_⟩
      · unfold fewestF at w1
        omega
      · exact (k H3 (e2.trans e3)).2 hf
end
end Hs

set_option Elab.async false
set_option linter.all false
set_option maxRecDepth 100000
set_option maxHeartbeats 4000000
/-! Lambdas with defaults and captured names: made, known, called when their maker has gone. -/
namespace Hs
open PySem PySem.Spec PyProof.Rows L2
open Evl (Ex)
open LamX (CodeO Tabs TabS TabB ExtN)
/-! ### what is known of a lambda, of a cell -/
structure LF where
  qual : Str
  params : Arguments
  body : Expr
  scope : Scope
  cl : List (Str × Addr)
  dv : Value
  c : Addr
abbrev LF.fd (F : LF) (doc pm ctv : Value) : FuncData := PySem.W.kdv_fn "<lambda>" F.qual F.params (.expr F.body) F.scope F.cl F.dv doc pm (.ref F.c) ctv
def LamO (f : Addr) (F : LF) : HO := .ext fun hp => ∃ (od : Option Addr) (sl : Array (Option Value)) (doc pm ctv : Value), hp.get? f = some (⟨.type "function", od, .func (F.fd doc pm ctv), sl⟩ : Obj)
def CellO (c : Addr) (v : V) : HO := .ext fun hp => ∃ u, RelV v u ∧ hp.IsCell c (some u)
/-! ### hidden for a while -/
def hide (cs : List Addr) (H : Hp) : Hp := fun a => if a ∈ cs then none else H a
def back (cs : List Addr) (H H' : Hp) : Hp := fun a => if a ∈ cs then H a else H' a
theorem hide_in {cs : List Addr} {H : Hp} {a : Addr} (h : a ∈ cs) : hide cs H a = none := by unfold hide; rw [if_pos h]
theorem hide_out {cs : List Addr} {H : Hp} {a : Addr} (h : a ∉ cs) : hide cs H a = H a := by unfold hide; rw [if_neg h]
theorem back_in {cs : List Addr} {H H' : Hp} {a : Addr} (h : a ∈ cs) : back cs H H' a = H a := by unfold back; rw [if_pos h]
theorem back_out {cs : List Addr} {H H' : Hp} {a : Addr} (h : a ∉ cs) : back cs H H' a = H' a := by unfold back; rw [if_neg h]
/-- the hidden ones are cells -/
def Cells (cs : List Addr) (H : Hp) : Prop := ∀ c ∈ cs, ∃ v, H c = some (CellO c v)
section
variable {P : Program} {w : World} {K : PySem.W.Frag} {mg : Str → Option Value} {base : Heap} {cs : List Addr} {H H' : Hp} {hp hp' : Heap}
theorem cells_out {o : HO} (hc : Cells cs H) {a : Addr} (h : H a = some o) (n : ∀ φ, o ≠ .ext φ) : a ∉ cs := fun z => by
  obtain ⟨v, e⟩ := hc a z
  rw [h] at e
  exact n _ (Option.some.inj e)
theorem hok_hide (hc : Cells cs H) (hok : HOk P w H hp) : HOk P w (hide cs H) hp := fun a o e => by
  by_cases z : a ∈ cs
  · rw [hide_in z] at e; cases e
  · rw [hide_out z] at e
    refine (hok a o e).stay (fun d v _ q => q) (fun d q => ?_) fun d xs q => ?_
    · rw [hide_out (cells_out hc q fun φ => HO.noConfusion)]; exact q
    · rw [hide_out (cells_out hc q fun φ => HO.noConfusion)]; exact q
theorem hide_ex : Ex (hide cs H) H' → ∀ a o, a ∉ cs → H a = some o → H' a = some o := fun e a o n h => e a o (by rw [hide_out n]; exact h)
theorem back_ex (e : Ex (hide cs H) H') : Ex H (back cs H H') := fun a o h => by
  by_cases z : a ∈ cs
  · rw [back_in z]; exact h
  · rw [back_out z]; exact hide_ex e a o z h
theorem hok_back (hc : Cells cs H) (ok1 : HOk P w H hp) (ok2 : HOk P w H' hp') (free : ∀ c ∈ cs, H' c = none) (kp : ∀ c ∈ cs, ∀ o, hp.get? c = some o → hp'.get? c = some o) : HOk P w (back cs H H') hp' := fun a o e => by
  by_cases z : a ∈ cs
  · rw [back_in z] at e
    obtain ⟨v, hv⟩ := hc a z
    rw [hv] at e
    cases e
    obtain ⟨h1, ⟨ob, h2⟩, h3⟩ := ok1 a _ hv
    exact ⟨h3 hp hp' h1 (kp a z), ⟨ob, kp a z ob h2⟩, h3⟩
  · rw [back_out z] at e
    have out : ∀ d u, H' d = some u → d ∉ cs := fun d u q y => by rw [free d y] at q; cases q
    refine (ok2 a o e).stay (fun d v _ q => q) (fun d q => ?_) fun d xs q => ?_
    · rw [back_out (out d _ q)]; exact q
    · rw [back_out (out d _ q)]; exact q
theorem env0_hide {A : Around} {outer : List Env} {s : Shared} (hc : Cells cs H) (e0 : Env0 P w K mg base A outer s H) : Env0 P w K mg base A outer s (hide cs H) where
  frames := e0.frames
  mod := e0.mod
  bs := fun b o e => ⟨(e0.bs b o e).1, by
    by_cases z : b ∈ cs
    · exact hide_in z
    · rw [hide_out z]; exact (e0.bs b o e).2⟩
  bsz := e0.bsz
  funs := e0.funs
  frf := fun b hb => by
    by_cases z : b ∈ cs
    · exact hide_in z
    · rw [hide_out z]; exact e0.frf b hb
  hok := hok_hide hc e0.hok
  bare := e0.bare
/-- a call that is walked with the cells hidden -/
theorem hide_call {A : Around} {outer : List Env} {s : Shared} {Q : VK} {E : XK} {r : Result} {s' : Shared} (hc : Cells cs H) (e0 : Env0 P w K mg base A outer s H)
    (h : CR (CX P w) outer P w (hide cs H) s (fun v H' => (∀ c ∈ cs, H' c = none) → Q v (back cs H H')) (fun cls d H' => (∀ c ∈ cs, H' c = none) → E cls d (back cs H H')) r s') : CR (CX P w) outer P w H s Q E r s' := by
  have at_ : ∀ c ∈ cs, ∃ o, s.heap.get? c = some o ∧ ∃ u, o.data = .cell u := fun c hcs => by
    obtain ⟨v, hv⟩ := hc c hcs
    obtain ⟨⟨u, _, ob, h1, h2⟩, _, _⟩ := e0.hok c _ hv
    exact ⟨ob, h1, _, h2⟩
  have nfr : ∀ c ∈ cs, c ∉ frs outer := fun c hcs z => by
    obtain ⟨v, hv⟩ := hc c hcs
    rw [e0.frf c z] at hv; cases hv
  have none_of : ∀ {a : Addr}, H a = none → hide cs H a = none := fun {a} q => by
    by_cases z : a ∈ cs
    · exact hide_in z
    · rw [hide_out z]; exact q
  have out_of : ∀ {a : Addr}, H a = none → a ∉ cs := fun {a} q z => by
    obtain ⟨v, hv⟩ := hc a z
    rw [q] at hv; cases hv
  match r, h with
  | .ok (.ret u), h =>
    obtain ⟨v, H1, h1, h2, un, h4, h5, h6⟩ := h
    have free : ∀ c ∈ cs, H1 c = none := fun c hcs => by
      obtain ⟨o, ho, _⟩ := at_ c hcs
      exact un.free c o ho (hide_in hcs) (by simp)
    have kp : ∀ c ∈ cs, ∀ o, s.heap.get? c = some o → s'.heap.get? c = some o := fun c hcs o ho => un.keep c o ho (hide_in hcs) (nfr c hcs) (by simp)
    refine ⟨v, back cs H H1, h1, h2, ?_, hok_back hc e0.hok h4 free kp, h5, h6 free⟩
    refine ⟨fun b o q n => un.keep b o q (none_of n), fun b o q n => un.slot b o q (none_of n), fun b o q n x => ?_, un.there, fun b xs q => ?_, fun b o xs q => ?_, fun b qs q => ?_⟩
    · rw [back_out (out_of n)]; exact un.free b o q (none_of n) x
    · have n := cells_out hc q fun φ => HO.noConfusion
      rw [back_out n]; exact un.tups b xs (by rw [hide_out n]; exact q)
    · have n := cells_out hc q fun φ => HO.noConfusion
      rw [back_out n]; exact un.frzs b o xs (by rw [hide_out n]; exact q)
    · have n := cells_out hc q fun φ => HO.noConfusion
      rw [back_out n]; exact un.tbls b qs (by rw [hide_out n]; exact q)
  | .ok .next, h => exact h
  | .ok .brk, h => exact h
  | .ok .cont, h => exact h
  | .error e, h =>
    obtain ⟨a, B, H1, cls, d, h1, fly, h4, ub, na, h5, h6, h7⟩ := h
    have free : ∀ c ∈ cs, H1 c = none := fun c hcs => by
      obtain ⟨o, ho, _⟩ := at_ c hcs
      exact ub.free c o ho (hide_in hcs)
    have kp : ∀ c ∈ cs, ∀ o, s.heap.get? c = some o → B.get? c = some o := fun c hcs o ho => ub.keep c o ho (hide_in hcs) (nfr c hcs)
    refine ⟨a, B, back cs H H1, cls, d, h1, fly, hok_back hc e0.hok h4 free kp, ?_, ?_, h5, h6, h7 free⟩
    · refine ⟨fun b o q n => ub.keep b o q (none_of n), ub.slot, fun b o q n => ?_, ub.there, fun b xs q => ?_, fun b o xs q => ?_, fun b qs q => ?_⟩
      · rw [back_out (out_of n)]; exact ub.free b o q (none_of n)
      · have n := cells_out hc q fun φ => HO.noConfusion
        rw [back_out n]; exact ub.tups b xs (by rw [hide_out n]; exact q)
      · have n := cells_out hc q fun φ => HO.noConfusion
        rw [back_out n]; exact ub.frzs b o xs (by rw [hide_out n]; exact q)
      · have n := cells_out hc q fun φ => HO.noConfusion
        rw [back_out n]; exact ub.tbls b qs (by rw [hide_out n]; exact q)
    · have n : a ∉ cs := fun z => by
        obtain ⟨o, ho, _⟩ := at_ a z
        have := kp a z o ho
        rw [fly.2.1] at this; cases this
      rw [back_out n]; exact na
end
/-! ### called -/
/-- the promise of what a name holds: called without arguments at H -/
def Act (P : Program) (w : World) (K : PySem.W.Frag) (mg : Str → Option Value) (base : Heap) (k : Nat) (f : Addr) (H : Hp) (Q : VK) (E : XK) : Prop :=
  (∃ F, H f = some (LamO f F)) ∧ ∀ (A : Around) (outer : List Env) (s : Shared), Room k A → Env0 P w K mg base A outer s H → codeAny (model P w) A (.call (.ref f) ⟨[], []⟩) (CR (CX P w) outer P w H s Q E) s
abbrev LF.nf (F : LF) : NdefX.NF := ⟨"<lambda>", F.qual, F.params, [], F.scope, F.cl, F.c⟩
theorem act_of {P : Program} {w : World} {K : PySem.W.Frag} {mg : Str → Option Value} {base : Heap} {k : Nat} {f : Addr} {F : LF} {H : Hp} {Q : VK} {E : XK} {N ps fr : List Str} {vs : List V} {ws : List V} {cs : List Addr} {tb : TE}
    (hf : H f = some (LamO f F)) (hcO : H F.c = some (CodeO F.c F.qual)) (S : NdefX.NScope N ps fr F.scope) (hl : vs.length = ps.length) (hc : Cells cs H)
    (hb : ∀ (doc pm ctv : Value) (s : Shared), HOk P w H s.heap → ∃ us, Vals vs us ∧ BindsTo s (F.fd doc pm ctv) ⟨[], []⟩ (ps.zip us))
    (len : ws.length = fr.length) (sub : ∀ y c, F.cl.lookup y = some c → c ∈ cs) (inj : ∀ x y c, F.cl.lookup x = some c → F.cl.lookup y = some c → x = y) (has : ∀ (i : Nat) (y : Str), fr[i]? = some y → ∃ c v, F.cl.lookup y = some c ∧ ws[i]? = some v ∧ H c = some (CellO c v))
    (hbody : ∀ (A : Around) (outer : List Env) (s : Shared), Room k (A.deeper (NdefX.envF F.nf f s.heap.objs.size)) → PE (NdefX.ncx (CX P w) P w K mg base N F.nf f A outer s (hide cs H) (fun cls d H' => (∀ c ∈ cs, H' c = none) → E cls d (back cs H H'))) F.body tb)
    (ht : tb (NdefX.startF N vs (ws.map some)) (hide cs H) fun v H' => (∀ c ∈ cs, H' c = none) → Q v (back cs H H')) : Act P w K mg base (k + 1) f H Q E := by
  refine ⟨⟨F, hf⟩, fun A outer s hr e0 => ?_⟩
  refine codeAny_mono ?_ fun r s' q => hide_call hc e0 q
  have e1 := env0_hide hc e0
  have lim : s.heap.NoLimit := e0.mod.nolimit.keeps fun b o e => (e0.bs b o e).1
  obtain ⟨⟨od, sl, doc, pm, ctv, ho⟩, _, _⟩ := e0.hok f _ hf
  obtain ⟨⟨oc, vc, tq, c1, c2, c3⟩, _, _⟩ := e0.hok F.c _ hcO
  obtain ⟨us, rus, hbind⟩ := hb doc pm ctv s e0.hok
  have C : NdefX.CellsAt F.cl fr (ws.map some) s.heap (hide cs H) := by
    refine ⟨by rw [List.length_map]; exact len, fun y c hy => ⟨hide_in (sub y c hy), ?_⟩, inj, fun i y hy => ?_⟩
    · obtain ⟨v, hv⟩ := hc c (sub y c hy)
      obtain ⟨⟨u, _, hu⟩, _, _⟩ := e0.hok c _ hv
      exact ⟨_, hu⟩
    · obtain ⟨c, v, h1, h2, h3⟩ := has i y hy
      refine ⟨c, h1, fun v' hv' => ?_⟩
      rw [List.getElem?_map, h2] at hv'
      have ev : v = v' := Option.some.inj (Option.some.inj hv')
      subst ev
      obtain ⟨⟨u, ru, hu⟩, _, _⟩ := e0.hok c _ h3
      exact ⟨u, ru, hu⟩
  refine PySem.W.kla_callFunE hr.depth ho rfl S.co S.gen rfl ⟨F.c, oc, vc, tq, rfl, c1, c2, c3⟩ (hbind _ _ _ _ ?_)
  refine wpAny_newFunctionEnv S.nocell (fun p hp => S.par p.1 (List.of_mem_zip hp).1) (fun g hns hsb => ⟨lim.fresh _ hsb, ?_⟩) S.kind
  show codeAny _ _ (.expr F.body (NdefX.envF F.nf f s.heap.objs.size)) _ _
  have kp : ∀ b o, s.heap.get? b = some o → g.get? b = some o := fun b o e => hsb.extBut b o (Nat.ne_of_lt (Heap.lt_size e)) (Heap.get?_push_of_some _ e)
  have I := NdefX.inv_startN (CX := CX P w) (F := F.nf) (f := f) (N := N) (E := fun cls d H' => (∀ c ∈ cs, H' c = none) → E cls d (back cs H H')) (h₁ := g) (tk := s.toks + (ps.zip us).length) S hr.hd e1 hl rus C hns kp
  refine PySem.W.kla_codeExpr (wpAny_mono ((hbody A outer s (hr.deeper _)).run [] _ _ _ _ I ht) (fun v s' q => ?_) fun e s' q => q)
  obtain ⟨v', H', J, rv, q⟩ := q
  exact ⟨v', H', J.os, J.bare, J.base, J.hok, rv, q⟩
/-- x(), x a name that holds a lambda -/
def tAct (X : Cx) (k i : Nat) (E : XK) : TE := fun σ H Q => ∃ f, σ[i]? = some (some (.ref f)) ∧ Act X.prog X.w X.K X.mg X.base k f H Q E
theorem pe_act0 {X : Cx} {k j i : Nat} {E : XK} {x : Str} {p pos : Pos} (hr : Room j X.A) (hk : k ≤ j) (hx : Passes (CX X.prog X.w) X E) (hN : X.N[i]? = some x) (hv : Vis X.env.scope x) (hd : (x == ("__debug__" : Str)) = false := by decide) (hcd : (x == ("__classdict__" : Str)) = false := by decide) :
    PE X (.Call (.Name x p) [] [] pos) (tAct X k i E) := by
  refine ⟨fun pins s σ H Q I h => ?_⟩
  obtain ⟨f, hs, ⟨F, hf⟩, hrun⟩ := h
  refine wpAny_Call_Name_kw (thn ((pe_var (pos := p) hN hv hd hcd).run pins s σ H (fun v H1 => v = .ref f ∧ H1 = H) I ⟨.ref f, hs, rfl, rfl⟩) fun u s1 ⟨v, H1, I1, r1, q1⟩ => ?_)
  obtain ⟨ev, eH⟩ := q1
  subst ev
  rw [eH] at I1
  obtain rfl : u = Value.ref f := r1
  obtain ⟨⟨od, sl, doc, pm, ctv, ho⟩, _, _⟩ := I1.hok f _ hf
  refine PySem.W.callWith_F0 ⟨_, _, _, _, ho⟩ ?_
  refine wpAny_call (codeAny_mono (hrun X.A X.stack s1 (hr.mono hk) I1.env0) fun r s' hq => ?_)
  cases r with
  | error e => exact hx pins σ H s1 e s' I1 hq
  | ok fl =>
    cases fl with
    | ret u => exact I1.after hq
    | next => exact False.elim hq
    | brk => exact False.elim hq
    | cont => exact False.elim hq
end Hs

set_option Elab.async false
set_option linter.all false
set_option maxRecDepth 100000
set_option maxHeartbeats 4000000
/-! Lambdas made; a def whose cells are known when it has gone. -/
namespace Hs
open PySem PySem.Spec PyProof.Rows L2
open Evl (Ex)
open LamX (CodeO Tabs TabS TabB ExtN)
/-- the lambda at f -/
def IsLam (H : Hp) (f : Addr) (dflt : Bool) (qual : Str) (params : Arguments) (body : Expr) (scope : Scope) (cl : List (Str × Addr)) : Prop :=
  ∃ c' dV, H f = some (LamO f ⟨qual, params, body, scope, cl, dV, c'⟩) ∧ H c' = some (CodeO c' qual) ∧ (if dflt = true then ∃ d, dV = .ref d ∧ H d = some (.tup [.int 0]) else dV = .none)
theorem IsLam.ext {H H' : Hp} {f : Addr} {dflt : Bool} {qual : Str} {params : Arguments} {body : Expr} {scope : Scope} {cl : List (Str × Addr)} (h : IsLam H f dflt qual params body scope cl) (e : ExtN H H') : IsLam H' f dflt qual params body scope cl := by
  obtain ⟨c', dV, h1, h2, h3⟩ := h
  refine ⟨c', dV, e _ _ h1 (fun ps z => by cases z), e _ _ h2 (fun ps z => by cases z), ?_⟩
  cases dflt with
  | true =>
    obtain ⟨d, e1, e2⟩ := h3
    exact ⟨d, e1, e _ _ e2 (fun ps z => by cases z)⟩
  | false => exact h3
section
variable {X : Cx} {pins : List (Addr × Obj)} {σ : L2.St} {H : Hp} {s : Shared}
theorem inv_lam {F : LF} {tk : Nat} {doc pm ctv : Value} (J : Inv X pins σ H s) :
    Inv X pins σ (upd H s.heap.objs.size (LamO s.heap.objs.size F)) { s with heap := s.heap.push { cls := .type "function", data := .func (F.fd doc pm ctv) }, toks := tk } := by
  have hget : (s.heap.push ({ cls := .type "function", data := .func (F.fd doc pm ctv) } : Obj)).get? s.heap.objs.size = some ({ cls := .type "function", data := .func (F.fd doc pm ctv) } : Obj) := Heap.get?_push_size _ rfl
  exact J.laid (fun b u z => Heap.get?_push_of_some _ z) (Nat.le_refl _) ⟨⟨none, #[], doc, pm, ctv, hget⟩, ⟨_, hget⟩, fun g g' ⟨od, sl, d, p, t, z⟩ keep => ⟨od, sl, d, p, t, keep _ z⟩⟩
/-- a table with one code object more -/
theorem tabs_more {T : List (Addr × Str)} {P c' : Addr} {q : Str} {pos : Pos} {ps : Array Value} (hT : Tabs T H) (hu : ∀ p ∈ T, p.1 = P → p.2 = q) (hP : H P = some (.tbl ps)) (ht : TriplesOk ps.toList) (ha : ∀ (p' : Pos) (cv : Value), codeAmong p' ps.toList = some cv → ∃ d, cv = .ref d ∧ H d = some (CodeO d q)) (nC : H c' = none) :
    ExtN H (upd (upd H P (.tbl (ps ++ #[rawInt pos.line, rawInt pos.col, .ref c']))) c' (CodeO c' q)) ∧ Tabs T (upd (upd H P (.tbl (ps ++ #[rawInt pos.line, rawInt pos.col, .ref c']))) c' (CodeO c' q)) := by
  have stay : ExtN H (upd (upd H P (.tbl (ps ++ #[rawInt pos.line, rawInt pos.col, .ref c']))) c' (CodeO c' q)) := fun d ob hd nt => by
    have n1 : d ≠ c' := ne_of_none hd nC
    have n2 : d ≠ P := fun z => nt ps (by rw [z, hP] at hd; exact (Option.some.inj hd).symm)
    rw [upd_ne n1, upd_ne n2]; exact hd
  have lst : (ps ++ #[rawInt pos.line, rawInt pos.col, .ref c']).toList = ps.toList ++ [rawInt pos.line, rawInt pos.col, .ref c'] := by simp
  refine ⟨stay, fun pt hpt => ?_⟩
  by_cases hb : pt.1 = P
  · rw [hu pt hpt hb, hb]
    refine ⟨_, (upd_ne (ne_of_none hP nC)).trans upd_same, by rw [lst]; exact PySem.TriplesOk_snoc _ _ _ _ ht, fun p' cv hcv => ?_⟩
    rw [lst] at hcv
    rcases LamX.among_app _ ht hcv with z | z
    · obtain ⟨d, z1, z2⟩ := ha p' cv z
      exact ⟨d, z1, stay _ _ z2 LamX.codeO_ne⟩
    · exact ⟨c', z, upd_same⟩
  · obtain ⟨qs, a1, a2, a3⟩ := hT pt hpt
    refine ⟨qs, (upd_ne (ne_of_none a1 nC)).trans ((upd_ne hb).trans a1), a2, fun p' cv hcv => ?_⟩
    obtain ⟨d, z1, z2⟩ := a3 p' cv hcv
    exact ⟨d, z1, stay _ _ z2 LamX.codeO_ne⟩
theorem extN_upd {a : Addr} {o : HO} (n : H a = none) : ExtN H (upd H a o) := fun d ob hd _ => by rw [upd_ne (ne_of_none hd n)]; exact hd
theorem tabs_upd {T : List (Addr × Str)} {a : Addr} {o : HO} (hT : Tabs T H) (n : H a = none) : Tabs T (upd H a o) := LamX.Tabs.ext hT fun d ob hd => by rw [upd_ne (ne_of_none hd n)]; exact hd
theorem lam_tail {T : List (Addr × Str)} {c P : Addr} {params : Arguments} {body : Expr} {scope : Scope} {pos : Pos} {dV : Value} {E : Value → Shared → Prop} {Q : Value → Shared → Prop} (J : Inv X pins σ H s) (B : TabB X.base X.mg c P) (hcode : X.env.code = .ref c)
    (hm : (P, X.env.qual ++ "<lambda>") ∈ T) (hu : ∀ p ∈ T, p.1 = P → p.2 = X.env.qual ++ "<lambda>") (hT : Tabs T H) (hfree : ∀ y ∈ scope.names, y.2 = .free → ∃ d, X.env.cells.lookup y.1 = some d)
    (h : ∀ (f c' : Addr) (H1 : Hp) (s' : Shared), Inv X pins σ H1 s' → ExtN H H1 → Tabs T H1 → H1 f = some (LamO f ⟨X.env.qual ++ "<lambda>", params, body, scope, cloFrom X.env.cells scope.names [], dV, c'⟩) → H1 c' = some (CodeO c' (X.env.qual ++ "<lambda>")) → Q (.ref f) s') :
    wpAny (model X.prog X.w) X.A (makeTail "<lambda>" (X.env.qual ++ "<lambda>") params (.expr body) scope X.env dV .none none pos pos.line) Q E s := by
  obtain ⟨ps, hP, ht, ha⟩ := hT _ hm
  have hbm : s.heap.BuiltinsAt X.mg P := B.bm.keeps J.bk
  have hPs : s.heap.get? P = some { cls := .none, data := .fields ps } := J.hok P _ hP
  cases hc : codeAmong pos ps.toList with
  | none =>
    refine PySem.W.kdv_makeTail (mg := X.mg) (c := c) (P := P) (ps := ps) (closure_ok hfree) J.ok.glob (J.mod.glob.keeps J.bk) hcode (B.code.keeps J.bk) hPs ht hc B.gP hbm fun c' ctv doc g tk gx ge gl gr gt => ?_
    obtain ⟨d, oc, vc, tq, ed, e1, e2, e3⟩ := gr
    cases ed
    have nC : H c' = none := J.hok.fresh ge
    have J1 := LamX.inv_table (t' := tk) (more := #[rawInt pos.line, rawInt pos.col, .ref c']) (h' := g) J hP (fun b o n z => gx b o n z) gt ge ⟨oc, vc, tq, e1, e2, e3⟩
    obtain ⟨x1, x2⟩ := tabs_more (pos := pos) hT hu hP ht ha nC
    have nF := J1.hok.fresh (Nat.le_refl g.objs.size)
    have J2 := inv_lam (F := ⟨X.env.qual ++ "<lambda>", params, body, scope, cloFrom X.env.cells scope.names [], dV, c'⟩) (tk := tk) (doc := doc) (pm := (X.mg "__name__").getD .none) (ctv := ctv) J1
    refine h g.objs.size c' _ _ J2 (x1.trans (extN_upd nF)) (tabs_upd x2 nF) upd_same ?_
    exact (upd_ne (Nat.ne_of_lt gl)).trans upd_same
  | some cv =>
    obtain ⟨c', ed, hco⟩ := ha pos cv hc
    subst ed
    refine PySem.W.kdv_makeTailHit (mg := X.mg) (c := c) (P := P) (ps := ps) (closure_ok hfree) J.ok.glob (J.mod.glob.keeps J.bk) hcode (B.code.keeps J.bk) hPs ht hc hbm fun ctv doc g tk gx ge => ?_
    have J1 : Inv X pins σ H { s with heap := g, toks := tk } := J.kept gx
    have nF : H g.objs.size = none := J1.hok.fresh (Nat.le_refl _)
    have J2 := inv_lam (F := ⟨X.env.qual ++ "<lambda>", params, body, scope, cloFrom X.env.cells scope.names [], dV, c'⟩) (tk := tk) (doc := doc) (pm := (X.mg "__name__").getD .none) (ctv := ctv) J1
    exact h g.objs.size c' _ _ J2 (extN_upd nF) (tabs_upd hT nF) upd_same ((upd_ne (ne_of_none hco nF)).trans hco)
end
/-! ### the expression -/
def tLamD (T : List (Addr × Str)) (dflt : Bool) (qual : Str) (params : Arguments) (body : Expr) (scope : Scope) (cl : List (Str × Addr)) : TE := fun σ H Q => Tabs T H ∧ ∀ f H1, ExtN H H1 → Tabs T H1 → IsLam H1 f dflt qual params body scope cl → Q (.ref f) H1
section
variable {X : Cx}
theorem pe_lam0 {T : List (Addr × Str)} {c P : Addr} {params : Arguments} {body : Expr} {scope : Scope} {pos : Pos} (B : TabB X.base X.mg c P) (hcode : X.env.code = .ref c) (hm : (P, X.env.qual ++ "<lambda>") ∈ T) (hu : ∀ p ∈ T, p.1 = P → p.2 = X.env.qual ++ "<lambda>")
    (hfree : ∀ y ∈ scope.names, y.2 = .free → X.env.scope.names.lookup y.1 = some .cell) (hdef : defaultsOf params X.env = ([], [])) : PE X (.Lambda params body scope pos) (tLamD T false (X.env.qual ++ "<lambda>") params body scope (cloFrom X.env.cells scope.names [])) := by
  refine ⟨fun pins s σ H Q J h => ?_⟩
  obtain ⟨hT, h⟩ := h
  refine PySem.W.kla_eval hdef ?_
  rw [makeFunction_eq]
  simp only [List.zip_nil_right, List.filterMap_nil, List.isEmpty_nil, if_true, pure_bind]
  exact lam_tail J B hcode hm hu hT (fun y hy e => J.ok.has _ (.inl (hfree y hy e))) fun f c' H1 s' J1 x1 x2 x3 x4 => ⟨.ref f, H1, J1, rfl, h f H1 x1 x2 ⟨c', .none, x3, x4, rfl⟩⟩
theorem pe_lam1 {T : List (Addr × Str)} {c P : Addr} {params : Arguments} {body : Expr} {scope : Scope} {pos p0 : Pos} {k0 : Nat} (B : TabB X.base X.mg c P) (hcode : X.env.code = .ref c) (hm : (P, X.env.qual ++ "<lambda>") ∈ T) (hu : ∀ p ∈ T, p.1 = P → p.2 = X.env.qual ++ "<lambda>")
    (hfree : ∀ y ∈ scope.names, y.2 = .free → X.env.scope.names.lookup y.1 = some .cell) (hd : params.defaults = [.Constant (.int 0) k0 p0]) (hk : params.kw_defaults = []) : PE X (.Lambda params body scope pos) (tLamD T true (X.env.qual ++ "<lambda>") params body scope (cloFrom X.env.cells scope.names [])) := by
  refine ⟨fun pins s σ H Q J h => ?_⟩
  obtain ⟨hT, h⟩ := h
  refine PySem.W.kdv_lam (by rw [hd]; rfl) hk ?_
  rw [hd]
  refine PySem.W.kdv_all1 (thn ((pe_int (X := X) (pos := p0)).run pins s σ H (fun v H1 => v = .int 0 ∧ H1 = H) J ⟨rfl, rfl⟩) fun u s1 ⟨v, H1, J1, r1, ev, eH⟩ => PySem.W.kdv_all0 ?_)
  subst ev
  rw [eH] at J1
  rw [makeFunction_eq]
  simp only [List.zip_nil_right, List.filterMap_nil, List.isEmpty_nil, List.isEmpty_cons, Bool.false_eq_true, if_false, if_true, pure_bind]
  refine wpAny_bind (wpAny_newTextTuple ?_)
  have nd : H s1.heap.objs.size = none := J1.hok.fresh (Nat.le_refl _)
  have J2 : Inv X pins σ (upd H s1.heap.objs.size (.tup [.int 0])) { s1 with heap := s1.heap.push { cls := .type "tuple", data := .seq [u].toArray } } :=
    J1.laid (t' := s1.toks) (fun b o z => Heap.get?_push_of_some _ z) (Nat.le_refl _) ⟨(by show 1 ≤ sizeLine; decide), [u], .cons r1 .nil, IsTup.new s1.heap _⟩
  refine lam_tail J2 B hcode hm hu (tabs_upd hT nd) (fun y hy e => J.ok.has _ (.inl (hfree y hy e))) fun f c' H3 s' J3 x1 x2 x3 x4 => ⟨.ref f, H3, J3, rfl, h f H3 ((extN_upd nd).trans x1) x2 ⟨c', _, x3, x4, _, rfl, x1 _ _ upd_same (fun ps z => by cases z)⟩⟩
end
/-! ### a block that ends by a return, its slots told -/
structure PSe (X : Cx) (st : List Stmt) (t : (V → L2.St → Hp → Prop) → L2.St → Hp → Prop) : Prop where
  run : ∀ (pins : List (Addr × Obj)) (s : Shared) (σ : L2.St) (H : Hp) (R : V → L2.St → Hp → Prop), Inv X pins σ H s → t R σ H → wpAny (model X.prog X.w) X.A (execs st X.env) (fun f s' => ∃ u v σ' H', f = .ret u ∧ Inv X pins σ' H' s' ∧ RelV v u ∧ R v σ' H') X.xe s
section
variable {X : Cx} {e : Expr} {te : TE} {pos : Pos} {st : Stmt} {rest : List Stmt} {t : TS} {u : (V → L2.St → Hp → Prop) → L2.St → Hp → Prop}
theorem pse_ret (he : PE X e te) : PSe X [.Return (some e) pos] (fun R σ H => te σ H fun v H1 => R v σ H1) := by
  refine ⟨fun pins s σ H R J h => ?_⟩
  refine wpAny_execs_cons (wpAny_Return_some (thn (he.run pins s σ H _ J h) fun w s1 ⟨v, H1, J1, r1, q1⟩ => ?_))
  exact ⟨w, v, σ, H1, rfl, J1, r1, q1⟩
theorem pse_cons (h1 : PS X st t) (h2 : PSe X rest u) : PSe X (st :: rest) (fun R σ H => t { nx := u R, rt := fun _ _ => False } σ H) := by
  refine ⟨fun pins s σ H R J h => ?_⟩
  refine wpAny_execs_cons (thn (h1.run pins s σ H { nx := u R, rt := fun _ _ => False } J h) fun f s1 q => ?_)
  cases f with
  | next =>
    obtain ⟨σ', H', J', q⟩ := q
    exact h2.run pins s1 σ' H' R J' q
  | ret v => obtain ⟨_, _, _, _, _, z⟩ := q; exact z.elim
  | brk => obtain ⟨_, _, _, z⟩ := q; exact z.elim
  | cont => obtain ⟨_, _, _, z⟩ := q; exact z.elim
end
/-! ### .. and its cells known when it has gone -/
def trk (cl : List (Addr × V)) (H : Hp) : Hp := fun a => match cl.lookup a with
  | some v => some (CellO a v)
  | none => H a
theorem trk_out {cl : List (Addr × V)} {H : Hp} {a : Addr} (h : cl.lookup a = none) : trk cl H a = H a := by unfold trk; rw [h]
theorem trk_in {cl : List (Addr × V)} {H : Hp} {a : Addr} {v : V} (h : cl.lookup a = some v) : trk cl H a = some (CellO a v) := by unfold trk; rw [h]
theorem ext_trk {cl : List (Addr × V)} {H : Hp} (n : ∀ a v, cl.lookup a = some v → H a = none) : Ex H (trk cl H) := fun a o h => by
  cases e : cl.lookup a with
  | none => rw [trk_out e]; exact h
  | some v => rw [n a v e] at h; cases h
theorem okc_of {P : Program} {w : World} {K : PySem.W.Frag} {mg : Str → Option Value} {base : Heap} {x qual : Str} {params : Arguments} {body : List Stmt} {scope : Scope} {f : Addr} {N ps : List Str} {k : Nat} {sp : Sp} (F : ∃ fd, FunD K x qual params body scope [] [] f fd) (S : FnScope N ps scope) (len : ∀ vs H Q E, sp vs H Q E → vs.length = ps.length)
    (hb : ∀ (kV doc pm : Value) (an : Option Addr) (cdv ct : Value) (us : List Value), us.length = ps.length → bindArgs (PySem.W.fnOf x qual params body scope .none kV doc pm an cdv ct) ⟨us, []⟩ = pure (ps.zip us)) (hcell : ∀ y ∈ ps, scope.names.lookup y = some .cell)
    (hbody : ∀ (cdv : Value) (A : Around) (outer : List Env) (s : Shared) (H : Hp) (vs : List V) (Q : VK) (E : XK), ((∃ od dV kV doc pm an ct osl oc, K.lookup f = some ⟨oc, od, .func (PySem.W.fnOf x qual params body scope dV kV doc pm an cdv ct), osl⟩) ∧ PySem.W.codeIn K cdv qual = true) → Room k (A.deeper (envOfC qual scope s.heap.objs.size f cdv)) → sp vs H Q E →
      ∃ t, PSe (cxOf CX0 P w K mg base N qual scope f cdv A outer s H E) body t ∧
        t (fun v σ' H' => (∀ (i : Nat) (z : V), vs[i]? = some z → σ'[i]? = some (some z)) ∧ ∀ cl : List (Addr × V), (∀ a z, cl.lookup a = some z → H' a = none) → (∀ (i : Nat) (y : Str) (z : V), ps[i]? = some y → vs[i]? = some z → ∃ a, (cellsFrom (s.heap.objs.size + 1) scope.names []).lookup y = some a ∧ cl.lookup a = some z) →
          (∀ y z a, (cellsFrom (s.heap.objs.size + 1) scope.names []).lookup y = some a → (cellsFrom (s.heap.objs.size + 1) scope.names []).lookup z = some a → y = z) → Q v (trk cl H')) (start N vs) H) : Okd P w K mg base (k + 1) f ps sp := by
  obtain ⟨fd, D⟩ := F
  refine ⟨⟨fd, ⟨len, fun A outer s H args us vs Q E hr e0 hbd r hsp => ?_⟩, D.bindsN hb⟩, D.kp⟩
  obtain ⟨oc, od, dV, kV, doc, pm, an, cdv, ct, osl, rfl, lk, hcd, _, _⟩ := D.ex
  have hl := len _ _ _ _ hsp
  have KX : K.In s.heap := e0.mod.kin.keeps fun b o e => (e0.bs b o e).1
  have lim : s.heap.NoLimit := e0.mod.nolimit.keeps fun b o e => (e0.bs b o e).1
  have kinds : ∀ y ∈ ps.zip us, scope.names.lookup y.1 = some .local ∨ (scope.names.lookup y.1 = some .cell ∧ ((cellsFrom (s.heap.objs.size + 1) scope.names []).lookup y.1).isSome = true) := fun y hy =>
    .inr ⟨hcell y.1 (List.of_mem_zip hy).1, PySem.W.cellsFrom_some _ _ _ (.inl (hcell y.1 (List.of_mem_zip hy).1))⟩
  refine codeAny_call_function hr.depth (KX _ _ lk) rfl S.co S.gen rfl (PySem.W.codeRec_of KX hcd) (hbd _ _ _ _ ?_)
  refine wpAny_newFunctionEnv_cells S.kind kinds fun env he s1 xx => ?_
  subst he
  refine ⟨lim.keeps xx.toInCall.keep, codeAny_func ?_⟩
  obtain ⟨t, ht, hq⟩ := hbody cdv A outer s H vs Q E ⟨⟨_, _, _, _, _, _, _, _, _, lk⟩, hcd⟩ (hr.deeper _) hsp
  have I : Inv (cxOf CX0 P w K mg base N qual scope f cdv A outer s H E) [] (start N vs) H s1 := inv_start S hr.hd e0 hl r xx
  refine wpAny_mono (ht.run [] s1 (start N vs) H _ I hq) (fun fl s' hs => ?_) fun e s' hs => hs
  obtain ⟨u, v, σ', H', rfl, J, rv, hσ, hQ⟩ := hs
  have hN : ∀ (i : Nat) (y : Str), ps[i]? = some y → N[i]? = some y := fun i y e => by
    have hi := (List.getElem?_eq_some_iff.mp e).1
    rw [← S.pre, List.getElem?_take_of_lt (by omega)] at e
    exact e
  have cellAt : ∀ (i : Nat) (y : Str) (z : V), ps[i]? = some y → vs[i]? = some z → ∃ a u, (cellsFrom (s.heap.objs.size + 1) scope.names []).lookup y = some a ∧ RelV z u ∧ s'.heap.IsCell a (some u) := fun i y z h1 h2 => by
    have hk := hcell y (List.mem_of_getElem? h1)
    obtain ⟨m, _, hlook⟩ := J.loc
    obtain ⟨u, ru, l⟩ := hlook i y z (hN i y h1) (hσ i z h2) (.inr (.inl hk))
    rcases l with ⟨l, _⟩ | ⟨_, a, ha, hc⟩
    · have l' : scope.names.lookup y = some .local := l
      rw [hk] at l'; cases l'
    · exact ⟨a, u, ha, ru, hc⟩
  have inj := J.ok.inj
  -- the cells, from the front
  have mk : ∀ (ps' : List Str) (vs' : List V), ps'.Nodup → (∀ (i : Nat) (y : Str) (z : V), ps'[i]? = some y → vs'[i]? = some z → ∃ a u, (cellsFrom (s.heap.objs.size + 1) scope.names []).lookup y = some a ∧ RelV z u ∧ s'.heap.IsCell a (some u)) →
      ∃ cl : List (Addr × V), (∀ a z, cl.lookup a = some z → ∃ y u, y ∈ ps' ∧ (cellsFrom (s.heap.objs.size + 1) scope.names []).lookup y = some a ∧ RelV z u ∧ s'.heap.IsCell a (some u)) ∧
        ∀ (i : Nat) (y : Str) (z : V), ps'[i]? = some y → vs'[i]? = some z → ∃ a, (cellsFrom (s.heap.objs.size + 1) scope.names []).lookup y = some a ∧ cl.lookup a = some z := by
    intro ps'
    induction ps' with
    | nil => intro vs' _ _; exact ⟨[], fun a z e => by simp at e, fun i y z e => by simp at e⟩
    | cons p ps' ih =>
      intro vs' ndp hall
      cases vs' with
      | nil => exact ⟨[], fun a z e => by simp at e, fun i y z _ e => by simp at e⟩
      | cons z0 vs' =>
        obtain ⟨cl, c1, c2⟩ := ih vs' (List.nodup_cons.mp ndp).2 fun i y z e1 e2 => hall (i + 1) y z (by simpa using e1) (by simpa using e2)
        obtain ⟨a0, u0, h1, h2, h3⟩ := hall 0 p z0 rfl rfl
        refine ⟨(a0, z0) :: cl, fun a z e => ?_, fun i y z e1 e2 => ?_⟩
        · rw [List.lookup_cons] at e
          by_cases ea : a = a0
          · subst ea
            rw [show (a == a) = true by simp] at e
            have e : some z0 = some z := e
            cases e
            exact ⟨p, u0, List.mem_cons_self, h1, h2, h3⟩
          · rw [show (a == a0) = false by simpa using ea] at e
            obtain ⟨y, u, g1, g2⟩ := c1 a z e
            exact ⟨y, u, List.mem_cons_of_mem _ g1, g2⟩
        · cases i with
          | zero =>
            have ep : p = y := by simpa using e1
            have ez : z0 = z := by simpa using e2
            subst ep ez
            exact ⟨a0, h1, by rw [List.lookup_cons, show (a0 == a0) = true by simp]⟩
          | succ i =>
            have e1 : ps'[i]? = some y := by simpa using e1
            obtain ⟨a, g1, g2⟩ := c2 i y z e1 (by simpa using e2)
            refine ⟨a, g1, ?_⟩
            have na : a ≠ a0 := fun q => by
              rw [q] at g1
              have := inj y p a0 g1 h1
              exact (List.nodup_cons.mp ndp).1 (by rw [← this]; exact List.mem_of_getElem? e1)
            rw [List.lookup_cons, show (a == a0) = false by simpa using na]; exact g2
  have ndP : ps.Nodup := by rw [← S.pre]; exact S.nd.sublist (List.take_sublist _ _)
  obtain ⟨cl, c1, c2⟩ := mk ps vs ndP cellAt
  have freeC : ∀ a z, cl.lookup a = some z → H' a = none := fun a z e => by
    obtain ⟨y, u, _, g2, _⟩ := c1 a z e
    exact J.freeC y a g2
  have new : ∀ a z, cl.lookup a = some z → s.heap.objs.size ≤ a := fun a z e => by
    obtain ⟨y, u, _, g2, _⟩ := c1 a z e
    exact J.ok.cab y a rfl g2
  have q := hQ cl freeC c2 inj
  have un : Un (frs outer) [] H H' s.heap s'.heap := J.base
  have none_of : ∀ {a : Addr}, H' a ≠ none → cl.lookup a = none := fun {a} n => by
    cases e : cl.lookup a with
    | none => rfl
    | some z => exact absurd (freeC a z e) n
  refine ⟨v, trk cl H', J.os, J.bare, ?_, ?_, rv, q⟩
  · refine ⟨un.keep, un.slot, fun b o q n x => ?_, un.there, fun b xs q => ?_, fun b o xs q => ?_, fun b qs q => ?_⟩
    · cases e : cl.lookup b with
      | none => rw [trk_out e]; exact un.free b o q n x
      | some z => exact absurd (Nat.lt_of_lt_of_le (Heap.lt_size q) (new b z e)) (Nat.lt_irrefl _)
    · have h1 := un.tups b xs q
      rw [trk_out (none_of (by rw [h1]; simp))]; exact h1
    · have h1 := un.frzs b o xs q
      rw [trk_out (none_of (by rw [h1]; simp))]; exact h1
    · obtain ⟨more, h1⟩ := un.tbls b qs q
      exact ⟨more, by rw [trk_out (none_of (by rw [h1]; simp))]; exact h1⟩
  · intro a o e
    cases el : cl.lookup a with
    | some z =>
      rw [trk_in el] at e
      cases e
      obtain ⟨y, u, _, g2, g3, g4⟩ := c1 a z el
      refine ⟨⟨u, g3, g4⟩, ?_, fun g g' ⟨u', r', ob, o1, o2⟩ keep => ⟨u', r', ob, keep _ o1, o2⟩⟩
      obtain ⟨ob, o1, _⟩ := g4
      exact ⟨ob, o1⟩
    | none =>
      rw [trk_out el] at e
      refine (J.hok a o e).stay (fun d v _ q => q) (fun d q => ?_) fun d xs q => ?_
      · rw [trk_out (none_of (by rw [q]; simp))]; exact q
      · rw [trk_out (none_of (by rw [q]; simp))]; exact q
end Hs

set_option Elab.async false
set_option linter.all false
set_option maxRecDepth 100000
set_option maxHeartbeats 4000000
/-! _law_calls. -/
namespace Hs
open PySem PySem.Spec PyProof.Rows L2
open Evl (Ex)
open LamX (CodeO Tabs TabS TabB ExtN)
def valOf : Stmt → Expr
  | .Assign _ v _ => v
  | .Return (some v) _ => v
  | _ => .Constant .none 0 ⟨0, 0, 0, 0⟩
def eltsOf : Expr → List Expr
  | .List es _ => es
  | .BinOp _ _ b _ => eltsOf b
  | _ => []
def lams : List Expr := (defBody s_law_calls).flatMap fun st => eltsOf (valOf st)
def lam (i : Nat) : Expr := lams.getD i (.Constant .none 0 ⟨0, 0, 0, 0⟩)
def lamArgs : Expr → Arguments
  | .Lambda a _ _ _ => a
  | _ => ⟨[], [], none, [], [], none, []⟩
def lamBody : Expr → Expr
  | .Lambda _ b _ _ => b
  | e => e
def lamScope : Expr → Scope
  | .Lambda _ _ s _ => s
  | _ => defScope s_law_calls
abbrev lamQ : Str := "_law_calls.<locals>.<lambda>"
def cellsL (n : Nat) : List (Str × Addr) := cellsFrom n (defScope s_law_calls).names []
def IsLamI (H : Hp) (n i : Nat) (f : Addr) : Prop := IsLam H f (decide (i ≠ 0)) lamQ (lamArgs (lam i)) (lamBody (lam i)) (lamScope (lam i)) (cloFrom (cellsL n) (lamScope (lam i)).names [])
def LamsAt (H : Hp) (n : Nat) : List Addr → Nat → Prop
  | [], _ => True
  | f :: fs, i => IsLamI H n i f ∧ LamsAt H n fs (i + 1)
theorem lamsAt_get {H : Hp} {n : Nat} : ∀ {fs : List Addr} {i j : Nat} {f : Addr}, LamsAt H n fs j → fs[i]? = some f → IsLamI H n (j + i) f
  | [], _, _, _, _, e => by simp at e
  | g :: fs, 0, j, f, h, e => by
    have e : g = f := Option.some.inj e
    subst e
    exact h.1
  | g :: fs, i + 1, j, f, h, e => by
    have z := lamsAt_get (fs := fs) (i := i) h.2 (by simpa using e)
    rw [show j + (i + 1) = j + 1 + i by omega]; exact z
theorem LamsAt.ext {H H' : Hp} {n : Nat} (e : ExtN H H') : ∀ {fs : List Addr} {i : Nat}, LamsAt H n fs i → LamsAt H' n fs i
  | [], _, _ => trivial
  | f :: fs, i, h => ⟨IsLam.ext h.1 e, LamsAt.ext e h.2⟩
/-- the sixteen, what their cells hold -/
structure CallsAt (H : Hp) (p : Addr) (x : Str) (v : V) (z : Int) : Prop where
  ex : ∃ (n : Nat) (fs : List Addr), H p = some (.lst (fs.map V.ref)) ∧ fs.length = 16 ∧ LamsAt H n fs 0 ∧ (∃ c, (cellsL n).lookup ("_law_work_here" : Str) = some c ∧ H c = some (CellO c (.str x))) ∧ (∃ c, (cellsL n).lookup ("_law_one" : Str) = some c ∧ H c = some (CellO c v)) ∧ (∃ c, (cellsL n).lookup ("_law_n" : Str) = some c ∧ H c = some (CellO c (.int z))) ∧
    ∀ y z a, (cellsL n).lookup y = some a → (cellsL n).lookup z = some a → y = z
theorem CallsAt.exx {H H' : Hp} {p : Addr} {x : Str} {v : V} {z : Int} (h : CallsAt H p x v z) (e : Ex H H') : CallsAt H' p x v z := by
  obtain ⟨n, fs, h1, h2, h3, ⟨a, a1, a2⟩, ⟨b, b1, b2⟩, ⟨c, c1, c2⟩, h7⟩ := h.ex
  exact ⟨n, fs, e _ _ h1, h2, LamsAt.ext (ExtN.of e) h3, ⟨a, a1, e _ _ a2⟩, ⟨b, b1, e _ _ b2⟩, ⟨c, c1, e _ _ c2⟩, h7⟩
theorem fb {sc nsc : Scope} (h : (nsc.names.all fun y => !decide (y.2 = .free) || decide (sc.names.lookup y.1 = some .cell)) = true) : ∀ y ∈ nsc.names, y.2 = .free → sc.names.lookup y.1 = some .cell := fun y hy e => by
  have z := List.all_eq_true.mp h y hy
  simp only [Bool.or_eq_true, Bool.not_eq_true', decide_eq_true_eq, decide_eq_false_iff_not] at z
  exact z.resolve_left fun q => q e
variable {P : Program} {w : World} {K : PySem.W.Frag} {mg : Str → Option Value} {base : Heap}
abbrev cTL (K : PySem.W.Frag) : Addr × Addr := He.cT K ("_law_calls", none)
def tabL (K : PySem.W.Frag) : List (Addr × Str) := [((cTL K).2, lamQ)]
abbrev N_calls : List Str := ["_law_work_here", "_law_one", "_law_n", "_law_calls_here"]
theorem sc_calls : FnScope N_calls ["_law_work_here", "_law_one", "_law_n"] (defScope s_law_calls) := ⟨rfl, rfl, rfl, by decide +kernel, rfl, by decide +kernel, by decide +kernel⟩
def sp_calls (K : PySem.W.Frag) : Sp := fun vs H Q _ => ∃ (x : Str) (v : V) (z : Int), vs = [.str x, v, .int z] ∧ Tabs (tabL K) H ∧ ∀ p H2, ExtN H H2 → CallsAt H2 p x v z → Q (.ref p) H2
theorem ok_calls (T : Top K mg) (B : TabB base mg (cTL K).1 (cTL K).2) : Okd P w K mg base 1 (He.ga K "_law_calls") ["_law_work_here", "_law_one", "_law_n"] (sp_calls K) := by
  refine okc_of T.fd_law_calls sc_calls (fun vs H Q E h => ?_) (fun _ _ _ _ _ _ us hl => match us, hl with | [_, _, _], _ => rfl) (by decide +kernel) (fun cdv A outer s H vs Q E lkc hr h => ?_)
  · obtain ⟨_, _, _, rfl, _⟩ := h; rfl
  · obtain ⟨x, v, z, rfl, hT, k⟩ := h
    have nd := sc_calls.nd
    have hcode : cdv = .ref (cTL K).1 := by
      obtain ⟨⟨od, dV, kV, doc, pm, an, ct, osl, oc, lk⟩, hc⟩ := lkc
      obtain ⟨c, e⟩ := He.codeIn_ref hc
      subst e
      have e2 : He.codeOf K ("_law_calls", none) = c := He.codeOf_eq lk rfl
      show Value.ref c = .ref (He.codeOf K ("_law_calls", none))
      rw [e2]
    subst hcode
    have hm : ((cTL K).2, lamQ) ∈ tabL K := List.mem_cons_self
    have hu : ∀ p ∈ tabL K, p.1 = (cTL K).2 → p.2 = lamQ := fun p hp _ => by rw [List.mem_singleton.mp hp]
    refine ⟨_, pse_cons (ps_set (i := 3) nd rfl (.inl rfl) (pe_lst (pa_cons (pe_lam0 B rfl hm hu (fb (sc := defScope s_law_calls) (by decide +kernel)) rfl) (pa_cons (pe_lam1 B rfl hm hu (fb (sc := defScope s_law_calls) (by decide +kernel)) rfl rfl) (pa_cons (pe_lam1 B rfl hm hu (fb (sc := defScope s_law_calls) (by decide +kernel)) rfl rfl) (pa_cons (pe_lam1 B rfl hm hu (fb (sc := defScope s_law_calls) (by decide +kernel)) rfl rfl) pa_nil))))))
      (pse_cons (ps_set (i := 3) nd rfl (.inl rfl) (pe_op op_cat (pv 3) (pe_lst (pa_cons (pe_lam1 B rfl hm hu (fb (sc := defScope s_law_calls) (by decide +kernel)) rfl rfl) (pa_cons (pe_lam1 B rfl hm hu (fb (sc := defScope s_law_calls) (by decide +kernel)) rfl rfl) (pa_cons (pe_lam1 B rfl hm hu (fb (sc := defScope s_law_calls) (by decide +kernel)) rfl rfl) pa_nil))))))
      (pse_cons (ps_set (i := 3) nd rfl (.inl rfl) (pe_op op_cat (pv 3) (pe_lst (pa_cons (pe_lam1 B rfl hm hu (fb (sc := defScope s_law_calls) (by decide +kernel)) rfl rfl) (pa_cons (pe_lam1 B rfl hm hu (fb (sc := defScope s_law_calls) (by decide +kernel)) rfl rfl) (pa_cons (pe_lam1 B rfl hm hu (fb (sc := defScope s_law_calls) (by decide +kernel)) rfl rfl) pa_nil))))))
      (pse_cons (ps_set (i := 3) nd rfl (.inl rfl) (pe_op op_cat (pv 3) (pe_lst (pa_cons (pe_lam1 B rfl hm hu (fb (sc := defScope s_law_calls) (by decide +kernel)) rfl rfl) (pa_cons (pe_lam1 B rfl hm hu (fb (sc := defScope s_law_calls) (by decide +kernel)) rfl rfl) (pa_cons (pe_lam1 B rfl hm hu (fb (sc := defScope s_law_calls) (by decide +kernel)) rfl rfl) pa_nil))))))
      (pse_ret (pe_op op_cat (pv 3) (pe_lst (pa_cons (pe_lam1 B rfl hm hu (fb (sc := defScope s_law_calls) (by decide +kernel)) rfl rfl) (pa_cons (pe_lam1 B rfl hm hu (fb (sc := defScope s_law_calls) (by decide +kernel)) rfl rfl) (pa_cons (pe_lam1 B rfl hm hu (fb (sc := defScope s_law_calls) (by decide +kernel)) rfl rfl) pa_nil))))))))), ?_⟩
    have szd : ∀ n : Nat, n ≤ 16 → n ≤ sizeLine := fun n hn => by rw [sizeLine_eq]; omega
    refine ⟨hT, fun f0 H1 x1 t1 l0 => ⟨t1, fun f1 H2 x2 t2 l1 => ⟨t2, fun f2 H3 x3 t3 l2 => ⟨t3, fun f3 H4 x4 t4 l3 => ⟨(by show 4 ≤ sizeLine; decide), fun p1 hp1 => ?_⟩⟩⟩⟩⟩
    have L0 : LamsAt (upd H4 p1 (.lst [.ref f0, .ref f1, .ref f2, .ref f3])) (s.heap.objs.size + 1) [f0, f1, f2, f3] 0 :=
      ⟨IsLam.ext l0 (((x2.trans x3).trans x4).trans (extN_upd hp1)), IsLam.ext l1 ((x3.trans x4).trans (extN_upd hp1)), IsLam.ext l2 (x4.trans (extN_upd hp1)), IsLam.ext l3 (extN_upd hp1), trivial⟩
    have X0 : ExtN H (upd H4 p1 (.lst [.ref f0, .ref f1, .ref f2, .ref f3])) := (((x1.trans x2).trans x3).trans x4).trans (extN_upd hp1)
    have A0 : (upd H4 p1 (.lst [.ref f0, .ref f1, .ref f2, .ref f3])) p1 = some (.lst ([f0, f1, f2, f3].map V.ref)) := upd_same
    have T0 := tabs_upd (o := .lst [.ref f0, .ref f1, .ref f2, .ref f3]) t4 hp1
    generalize upd H4 p1 (.lst [.ref f0, .ref f1, .ref f2, .ref f3]) = G1 at L0 X0 A0 T0
    have grow : ∀ (G H1 H2 H3 : Hp) (fs : List Addr) (p q r : Addr) (a b c : Addr), LamsAt G (s.heap.objs.size + 1) fs 0 → ExtN H G → G p = some (.lst (fs.map V.ref)) → ExtN G H1 → IsLamI H1 (s.heap.objs.size + 1) fs.length a → ExtN H1 H2 → IsLamI H2 (s.heap.objs.size + 1) (fs.length + 1) b → ExtN H2 H3 → Tabs (tabL K) H3 → IsLamI H3 (s.heap.objs.size + 1) (fs.length + 2) c → H3 q = none →
        (upd H3 q (.lst [.ref a, .ref b, .ref c])) r = none → (upd H3 q (.lst [.ref a, .ref b, .ref c])) p = some (.lst (fs.map V.ref)) ∧ LamsAt (upd (upd H3 q (.lst [.ref a, .ref b, .ref c])) r (.lst (fs.map V.ref ++ [.ref a, .ref b, .ref c]))) (s.heap.objs.size + 1) (fs ++ [a, b, c]) 0 ∧
          ExtN H (upd (upd H3 q (.lst [.ref a, .ref b, .ref c])) r (.lst (fs.map V.ref ++ [.ref a, .ref b, .ref c]))) ∧ (upd (upd H3 q (.lst [.ref a, .ref b, .ref c])) r (.lst (fs.map V.ref ++ [.ref a, .ref b, .ref c]))) r = some (.lst ((fs ++ [a, b, c]).map V.ref)) ∧ Tabs (tabL K) (upd (upd H3 q (.lst [.ref a, .ref b, .ref c])) r (.lst (fs.map V.ref ++ [.ref a, .ref b, .ref c]))) := by
      intro G H1 H2 H3 fs p q r a b c hL hX hA y1 ha y2 hb y3 ht hc hq hr'
      have e1 : ExtN H3 (upd (upd H3 q (.lst [.ref a, .ref b, .ref c])) r (.lst (fs.map V.ref ++ [.ref a, .ref b, .ref c]))) := (extN_upd hq).trans (extN_upd hr')
      have y := (y1.trans y2).trans y3
      refine ⟨?_, ?_, (hX.trans y).trans e1, ?_, tabs_upd (tabs_upd ht hq) hr'⟩
      · exact (y.trans (extN_upd hq)) _ _ hA (fun ps z => by cases z)
      · have app : ∀ (fs : List Addr) (j : Nat), LamsAt (upd (upd H3 q (.lst [.ref a, .ref b, .ref c])) r (.lst (fs.map V.ref ++ [.ref a, .ref b, .ref c]))) (s.heap.objs.size + 1) fs j → True := fun _ _ _ => trivial
        have join : ∀ (HH : Hp) (gs : List Addr) (j : Nat), LamsAt HH (s.heap.objs.size + 1) gs j → IsLamI HH (s.heap.objs.size + 1) (j + gs.length) a → IsLamI HH (s.heap.objs.size + 1) (j + gs.length + 1) b → IsLamI HH (s.heap.objs.size + 1) (j + gs.length + 2) c → LamsAt HH (s.heap.objs.size + 1) (gs ++ [a, b, c]) j := by
          intro HH gs
          induction gs with
          | nil => intro j _ h1 h2 h3; exact ⟨h1, h2, h3, trivial⟩
          | cons g gs ih =>
            intro j h1 h2 h3 h4
            rw [List.length_cons] at h2 h3 h4
            refine ⟨h1.1, ih (j + 1) h1.2 ?_ ?_ ?_⟩
            · rw [show j + 1 + gs.length = j + (gs.length + 1) by omega]; exact h2
            · rw [show j + 1 + gs.length = j + (gs.length + 1) by omega]; exact h3
            · rw [show j + 1 + gs.length = j + (gs.length + 1) by omega]; exact h4
        refine join _ fs 0 (LamsAt.ext (y.trans e1) hL) ?_ ?_ ?_
        · rw [Nat.zero_add]; exact IsLam.ext ha ((y2.trans y3).trans e1)
        · rw [Nat.zero_add]; exact IsLam.ext hb (y3.trans e1)
        · rw [Nat.zero_add]; exact IsLam.ext hc e1
      · rw [upd_same, List.map_append]; rfl
    refine ⟨_, rfl, T0, fun a0_0 H1 y1 t1 m0 => ⟨t1, fun a0_1 H2 y2 t2 m1 => ⟨t2, fun a0_2 H3 y3 t3 m2 => ⟨(by show 3 ≤ sizeLine; decide), fun q1 hq1 => ?_⟩⟩⟩⟩
    refine ⟨p1, q1, ([f0, f1, f2, f3]).map V.ref, _, rfl, rfl, ((((y1.trans y2).trans y3).trans (extN_upd hq1)) _ _ A0 (fun ps z => by cases z)), upd_same, szd _ (by show 7 ≤ 16; decide), fun r0 hr0 => ?_⟩
    obtain ⟨_, L1, X1, A1, T1⟩ := grow G1 H1 H2 H3 ([f0, f1, f2, f3]) p1 q1 r0 a0_0 a0_1 a0_2 L0 X0 A0 y1 m0 y2 m1 y3 t3 m2 hq1 hr0
    generalize upd (upd H3 q1 (.lst [.ref a0_0, .ref a0_1, .ref a0_2])) r0 (.lst (([f0, f1, f2, f3]).map V.ref ++ [.ref a0_0, .ref a0_1, .ref a0_2])) = G2 at L1 X1 A1 T1 ⊢
    refine ⟨_, rfl, T1, fun a1_0 H1 y1 t1 m0 => ⟨t1, fun a1_1 H2 y2 t2 m1 => ⟨t2, fun a1_2 H3 y3 t3 m2 => ⟨(by show 3 ≤ sizeLine; decide), fun q1 hq1 => ?_⟩⟩⟩⟩
    refine ⟨r0, q1, ([f0, f1, f2, f3] ++ [a0_0, a0_1, a0_2]).map V.ref, _, rfl, rfl, ((((y1.trans y2).trans y3).trans (extN_upd hq1)) _ _ A1 (fun ps z => by cases z)), upd_same, szd _ (by show 10 ≤ 16; decide), fun r1 hr1 => ?_⟩
    obtain ⟨_, L2, X2, A2, T2⟩ := grow G2 H1 H2 H3 ([f0, f1, f2, f3] ++ [a0_0, a0_1, a0_2]) r0 q1 r1 a1_0 a1_1 a1_2 L1 X1 A1 y1 m0 y2 m1 y3 t3 m2 hq1 hr1
    generalize upd (upd H3 q1 (.lst [.ref a1_0, .ref a1_1, .ref a1_2])) r1 (.lst (([f0, f1, f2, f3] ++ [a0_0, a0_1, a0_2]).map V.ref ++ [.ref a1_0, .ref a1_1, .ref a1_2])) = G3 at L2 X2 A2 T2 ⊢
    refine ⟨_, rfl, T2, fun a2_0 H1 y1 t1 m0 => ⟨t1, fun a2_1 H2 y2 t2 m1 => ⟨t2, fun a2_2 H3 y3 t3 m2 => ⟨(by show 3 ≤ sizeLine; decide), fun q1 hq1 => ?_⟩⟩⟩⟩
    refine ⟨r1, q1, ([f0, f1, f2, f3] ++ [a0_0, a0_1, a0_2] ++ [a1_0, a1_1, a1_2]).map V.ref, _, rfl, rfl, ((((y1.trans y2).trans y3).trans (extN_upd hq1)) _ _ A2 (fun ps z => by cases z)), upd_same, szd _ (by show 13 ≤ 16; decide), fun r2 hr2 => ?_⟩
    obtain ⟨_, L3, X3, A3, T3⟩ := grow G3 H1 H2 H3 ([f0, f1, f2, f3] ++ [a0_0, a0_1, a0_2] ++ [a1_0, a1_1, a1_2]) r1 q1 r2 a2_0 a2_1 a2_2 L2 X2 A2 y1 m0 y2 m1 y3 t3 m2 hq1 hr2
    generalize upd (upd H3 q1 (.lst [.ref a2_0, .ref a2_1, .ref a2_2])) r2 (.lst (([f0, f1, f2, f3] ++ [a0_0, a0_1, a0_2] ++ [a1_0, a1_1, a1_2]).map V.ref ++ [.ref a2_0, .ref a2_1, .ref a2_2])) = G4 at L3 X3 A3 T3 ⊢
    refine ⟨_, rfl, T3, fun a3_0 H1 y1 t1 m0 => ⟨t1, fun a3_1 H2 y2 t2 m1 => ⟨t2, fun a3_2 H3 y3 t3 m2 => ⟨(by show 3 ≤ sizeLine; decide), fun q1 hq1 => ?_⟩⟩⟩⟩
    refine ⟨r2, q1, ([f0, f1, f2, f3] ++ [a0_0, a0_1, a0_2] ++ [a1_0, a1_1, a1_2] ++ [a2_0, a2_1, a2_2]).map V.ref, _, rfl, rfl, ((((y1.trans y2).trans y3).trans (extN_upd hq1)) _ _ A3 (fun ps z => by cases z)), upd_same, szd _ (by show 16 ≤ 16; decide), fun r3 hr3 => ?_⟩
    obtain ⟨_, L4, X4, A4, T4⟩ := grow G4 H1 H2 H3 ([f0, f1, f2, f3] ++ [a0_0, a0_1, a0_2] ++ [a1_0, a1_1, a1_2] ++ [a2_0, a2_1, a2_2]) r2 q1 r3 a3_0 a3_1 a3_2 L3 X3 A3 y1 m0 y2 m1 y3 t3 m2 hq1 hr3
    generalize upd (upd H3 q1 (.lst [.ref a3_0, .ref a3_1, .ref a3_2])) r3 (.lst (([f0, f1, f2, f3] ++ [a0_0, a0_1, a0_2] ++ [a1_0, a1_1, a1_2] ++ [a2_0, a2_1, a2_2]).map V.ref ++ [.ref a3_0, .ref a3_1, .ref a3_2])) = G5 at L4 X4 A4 T4 ⊢
    refine ⟨fun i zz e => ?_, fun cl free cells inj => k _ _ (X4.trans (ExtN.of (ext_trk free))) ⟨s.heap.objs.size + 1, _, ext_trk free _ _ A4, rfl, LamsAt.ext (ExtN.of (ext_trk free)) L4, ?_, ?_, ?_, inj⟩⟩
    · match i, e with
      | 0, e => exact congrArg some e
      | 1, e => exact congrArg some e
      | 2, e => exact congrArg some e
      | i + 3, e => simp at e
    · obtain ⟨a, h1, h2⟩ := cells 0 _ _ rfl rfl
      exact ⟨a, h1, trk_in h2⟩
    · obtain ⟨a, h1, h2⟩ := cells 1 _ _ rfl rfl
      exact ⟨a, h1, trk_in h2⟩
    · obtain ⟨a, h1, h2⟩ := cells 2 _ _ rfl rfl
      exact ⟨a, h1, trk_in h2⟩
end Hs

set_option Elab.async false
set_option linter.all false
set_option maxRecDepth 100000
set_option maxHeartbeats 4000000
/-! The sixteen lambdas, called. -/
namespace Hs
open PySem PySem.Spec PyProof.Rows L2
open Evl (Ex)
variable {P : Program} {w : World} {K : PySem.W.Frag} {mg : Str → Option Value} {base : Heap}
/-- what a call gives: data without lists; a new list of such; an error of this class -/
inductive Res where
  | d (x : PyData)
  | l (xs : List PyData)
  | x (n : Str)
def RetR (K : PySem.W.Frag) (H : Hp) (Q : VK) (E : XK) : Res → Prop
  | .d d => ∀ u H2, Ex H H2 → Dp K H2 u d → Q u H2
  | .l ds => ∀ p ys H2, H p = none → Ex H H2 → H2 p = some (.lst ys) → DpAll K H2 ys ds → Q (.ref p) H2
  | .x n => ∀ H2, Ex H H2 → E (.ref (He.ga K n)) none H2
theorem ex_back {cs : List Addr} {H H2 : Hp} (free : ∀ c ∈ cs, H2 c = none) : Ex H2 (back cs H H2) := fun a o h => by
  rw [back_out (fun z => by rw [free a z] at h; cases h)]; exact h
theorem ret_hide {cs : List Addr} {H : Hp} {Q : VK} {E : XK} : ∀ {r : Res}, RetR K H Q E r → RetR K (hide cs H) (fun v H' => (∀ c ∈ cs, H' c = none) → Q v (back cs H H')) (fun cls d H' => (∀ c ∈ cs, H' c = none) → E cls d (back cs H H')) r
  | .d d, h => fun u H2 e hd free => h u _ (back_ex e) (Dp.ex (ex_back free) hd)
  | .l ds, h => fun p ys H2 hp e h2 hd free => by
    have n : p ∉ cs := fun z => by rw [free p z] at h2; cases h2
    rw [hide_out n] at hp
    exact h p ys _ hp (back_ex e) (ex_back free _ _ h2) (DpAll.ex (ex_back free) hd)
  | .x n, h => fun H2 e free => h _ (back_ex e)
/-- what the names hold -/
def valN (x : Str) (v : V) (z : Int) (y : Str) : Option V := if y = "_law_work_here" then some (.str x) else if y = "_law_one" then some v else if y = "_law_n" then some (.int z) else none
/-- a lambda's parameters: none, or one with its default -/
def Parm (i : Nat) (ps : List Str) (vs : List V) : Prop := (i = 0 ∧ ps = [] ∧ vs = [] ∧ ∀ (q : Str) (cl : List (Str × Addr)) (doc pm cv ctv : Value), bindArgs (PySem.W.kdv_fn "<lambda>" q (lamArgs (lam i)) (.expr (lamBody (lam i))) (lamScope (lam i)) cl .none doc pm cv ctv) ⟨[], []⟩ = pure []) ∨
  (i ≠ 0 ∧ vs = [.int 0] ∧ ∃ p, ps = [p] ∧ ∀ (q : Str) (cl : List (Str × Addr)) (d : Addr) (doc pm cv ctv u : Value), ∃ k, bindArgs (PySem.W.kdv_fn "<lambda>" q (lamArgs (lam i)) (.expr (lamBody (lam i))) (lamScope (lam i)) cl (.ref d) doc pm cv ctv) ⟨[], []⟩ = seqItems? (.ref d) >>= k ∧ k (some #[u]) = pure [(p, u)])
theorem act_lam {k i n : Nat} {f : Addr} {H : Hp} {x : Str} {v : V} {z : Int} {c : Card} {Q : VK} {E : XK} {N ps fr : List Str} {vs ws : List V} {res : Res} {tb : XK → TE}
    (li : IsLamI H n i f) (c1 : ∃ c, (cellsL n).lookup ("_law_work_here" : Str) = some c ∧ H c = some (CellO c (.str x))) (c2 : ∃ c, (cellsL n).lookup ("_law_one" : Str) = some c ∧ H c = some (CellO c v)) (c3 : ∃ c, (cellsL n).lookup ("_law_n" : Str) = some c ∧ H c = some (CellO c (.int z)))
    (inj : ∀ y z a, (cellsL n).lookup y = some a → (cellsL n).lookup z = some a → y = z) (cd : Cd K H v c) (r : RetR K H Q E res)
    (S : NdefX.NScope N ps fr (lamScope (lam i))) (hp : Parm i ps vs) (len : ws.length = fr.length) (hw : ∀ (j : Nat) (y : Str), fr[j]? = some y → ∃ u, ws[j]? = some u ∧ valN x v z y = some u)
    (hfr : ((lamScope (lam i)).names.all fun y => !decide (y.2 = .free) || decide ((defScope s_law_calls).names.lookup y.1 = some .cell)) = true) (hin : (fr.all fun y => decide ((y, NameKind.free) ∈ (lamScope (lam i)).names)) = true)
    (hbody : ∀ (cl : List (Str × Addr)) (c' : Addr) (A : Around) (outer : List Env) (s : Shared) (Hh : Hp) (E' : XK), Room k (A.deeper (NdefX.envF ⟨"<lambda>", lamQ, lamArgs (lam i), [], lamScope (lam i), cl, c'⟩ f s.heap.objs.size)) →
      PE (NdefX.ncx (CX P w) P w K mg base N ⟨"<lambda>", lamQ, lamArgs (lam i), [], lamScope (lam i), cl, c'⟩ f A outer s Hh E') (lamBody (lam i)) (tb E'))
    (ht : ∀ (Hh : Hp) (Q' : VK) (E' : XK), Cd K Hh v c → RetR K Hh Q' E' res → tb E' (NdefX.startF N vs (ws.map some)) Hh Q') : Act P w K mg base (k + 1) f H Q E := by
  obtain ⟨c', dV, hf, hcO, hdv⟩ := li
  have z1 : H n = some (CellO n (.str x)) := by
    obtain ⟨a, e1, e2⟩ := c1
    have e : (cellsL n).lookup ("_law_work_here" : Str) = some n := rfl
    rw [e] at e1; cases e1; exact e2
  have z2 : H (n + 1) = some (CellO (n + 1) v) := by
    obtain ⟨a, e1, e2⟩ := c2
    have e : (cellsL n).lookup ("_law_one" : Str) = some (n + 1) := rfl
    rw [e] at e1; cases e1; exact e2
  have z3 : H (n + 1 + 1) = some (CellO (n + 1 + 1) (.int z)) := by
    obtain ⟨a, e1, e2⟩ := c3
    have e : (cellsL n).lookup ("_law_n" : Str) = some (n + 1 + 1) := rfl
    rw [e] at e1; cases e1; exact e2
  have mem : ∀ y a, (cellsL n).lookup y = some a → a ∈ [n, n + 1, n + 1 + 1] := fun y a e => by
    have m := PySem.mem_of_lookup e
    have el : cellsL n = [(("_law_n" : Str), n + 1 + 1), (("_law_one" : Str), n + 1), (("_law_work_here" : Str), n)] := rfl
    rw [el] at m
    simp only [List.mem_cons, List.not_mem_nil, or_false, Prod.mk.injEq] at m ⊢
    rcases m with ⟨_, m⟩ | ⟨_, m⟩ | ⟨_, m⟩
    · exact .inr (.inr m)
    · exact .inr (.inl m)
    · exact .inl m
  have hc : Cells [n, n + 1, n + 1 + 1] H := fun a ha => by
    simp only [List.mem_cons, List.not_mem_nil, or_false] at ha
    rcases ha with rfl | rfl | rfl
    · exact ⟨_, z1⟩
    · exact ⟨_, z2⟩
    · exact ⟨_, z3⟩
  have hfree : ∀ y ∈ (lamScope (lam i)).names, y.2 = .free → ∃ a, (cellsL n).lookup y.1 = some a := fun y hy e => cell_has (fb hfr y hy e)
  have hide_cd : Cd K (hide [n, n + 1, n + 1 + 1] H) v c := by
    obtain ⟨p, rfl, hp⟩ := cd
    refine ⟨p, rfl, exT_t (fun a u h m => ?_) hp⟩
    rw [hide_out]
    · exact h
    · intro q
      obtain ⟨v', e⟩ := hc a q
      rw [h] at e
      cases e
      exact m
  refine act_of (F := ⟨lamQ, lamArgs (lam i), lamBody (lam i), lamScope (lam i), cloFrom (cellsL n) (lamScope (lam i)).names [], dV, c'⟩) (vs := vs) (ws := ws) (cs := [n, n + 1, n + 1 + 1]) hf hcO S ?_ hc ?_ len ?_ ?_ ?_ (fun A outer s hr => hbody _ c' A outer s _ _ hr) (ht _ _ _ hide_cd (ret_hide r))
  · rcases hp with ⟨_, e1, e2, _⟩ | ⟨_, e2, p, e1, _⟩ <;> rw [e1, e2] <;> rfl
  · intro doc pm ctv s hok
    rcases hp with ⟨e0, e1, e2, hb⟩ | ⟨e0, e2, p, e1, hb⟩
    · subst e0 e1 e2
      have hdv : dV = .none := hdv
      subst hdv
      exact ⟨[], .nil, BindsTo.of_eq (hb _ _ _ _ _ _)⟩
    · subst e1 e2
      rw [decide_eq_true e0] at hdv
      obtain ⟨d, rfl, hd⟩ := hdv
      obtain ⟨_, its, rv, ob, ho, _, m, hs⟩ := hok d _ hd
      cases rv with
      | cons r0 rr =>
        cases rr
        rename_i u
        obtain ⟨k', h1, h2⟩ := hb lamQ (cloFrom (cellsL n) (lamScope (lam i)).names []) d doc pm (.ref c') ctv u
        exact ⟨[u], .cons r0 .nil, BindsTo.of_defaults rfl ho hs h1 h2⟩
  · exact fun y a e => mem y a (NdefX.clo_cm hfree e)
  · exact fun y y' a e e' => inj y y' a (NdefX.clo_cm hfree e) (NdefX.clo_cm hfree e')
  · intro j y hy
    obtain ⟨u, h1, h2⟩ := hw j y hy
    have hm : (y, NameKind.free) ∈ (lamScope (lam i)).names := of_decide_eq_true (List.all_eq_true.mp hin y (List.mem_of_getElem? hy))
    unfold valN at h2
    by_cases e1 : y = "_law_work_here"
    · rw [if_pos e1] at h2
      cases h2
      exact ⟨n, _, NdefX.clo_has hfree hm (by rw [e1]; rfl), h1, z1⟩
    · rw [if_neg e1] at h2
      by_cases e2 : y = "_law_one"
      · rw [if_pos e2] at h2
        cases h2
        exact ⟨n + 1, _, NdefX.clo_has hfree hm (by rw [e2]; rfl), h1, z2⟩
      · rw [if_neg e2] at h2
        by_cases e3 : y = "_law_n"
        · rw [if_pos e3] at h2
          cases h2
          exact ⟨n + 1 + 1, _, NdefX.clo_has hfree hm (by rw [e3]; rfl), h1, z3⟩
        · rw [if_neg e3] at h2; cases h2
end Hs

set_option Elab.async false
set_option linter.all false
set_option maxRecDepth 100000
set_option maxHeartbeats 4000000
/-! The sixteen lambdas, each. -/
namespace Hs
open PySem PySem.Spec PyProof.Rows L2
open Evl (Ex)
def tClx (sp : Sp) (E : XK) (t : TA) : TE := fun σ H Q => t σ H fun vs H1 => sp vs H1 Q E
/-- f(e, ..), f a def that may let an error out, in a lambda's body -/
theorem pcx {P : Program} {w : World} {K : PySem.W.Frag} {mg : Str → Option Value} {base : Heap} {N : List Str} {F : NdefX.NF} {g : Addr} {A : Around} {outer : List Env} {s : Shared} {H0 : Hp} {E : XK} {k j : Nat} {f : Addr} {ps : List Str} {sp : Sp} {x : Str} {p pos : Pos} {e : Expr} {es : List Expr} {t : TA}
    (D : Okx P w K mg base k f ps sp) (hr : Room j (A.deeper (NdefX.envF F g s.heap.objs.size))) (hm : mg x = some (.ref f)) (ha : PA (NdefX.ncx (CX P w) P w K mg base N F g A outer s H0 E) (e :: es) t) (hk : k ≤ j) (hg : Gl (NdefX.ncx (CX P w) P w K mg base N F g A outer s H0 E) x := by rfl) (hdb : (x == ("__debug__" : Str)) = false := by decide)
    (he : starEach (e :: es) (NdefX.ncx (CX P w) P w K mg base N F g A outer s H0 E).env = (false, eval e (NdefX.ncx (CX P w) P w K mg base N F g A outer s H0 E).env) :: starEach es (NdefX.ncx (CX P w) P w K mg base N F g A outer s H0 E).env := by rfl) (hpl : (backTo pos (starEach es (NdefX.ncx (CX P w) P w K mg base N F g A outer s H0 E).env)).any (·.1) = false := by rfl) :
    PE (NdefX.ncx (CX P w) P w K mg base N F g A outer s H0 E) (.Call (.Name x p) (e :: es) [] pos) (tClx sp E t) := by
  obtain ⟨fd, F0, b⟩ := D.ex
  have z := pe_call (X := NdefX.ncx (CX P w) P w K mg base N F g A outer s H0 E) (x := x) (p := p) (pos := pos) (E := E) (F0.mono hk) hr hg hm D.kp b .nil (passes_call (takes_of rfl rfl rfl rfl) fun cls d σ H h => h) ha hdb he hpl
  refine ⟨fun pins s σ H Q I h => z.run pins s σ H Q I ?_⟩
  show t σ H fun vs H1 => sp (vs ++ []) H1 Q E
  simp only [List.append_nil]
  exact h
def vD : V → PyData
  | .int i => .int i
  | _ => .none
theorem part_dp {K : PySem.W.Frag} {H : Hp} (c d : Card) : Dp K H (partF c d) (vD (partF c d)) := by
  unfold partF
  split
  · exact .int _
  · split
    · exact .int _
    · split
      · exact .int _
      · exact .non
def resF (x : Str) (c : Card) (z : Int) : Nat → Res
  | 0 => .d (.int (runF x.cps.toList z))
  | 1 => .d (cardF x.cps.toList).d
  | 2 => .d (.int (makeF c z))
  | 3 => .d (behindF c c).d
  | 4 => .d (oftenF c).d
  | 5 => .d (vD (partF c (cardF ("+" : Str).cps.toList)))
  | 6 => .d (.int (fewestF (mkF c)))
  | 7 => .d (.int (howmanyF (mkF c)))
  | 8 => if 400 < fewestF (mkF c) then .x "TooMany" else .d (.str ⟨(workF (mkF c)).toArray⟩)
  | 9 => if c.i = c.j ∧ (c.a + c.b) / two c.j = 0 then .d (.tuple [.int (c.b % two c.j), .int (two c.j)]) else .l ((if c.i = c.j then [] else (someF c).map fun y => y * two c.i + c.b).map PyData.int)
  | 10 => .d (atF c (triesF c) 0 z)
  | 11 => .d (leadF c z)
  | 12 => .d (undoneF c)
  | 13 => .d (.str (writtenF c))
  | 14 => .l [(⟨0, 0, 0, 1⟩ : Card).d]
  | 15 => if fewestF (mkF (cardF x.cps.toList)) < x.cps.toList.length then .x "Longer" else .d (.int (rankM (mkF (cardF x.cps.toList)) x.cps.toList))
  | _ => .d .none
section
variable {P : Program} {w : World} {K : PySem.W.Frag} {mg : Str → Option Value} {base : Heap} {H : Hp} {x : Str} {v : V} {z : Int} {c : Card} {Q : VK} {E : XK} {n : Nat} {f : Addr}
theorem val_w : valN x v z "_law_work_here" = some (.str x) := by unfold valN; rw [if_pos rfl]
theorem val_o : valN x v z "_law_one" = some v := by unfold valN; rw [if_neg (by decide), if_pos rfl]
theorem val_n : valN x v z "_law_n" = some (.int z) := by unfold valN; rw [if_neg (by decide), if_neg (by decide), if_pos rfl]
theorem hw0 : ∀ (j : Nat) (y : Str), ([] : List Str)[j]? = some y → ∃ u, ([] : List V)[j]? = some u ∧ valN x v z y = some u := fun j y e => by simp at e
theorem hw1 {a : Str} {u : V} (h : valN x v z a = some u) : ∀ (j : Nat) (y : Str), [a][j]? = some y → ∃ u', [u][j]? = some u' ∧ valN x v z y = some u'
  | 0, y, e => by
    have e : a = y := Option.some.inj e
    subst e
    exact ⟨u, rfl, h⟩
  | j + 1, y, e => by simp at e
theorem hw2 {a b : Str} {u t : V} (h : valN x v z a = some u) (h2 : valN x v z b = some t) : ∀ (j : Nat) (y : Str), [a, b][j]? = some y → ∃ u', [u, t][j]? = some u' ∧ valN x v z y = some u'
  | 0, y, e => by
    have e : a = y := Option.some.inj e
    subst e
    exact ⟨u, rfl, h⟩
  | 1, y, e => by
    have e : b = y := Option.some.inj e
    subst e
    exact ⟨t, rfl, h2⟩
  | j + 2, y, e => by simp at e
/-- the calls' cells -/
structure CellsAt3 (H : Hp) (n : Nat) (x : Str) (v : V) (z : Int) : Prop where
  c1 : ∃ c, (cellsL n).lookup ("_law_work_here" : Str) = some c ∧ H c = some (CellO c (.str x))
  c2 : ∃ c, (cellsL n).lookup ("_law_one" : Str) = some c ∧ H c = some (CellO c v)
  c3 : ∃ c, (cellsL n).lookup ("_law_n" : Str) = some c ∧ H c = some (CellO c (.int z))
  inj : ∀ y z a, (cellsL n).lookup y = some a → (cellsL n).lookup z = some a → y = z
theorem wk_plus : Wk "+" := by
  refine ⟨by decide +kernel, fun c h => ?_⟩
  rw [tx_plus] at h
  have h : c ∈ [43] := h
  exact .inl (List.mem_singleton.mp h)
theorem good_plus : Good (cardF ("+" : Str).cps.toList) := by
  rw [tx_plus]
  have e : cardF (⟨#[43]⟩ : Str).cps.toList = ⟨0, 0, 0, 1⟩ := by decide
  rw [e]
  exact ⟨by decide, by decide, by decide, by decide, by decide, by decide, ⟨by decide, by decide⟩⟩

theorem act0 (T : Top K mg) (li : IsLamI H n 0 f) (ce : CellsAt3 H n x v z) (cd : Cd K H v c) (wk : Wk x) (h9 : x.cps.size ≤ 9) (sm : Sm c) (far : Far z) (r : RetR K H Q E (resF x c z 0)) : Act P w K mg base 6 f H Q E := by
  refine act_lam (N := ["_law_work_here", "_law_n"]) (ps := []) (fr := ["_law_work_here", "_law_n"]) (vs := []) (ws := [.str x, .int z]) li ce.c1 ce.c2 ce.c3 ce.inj cd r (NdefX.nscope_by (by decide +kernel)) (.inl ⟨rfl, rfl, rfl, fun _ _ _ _ _ _ => rfl⟩) rfl (hw2 val_w val_n) (by decide +kernel) (by decide +kernel)
    (fun cl c' A outer s Hh E' hr => pc (ok_run (P := P) (w := w) (base := base) T) hr T.g_run (pa_cons (pv 0) (pa_cons (pv 1) pa_nil))) (fun Hh Q' E' cd r => ⟨_, rfl, _, rfl, x, z, rfl, wk, far, fun H2 e => r _ H2 e (.int _)⟩)

theorem act1 (T : Top K mg) (li : IsLamI H n 1 f) (ce : CellsAt3 H n x v z) (cd : Cd K H v c) (wk : Wk x) (h9 : x.cps.size ≤ 9) (sm : Sm c) (far : Far z) (r : RetR K H Q E (resF x c z 1)) : Act P w K mg base 6 f H Q E := by
  refine act_lam (N := ["_law_a", "_law_work_here"]) (ps := ["_law_a"]) (fr := ["_law_work_here"]) (vs := [.int 0]) (ws := [.str x]) li ce.c1 ce.c2 ce.c3 ce.inj cd r (NdefX.nscope_by (by decide +kernel)) (.inr ⟨by decide, rfl, _, rfl, fun _ _ _ _ _ _ _ _ => ⟨_, rfl, rfl⟩⟩) rfl (hw1 val_w) (by decide +kernel) (by decide +kernel)
    (fun cl c' A outer s Hh E' hr => pc (ok_card (P := P) (w := w) (base := base) T) hr T.g_card (pa_cons (pv 1) pa_nil)) (fun Hh Q' E' cd r => ⟨_, rfl, x, rfl, wk, fun v2 H2 e cd2 => r v2 H2 e cd2.dp⟩)

theorem act2 (T : Top K mg) (li : IsLamI H n 2 f) (ce : CellsAt3 H n x v z) (cd : Cd K H v c) (wk : Wk x) (h9 : x.cps.size ≤ 9) (sm : Sm c) (far : Far z) (r : RetR K H Q E (resF x c z 2)) : Act P w K mg base 6 f H Q E := by
  refine act_lam (N := ["_law_b", "_law_one", "_law_n"]) (ps := ["_law_b"]) (fr := ["_law_one", "_law_n"]) (vs := [.int 0]) (ws := [v, .int z]) li ce.c1 ce.c2 ce.c3 ce.inj cd r (NdefX.nscope_by (by decide +kernel)) (.inr ⟨by decide, rfl, _, rfl, fun _ _ _ _ _ _ _ _ => ⟨_, rfl, rfl⟩⟩) rfl (hw2 val_o val_n) (by decide +kernel) (by decide +kernel)
    (fun cl c' A outer s Hh E' hr => pc (ok_made (P := P) (w := w) (base := base) T) hr T.g_made (pa_cons (pv 1) (pa_cons (pv 2) pa_nil))) (fun Hh Q' E' cd r => ⟨_, rfl, _, rfl, v, c, z, rfl, cd, sm.good, far, r _ _ (Ex.refl _) (.int _)⟩)

theorem act3 (T : Top K mg) (li : IsLamI H n 3 f) (ce : CellsAt3 H n x v z) (cd : Cd K H v c) (wk : Wk x) (h9 : x.cps.size ≤ 9) (sm : Sm c) (far : Far z) (r : RetR K H Q E (resF x c z 3)) : Act P w K mg base 6 f H Q E := by
  refine act_lam (N := ["_law_c", "_law_one"]) (ps := ["_law_c"]) (fr := ["_law_one"]) (vs := [.int 0]) (ws := [v]) li ce.c1 ce.c2 ce.c3 ce.inj cd r (NdefX.nscope_by (by decide +kernel)) (.inr ⟨by decide, rfl, _, rfl, fun _ _ _ _ _ _ _ _ => ⟨_, rfl, rfl⟩⟩) rfl (hw1 val_o) (by decide +kernel) (by decide +kernel)
    (fun cl c' A outer s Hh E' hr => pc (ok_joined (P := P) (w := w) (base := base) T) hr T.g_joined (pa_cons (pv 1) (pa_cons (pv 1) pa_nil))) (fun Hh Q' E' cd r => ⟨_, rfl, _, rfl, v, v, c, c, rfl, cd, cd, sm, sm, fun v2 H2 e cd2 => r v2 H2 e cd2.dp⟩)

theorem act4 (T : Top K mg) (li : IsLamI H n 4 f) (ce : CellsAt3 H n x v z) (cd : Cd K H v c) (wk : Wk x) (h9 : x.cps.size ≤ 9) (sm : Sm c) (far : Far z) (r : RetR K H Q E (resF x c z 4)) : Act P w K mg base 6 f H Q E := by
  obtain ⟨fd, Fo, KB, kpo⟩ := ok_often (P := P) (w := w) (base := base) T
  refine act_lam (N := ["_law_e", "_law_one"]) (ps := ["_law_e"]) (fr := ["_law_one"]) (vs := [.int 0]) (ws := [v]) li ce.c1 ce.c2 ce.c3 ce.inj cd r (NdefX.nscope_by (by decide +kernel)) (.inr ⟨by decide, rfl, _, rfl, fun _ _ _ _ _ _ _ _ => ⟨_, rfl, rfl⟩⟩) rfl (hw1 val_o) (by decide +kernel) (by decide +kernel)
    (fun cl c' A outer s Hh E' hr => pe_callN (E := E0) Fo hr (by rfl) T.g_often kpo KB pass0 (pa_cons (pv 1) pa_nil) (pk_cons pe_int pk_nil)) (fun Hh Q' E' cd r => ⟨_, rfl, rfl, rfl, v, c, rfl, cd, sm, fun v2 H2 e cd2 => r v2 H2 e cd2.dp⟩)

theorem act5 (T : Top K mg) (li : IsLamI H n 5 f) (ce : CellsAt3 H n x v z) (cd : Cd K H v c) (wk : Wk x) (h9 : x.cps.size ≤ 9) (sm : Sm c) (far : Far z) (r : RetR K H Q E (resF x c z 5)) : Act P w K mg base 6 f H Q E := by
  refine act_lam (N := ["_law_f", "_law_one"]) (ps := ["_law_f"]) (fr := ["_law_one"]) (vs := [.int 0]) (ws := [v]) li ce.c1 ce.c2 ce.c3 ce.inj cd r (NdefX.nscope_by (by decide +kernel)) (.inr ⟨by decide, rfl, _, rfl, fun _ _ _ _ _ _ _ _ => ⟨_, rfl, rfl⟩⟩) rfl (hw1 val_o) (by decide +kernel) (by decide +kernel)
    (fun cl c' A outer s Hh E' hr => pc (ok_parting (P := P) (w := w) (base := base) T) hr T.g_parting (pa_cons (pv 1) (pa_cons (pc (ok_card (P := P) (w := w) (base := base) T) hr T.g_card (pa_cons pe_str pa_nil)) pa_nil))) (fun Hh Q' E' cd r => ⟨_, rfl, "+", rfl, wk_plus, fun v2 H2 e cd2 => ⟨v, v2, c, _, rfl, cd.ex e, cd2, sm.good, good_plus, r _ H2 e (part_dp _ _)⟩⟩)

theorem act6 (T : Top K mg) (li : IsLamI H n 6 f) (ce : CellsAt3 H n x v z) (cd : Cd K H v c) (wk : Wk x) (h9 : x.cps.size ≤ 9) (sm : Sm c) (far : Far z) (r : RetR K H Q E (resF x c z 6)) : Act P w K mg base 6 f H Q E := by
  refine act_lam (N := ["_law_g", "_law_one"]) (ps := ["_law_g"]) (fr := ["_law_one"]) (vs := [.int 0]) (ws := [v]) li ce.c1 ce.c2 ce.c3 ce.inj cd r (NdefX.nscope_by (by decide +kernel)) (.inr ⟨by decide, rfl, _, rfl, fun _ _ _ _ _ _ _ _ => ⟨_, rfl, rfl⟩⟩) rfl (hw1 val_o) (by decide +kernel) (by decide +kernel)
    (fun cl c' A outer s Hh E' hr => pc (ok_fewest (P := P) (w := w) (base := base) T) hr T.g_fewest (pa_cons (pv 1) pa_nil)) (fun Hh Q' E' cd r => ⟨_, rfl, v, c, rfl, cd, sm.good, fun H2 e => r _ H2 e (.int _)⟩)

theorem act7 (T : Top K mg) (li : IsLamI H n 7 f) (ce : CellsAt3 H n x v z) (cd : Cd K H v c) (wk : Wk x) (h9 : x.cps.size ≤ 9) (sm : Sm c) (far : Far z) (r : RetR K H Q E (resF x c z 7)) : Act P w K mg base 6 f H Q E := by
  refine act_lam (N := ["_law_h", "_law_one"]) (ps := ["_law_h"]) (fr := ["_law_one"]) (vs := [.int 0]) (ws := [v]) li ce.c1 ce.c2 ce.c3 ce.inj cd r (NdefX.nscope_by (by decide +kernel)) (.inr ⟨by decide, rfl, _, rfl, fun _ _ _ _ _ _ _ _ => ⟨_, rfl, rfl⟩⟩) rfl (hw1 val_o) (by decide +kernel) (by decide +kernel)
    (fun cl c' A outer s Hh E' hr => pc (ok_how_many (P := P) (w := w) (base := base) T) hr T.g_how_many (pa_cons (pv 1) pa_nil)) (fun Hh Q' E' cd r => ⟨_, rfl, v, c, rfl, cd, sm.good, fun H2 e => r _ H2 e (.int _)⟩)

theorem act8 (T : Top K mg) (li : IsLamI H n 8 f) (ce : CellsAt3 H n x v z) (cd : Cd K H v c) (wk : Wk x) (h9 : x.cps.size ≤ 9) (sm : Sm c) (far : Far z) (r : RetR K H Q E (resF x c z 8)) : Act P w K mg base 6 f H Q E := by
  refine act_lam (N := ["_law_i", "_law_one"]) (ps := ["_law_i"]) (fr := ["_law_one"]) (vs := [.int 0]) (ws := [v]) li ce.c1 ce.c2 ce.c3 ce.inj cd r (NdefX.nscope_by (by decide +kernel)) (.inr ⟨by decide, rfl, _, rfl, fun _ _ _ _ _ _ _ _ => ⟨_, rfl, rfl⟩⟩) rfl (hw1 val_o) (by decide +kernel) (by decide +kernel)
    (fun cl c' A outer s Hh E' hr => pcx (ok_work_at (P := P) (w := w) (base := base) T) hr T.g_work_at (pa_cons (pv 1) (pa_cons pe_int pa_nil)) (by decide)) (fun Hh Q' E' cd r => ⟨_, rfl, v, c, rfl, cd, sm.good, fun H2 e => ⟨fun h => ?_, fun h => ?_⟩⟩)
  · have r : RetR K Hh Q' E' (if 400 < fewestF (mkF c) then .x "TooMany" else .d (.str ⟨(workF (mkF c)).toArray⟩)) := r
    rw [if_pos h] at r
    exact r H2 e
  · have r : RetR K Hh Q' E' (if 400 < fewestF (mkF c) then .x "TooMany" else .d (.str ⟨(workF (mkF c)).toArray⟩)) := r
    rw [if_neg h] at r
    exact r _ H2 e (.str _)

theorem act9 (T : Top K mg) (li : IsLamI H n 9 f) (ce : CellsAt3 H n x v z) (cd : Cd K H v c) (wk : Wk x) (h9 : x.cps.size ≤ 9) (sm : Sm c) (far : Far z) (r : RetR K H Q E (resF x c z 9)) : Act P w K mg base 6 f H Q E := by
  refine act_lam (N := ["_law_j", "_law_one"]) (ps := ["_law_j"]) (fr := ["_law_one"]) (vs := [.int 0]) (ws := [v]) li ce.c1 ce.c2 ce.c3 ce.inj cd r (NdefX.nscope_by (by decide +kernel)) (.inr ⟨by decide, rfl, _, rfl, fun _ _ _ _ _ _ _ _ => ⟨_, rfl, rfl⟩⟩) rfl (hw1 val_o) (by decide +kernel) (by decide +kernel)
    (fun cl c' A outer s Hh E' hr => pc (ok_stays (P := P) (w := w) (base := base) T) hr T.g_stays (pa_cons (pv 1) pa_nil)) (fun Hh Q' E' cd r => ⟨_, rfl, v, c, rfl, cd, sm, fun h p H2 hp e h2 => ?_, fun h p H2 hp e h2 => ?_⟩)
  · have r : RetR K Hh Q' E' (if c.i = c.j ∧ (c.a + c.b) / two c.j = 0 then .d (.tuple [.int (c.b % two c.j), .int (two c.j)]) else .l ((if c.i = c.j then [] else (someF c).map fun y => y * two c.i + c.b).map PyData.int)) := r
    rw [if_pos h] at r
    exact r _ H2 e (.tup (SqT.of h2) (.cons (.int _) (.cons (.int _) .nil)))
  · have r : RetR K Hh Q' E' (if c.i = c.j ∧ (c.a + c.b) / two c.j = 0 then .d (.tuple [.int (c.b % two c.j), .int (two c.j)]) else .l ((if c.i = c.j then [] else (someF c).map fun y => y * two c.i + c.b).map PyData.int)) := r
    rw [if_neg h] at r
    refine r p _ H2 hp e h2 ?_
    by_cases q : c.i = c.j
    · rw [if_pos q, if_pos q]; exact .nil
    · rw [if_neg q, if_neg q]
      have z := dints' (K := K) (H := H2) ((someF c).map fun y => y * two c.i + c.b)
      rw [List.map_map] at z
      exact z

theorem act10 (T : Top K mg) (li : IsLamI H n 10 f) (ce : CellsAt3 H n x v z) (cd : Cd K H v c) (wk : Wk x) (h9 : x.cps.size ≤ 9) (sm : Sm c) (far : Far z) (r : RetR K H Q E (resF x c z 10)) : Act P w K mg base 6 f H Q E := by
  refine act_lam (N := ["_law_k", "_law_one", "_law_n"]) (ps := ["_law_k"]) (fr := ["_law_one", "_law_n"]) (vs := [.int 0]) (ws := [v, .int z]) li ce.c1 ce.c2 ce.c3 ce.inj cd r (NdefX.nscope_by (by decide +kernel)) (.inr ⟨by decide, rfl, _, rfl, fun _ _ _ _ _ _ _ _ => ⟨_, rfl, rfl⟩⟩) rfl (hw2 val_o val_n) (by decide +kernel) (by decide +kernel)
    (fun cl c' A outer s Hh E' hr => pc (ok_at_last (P := P) (w := w) (base := base) T) hr T.g_at_last (pa_cons (pv 1) (pa_cons (pv 2) pa_nil))) (fun Hh Q' E' cd r => ⟨_, rfl, _, rfl, v, c, z, rfl, cd, sm, far, r⟩)

theorem act11 (T : Top K mg) (li : IsLamI H n 11 f) (ce : CellsAt3 H n x v z) (cd : Cd K H v c) (wk : Wk x) (h9 : x.cps.size ≤ 9) (sm : Sm c) (far : Far z) (r : RetR K H Q E (resF x c z 11)) : Act P w K mg base 6 f H Q E := by
  refine act_lam (N := ["_law_m", "_law_one", "_law_n"]) (ps := ["_law_m"]) (fr := ["_law_one", "_law_n"]) (vs := [.int 0]) (ws := [v, .int z]) li ce.c1 ce.c2 ce.c3 ce.inj cd r (NdefX.nscope_by (by decide +kernel)) (.inr ⟨by decide, rfl, _, rfl, fun _ _ _ _ _ _ _ _ => ⟨_, rfl, rfl⟩⟩) rfl (hw2 val_o val_n) (by decide +kernel) (by decide +kernel)
    (fun cl c' A outer s Hh E' hr => pc (ok_leading (P := P) (w := w) (base := base) T) hr T.g_leading (pa_cons (pv 1) (pa_cons (pv 2) pa_nil))) (fun Hh Q' E' cd r => ⟨_, rfl, _, rfl, v, c, z, rfl, cd, sm.good, far, r⟩)

theorem act12 (T : Top K mg) (li : IsLamI H n 12 f) (ce : CellsAt3 H n x v z) (cd : Cd K H v c) (wk : Wk x) (h9 : x.cps.size ≤ 9) (sm : Sm c) (far : Far z) (r : RetR K H Q E (resF x c z 12)) : Act P w K mg base 6 f H Q E := by
  refine act_lam (N := ["_law_o", "_law_one"]) (ps := ["_law_o"]) (fr := ["_law_one"]) (vs := [.int 0]) (ws := [v]) li ce.c1 ce.c2 ce.c3 ce.inj cd r (NdefX.nscope_by (by decide +kernel)) (.inr ⟨by decide, rfl, _, rfl, fun _ _ _ _ _ _ _ _ => ⟨_, rfl, rfl⟩⟩) rfl (hw1 val_o) (by decide +kernel) (by decide +kernel)
    (fun cl c' A outer s Hh E' hr => pc (ok_undone (P := P) (w := w) (base := base) T) hr T.g_undone (pa_cons (pv 1) pa_nil)) (fun Hh Q' E' cd r => ⟨_, rfl, v, c, rfl, cd, sm.good, r⟩)

theorem act13 (T : Top K mg) (li : IsLamI H n 13 f) (ce : CellsAt3 H n x v z) (cd : Cd K H v c) (wk : Wk x) (h9 : x.cps.size ≤ 9) (sm : Sm c) (far : Far z) (r : RetR K H Q E (resF x c z 13)) : Act P w K mg base 6 f H Q E := by
  refine act_lam (N := ["_law_p", "_law_one"]) (ps := ["_law_p"]) (fr := ["_law_one"]) (vs := [.int 0]) (ws := [v]) li ce.c1 ce.c2 ce.c3 ce.inj cd r (NdefX.nscope_by (by decide +kernel)) (.inr ⟨by decide, rfl, _, rfl, fun _ _ _ _ _ _ _ _ => ⟨_, rfl, rfl⟩⟩) rfl (hw1 val_o) (by decide +kernel) (by decide +kernel)
    (fun cl c' A outer s Hh E' hr => pc (ok_written (P := P) (w := w) (base := base) T) hr T.g_written (pa_cons (pe_lst (pa_cons (pv 1) pa_nil)) pa_nil)) (fun Hh Q' E' cd r => ⟨_, rfl, (by show 1 ≤ sizeLine; decide), fun l hl => ⟨l, v, c, rfl, upd_same, cd.ex (Ex.new hl), sm.good, fun H2 e => r _ H2 ((Ex.new hl).trans e) (.str _)⟩⟩)

theorem act14 (T : Top K mg) (li : IsLamI H n 14 f) (ce : CellsAt3 H n x v z) (cd : Cd K H v c) (wk : Wk x) (h9 : x.cps.size ≤ 9) (sm : Sm c) (far : Far z) (r : RetR K H Q E (resF x c z 14)) : Act P w K mg base 6 f H Q E := by
  refine act_lam (N := ["_law_q"]) (ps := ["_law_q"]) (fr := []) (vs := [.int 0]) (ws := []) li ce.c1 ce.c2 ce.c3 ce.inj cd r (NdefX.nscope_by (by decide +kernel)) (.inr ⟨by decide, rfl, _, rfl, fun _ _ _ _ _ _ _ _ => ⟨_, rfl, rfl⟩⟩) rfl (hw0) (by decide +kernel) (by decide +kernel)
    (fun cl c' A outer s Hh E' hr => pc (ok_read (P := P) (w := w) (base := base) T) hr T.g_read (pa_cons pe_str pa_nil)) (fun Hh Q' E' cd r => ⟨rfl, fun p t H2 hp e h2 ht => r p _ H2 hp e h2 (.cons (.tup (SqT.of ht) (.cons (.int _) (.cons (.int _) (.cons (.int _) (.cons (.int _) .nil))))) .nil)⟩)

theorem act15 (T : Top K mg) (li : IsLamI H n 15 f) (ce : CellsAt3 H n x v z) (cd : Cd K H v c) (wk : Wk x) (h9 : x.cps.size ≤ 9) (sm : Sm c) (far : Far z) (r : RetR K H Q E (resF x c z 15)) : Act P w K mg base 6 f H Q E := by
  refine act_lam (N := ["_law_r", "_law_work_here"]) (ps := ["_law_r"]) (fr := ["_law_work_here"]) (vs := [.int 0]) (ws := [.str x]) li ce.c1 ce.c2 ce.c3 ce.inj cd r (NdefX.nscope_by (by decide +kernel)) (.inr ⟨by decide, rfl, _, rfl, fun _ _ _ _ _ _ _ _ => ⟨_, rfl, rfl⟩⟩) rfl (hw1 val_w) (by decide +kernel) (by decide +kernel)
    (fun cl c' A outer s Hh E' hr => pcx (ok_number_of (P := P) (w := w) (base := base) T) hr T.g_number_of (pa_cons (pv 1) pa_nil) (by decide)) (fun Hh Q' E' cd r => ⟨_, rfl, x, rfl, wk, h9, fun H2 e => ⟨fun h => ?_, fun h => ?_⟩⟩)
  · have r : RetR K Hh Q' E' (if fewestF (mkF (cardF x.cps.toList)) < x.cps.toList.length then .x "Longer" else .d (.int (rankM (mkF (cardF x.cps.toList)) x.cps.toList))) := r
    rw [if_pos h] at r
    exact r H2 e
  · have r : RetR K Hh Q' E' (if fewestF (mkF (cardF x.cps.toList)) < x.cps.toList.length then .x "Longer" else .d (.int (rankM (mkF (cardF x.cps.toList)) x.cps.toList))) := r
    rw [if_neg h] at r
    exact r _ H2 e (.int _)

theorem act_all (T : Top K mg) {i : Nat} (hi : i < 16) (li : IsLamI H n i f) (ce : CellsAt3 H n x v z) (cd : Cd K H v c) (wk : Wk x) (h9 : x.cps.size ≤ 9) (sm : Sm c) (far : Far z) (r : RetR K H Q E (resF x c z i)) : Act P w K mg base 6 f H Q E := by
  match i, hi, li, r with
  | 0, _, li, r => exact act0 T li ce cd wk h9 sm far r
  | 1, _, li, r => exact act1 T li ce cd wk h9 sm far r
  | 2, _, li, r => exact act2 T li ce cd wk h9 sm far r
  | 3, _, li, r => exact act3 T li ce cd wk h9 sm far r
  | 4, _, li, r => exact act4 T li ce cd wk h9 sm far r
  | 5, _, li, r => exact act5 T li ce cd wk h9 sm far r
  | 6, _, li, r => exact act6 T li ce cd wk h9 sm far r
  | 7, _, li, r => exact act7 T li ce cd wk h9 sm far r
  | 8, _, li, r => exact act8 T li ce cd wk h9 sm far r
  | 9, _, li, r => exact act9 T li ce cd wk h9 sm far r
  | 10, _, li, r => exact act10 T li ce cd wk h9 sm far r
  | 11, _, li, r => exact act11 T li ce cd wk h9 sm far r
  | 12, _, li, r => exact act12 T li ce cd wk h9 sm far r
  | 13, _, li, r => exact act13 T li ce cd wk h9 sm far r
  | 14, _, li, r => exact act14 T li ce cd wk h9 sm far r
  | 15, _, li, r => exact act15 T li ce cd wk h9 sm far r
  | i + 16, hi, _, _ => exact absurd hi (by omega)
end
end Hs

set_option Elab.async false
set_option linter.all false
set_option maxRecDepth 100000
set_option maxHeartbeats 4000000
/-! _law_told. -/
namespace Hs
open PySem PySem.Spec PyProof.Rows L2
open Evl (Ex)
/-! ### xs.count(True) -/
def rCntB (K : PySem.W.Frag) : V → List V → Hp → VK → Prop := fun x xs H Q => ∃ (p : Addr) (bs : List Bool), x = .ref p ∧ xs = [.bl true] ∧ SqL K H p (bs.map V.bl) ∧ Q (.int (bs.count true : Nat)) H
theorem bl_data {K : PySem.W.Frag} {H : Hp} : ∀ bs : List Bool, DpAll K H (bs.map V.bl) (bs.map PyData.bool)
  | [] => .nil
  | b :: bs => .cons (.bl b) (bl_data bs)
theorem bl_lay : ∀ bs : List Bool, PyData.canLayAll0 (bs.map PyData.bool) = true ∧ PyData.depthAll (bs.map PyData.bool) = 0
  | [] => ⟨rfl, rfl⟩
  | b :: bs => by
    obtain ⟨h1, h2⟩ := bl_lay bs
    refine ⟨by simp [PyData.canLayAll0, PyData.canLay0, h1], ?_⟩
    show max 0 (PyData.depthAll (bs.map PyData.bool)) = 0
    rw [h2]; rfl
theorem mt_countB {X : Cx} (hu : X.A.units + 65 < cLine) : MtR X "list.count" (rCntB X.K) := by
  intro pins s σ H x xs v us Q I rx rxs h
  obtain ⟨p, bs, rfl, rfl, hs, q⟩ := h
  cases rx
  obtain ⟨u, rfl, ru⟩ := rxs.one
  cases ru
  obtain ⟨its, rv, ⟨⟨cls, dd, data, sl⟩, n, ho, hc, hdn, hd⟩, hlen⟩ := I.list hs
  simp only at hc hd
  subst hc hd
  obtain ⟨as, h4⟩ := Dp.readsAll I _ _ its (bl_data (K := X.K) (H := H) bs) rv
  obtain ⟨l1, l2⟩ := bl_lay bs
  have hmap : its.map (SeqAt.readOf s.heap) = bs.map PyData.bool := SeqAt.readsAll_map _ its as l1 h4
  refine call_meets PySem.F.slot_list_count ⟨_, ho, rfl⟩ PySem.F.entry_list_count (PySem.F.args_list_count_2 _ _)
    (SeqAt.list_countAt p its.toArray n dd sl (.bool true) (fun y => PyData.eqv (SeqAt.readOf s.heap y) (.bool true))) ⟨ho, SeqAt.items_eqAt (vs := its.toArray) (show ReadsAll s.heap its.toArray.toList _ as from h4) (Reads.bool true) l1 rfl (by rw [l2]; show X.A.units + 1 + min 0 _ < cLine; omega), ?_⟩
  have ec : its.toArray.toList.countP (fun y => PyData.eqv (SeqAt.readOf s.heap y) (.bool true)) = bs.count true := by
    show its.countP ((fun d => PyData.eqv d (.bool true)) ∘ SeqAt.readOf s.heap) = _
    rw [← List.countP_map, hmap, List.countP_map]
    unfold List.count
    refine congrArg (fun g => List.countP g bs) (funext fun b => ?_)
    cases b <;> rfl
  refine ⟨.int (bs.count true : Nat), H, I.tok _, ⟨s.toks, ?_⟩, q⟩
  show Value.int ((its.toArray.toList.countP (fun y => PyData.eqv (SeqAt.readOf s.heap y) (.bool true)) : Nat) : Int) s.toks = _
  rw [ec]
/-! ### the call, within try -/
def tActW (X : Cx) (k i : Nat) (W : WX) : TE := fun σ H Q => ∃ f, σ[i]? = some (some (.ref f)) ∧ Act X.prog X.w X.K X.mg X.base k f H Q fun cls d H' => W cls d σ H'
theorem pe_actW {X : Cx} {k j i : Nat} {W : WX} {x : Str} {p pos : Pos} (hr : Room j X.A) (hk : k ≤ j) (tk : Takes X W) (hN : X.N[i]? = some x) (hv : Vis X.env.scope x) (hd : (x == ("__debug__" : Str)) = false := by decide) (hcd : (x == ("__classdict__" : Str)) = false := by decide) :
    PE X (.Call (.Name x p) [] [] pos) (tActW X k i W) := by
  refine ⟨fun pins s σ H Q I h => ?_⟩
  obtain ⟨f, hs, ⟨F, hf⟩, hrun⟩ := h
  refine wpAny_Call_Name_kw (thn ((pe_var (pos := p) hN hv hd hcd).run pins s σ H (fun v H1 => v = .ref f ∧ H1 = H) I ⟨.ref f, hs, rfl, rfl⟩) fun u s1 ⟨v, H1, I1, r1, q1⟩ => ?_)
  obtain ⟨ev, eH⟩ := q1
  subst ev
  rw [eH] at I1
  obtain rfl : u = Value.ref f := r1
  obtain ⟨⟨od, sl, doc, pm, ctv, ho⟩, _, _⟩ := I1.hok f _ hf
  refine PySem.W.callWith_F0 ⟨_, _, _, _, ho⟩ ?_
  refine wpAny_call (codeAny_mono (hrun X.A X.stack s1 (hr.mono hk) I1.env0) fun r s' hq => ?_)
  cases r with
  | error e => exact tk e s' (XE.of_call I1 (fun _ _ _ h => h) hq)
  | ok fl =>
    cases fl with
    | ret u => exact I1.after hq
    | next => exact False.elim hq
    | brk => exact False.elim hq
    | cont => exact False.elim hq
/-! ### isinstance of what is caught -/
def rIsC (K : PySem.W.Frag) (a : Addr) (cls : Value) (d : Option Addr) : List V → Hp → VK → Prop := fun xs H Q => ∃ D, cls = .ref D ∧ d = none ∧ ExcC K D ∧ rIsE K D a xs H Q
theorem call_isC {X : Cx} {a : Addr} {cls : Value} {d : Option Addr} {oe : Obj} {pn : List (Addr × Obj)} (hz : Zc cls d oe) (hf : ∃ vs, oe.data = .fields vs) : CallR (X.suite a ((a, oe) :: pn)) (.builtin "isinstance") (rIsC X.K a cls d) := by
  intro pins s σ H xs us Q I r h
  obtain ⟨D, rfl, rfl, C, h⟩ := h
  exact call_isE C hz hf pins s σ H xs us Q I r h
theorem pe_bmK {X : Cx} {K : PySem.W.Frag} {o e : Expr} {es : List Expr} {to : TE} {t : TA} {name : Str} {apos cpos : Pos} {T id : String} {r : V → List V → Hp → VK → Prop} (hK : X.K = K) (pa : PlainAttrs T) (slot : Slot T name id) (hty : typeOf (.builtin id) = pure (.type "method_descriptor")) (hm : MtR X id r) (ho : PE X o to) (ha : PA X (e :: es) t)
    (hbase : attributeBase o name X.env (eval o X.env) = eval o X.env := by rfl)
    (hfew : ((backTo cpos (starEach (e :: es) X.env)).all (fun x => !x.1) && (backToKw cpos (keywordEach [] X.env)).all (fun x => x.1.isSome) && decide ((e :: es).length + ([] : List Keyword).length + (if ([] : List Keyword).isEmpty then 0 else 1) < 30)) = true := by rfl)
    (hline : (apos.endLine == cpos.line) = true := by rfl) (hs : starEach (e :: es) X.env = (false, eval e X.env) :: starEach es X.env := by rfl) (hplain : (backTo cpos (starEach es X.env)).any (·.1) = false := by rfl) :
    PE X (.Call (.Attribute o name apos) (e :: es) [] cpos) (tBM K T r to t) := by
  subst hK
  exact pe_bm pa slot hty hm ho ha hbase hfew hline hs hplain
theorem pe_never {X : Cx} {e : Expr} : PE X e (fun _ _ _ => False) := ⟨fun _ _ _ _ _ _ h => h.elim⟩
/-! ### told -/
def toldR : Res → Res
  | .d d => .d d
  | .l ds => .l ds
  | .x n => .d (.tuple [.str "refused", .str n])
def OkRes : Res → Prop
  | .x n => n = "TooMany" ∨ n = "Longer"
  | _ => True
theorem exc_of {K : PySem.W.Frag} {D : Str} (h : excB K D = true) : ExcC K (He.ga K D) := by
  unfold excB at h
  simp only [Bool.and_eq_true, decide_eq_true_eq] at h
  obtain ⟨⟨⟨⟨⟨⟨⟨h1, h2⟩, h3⟩, h4⟩, h5⟩, h6⟩, h7⟩, h8⟩ := h
  exact ⟨of_decide_eq_true h1, of_decide_eq_true h2, h3, h4, of_decide_eq_true h5, of_decide_eq_true h6, h7, h8⟩
theorem kind_of {K : PySem.W.Frag} {D : Str} {cs : List (Str × Bool)} (h : kindB K D cs = true) {q : Str × Bool} (hq : q ∈ cs) : PySem.W.kitOne K (.ref (He.ga K D)) (.ref (He.ga K q.1)) = some q.2 := of_decide_eq_true (List.all_eq_true.mp h q hq)
variable {P : Program} {w : World} {K : PySem.W.Frag} {mg : Str → Option Value} {base : Heap}
abbrev N_told : List Str := ["_law_work_here", "_law_e", "_law_some", "_law_terms", "_law_term"]
theorem sc_told : FnScope N_told ["_law_work_here"] (defScope s_law_told) := ⟨rfl, rfl, rfl, by decide +kernel, rfl, by decide +kernel, by decide +kernel⟩
def sp_told (P : Program) (w : World) (K : PySem.W.Frag) (mg : Str → Option Value) (base : Heap) : Sp := fun vs H Q _ => ∃ (f : Addr) (res : Res), vs = [.ref f] ∧ OkRes res ∧ (∀ (Q' : VK) (E' : XK), RetR K H Q' E' res → Act P w K mg base 6 f H Q' E') ∧ RetR K H Q E0 (toldR res)
/-- the eight answers, the term -/
def kindsOf (n : Str) : List (Str × Bool) := if n = "TooMany" then isTooMany else isLonger
theorem ok_told (T : Top K mg) : Okd P w K mg base 7 (He.ga K "_law_told") ["_law_work_here"] (sp_told P w K mg base) := by
  refine okd_of T.fd_law_told sc_told (fun vs H Q E h => ?_) (fun _ _ _ _ _ _ us hl => match us, hl with | [_], _ => rfl) (fun cdv A outer s H vs Q E hr h => ?_)
  · obtain ⟨_, _, rfl, _⟩ := h; rfl
  · obtain ⟨f, res, rfl, okr, act, k⟩ := h
    have nd := sc_told.nd
    have hu65 : ∀ (B : Around), B.units = (A.deeper (envOfC "_law_told" (defScope s_law_told) s.heap.objs.size (He.ga K "_law_told") cdv)).units → B.units + 65 < cLine := fun B e => by
      have := hr.un
      rw [e]
      omega
    refine ⟨_, pss_one (ps_try_as (i := 1) (tb := fun W => tRet (tActW (cxOf CX0 P w K mg base N_told "_law_told" (defScope s_law_told) (He.ga K "_law_told") cdv A outer s H E).nox 6 0 W)) rfl rfl nd rfl rfl ⟨rfl, by decide, .inl T.g_HalfError⟩ takes0
      (fun W pn xe tk _ => pss_one (ps_ret (pe_actW (i := 0) hr (by decide) tk rfl (Or.inl rfl))))
      (fun a oe cls d pn hz hf => pss_cons (ps_set (i := 2) nd rfl (.inl rfl) (pe_lst
          (pa_cons (pe_callB (call_isC hz hf) (by rfl) T.f_isinstance (by decide +kernel) (pa_cons (pv 1) (pa_cons (pgr T.g_BadWork) pa_nil)))
          (pa_cons (pe_callB (call_isC hz hf) (by rfl) T.f_isinstance (by decide +kernel) (pa_cons (pv 1) (pa_cons (pgr T.g_BadNumber) pa_nil)))
          (pa_cons (pe_callB (call_isC hz hf) (by rfl) T.f_isinstance (by decide +kernel) (pa_cons (pv 1) (pa_cons (pgr T.g_BadCard) pa_nil)))
          (pa_cons (pe_callB (call_isC hz hf) (by rfl) T.f_isinstance (by decide +kernel) (pa_cons (pv 1) (pa_cons (pgr T.g_BadCount) pa_nil))) pa_nil))))))
        (pss_cons (ps_set (i := 2) nd rfl (.inl rfl) (pe_op op_cat (pv 2) (pe_lst
          (pa_cons (pe_callB (call_isC hz hf) (by rfl) T.f_isinstance (by decide +kernel) (pa_cons (pv 1) (pa_cons (pgr T.g_TooMany) pa_nil)))
          (pa_cons (pe_callB (call_isC hz hf) (by rfl) T.f_isinstance (by decide +kernel) (pa_cons (pv 1) (pa_cons (pgr T.g_Longer) pa_nil)))
          (pa_cons (pe_callB (call_isC hz hf) (by rfl) T.f_isinstance (by decide +kernel) (pa_cons (pv 1) (pa_cons (pgr T.g_BadDeed) pa_nil)))
          (pa_cons (pe_callB (call_isC hz hf) (by rfl) T.f_isinstance (by decide +kernel) (pa_cons (pv 1) (pa_cons (pgr T.g_BadText) pa_nil))) pa_nil)))))))
        (pss_cons (ps_set (i := 3) nd rfl (.inl rfl) (pe_lst (pa_cons pe_str (pa_cons pe_str (pa_cons pe_str (pa_cons pe_str (pa_cons pe_str (pa_cons pe_str (pa_cons pe_str (pa_cons pe_str pa_nil))))))))))
        (pss_cons (ps_set (i := 4) nd rfl (.inl rfl) (pe_ifExp (pt_cmpR op_eq (pe_bmK (K := K) (r := rCntB K) rfl PySem.F.plainAttrs_list PySem.F.slot_list_count PySem.F.type_list_count (by exact mt_countB (hu65 _ rfl)) (pv 2) (pa_cons pe_bl pa_nil)) pe_int (nomark _))
          (pe_ix (r := rIxL K) (by exact ix_list) (pv 3) (pe_bmK (K := K) (r := rIndex K) rfl PySem.F.plainAttrs_list PySem.F.slot_list_index PySem.F.type_list_index (by exact mt_index) (pv 2) (pa_cons pe_bl pa_nil)) (fun _ _ => rfl)) pe_str))
        (pss_cons (ps_if (pt_cmpR op_eq (pv 4) pe_str (nomark _)) pss_never pss_nil)
        (pss_cons (ps_if (pt_cmpR op_eq (pv 4) pe_str (nomark _)) pss_never pss_nil)
        (pss_cons (ps_if (pt_cmpR op_eq (pv 4) pe_str (nomark _)) pss_never pss_nil)
        (pss_one (ps_ret (pe_op (r := rCatT K) (by exact op_catT) (pe_tup (pa_cons pe_str (pa_cons (pv 4) pa_nil))) (pe_ifExp (pt_cmpR op_eq (pv 4) pe_str (nomark _)) pe_never (pe_tup pa_nil))))))))))))), ?_⟩
    refine ⟨f, rfl, act _ _ ?_⟩
    cases res with
    | d dd => exact k
    | l ds => exact k
    | x n =>
      intro H2 e2
      have hm := T.more
      unfold ex at hm
      simp only [Bool.and_eq_true] at hm
      obtain ⟨m1, m2, m3, m4, m5⟩ := hm
      have data : ∃ (b4 b5 : Bool) (j : Nat), ExcC K (He.ga K n) ∧ PySem.W.exmOne K (.ref (He.ga K n)) (.ref (He.ga K "HalfError")) = some true ∧ kindB K n [("BadWork", false), ("BadNumber", false), ("BadCard", false), ("BadCount", false), ("TooMany", b4), ("Longer", b5), ("BadDeed", false), ("BadText", false)] = true ∧
          ([false, false, false, false, b4, b5, false, false].count true = 1) ∧ ([V.bl false, V.bl false, V.bl false, V.bl false, V.bl b4, V.bl b5, V.bl false, V.bl false][j]? = some (V.bl true)) ∧ (∀ (m : Nat) (z' : V), m < j → [V.bl false, V.bl false, V.bl false, V.bl false, V.bl b4, V.bl b5, V.bl false, V.bl false][m]? = some z' → eqV z' (.bl true) = false) ∧
          ([V.str "BadWork", V.str "BadNumber", V.str "BadCard", V.str "BadCount", V.str "TooMany", V.str "Longer", V.str "BadDeed", V.str "BadText"][j]? = some (V.str n)) ∧ n ≠ "BadWork" ∧ n ≠ "BadCard" ∧ n ≠ "BadDeed" ∧ n ≠ "BadText" := by
        rcases okr with rfl | rfl
        · exact ⟨true, false, 4, exc_of m1, T.x_TooMany, m3, by decide, rfl, (fun m z' hm hz => by
            match m, hm, hz with
            | 0, _, hz => cases hz; rfl
            | 1, _, hz => cases hz; rfl
            | 2, _, hz => cases hz; rfl
            | 3, _, hz => cases hz; rfl), rfl, by decide, by decide, by decide, by decide⟩
        · exact ⟨false, true, 5, exc_of m2, T.x_Longer, m4, by decide, rfl, (fun m z' hm hz => by
            match m, hm, hz with
            | 0, _, hz => cases hz; rfl
            | 1, _, hz => cases hz; rfl
            | 2, _, hz => cases hz; rfl
            | 3, _, hz => cases hz; rfl
            | 4, _, hz => cases hz; rfl), rfl, by decide, by decide, by decide, by decide⟩
      obtain ⟨b4, b5, j, EC, xm, kB, hcount, hj, hno, hterm, n1, n2, n3, n4⟩ := data
      have kit := fun (q : Str × Bool) hq => kind_of kB (q := q) hq
      refine ⟨true, xm, fun _ a ha => ?_, fun q => Bool.noConfusion q⟩
      refine ⟨_, rfl, He.ga K n, rfl, rfl, EC, _, _, false, rfl, fun u h => h, kit ("BadWork", false) (by simp), _, rfl, He.ga K n, rfl, rfl, EC, _, _, false, rfl, fun u h => h, kit ("BadNumber", false) (by simp), _, rfl, He.ga K n, rfl, rfl, EC, _, _, false, rfl, fun u h => h, kit ("BadCard", false) (by simp), _, rfl, He.ga K n, rfl, rfl, EC, _, _, false, rfl, fun u h => h, kit ("BadCount", false) (by simp), (by show 4 ≤ sizeLine; decide), fun p1 hp1 => ?_⟩
      refine ⟨_, rfl, _, rfl, He.ga K n, rfl, rfl, EC, _, _, b4, rfl, fun u h => h, kit ("TooMany", b4) (by simp), _, rfl, He.ga K n, rfl, rfl, EC, _, _, b5, rfl, fun u h => h, kit ("Longer", b5) (by simp), _, rfl, He.ga K n, rfl, rfl, EC, _, _, false, rfl, fun u h => h, kit ("BadDeed", false) (by simp), _, rfl, He.ga K n, rfl, rfl, EC, _, _, false, rfl, fun u h => h, kit ("BadText", false) (by simp), (by show 4 ≤ sizeLine; decide), fun p2 hp2 => ⟨p1, p2, _, _, rfl, rfl, (Ex.new hp2) _ _ upd_same, upd_same, (by show 8 ≤ sizeLine; decide), fun p3 hp3 => ⟨(by show 8 ≤ sizeLine; decide), fun p4 hp4 => ?_⟩⟩⟩
      have x1 : Ex H2 (upd H2 p1 (.lst [.bl false, .bl false, .bl false, .bl false])) := Ex.new hp1
      have x2 := x1.trans (Ex.new (o := .lst [.bl b4, .bl b5, .bl false, .bl false]) hp2)
      have x3 := x2.trans (Ex.new (o := .lst ([.bl false, .bl false, .bl false, .bl false] ++ [.bl b4, .bl b5, .bl false, .bl false])) hp3)
      have x4 := x3.trans (Ex.new (o := .lst [.str "BadWork", .str "BadNumber", .str "BadCard", .str "BadCount", .str "TooMany", .str "Longer", .str "BadDeed", .str "BadText"]) hp4)
      have h3 : (upd (upd (upd (upd H2 p1 (.lst [.bl false, .bl false, .bl false, .bl false])) p2 (.lst [.bl b4, .bl b5, .bl false, .bl false])) p3 (.lst ([.bl false, .bl false, .bl false, .bl false] ++ [.bl b4, .bl b5, .bl false, .bl false]))) p4 (.lst [.str "BadWork", .str "BadNumber", .str "BadCard", .str "BadCount", .str "TooMany", .str "Longer", .str "BadDeed", .str "BadText"])) p3 = some (.lst [V.bl false, V.bl false, V.bl false, V.bl false, V.bl b4, V.bl b5, V.bl false, V.bl false]) := (Ex.new hp4) _ _ upd_same
      have h4 : (upd (upd (upd (upd H2 p1 (.lst [.bl false, .bl false, .bl false, .bl false])) p2 (.lst [.bl b4, .bl b5, .bl false, .bl false])) p3 (.lst ([.bl false, .bl false, .bl false, .bl false] ++ [.bl b4, .bl b5, .bl false, .bl false]))) p4 (.lst [.str "BadWork", .str "BadNumber", .str "BadCard", .str "BadCount", .str "TooMany", .str "Longer", .str "BadDeed", .str "BadText"])) p4 = some (.lst [.str "BadWork", .str "BadNumber", .str "BadCard", .str "BadCount", .str "TooMany", .str "Longer", .str "BadDeed", .str "BadText"]) := upd_same
      generalize upd (upd (upd (upd H2 p1 (.lst [.bl false, .bl false, .bl false, .bl false])) p2 (.lst [.bl b4, .bl b5, .bl false, .bl false])) p3 (.lst ([.bl false, .bl false, .bl false, .bl false] ++ [.bl b4, .bl b5, .bl false, .bl false]))) p4 (.lst [.str "BadWork", .str "BadNumber", .str "BadCard", .str "BadCount", .str "TooMany", .str "Longer", .str "BadDeed", .str "BadText"]) = H5 at x4 h3 h4
      refine ⟨_, rfl, .inl ⟨rfl, _, SqL.of h3⟩, p3, [false, false, false, false, b4, b5, false, false], rfl, rfl, SqL.of h3, rfl, _, rfl, itD (by rw [hcount]; rfl) ?_⟩
      refine ⟨_, rfl, _, rfl, .inl ⟨rfl, _, SqL.of h3⟩, p3, _, .bl true, j, .bl true, rfl, rfl, SqL.of h3, rfl, rfl, hj, rfl, hno, p4, _, _, _, rfl, rfl, SqL.of h4, atI_nat hterm, ?_⟩
      refine ⟨_, rfl, rfl, _, rfl, ifD (fun q => n1 (V.str.inj q)) ⟨_, rfl, rfl, _, rfl, ifD (fun q => n2 (V.str.inj q)) ⟨_, rfl, rfl, _, rfl, ifD (fun q => n3 (V.str.inj q)) ?_⟩⟩⟩
      refine ⟨_, rfl, (by show 2 ≤ sizeLine; decide), fun p5 hp5 => ⟨_, rfl, rfl, _, rfl, ifD (fun q => n4 (V.str.inj q)) ⟨(by show 0 ≤ sizeLine; decide), fun p6 hp6 => ?_⟩⟩⟩
      refine ⟨p5, p6, _, [], rfl, rfl, SqT.of ((Ex.new hp6) _ _ upd_same), SqT.of upd_same, by simp, (by show 2 ≤ sizeLine; decide), fun _ => ?_, fun q => absurd rfl q⟩
      exact k _ _ (e2.trans (x4.trans ((Ex.new hp5).trans (Ex.new hp6)))) (.tup (SqT.of ((Ex.new hp6) _ _ upd_same)) (.cons (.str _) (.cons (.str _) .nil)))
end Hs

set_option Elab.async false
set_option linter.all false
set_option maxRecDepth 100000
set_option maxHeartbeats 4000000
/-! The law's dice. -/
namespace Hs
open PySem PySem.Spec PyProof.Rows L2
open Evl (Ex)
variable {P : Program} {w : World} {K : PySem.W.Frag} {mg : Str → Option Value} {base : Heap}
/-- all but the list at p stays -/
def ExP (p : Addr) (H H' : Hp) : Prop := ∀ a u, a ≠ p → H a = some u → H' a = some u
theorem ExP.refl (p : Addr) (H : Hp) : ExP p H H := fun _ _ _ h => h
theorem ExP.trans {p : Addr} {H H1 H2 : Hp} (e : ExP p H H1) (f : ExP p H1 H2) : ExP p H H2 := fun a u n h => f a u n (e a u n h)
theorem ExP.set {p : Addr} {H H1 : Hp} {o : HO} (e : ExP p H H1) : ExP p H (upd H1 p o) := fun a u n h => by rw [upd_ne n]; exact e a u n h
theorem Ex.p {p : Addr} {H H' : Hp} (e : Ex H H') : ExP p H H' := fun a u _ h => e a u h
/-- the dice at p: the cells, how many are used, the mixed number, what is left of a great cell -/
def DiceAt (K : PySem.W.Frag) (H : Hp) (p a : Addr) (ns : List Int) : Prop := ∃ (k m q : Int), H p = some (.lst [.ref a, .int k, .int m, .int q]) ∧ SqL K H a (ns.map V.int) ∧ ns.length ≤ 63 ∧ (a ≠ p ∨ ∀ H', SqL K H' a (ns.map V.int)) ∧ 0 ≤ k ∧ 0 ≤ m ∧ 0 ≤ q
theorem sq_p {H H' : Hp} {p a : Addr} {xs : List V} (e : ExP p H H') (n : a ≠ p ∨ ∀ H', SqL K H' a xs) (h : SqL K H a xs) : SqL K H' a xs := by
  rcases n with n | n
  case inr => exact n H'
  rcases h with (h | ⟨o, h⟩) | h
  · exact .inl (.inl (e _ _ n h))
  · exact .inl (.inr ⟨o, e _ _ n h⟩)
  · exact .inr h
theorem DiceAt.ex {H H' : Hp} {p a : Addr} {ns : List Int} (h : DiceAt K H p a ns) (e : Ex H H') : DiceAt K H' p a ns := by
  obtain ⟨k, m, q, h1, h2, h3, h4, h5⟩ := h
  exact ⟨k, m, q, e _ _ h1, Evl.ex_l e h2, h3, h4, h5⟩
theorem apart {H : Hp} {a q : Addr} {xs : List V} (h : SqL K H a xs) (n : H q = none) : a ≠ q ∨ ∀ H', SqL K H' a xs := by
  rcases h with (h | ⟨o, h⟩) | h
  · exact .inl (ne_of_none h n)
  · exact .inl (ne_of_none h n)
  · exact .inr fun H' => .inr h
theorem DiceAt.other {H : Hp} {p a q : Addr} {ns : List Int} {o : HO} (h : DiceAt K H p a ns) (np : p ≠ q) (n : a ≠ q ∨ ∀ H', SqL K H' a (ns.map V.int)) : DiceAt K (upd H q o) p a ns := by
  obtain ⟨k, m, z, h1, h2, h3, h4, h5⟩ := h
  exact ⟨k, m, z, by rw [upd_ne np]; exact h1, sq_p (p := q) (ExP.refl q H).set n h2, h3, h4, h5⟩
/-! ### _law_dice -/
abbrev N_dice : List Str := ["_law_script", "_law_mixed", "_law_cell"]
theorem sc_dice : FnScope N_dice ["_law_script"] (defScope s_law_dice) := ⟨rfl, rfl, rfl, by decide +kernel, rfl, by decide +kernel, by decide +kernel⟩
def sp_dice (K : PySem.W.Frag) : Sp := fun vs H Q _ => ∃ (a : Addr) (ns : List Int), vs = [.ref a] ∧ SqL K H a (ns.map V.int) ∧ ns.length ≤ 63 ∧ ∀ p H2, H p = none → Ex H H2 → DiceAt K H2 p a ns → Q (.ref p) H2
theorem ok_dice (T : Top K mg) : Okd P w K mg base 1 (He.ga K "_law_dice") ["_law_script"] (sp_dice K) := by
  refine okd_of T.fd_law_dice sc_dice (fun vs H Q E h => ?_) (fun _ _ _ _ _ _ us hl => match us, hl with | [_], _ => rfl) (fun cdv A outer s H vs Q E hr h => ?_)
  · obtain ⟨_, _, rfl, _⟩ := h; rfl
  · obtain ⟨a, ns, rfl, ha, hl, k⟩ := h
    have nd := sc_dice.nd
    refine ⟨_, pss_cons (ps_set (i := 1) nd rfl (.inl rfl) pe_int)
      (pss_cons (ps_for PassesOwn.never rfl (pi_list (pv 0)) (pg_name (i := 2) nd rfl (.inl rfl)) (pss_one (ps_set (i := 1) nd rfl (.inl rfl)
        (pe_op op_mod (pe_op op_add (pe_op op_add (pe_op op_mul (pv 1) pe_int) (pe_op op_mul (pe_op op_mod (pv 2) pe_int) pe_int)) pe_int) pe_int))))
      (pss_one (ps_ret (pe_lst (pa_cons (pv 0) (pa_cons pe_int (pa_cons (pe_op op_mul (pv 1) (pe_callTy call_int1 (by rfl) T.f_int (by decide +kernel) (pa_cons (pe_cmpR op_gt (pe_callB call_len_seq (by rfl) T.f_len PySem.boot_len (pa_cons (pv 0) pa_nil)) pe_int (nomark _)) pa_nil))) (pa_cons pe_int pa_nil)))))))), ?_⟩
    refine ⟨_, rfl, a, rfl, ⟨_, ha⟩, for_list (K := K) (a := a) (xs := ns.map V.int) (fun i σ H1 => H1 = H ∧ ∃ m z, σ = [some (.ref a), some (.int m), z] ∧ 0 ≤ m) ⟨rfl, 0, none, rfl, Int.le_refl 0⟩ (fun i σ H1 _ q => by rw [q.1]; exact ha) ?_ ?_⟩
    · rintro i x σ H1 hx ⟨rfl, m, z, rfl, m0⟩
      rw [List.getElem?_map] at hx
      cases hg : ns[i]? with
      | none => rw [hg] at hx; cases hx
      | some c =>
        rw [hg] at hx
        have ex : V.int c = x := Option.some.inj hx
        subst ex
        refine ⟨_, rfl, _, _, rfl, rfl, .inr ⟨by decide, by decide⟩, _, rfl, _, _, rfl, rfl, (by show (0 : Int) < 2147483647; decide), _, _, rfl, rfl, .inr ⟨by decide, by decide⟩, _, _, rfl, rfl, _, _, rfl, rfl, _, _, rfl, rfl, (by show (0 : Int) < 2147483647; decide), rfl, _, some (.int c), rfl, Int.emod_nonneg _ (by decide)⟩
    · rintro σ H1 ⟨rfl, m, z, rfl, m0⟩
      have len2 : ((ns.map V.int).length : Int) = ns.length := by rw [List.length_map]
      refine ⟨_, rfl, _, rfl, _, rfl, a, _, rfl, .inl ha, _, _, rfl, rfl, .inr ⟨_, rfl, _, _, rfl, rfl, ?_, (by show 4 ≤ sizeLine; decide), fun p hp => ?_⟩⟩
      · refine .inr ?_
        split <;> exact ⟨by decide, by decide⟩
      · refine k p _ hp (Ex.new hp) ⟨0, _, 0, upd_same, Evl.ex_l (Ex.new hp) ha, hl, ?_, Int.le_refl 0, ?_, Int.le_refl 0⟩
        · rcases ha with (h | ⟨o, h⟩) | h
          · exact .inl (ne_of_none h hp)
          · exact .inl (ne_of_none h hp)
          · exact .inr fun H' => .inr h
        · refine Int.mul_nonneg m0 ?_
          split <;> decide
/-! ### _law_next -/
abbrev N_next : List Str := ["_law_dice_here", "_law_many", "_law_found", "_law_cell"]
theorem sc_next : FnScope N_next ["_law_dice_here", "_law_many"] (defScope s_law_next) := ⟨rfl, rfl, rfl, by decide +kernel, rfl, by decide +kernel, by decide +kernel⟩
def sp_next (K : PySem.W.Frag) : Sp := fun vs H Q _ => ∃ (p : Addr) (n : Int) (a : Addr) (ns : List Int), vs = [.ref p, .int n] ∧ DiceAt K H p a ns ∧ 0 < n ∧ Bd 300 n ∧ ∀ r H2, 0 ≤ r → r < n → ExP p H H2 → DiceAt K H2 p a ns → Q (.int r) H2
theorem ix0 (v : V) (l : List V) : ixN (v :: l).length 0 = some 0 := by
  unfold ixN
  simp
theorem ok_next (T : Top K mg) : Okd P w K mg base 1 (He.ga K "_law_next") ["_law_dice_here", "_law_many"] (sp_next K) := by
  refine okd_of T.fd_law_next sc_next (fun vs H Q E h => ?_) (fun _ _ _ _ _ _ us hl => match us, hl with | [_, _], _ => rfl) (fun cdv A outer s H vs Q E hr h => ?_)
  · obtain ⟨_, _, _, _, rfl, _⟩ := h; rfl
  · obtain ⟨p, n, a, ns, rfl, ⟨kk, m, q, hp, ha, hl, hne, k0, m0, q0⟩, n0, bn, k⟩ := h
    have nd := sc_next.nd
    have wd : CDivW q n := wdiv n0 bn
    refine ⟨_, pss_cons (ps_if (pt_cmpR op_gt (pe_ix ix_list (pv 0) pe_int (fun _ _ => rfl)) pe_int (nomark _))
        (pss_cons (ps_set (i := 2) nd rfl (.inl rfl) (pe_op op_mod (pe_ix ix_list (pv 0) pe_int (fun _ _ => rfl)) (pv 1)))
        (pss_cons (ps_asg (pe_op op_fdivW (pe_ix ix_list (pv 0) pe_int (fun _ _ => rfl)) (pv 1)) (pg_sub (pv 0) pe_int set_list (fun _ => rfl))) (pss_one (ps_ret (pv 2))))) pss_nil)
      (pss_cons (ps_asg (pe_op op_add (pe_ix ix_list (pv 0) pe_int (fun _ _ => rfl)) pe_int) (pg_sub (pv 0) pe_int set_list (fun _ => rfl)))
      (pss_cons (ps_if (pt_cmpR op_le (pe_ix ix_list (pv 0) pe_int (fun _ _ => rfl)) (pe_callB call_len_seq (by rfl) T.f_len PySem.boot_len (pa_cons (pe_ix ix_list (pv 0) pe_int (fun _ _ => rfl)) pa_nil)) (nomark _))
        (pss_cons (ps_set (i := 3) nd rfl (.inl rfl) (pe_ix ix_list (pe_ix ix_list (pv 0) pe_int (fun _ _ => rfl)) (pe_op op_sub (pe_ix ix_list (pv 0) pe_int (fun _ _ => rfl)) pe_int) (fun _ _ => rfl)))
        (pss_cons (ps_asg (pe_ifExp (pt_cmpR op_ge (pv 3) (pe_op op_pow pe_int pe_int) (nomark _)) (pe_op op_fdivW (pv 3) (pv 1)) pe_int) (pg_sub (pv 0) pe_int set_list (fun _ => rfl)))
        (pss_one (ps_ret (pe_op op_mod (pv 3) (pv 1)))))) pss_nil)
      (pss_cons (ps_asg (pe_op op_mod (pe_op op_mul (pe_ix ix_list (pv 0) pe_int (fun _ _ => rfl)) pe_int) pe_int) (pg_sub (pv 0) pe_int set_list (fun _ => rfl)))
      (pss_one (ps_ret (pe_op op_mod (pe_op op_fdiv (pe_ix ix_list (pv 0) pe_int (fun _ _ => rfl)) pe_int) (pv 1))))))), ?_⟩
    refine ⟨_, rfl, p, _, 3, _, rfl, rfl, SqL.of hp, atI_nat (j := 3) rfl, _, _, rfl, rfl, _, rfl, ?_⟩
    by_cases c1 : q > 0
    · refine itD c1 ⟨_, rfl, p, _, 3, _, rfl, rfl, SqL.of hp, atI_nat (j := 3) rfl, _, rfl, _, _, rfl, rfl, n0, ?_⟩
      refine ⟨_, rfl, p, _, 3, _, rfl, rfl, SqL.of hp, atI_nat (j := 3) rfl, _, rfl, _, _, rfl, rfl, wd, _, rfl, p, _, _, 3, rfl, rfl, hp, rfl, _, rfl, ?_⟩
      have hd : ExP p H (upd H p (.lst [.ref a, .int kk, .int m, .int (q / n)])) := (ExP.refl p H).set
      exact k _ _ (Int.emod_nonneg _ (by omega)) (Int.emod_lt_of_pos _ n0) hd ⟨kk, m, q / n, upd_same, sq_p hd hne ha, hl, hne, k0, m0, Int.ediv_nonneg q0 (by omega)⟩
    · refine ifD c1 ?_
      refine ⟨_, rfl, p, _, 1, _, rfl, rfl, SqL.of hp, atI_nat (j := 1) rfl, _, _, rfl, rfl, _, rfl, p, _, _, 1, rfl, rfl, hp, rfl, ?_⟩
      have hd1 : ExP p H (upd H p (.lst [.ref a, .int (kk + 1), .int m, .int q])) := (ExP.refl p H).set
      have hp1 : (upd H p (.lst [.ref a, .int (kk + 1), .int m, .int q])) p = some (.lst [.ref a, .int (kk + 1), .int m, .int q]) := upd_same
      have ha1 := sq_p hd1 hne ha
      show tSeq _ _ _ _ (upd H p (.lst [.ref a, .int (kk + 1), .int m, .int q]))
      generalize upd H p (.lst [.ref a, .int (kk + 1), .int m, .int q]) = H1 at hd1 hp1 ha1
      refine ⟨_, rfl, p, _, 1, _, rfl, rfl, SqL.of hp1, atI_nat (j := 1) rfl, _, rfl, p, _, 0, _, rfl, rfl, SqL.of hp1, atI_nat (j := 0) rfl, a, _, rfl, .inl ha1, _, _, rfl, rfl, _, rfl, ?_⟩
      rw [List.length_map]
      by_cases c2 : kk + 1 ≤ ns.length
      · refine itD c2 ?_
        have hk : ns[kk.toNat]? = some (ns.getD kk.toNat 0) := by
          rw [List.getD_eq_getElem?_getD, List.getElem?_eq_getElem (by omega)]; rfl
        have hx : atI (ns.map V.int) (kk + 1 - 1) = some (V.int (ns.getD kk.toNat 0)) := by
          have e := atI_nat (xs := ns.map V.int) (j := kk.toNat) (v := V.int (ns.getD kk.toNat 0)) (by rw [List.getElem?_map, hk]; rfl)
          rw [show ((kk.toNat : Nat) : Int) = kk + 1 - 1 by omega] at e
          exact e
        generalize ns.getD kk.toNat 0 = cell at hx
        refine ⟨_, rfl, p, _, 0, _, rfl, rfl, SqL.of hp1, atI_nat (j := 0) rfl, _, rfl, p, _, 1, _, rfl, rfl, SqL.of hp1, atI_nat (j := 1) rfl, _, _, rfl, rfl, a, _, _, _, rfl, rfl, ha1, hx, ?_⟩
        refine ⟨_, rfl, _, _, rfl, rfl, ⟨by decide, by decide, by decide⟩, _, _, rfl, rfl, _, rfl, ?_⟩
        have fin : ∀ q' : Int, 0 ≤ q' → Q (.int (cell % n)) (upd H1 p (.lst [.ref a, .int (kk + 1), .int m, .int q'])) := fun q' hq => by
          have hd2 : ExP p H (upd H1 p (.lst [.ref a, .int (kk + 1), .int m, .int q'])) := hd1.set
          exact k _ _ (Int.emod_nonneg _ (by omega)) (Int.emod_lt_of_pos _ n0) hd2 ⟨kk + 1, m, q', upd_same, sq_p hd2 hne ha, hl, hne, by omega, m0, hq⟩
        by_cases c3 : cell ≥ 10 ^ (18 : Int).toNat
        · have cnn : 0 ≤ cell := Int.le_trans (by decide) c3
          refine itD c3 ⟨_, rfl, _, rfl, _, _, rfl, rfl, wdiv n0 bn, _, rfl, p, _, _, 3, rfl, rfl, hp1, rfl, _, rfl, _, rfl, _, _, rfl, rfl, n0, ?_⟩
          exact fin _ (Int.ediv_nonneg cnn (by omega))
        · refine ifD c3 ⟨_, rfl, p, _, _, 3, rfl, rfl, hp1, rfl, _, rfl, _, rfl, _, _, rfl, rfl, n0, ?_⟩
          exact fin 0 (Int.le_refl 0)
      · refine ifD c2 ?_
        refine ⟨_, rfl, p, _, 2, _, rfl, rfl, SqL.of hp1, atI_nat (j := 2) rfl, _, _, rfl, rfl, .inr ⟨by decide, by decide⟩, _, _, rfl, rfl, (by show (0 : Int) < 2147483647; decide), _, rfl, p, _, _, 2, rfl, rfl, hp1, rfl, ?_⟩
        have hd2 : ExP p H (upd H1 p (.lst [.ref a, .int (kk + 1), .int (m * 48271 % 2147483647), .int q])) := hd1.set
        have hp2 : (upd H1 p (.lst [.ref a, .int (kk + 1), .int (m * 48271 % 2147483647), .int q])) p = some (.lst [.ref a, .int (kk + 1), .int (m * 48271 % 2147483647), .int q]) := upd_same
        refine ⟨_, rfl, p, _, 2, _, rfl, rfl, SqL.of hp2, atI_nat (j := 2) rfl, _, _, rfl, rfl, ⟨by decide, by decide⟩, _, rfl, _, _, rfl, rfl, n0, ?_⟩
        exact k _ _ (Int.emod_nonneg _ (by omega)) (Int.emod_lt_of_pos _ n0) hd2 ⟨kk + 1, _, q, hp2, sq_p hd2 hne ha, hl, hne, by omega, Int.emod_nonneg _ (by decide), q0⟩
end Hs

set_option Elab.async false
set_option linter.all false
set_option maxRecDepth 100000
set_option maxHeartbeats 4000000
/-! What the law draws. -/
namespace Hs
open PySem PySem.Spec PyProof.Rows L2
open Evl (Ex)
variable {P : Program} {w : World} {K : PySem.W.Frag} {mg : Str → Option Value} {base : Heap}
/-! ### _law_two -/
theorem sc_ltwo : FnScope ["_law_size", "_law_found", "_law_k"] ["_law_size"] (defScope s_law_two) := ⟨rfl, rfl, rfl, by decide +kernel, rfl, by decide +kernel, by decide +kernel⟩
theorem ok_ltwo (T : Top K mg) : Okd P w K mg base 1 (He.ga K "_law_two") ["_law_size"] sp_two := by
  refine okd_of T.fd_law_two sc_ltwo (fun vs H Q E h => ?_) (fun _ _ _ _ _ _ us hl => match us, hl with | [_], _ => rfl) (fun cdv A outer s H vs Q E hr h => ?_)
  · obtain ⟨m, rfl, _⟩ := h; rfl
  · obtain ⟨m, rfl, h0, h1, k⟩ := h
    refine ⟨_, pss_cons (ps_set (i := 1) sc_ltwo.nd rfl (.inl rfl) pe_int)
      (pss_cons (ps_for PassesOwn.never rfl (pi_range1 rfl T.f_range (pa_cons (pv 0) pa_nil)) (pg_name (i := 2) sc_ltwo.nd rfl (.inl rfl))
        (pss_one (ps_set (i := 1) sc_ltwo.nd rfl (.inl rfl) (pe_op op_mul (pv 1) pe_int)))) (pss_one (ps_ret (pv 1)))), ?_⟩
    refine ⟨_, rfl, m, rfl, by omega, by omega, for_range (lo := 0) (n := m.toNat) (fun i σ H1 => H1 = H ∧ ∃ z, σ = [some (.int m), some (.int (2 ^ i)), z]) ⟨rfl, _, rfl⟩ ?_ ?_⟩
    · rintro i σ H1 hi ⟨rfl, z, rfl⟩
      refine ⟨_, rfl, _, _, rfl, rfl, .inr ⟨by decide, by decide⟩, rfl, some (V.int (0 + (i : Int))), ?_⟩
      show _ = [some (V.int m), some (V.int (2 ^ (i + 1))), some (V.int (0 + (i : Int)))]
      rw [Int.pow_succ]; rfl
    · rintro σ H1 ⟨rfl, z, rfl⟩
      exact ⟨_, rfl, k⟩
/-! ### _law_number -/
theorem sc_lnumber : FnScope ["_law_d", "_law_far"] ["_law_d"] (defScope s_law_number) := ⟨rfl, rfl, rfl, by decide +kernel, rfl, by decide +kernel, by decide +kernel⟩
def sp_lnumber (K : PySem.W.Frag) : Sp := fun vs H Q _ => ∃ (p a : Addr) (ns : List Int), vs = [.ref p] ∧ DiceAt K H p a ns ∧ ∀ r H2, Far r → ExP p H H2 → DiceAt K H2 p a ns → Q (.int r) H2
theorem apart_p {H H' : Hp} {p l : Addr} {xs : List V} (e : ExP p H H') (h : H l = some (.lst xs)) (n : l ≠ p) : SqL K H' l xs := SqL.of (e _ _ n h)
theorem ok_lnumber (T : Top K mg) : Okd P w K mg base 2 (He.ga K "_law_number") ["_law_d"] (sp_lnumber K) := by
  refine okd_of T.fd_law_number sc_lnumber (fun vs H Q E h => ?_) (fun _ _ _ _ _ _ us hl => match us, hl with | [_], _ => rfl) (fun cdv A outer s H vs Q E hr h => ?_)
  · obtain ⟨_, _, _, rfl, _⟩ := h; rfl
  · obtain ⟨p, a, ns, rfl, dc, k⟩ := h
    have nd := sc_lnumber.nd
    have D := ok_next (P := P) (w := w) (base := base) T
    refine ⟨_, pss_cons (ps_set (i := 1) nd rfl (.inl rfl) (pe_ix ix_list (pe_lst (pa_cons pe_int (pa_cons pe_int (pa_cons (pe_op op_pow pe_int pe_int) (pa_cons (pe_op op_pow pe_int pe_int) pa_nil))))) (pc D hr T.g_law_next (pa_cons (pv 0) (pa_cons pe_int pa_nil))) (fun _ _ => rfl)))
      (pss_one (ps_ret (pe_op op_sub (pc D hr T.g_law_next (pa_cons (pv 0) (pa_cons (pe_op op_add (pe_op op_mul pe_int (pv 1)) pe_int) pa_nil))) (pv 1)))), ?_⟩
    refine ⟨_, _, rfl, rfl, ⟨by decide, by decide, by decide⟩, _, _, rfl, rfl, ⟨by decide, by decide, by decide⟩, (by show 4 ≤ sizeLine; decide), fun l hl => ⟨_, rfl, p, 4, a, ns, rfl, dc.ex (Ex.new hl), by decide, (by unfold Bd; decide), fun r H2 r0 r1 e2 d2 => ?_⟩⟩
    have nl : l ≠ p := fun q => by
      obtain ⟨_, _, _, h, _⟩ := dc
      rw [← q, hl] at h; cases h
    have h2 : SqL K H2 l [.int 9, .int 300, .int (10 ^ (9 : Int).toNat), .int (10 ^ (60 : Int).toNat)] := apart_p e2 upd_same nl
    have hx : ∃ far : Int, 0 < far ∧ far ≤ 10 ^ 60 ∧ atI [V.int 9, .int 300, .int (10 ^ (9 : Int).toNat), .int (10 ^ (60 : Int).toNat)] r = some (.int far) := by
      have hr4 : r = 0 ∨ r = 1 ∨ r = 2 ∨ r = 3 := by omega
      rcases hr4 with rfl | rfl | rfl | rfl
      · exact ⟨9, by decide, by decide, atI_nat (j := 0) rfl⟩
      · exact ⟨300, by decide, by decide, atI_nat (j := 1) rfl⟩
      · exact ⟨10 ^ (9 : Int).toNat, by decide, by decide, atI_nat (j := 2) rfl⟩
      · exact ⟨10 ^ (60 : Int).toNat, by decide, by decide, atI_nat (j := 3) rfl⟩
    obtain ⟨far, f0, f1, hx⟩ := hx
    have fb : Far far := ⟨by omega, f1⟩
    have bd : Bd 300 (2 * far + 1) := by
      have h1 : (2 : Int) * 10 ^ 60 + 1 < 2 ^ 300 := by decide
      unfold Bd
      have : (2 : Int) ^ 300 = ((2 ^ 300 : Nat) : Int) := by norm_cast
      omega
    refine ⟨l, _, _, _, rfl, rfl, h2, hx, _, rfl, _, rfl, _, _, rfl, rfl, .inl ⟨by decide, by decide⟩, _, _, rfl, rfl, p, _, a, ns, rfl, d2, by omega, bd, fun r2 H3 s0 s1 e3 d3 => ⟨_, rfl, _, _, rfl, rfl, ?_⟩⟩
    refine k _ _ ⟨by omega, by omega⟩ ?_ d3
    exact ((Ex.p (Ex.new hl)).trans e2).trans e3
/-! ### _law_pack -/
abbrev N_pack : List Str := ["_law_d", "_law_size", "_law_i", "_law_j", "_law_whole", "_law_a"]
theorem sc_pack : FnScope N_pack ["_law_d", "_law_size"] (defScope s_law_pack) := ⟨rfl, rfl, rfl, by decide +kernel, rfl, by decide +kernel, by decide +kernel⟩
def sp_pack (K : PySem.W.Frag) : Sp := fun vs H Q _ => ∃ (p a : Addr) (ns : List Int), vs = [.ref p, .int 9] ∧ DiceAt K H p a ns ∧ ∀ v c H2, Sm c → ExP p H H2 → DiceAt K H2 p a ns → v ≠ .ref p → Cd K H2 v c → Q v H2
theorem ok_pack (T : Top K mg) : Okd P w K mg base 3 (He.ga K "_law_pack") ["_law_d", "_law_size"] (sp_pack K) := by
  refine okd_of T.fd_law_pack sc_pack (fun vs H Q E h => ?_) (fun _ _ _ _ _ _ us hl => match us, hl with | [_, _], _ => rfl) (fun cdv A outer s H vs Q E hr h => ?_)
  · obtain ⟨_, _, _, rfl, _⟩ := h; rfl
  · obtain ⟨p, a, ns, rfl, dc, k⟩ := h
    have nd := sc_pack.nd
    have D := ok_next (P := P) (w := w) (base := base) T
    have D2 := ok_ltwo (P := P) (w := w) (base := base) T
    have D3 := ok_lnumber (P := P) (w := w) (base := base) T
    refine ⟨_, pss_cons (ps_par (i := 2) (j := 3) rfl nd rfl rfl (by decide) rfl rfl (pa_cons (pc D hr T.g_law_next (pa_cons (pv 0) (pa_cons (pe_op op_add (pv 1) pe_int) pa_nil))) (pa_cons (pc D hr T.g_law_next (pa_cons (pv 0) (pa_cons (pe_op op_add (pv 1) pe_int) pa_nil))) pa_nil)) (by rfl))
      (pss_cons (ps_set (i := 4) nd rfl (.inl rfl) (pc D2 hr T.g_law_two (pa_cons (pv 3) pa_nil)))
      (pss_cons (ps_set (i := 5) nd rfl (.inl rfl) (pe_ix ix_list (pe_lst (pa_cons (pc D hr T.g_law_next (pa_cons (pv 0) (pa_cons (pv 4) pa_nil))) (pa_cons pe_int (pa_cons (pe_op op_sub (pv 4) pe_int) (pa_cons (pe_op op_fdiv (pv 4) pe_int) (pa_cons (pe_op op_fdiv (pv 4) pe_int) (pa_cons (pe_op op_fdiv (pv 4) pe_int) pa_nil)))))))
        (pc D hr T.g_law_next (pa_cons (pv 0) (pa_cons pe_int pa_nil))) (fun _ _ => rfl)))
      (pss_one (ps_ret (pe_tup (pa_cons (pv 2) (pa_cons (pv 3) (pa_cons (pv 5) (pa_cons (pe_ix ix_list (pe_lst (pa_cons (pe_op op_sub (pc D hr T.g_law_next (pa_cons (pv 0) (pa_cons pe_int pa_nil))) pe_int) (pa_cons (pc D3 hr T.g_law_number (pa_cons (pv 0) pa_nil)) pa_nil)))
        (pc D hr T.g_law_next (pa_cons (pv 0) (pa_cons pe_int pa_nil))) (fun _ _ => rfl)) pa_nil))))))))), ?_⟩
    have b300 : ∀ n : Int, 0 < n → n ≤ 1024 → Bd 300 n := fun n h0 h1 => by
      have : Bd 11 n := by unfold Bd; omega
      exact this.mono (by decide)
    refine ⟨_, rfl, _, rfl, _, _, rfl, rfl, p, _, a, ns, rfl, dc, by decide, b300 _ (by decide) (by decide), fun i H1 i0 i1 e1 d1 => ⟨_, rfl, _, rfl, _, _, rfl, rfl, p, _, a, ns, rfl, d1, by decide, b300 _ (by decide) (by decide), fun j H2 j0 j1 e2 d2 => ⟨_, _, rfl, ?_⟩⟩⟩
    have tw : two j ≤ 512 := by
      by_cases z : j = 9
      · rw [z]; decide
      · have := two_lt j0 (show j < 9 by omega)
        have e9 : two 9 = 512 := by decide
        omega
    have tp := two_pos j
    refine ⟨_, rfl, j, rfl, j0, by omega, ?_⟩
    refine ⟨_, rfl, _, rfl, p, _, a, ns, rfl, d2, tp, b300 _ tp (by omega), fun y H3 y0 y1 e3 d3 => ?_⟩
    refine ⟨_, rfl, _, _, rfl, rfl, _, rfl, _, _, rfl, rfl, ⟨by decide, by decide⟩, _, rfl, _, _, rfl, rfl, ⟨by decide, by decide⟩, _, rfl, _, _, rfl, rfl, ⟨by decide, by decide⟩, (by show 6 ≤ sizeLine; decide), fun l hl => ⟨_, rfl, p, 6, a, ns, rfl, d3.ex (Ex.new hl), by decide, b300 _ (by decide) (by decide), fun r H4 r0 r1 e4 d4 => ?_⟩⟩
    have nl : l ≠ p := fun q => by
      obtain ⟨_, _, _, h, _⟩ := d3
      rw [← q, hl] at h; cases h
    have h4 : SqL K H4 l [.int y, .int 0, .int (two j - 1), .int (two j / 2), .int (two j / 3), .int (two j / 5)] := apart_p e4 upd_same nl
    have hx : ∃ b : Int, 0 ≤ b ∧ b < two j ∧ atI [V.int y, .int 0, .int (two j - 1), .int (two j / 2), .int (two j / 3), .int (two j / 5)] r = some (.int b) := by
      have hr6 : r = 0 ∨ r = 1 ∨ r = 2 ∨ r = 3 ∨ r = 4 ∨ r = 5 := by omega
      rcases hr6 with rfl | rfl | rfl | rfl | rfl | rfl
      · exact ⟨y, y0, y1, atI_nat (j := 0) rfl⟩
      · exact ⟨0, by decide, tp, atI_nat (j := 1) rfl⟩
      · exact ⟨_, by omega, by omega, atI_nat (j := 2) rfl⟩
      · exact ⟨_, by omega, by omega, atI_nat (j := 3) rfl⟩
      · exact ⟨_, by omega, by omega, atI_nat (j := 4) rfl⟩
      · exact ⟨_, by omega, by omega, atI_nat (j := 5) rfl⟩
    obtain ⟨b, b0, b1, hx⟩ := hx
    refine ⟨l, _, _, _, rfl, rfl, h4, hx, ?_⟩
    refine ⟨_, rfl, _, rfl, _, rfl, _, rfl, p, 21, a, ns, rfl, d4, by decide, b300 _ (by decide) (by decide), fun z H5 z0 z1 e5 d5 => ⟨_, _, rfl, rfl, _, rfl, p, a, ns, rfl, d5, fun n H6 fn e6 d6 => ⟨(by show 2 ≤ sizeLine; decide), fun l2 hl2 => ⟨_, rfl, p, 2, a, ns, rfl, d6.ex (Ex.new hl2), by decide, b300 _ (by decide) (by decide), fun r2 H7 s0 s1 e7 d7 => ?_⟩⟩⟩⟩
    have nl2 : l2 ≠ p := fun q => by
      obtain ⟨_, _, _, h, _⟩ := d6
      rw [← q, hl2] at h; cases h
    have h7 : SqL K H7 l2 [.int (z - 10), .int n] := apart_p e7 upd_same nl2
    have hy : ∃ b2 : Int, Far b2 ∧ atI [V.int (z - 10), .int n] r2 = some (.int b2) := by
      have hr2 : r2 = 0 ∨ r2 = 1 := by omega
      rcases hr2 with rfl | rfl
      · refine ⟨_, ⟨?_, ?_⟩, atI_nat (j := 0) rfl⟩
        · have : (0 : Int) - 10 ^ 60 ≤ -10 := by decide
          omega
        · have : (10 : Int) ≤ 10 ^ 60 := by decide
          omega
      · exact ⟨n, fn, atI_nat (j := 1) rfl⟩
    obtain ⟨b2, fb2, hy⟩ := hy
    refine ⟨l2, _, _, _, rfl, rfl, h7, hy, (by show 4 ≤ sizeLine; decide), fun t ht => ?_⟩
    have np : p ≠ t := fun q => by
      obtain ⟨_, _, _, h, _⟩ := d7
      rw [q, ht] at h; cases h
    refine k _ ⟨i, j, b, b2⟩ _ ⟨i0, by show i ≤ 9; omega, j0, by show j ≤ 9; omega, b0, b1, fb2⟩ ?_ (d7.ex (Ex.new ht)) (fun q => np (V.ref.inj q).symm) ⟨t, rfl, SqT.of upd_same⟩
    exact (((((((e1.trans e2).trans e3).trans (Ex.p (Ex.new hl))).trans e4).trans e5).trans e6).trans (Ex.p (Ex.new hl2))).trans (e7.trans (Ex.p (Ex.new ht)))
end Hs

set_option Elab.async false
set_option linter.all false
set_option maxRecDepth 100000
set_option maxHeartbeats 4000000
/-! The law's word; the bench. -/
namespace Hs
open PySem PySem.Spec PyProof.Rows L2
open Evl (Ex)
variable {P : Program} {w : World} {K : PySem.W.Frag} {mg : Str → Option Value} {base : Heap}
theorem tx_w0 : ("+-2/" : Str) = ⟨#[43, 45, 50, 47]⟩ := by decide +kernel
theorem tx_w1 : ("++--22//+-2/" : Str) = ⟨#[43, 43, 45, 45, 50, 50, 47, 47, 43, 45, 50, 47]⟩ := by decide +kernel
theorem tx_w2 : ("22//+" : Str) = ⟨#[50, 50, 47, 47, 43]⟩ := by decide +kernel
theorem tx_w3 : ("/-+" : Str) = ⟨#[47, 45, 43]⟩ := by decide +kernel
/-- signs, from 1 to 20 -/
def SgT (x : Str) : Prop := 0 < x.cps.size ∧ x.cps.size ≤ 20 ∧ ∀ c ∈ x.cps.toList, IsSign c
theorem sgt_by {l : List Nat} (h : (decide (0 < l.length) && decide (l.length ≤ 20) && l.all fun c => decide (c = 43) || decide (c = 45) || decide (c = 50) || decide (c = 47)) = true) : SgT ⟨l.toArray⟩ := by
  simp only [Bool.and_eq_true, decide_eq_true_eq, List.all_eq_true, Bool.or_eq_true] at h
  obtain ⟨⟨h1, h2⟩, h3⟩ := h
  refine ⟨by simpa using h1, by simpa using h2, fun c hc => ?_⟩
  have hc : c ∈ l := by simpa using hc
  rcases h3 c hc with ((z | z) | z) | z
  · exact .inl z
  · exact .inr (.inl z)
  · exact .inr (.inr (.inl z))
  · exact .inr (.inr (.inr z))
abbrev N_work : List Str := ["_law_d", "_law_size", "_law_signs", "_law_k"]
theorem sc_lwork : FnScope N_work ["_law_d", "_law_size"] (defScope s_law_work) := ⟨rfl, rfl, rfl, by decide +kernel, rfl, by decide +kernel, by decide +kernel⟩
def sp_lwork (K : PySem.W.Frag) : Sp := fun vs H Q _ => ∃ (p a : Addr) (ns : List Int), vs = [.ref p, .int 9] ∧ DiceAt K H p a ns ∧ ∀ x H2, Wk x → x.cps.size ≤ 9 → ExP p H H2 → DiceAt K H2 p a ns → Q (.str x) H2
theorem glue_fold : ∀ (l acc : List Nat), (l.map fun c => (⟨#[c]⟩ : Str)).foldl (fun z q => z ++ (⟨#[]⟩ : Str).cps ++ q.cps) acc.toArray = (acc ++ l).toArray
  | [], acc => by simp
  | c :: l, acc => by
    rw [List.map_cons, List.foldl_cons]
    have e : acc.toArray ++ (⟨#[]⟩ : Str).cps ++ (⟨#[c]⟩ : Str).cps = (acc ++ [c]).toArray := by simp
    rw [e, glue_fold l (acc ++ [c])]
    simp
theorem glue_one : ∀ l : List Nat, Txt.join "" (l.map fun c => (⟨#[c]⟩ : Str)) = ⟨l.toArray⟩
  | [] => by decide +kernel
  | c :: l => by
    have z : ("" : Str) = ⟨#[]⟩ := by decide +kernel
    rw [z]
    show (⟨(l.map fun c => (⟨#[c]⟩ : Str)).foldl (fun z q => z ++ (⟨#[]⟩ : Str).cps ++ q.cps) [c].toArray⟩ : Str) = _
    rw [glue_fold l [c]]
    rfl
theorem sum_one : ∀ l : List Nat, ((l.map fun c => (⟨#[c]⟩ : Str)).map (·.length)).sum = l.length
  | [] => rfl
  | c :: l => by
    rw [List.map_cons, List.map_cons, List.sum_cons, sum_one l, List.length_cons]
    show 1 + l.length = l.length + 1
    omega
theorem glued {l : List Nat} (h : ∀ c ∈ l, IsSign c) (hl : l.length ≤ 9) : Wk (Txt.join "" (l.map fun c => (⟨#[c]⟩ : Str))) ∧ (Txt.join "" (l.map fun c => (⟨#[c]⟩ : Str))).cps.size ≤ 9 := by
  have e : Txt.join "" (l.map fun c => (⟨#[c]⟩ : Str)) = ⟨l.toArray⟩ := by
    exact glue_one l
  rw [e]
  refine ⟨⟨by simp; omega, fun c hc => h c (by simpa using hc)⟩, by simpa using hl⟩
theorem ok_lwork (T : Top K mg) : Okd P w K mg base 2 (He.ga K "_law_work") ["_law_d", "_law_size"] (sp_lwork K) := by
  refine okd_of T.fd_law_work sc_lwork (fun vs H Q E h => ?_) (fun _ _ _ _ _ _ us hl => match us, hl with | [_, _], _ => rfl) (fun cdv A outer s H vs Q E hr h => ?_)
  · obtain ⟨_, _, _, rfl, _⟩ := h; rfl
  · obtain ⟨p, a, ns, rfl, dc, k⟩ := h
    have nd := sc_lwork.nd
    have D := ok_next (P := P) (w := w) (base := base) T
    refine ⟨_, pss_cons (ps_set (i := 2) nd rfl (.inr rfl) (pe_ix ix_list (pe_lst (pa_cons pe_str (pa_cons pe_str (pa_cons pe_str (pa_cons pe_str pa_nil))))) (pc D hr T.g_law_next (pa_cons (pv 0) (pa_cons pe_int pa_nil))) (fun _ _ => rfl)))
      (pss_one (ps_ret (pjoin pe_str (pe_lc (own := [("_law_k", 3)]) (g := gName 3) (tt := tYes) (te := tOp rIxS (tVar 2) (tCl (sp_next K) (tCons (tVar 0) (tCons (tCB (fun xs H Q => ∃ z, xs = [.str z] ∧ z.length ≤ sizeLine ∧ Q (.int z.length) H) (tCons (tVar 2) tNil)) tNil)))) rfl nd (pi_range1 (by rfl) T.f_range (pa_cons (pc D hr T.g_law_next (pa_cons (pv 0) (pa_cons (pe_op op_add (pv 1) pe_int) pa_nil))) pa_nil))
        (blkOk_by (own := [("_law_k", 3)]) (N := N_work) (sc := defScope s_law_work) (by decide +kernel)) (fun _ _ _ _ _ => pg_name (i := 3) nd rfl (Or.inl rfl)) (fun _ _ _ _ _ => pts_nil)
        (fun _ _ _ _ _ => pe_ix ix_str (pv 2) (pc D hr T.g_law_next (pa_cons (pv 0) (pa_cons (pe_callB call_len_str (by rfl) T.f_len PySem.boot_len (pa_cons (pv 2) pa_nil)) pa_nil))) (fun _ _ => rfl)))))), ?_⟩
    have b300 : ∀ n : Int, 0 < n → n ≤ 1024 → Bd 300 n := fun n h0 h1 => by
      have : Bd 11 n := by unfold Bd; omega
      exact this.mono (by decide)
    refine ⟨(by show 4 ≤ sizeLine; decide), fun l hl => ⟨_, rfl, p, 4, a, ns, rfl, dc.ex (Ex.new hl), by decide, b300 _ (by decide) (by decide), fun r H2 r0 r1 e2 d2 => ?_⟩⟩
    have nl : l ≠ p := fun q => by
      obtain ⟨_, _, _, h, _⟩ := dc
      rw [← q, hl] at h; cases h
    have h2 : SqL K H2 l [.str "+-2/", .str "++--22//+-2/", .str "22//+", .str "/-+"] := apart_p e2 upd_same nl
    have hx : ∃ sg : Str, SgT sg ∧ atI [V.str "+-2/", .str "++--22//+-2/", .str "22//+", .str "/-+"] r = some (.str sg) := by
      have hr4 : r = 0 ∨ r = 1 ∨ r = 2 ∨ r = 3 := by omega
      rcases hr4 with rfl | rfl | rfl | rfl
      · exact ⟨_, tx_w0 ▸ sgt_by (l := [43, 45, 50, 47]) (by decide), atI_nat (j := 0) rfl⟩
      · exact ⟨_, tx_w1 ▸ sgt_by (l := [43, 43, 45, 45, 50, 50, 47, 47, 43, 45, 50, 47]) (by decide), atI_nat (j := 1) rfl⟩
      · exact ⟨_, tx_w2 ▸ sgt_by (l := [50, 50, 47, 47, 43]) (by decide), atI_nat (j := 2) rfl⟩
      · exact ⟨_, tx_w3 ▸ sgt_by (l := [47, 45, 43]) (by decide), atI_nat (j := 3) rfl⟩
    obtain ⟨sg, ⟨sg0, sg1, sgs⟩, hx⟩ := hx
    have lsg : (sg.length : Int) = sg.cps.size := rfl
    have x2 : ExP p H H2 := (Ex.p (Ex.new hl)).trans e2
    refine ⟨l, _, _, _, rfl, rfl, h2, hx, ⟨_, rfl⟩, ?_⟩
    refine ⟨_, rfl, _, rfl, _, _, rfl, rfl, p, _, a, ns, rfl, d2, by decide, b300 _ (by decide) (by decide), fun n H3 n0 n1 e3 d3 => ⟨n, rfl, by omega, by omega, fun Dl hD => ?_⟩⟩
    have x3 := x2.trans e3
    have np : p ≠ Dl := fun q => by
      obtain ⟨_, _, _, h, _⟩ := d3
      rw [q, hD] at h; cases h
    have na : a ≠ Dl ∨ ∀ H', SqL K H' a (ns.map V.int) := by
      obtain ⟨_, _, _, _, h, _⟩ := d3
      exact apart h hD
    have eD : ∀ {o : HO}, ExP p H3 (upd H3 Dl o) := fun {o} => Ex.p (Ex.new hD)
    have nDH : H Dl = none ∨ Dl = p := by
      cases q : H Dl with
      | none => exact .inl rfl
      | some u =>
        by_cases z : Dl = p
        · exact .inr z
        · rw [x3 _ _ z q] at hD; cases hD
    have setD : ∀ {H' : Hp} {o : HO}, ExP p H H' → ExP p H (upd H' Dl o) := fun {H' o} e b u nb hb => by
      have hne : b ≠ Dl := fun q => by
        rcases nDH with z | z
        · rw [q, z] at hb; cases hb
        · exact nb (q.trans z)
      rw [upd_ne hne]; exact e b u nb hb
    refine lc_range (lo := 0) (n := n.toNat) (fun i H' => ∃ cs : List Nat, H' Dl = some (.lst ((cs.map fun c => (⟨#[c]⟩ : Str)).map V.str)) ∧ cs.length = i ∧ (∀ c ∈ cs, IsSign c) ∧ ExP p H H' ∧ DiceAt K H' p a ns) ⟨[], upd_same, rfl, fun c hc => (by cases hc), setD x3, d3.other np na⟩ ?_ ?_
    · rintro i H' hi ⟨cs, c1, c2, c3, c4, c5⟩
      refine ⟨rfl, ?_⟩
      show (tOp rIxS (tVar 2) (tCl (sp_next K) (tCons (tVar 0) (tCons (tCB (fun xs H Q => ∃ z, xs = [.str z] ∧ z.length ≤ sizeLine ∧ Q (.int z.length) H) (tCons (tVar 2) tNil)) tNil)))) _ H' _
      refine ⟨_, rfl, _, rfl, _, rfl, sg, rfl, ?_, p, _, a, ns, rfl, c5, ?_, ?_, fun r2 H4 s0 s1 e4 d4 => ?_⟩
      · show sg.cps.size ≤ sizeLine
        rw [sizeLine_eq]; omega
      · rw [lsg]; omega
      · rw [lsg]; exact b300 _ (by omega) (by omega)
      · have hc : sg.cps.toList[r2.toNat]? = some (sg.cps.toList.getD r2.toNat 0) := by
          rw [List.getD_eq_getElem?_getD, List.getElem?_eq_getElem (by rw [lsg] at s1; simp; omega)]; rfl
        have hs := sgs _ (List.mem_of_getElem? hc)
        generalize sg.cps.toList.getD r2.toNat 0 = c at hc hs
        have hat : atI sg.cps.toList r2 = some c := by
          have e := atI_nat hc
          rw [show ((r2.toNat : Nat) : Int) = r2 by omega] at e
          exact e
        refine ⟨sg, r2, c, rfl, rfl, ?_, hat, _, e4 _ _ (Ne.symm np) c1, ?_, cs ++ [c], ?_, ?_, ?_, setD (c4.trans e4), d4.other np na⟩
        · show sg.cps.size ≤ sizeLine
          rw [sizeLine_eq]; omega
        · rw [List.length_map, List.length_map, c2]; exact Evl.sz_lt (by omega)
        · rw [upd_same, List.map_append, List.map_append]; rfl
        · rw [List.length_append, c2]; rfl
        · intro c' hc'
          rcases List.mem_append.mp hc' with z | z
          · exact c3 c' z
          · rw [List.mem_singleton.mp z]; exact hs
    · rintro H' ⟨cs, c1, c2, c3, c4, c5⟩
      obtain ⟨w1, w2⟩ := glued c3 (by omega)
      refine ⟨"", Dl, cs.map fun c => (⟨#[c]⟩ : Str), rfl, rfl, .inl (SqL.of c1), ?_, k _ _ w1 w2 c4 c5⟩
      rw [sum_one, show (("" : Str)).length = 0 by decide +kernel]
      omega
end Hs

set_option Elab.async false
set_option linter.all false
set_option maxRecDepth 100000
set_option maxHeartbeats 4000000
/-! benches.py. -/
namespace Hs
open PySem PySem.Spec PyProof.Rows L2
open Evl (Ex)
variable {P : Program} {w : World} {K : PySem.W.Frag} {mg : Str → Option Value} {base : Heap}
structure BF (fs : List (Str × V)) (now past : Option V) : Prop where
  now : fs.lookup ("now" : Str) = now
  past : fs.lookup ("past" : Str) = past
  do_ : fs.lookup ("do" : Str) = none
  number : fs.lookup ("number" : Str) = none
  works : fs.lookup ("works" : Str) = none
theorem BF.pNow {fs : List (Str × V)} {now past : Option V} (h : BF fs now past) (v : V) : BF (putF "now" v fs) (some v) past := ⟨lk_same, lk_ne (by decide) h.past, lk_ne (by decide) h.do_, lk_ne (by decide) h.number, lk_ne (by decide) h.works⟩
theorem BF.pPast {fs : List (Str × V)} {now past : Option V} (h : BF fs now past) (v : V) : BF (putF "past" v fs) now (some v) := ⟨lk_ne (by decide) h.now, lk_same, lk_ne (by decide) h.do_, lk_ne (by decide) h.number, lk_ne (by decide) h.works⟩
/-- the bench: where it stands, the works -/
structure BenchAt (K : PySem.W.Frag) (H : Hp) (x : Addr) (z : Int) (its : List (Int × Str)) : Prop where
  ex : ∃ dx fs l vs, H x = some (.ins (He.ga K "Bench") dx fs) ∧ BF fs (some (.int z)) (some (.ref l)) ∧ fs.length < 10 + its.length ∧ H l = some (.lst vs) ∧ DpAll K H vs (its.map fun q => .tuple [.int q.1, .str q.2])
theorem noLs_its : ∀ its : List (Int × Str), noLs (its.map fun q => PyData.tuple [.int q.1, .str q.2]) = true
  | [] => rfl
  | _ :: l => noLs_its l
theorem BenchAt.exx {H H' : Hp} {x : Addr} {z : Int} {its : List (Int × Str)} (h : BenchAt K H x z its) (e : Ex H H') : BenchAt K H' x z its := by
  obtain ⟨dx, fs, l, vs, h1, h2, h3, h4, h5⟩ := h.ex
  exact ⟨dx, fs, l, vs, e _ _ h1, h2, h3, e _ _ h4, DpAll.ex e h5⟩
/-! ### __init__ -/
theorem sc_binit : FnScope ["self", "n"] ["self", "n"] (defScope s_Bench_init) := ⟨rfl, rfl, rfl, by decide +kernel, rfl, by decide +kernel, by decide +kernel⟩
def sp_binit (K : PySem.W.Frag) : Sp := fun vs H Q _ => ∃ (x dx : Addr) (n : Int), vs = [.ref x, .int n] ∧ H x = some (.ins (He.ga K "Bench") dx []) ∧ Far n ∧ ∀ H2, BenchAt K H2 x n [] → Q .non H2
theorem ok_binit (T : Top K mg) : Okd P w K mg base 2 (He.ma K (He.ga K "Bench") "__init__") ["self", "n"] (sp_binit K) := by
  refine okd_of T.fd_Bench_init sc_binit (fun vs H Q E h => ?_) (fun _ _ _ _ _ _ us hl => match us, hl with | [_, _], _ => rfl) (fun cdv A outer s H vs Q E hr h => ?_)
  · obtain ⟨_, _, _, rfl, _⟩ := h; rfl
  · obtain ⟨x, dx, n, rfl, hx, far, k⟩ := h
    have D := ok_need_number (P := P) (w := w) (base := base) T
    refine ⟨_, pss_cons (ps_expr (pc D hr T.g_need_number (pa_cons (pv 1) pa_nil))) (pss_cons (ps_fld (pv 0) (pv 1) (by rfl)) (pss_one (ps_fld (pv 0) (pe_lst pa_nil) (by rfl)))), ?_⟩
    refine ⟨_, rfl, n, rfl, far, _, rfl, _, rfl, x, _, dx, [], rfl, hx, T.c_Bench, T.n_Bench_now, (by show 0 < 1000; decide), (by show 0 ≤ sizeLine; decide), fun l hl => ⟨_, rfl, x, _, dx, _, rfl, (Ex.new hl) _ _ upd_same, T.c_Bench, T.n_Bench_past, ?_, ?_⟩⟩
    · have := length_putF "now" (.int n) []
      show (putF "now" (V.int n) []).length < 1000
      have e : ([] : List (Str × V)).length = 0 := rfl
      omega
    · have f0 : BF [] none none := ⟨rfl, rfl, rfl, rfl, rfl⟩
      have nl : l ≠ x := fun q => by rw [q, upd_same] at hl; cases hl
      refine k _ ⟨dx, _, l, [], upd_same, (f0.pNow (.int n)).pPast (.ref l), ?_, by rw [upd_ne nl, upd_same], .nil⟩
      have h1 := length_putF "now" (.int n) []
      have h2 := length_putF "past" (.ref l) (putF "now" (.int n) [])
      have e : ([] : List (Str × V)).length = 0 := rfl
      show _ < 10 + 0
      omega
/-! ### do -/
theorem sc_bdo : FnScope ["self", "work", "made"] ["self", "work"] (defScope s_Bench_do) := ⟨rfl, rfl, rfl, by decide +kernel, rfl, by decide +kernel, by decide +kernel⟩
def sp_bdo (K : PySem.W.Frag) : Sp := fun vs H Q _ => ∃ (x : Addr) (t : Str) (z : Int), vs = [.ref x, .str t] ∧ BenchAt K H x z [] ∧ Wk t ∧ Far z ∧ Far (runF t.cps.toList z) ∧ ∀ H2, BenchAt K H2 x (runF t.cps.toList z) [(z, t)] → Q (.int (runF t.cps.toList z)) H2
theorem ok_bdo (T : Top K mg) : Okd P w K mg base 3 (He.ma K (He.ga K "Bench") "do") ["self", "work"] (sp_bdo K) := by
  refine okd_of T.fd_Bench_do sc_bdo (fun vs H Q E h => ?_) (fun _ _ _ _ _ _ us hl => match us, hl with | [_, _], _ => rfl) (fun cdv A outer s H vs Q E hr h => ?_)
  · obtain ⟨_, _, _, rfl, _⟩ := h; rfl
  · obtain ⟨x, t, z, rfl, ⟨dx, fs, l, vs, hx, bf, lf, hl, hv⟩, wk, far, far2, k⟩ := h
    have nd := sc_bdo.nd
    have D0 := ok_run (P := P) (w := w) (base := base) T
    have D := ok_need_number (P := P) (w := w) (base := base) T
    refine ⟨_, pss_cons (ps_set (i := 2) nd rfl (.inl rfl) (pc D0 hr T.g_run (pa_cons (pv 1) (pa_cons (pe_fld (pv 0) rfl) pa_nil))))
      (pss_cons (ps_expr (pc D hr T.g_need_number (pa_cons (pv 2) pa_nil)))
      (pss_cons (ps_expr (pe_bm PySem.F.plainAttrs_list PySem.F.slot_list_append PySem.F.type_list_append mt_append (pe_fld (pv 0) rfl) (pa_cons (pe_tup (pa_cons (pe_fld (pv 0) rfl) (pa_cons (pv 1) pa_nil))) pa_nil)))
      (pss_cons (ps_fld (pv 0) (pv 2) (by rfl)) (pss_one (ps_ret (pv 2)))))), ?_⟩
    have ev : vs = [] := by
      have hv' : DpAll K H vs [] := hv
      cases hv'; rfl
    subst ev
    refine ⟨_, rfl, _, rfl, x, _, dx, fs, _, rfl, hx, T.c_Bench, T.n_Bench_now, bf.now, t, z, rfl, wk, far, fun H1 e1 => ?_⟩
    refine ⟨_, rfl, _, rfl, far2, ?_⟩
    refine ⟨_, rfl, x, _, dx, fs, _, rfl, e1 _ _ hx, T.c_Bench, T.n_Bench_past, bf.past, .inl ⟨rfl, _, SqL.of (e1 _ _ hl)⟩, _, rfl, x, _, dx, fs, _, rfl, e1 _ _ hx, T.c_Bench, T.n_Bench_now, bf.now, _, rfl, (by show 2 ≤ sizeLine; decide), fun q hq => ?_⟩
    have e2 := e1.trans (Ex.new (o := .tup [.int z, .str t]) hq)
    have nx : x ≠ l := ne_of hx hl (fun q => by cases q)
    have nq : q ≠ l := fun y => by rw [y, e1 _ _ hl] at hq; cases hq
    have nqx : q ≠ x := fun y => by rw [y, e1 _ _ hx] at hq; cases hq
    refine ⟨l, [], _, rfl, rfl, e2 _ _ hl, (by decide), _, rfl, _, rfl, x, _, dx, fs, rfl, by rw [upd_ne nx]; exact e2 _ _ hx, T.c_Bench, T.n_Bench_now, (by have h1 : fs.length < 10 + 0 := lf; omega), _, rfl, ?_⟩
    refine k _ ⟨dx, _, l, [.ref q], upd_same, bf.pNow _, ?_, by rw [upd_ne (Ne.symm nx), upd_same]; rfl, .cons (.tup (SqT.of ?_) (.cons (.int _) (.cons (.str _) .nil))) .nil⟩
    · have h1 : fs.length < 10 + 0 := lf
      show _ < 10 + 1
      have := length_putF "now" (.int (runF t.cps.toList z)) fs
      omega
    · rw [upd_ne nqx, upd_ne nq, upd_same]
/-! ### number, works -/
theorem sc_bnumber : FnScope ["self"] ["self"] (defScope s_Bench_number) := ⟨rfl, rfl, rfl, by decide +kernel, rfl, by decide +kernel, by decide +kernel⟩
def sp_bnumber (K : PySem.W.Frag) : Sp := fun vs H Q _ => ∃ (x : Addr) (z : Int) (its : List (Int × Str)), vs = [.ref x] ∧ BenchAt K H x z its ∧ Q (.int z) H
theorem ok_bnumber (T : Top K mg) : Okd P w K mg base 1 (He.ma K (He.ga K "Bench") "number") ["self"] (sp_bnumber K) := by
  refine okd_of T.fd_Bench_number sc_bnumber (fun vs H Q E h => ?_) (fun _ _ _ _ _ _ us hl => match us, hl with | [_], _ => rfl) (fun cdv A outer s H vs Q E hr h => ?_)
  · obtain ⟨_, _, _, rfl, _⟩ := h; rfl
  · obtain ⟨x, z, its, rfl, ⟨dx, fs, l, vs, hx, bf, lf, hl, hv⟩, k⟩ := h
    refine ⟨_, pss_one (ps_ret (pe_fld (pv 0) rfl)), ?_⟩
    exact ⟨_, rfl, x, _, dx, fs, _, rfl, hx, T.c_Bench, T.n_Bench_now, bf.now, k⟩
theorem sc_bworks : FnScope ["self", "number", "work"] ["self"] (defScope s_Bench_works) := ⟨rfl, rfl, rfl, by decide +kernel, rfl, by decide +kernel, by decide +kernel⟩
def sp_bworks (K : PySem.W.Frag) : Sp := fun vs H Q _ => ∃ (x : Addr) (z : Int) (its : List (Int × Str)), vs = [.ref x] ∧ BenchAt K H x z its ∧ its.length ≤ 100 ∧ ∀ p ys H2, H p = none → Ex H H2 → H2 p = some (.lst ys) → DpAll K H2 ys (its.map fun q => .str q.2) → Q (.ref p) H2
theorem ok_bworks (T : Top K mg) : Okd P w K mg base 1 (He.ma K (He.ga K "Bench") "works") ["self"] (sp_bworks K) := by
  refine okd_of T.fd_Bench_works sc_bworks (fun vs H Q E h => ?_) (fun _ _ _ _ _ _ us hl => match us, hl with | [_], _ => rfl) (fun cdv A outer s H vs Q E hr h => ?_)
  · obtain ⟨_, _, _, rfl, _⟩ := h; rfl
  · obtain ⟨x, z, its, rfl, ⟨dx, fs, l, vs, hx, bf, lf, hl, hv⟩, hlen, k⟩ := h
    have nd := sc_bworks.nd
    refine ⟨_, pss_one (ps_ret (pe_lc (own := [("number", 1), ("work", 2)]) (g := gTup K 2 (gCons (gName 1) (gCons (gName 2) gNil))) (tt := tYes) (te := tVar 2) rfl nd (pi_list (pe_fld (pv 0) rfl))
      (blkOk_by (own := [("number", 1), ("work", 2)]) (N := ["self", "number", "work"]) (sc := defScope s_Bench_works) (by decide +kernel))
      (fun _ _ _ _ _ => pg_tup rfl (pgs_cons (pg_name (i := 1) nd rfl (Or.inl rfl)) (pgs_cons (pg_name (i := 2) nd rfl (Or.inl rfl)) pgs_nil))) (fun _ _ _ _ _ => pts_nil) (fun _ _ _ _ _ => pv 2))), ?_⟩
    have evl : Evl.Ev (tFld K (tVar 0) "past") [some (.ref x), none, none] H (.ref l) := fun H1 e Q' q => ⟨_, rfl, x, _, dx, fs, _, rfl, e _ _ hx, T.c_Bench, T.n_Bench_past, bf.past, q H1 (Ex.refl _)⟩
    refine runL (eld_lcB (K := K) (bs := its) (0, "") (fun q => .tuple [.int q.1, .str q.2]) (fun _ => true) (fun q => .str q.2) evl (.lst (SqL.of hl) hv) (by omega) fun b u H1 hb e1 du => ?_) fun p ys H2 hp e2 h2 d2 => ?_
    · cases du with
      | tup h r =>
        cases r with
        | cons a r =>
          cases r with
          | cons c r =>
            cases r
            cases int_inv a
            cases c
            exact ⟨_, fun Q H5 e5 q => ⟨_, _, rfl, Evl.ex_t e5 h, rfl, _, _, rfl, _, _, rfl, rfl, q⟩, rfl, fun H5 _ Q q => q H5 (Ex.refl _), fun _ => ⟨ed_of (Evl.ev_var rfl) (.str _), rfl⟩⟩
    · rw [fill_all] at d2
      exact k p ys H2 hp e2 h2 d2
end Hs

set_option Elab.async false
set_option linter.all false
set_option maxRecDepth 100000
set_option maxHeartbeats 4000000
/-! The law: what is told, twice. -/
namespace Hs
open PySem PySem.Spec PyProof.Rows L2
open Evl (Ex)
open LamX (ExtN)
variable {P : Program} {w : World} {K : PySem.W.Frag} {mg : Str → Option Value} {base : Heap}
def dataOf : Res → PyData
  | .d d => d
  | .l ds => .list ds
  | .x _ => .none
def fineD (d : PyData) : Prop := noL d = true ∧ d.plain = true ∧ d.depth ≤ 4
def fineR : Res → Prop
  | .d d => fineD d
  | .l ds => noLs ds = true ∧ PyData.plainAll ds = true ∧ PyData.depthAll ds ≤ 4
  | .x _ => False
def resT (x : Str) (c : Card) (z : Int) (i : Nat) : Res := toldR (resF x c z i)
theorem fine_int (i : Int) : fineD (.int i) := ⟨rfl, rfl, Nat.zero_le _⟩
theorem fine_str (x : Str) : fineD (.str x) := ⟨rfl, rfl, Nat.zero_le _⟩
theorem fine_non : fineD .none := ⟨rfl, rfl, Nat.zero_le _⟩
theorem fine_card (c : Card) : fineD c.d := ⟨rfl, rfl, by simp [Card.d, PyData.depth, PyData.depthAll]⟩
theorem fine_two (a b : PyData) (h1 : a.depth = 0) (h2 : b.depth = 0) (n1 : noL a = true) (n2 : noL b = true) (p1 : a.plain = true) (p2 : b.plain = true) : fineD (.tuple [a, b]) :=
  ⟨by simp [noL, noLs, n1, n2], by simp [PyData.plain, PyData.plainAll, p1, p2], by simp [PyData.depth, PyData.depthAll, h1, h2]⟩
theorem fine_at (c : Card) : ∀ (k t : Nat) (n : Int), fineD (atF c k t n)
  | 0, _, _ => fine_non
  | k + 1, t, n => by
    unfold atF
    split
    · exact fine_two _ _ rfl rfl rfl rfl rfl rfl
    · exact fine_at c k _ _
theorem ints_fine (l : List Int) : noLs (l.map PyData.int) = true ∧ PyData.plainAll (l.map PyData.int) = true ∧ PyData.depthAll (l.map PyData.int) = 0 := by
  induction l with
  | nil => exact ⟨rfl, rfl, rfl⟩
  | cons a l ih =>
    obtain ⟨h1, h2, h3⟩ := ih
    refine ⟨h1, by simp [PyData.plainAll, PyData.plain, h2], ?_⟩
    show max 0 (PyData.depthAll (l.map PyData.int)) = 0
    rw [h3]; rfl
theorem fine_res (x : Str) (c : Card) (z : Int) {i : Nat} (hi : i < 16) : OkRes (resF x c z i) ∧ fineR (resT x c z i) := by
  match i, hi with
  | 0, _ => exact ⟨trivial, fine_int _⟩
  | 1, _ => exact ⟨trivial, fine_card _⟩
  | 2, _ => exact ⟨trivial, fine_int _⟩
  | 3, _ => exact ⟨trivial, fine_card _⟩
  | 4, _ => exact ⟨trivial, fine_card _⟩
  | 5, _ =>
    refine ⟨trivial, ?_⟩
    show fineD (vD (partF c (cardF ("+" : Str).cps.toList)))
    unfold vD
    split
    · exact fine_int _
    · exact fine_non
  | 6, _ => exact ⟨trivial, fine_int _⟩
  | 7, _ => exact ⟨trivial, fine_int _⟩
  | 8, _ =>
    unfold resT
    show OkRes (if 400 < fewestF (mkF c) then .x "TooMany" else .d (.str ⟨(workF (mkF c)).toArray⟩)) ∧ fineR (toldR (if 400 < fewestF (mkF c) then .x "TooMany" else .d (.str ⟨(workF (mkF c)).toArray⟩)))
    split
    · exact ⟨.inl rfl, fine_two _ _ rfl rfl rfl rfl rfl rfl⟩
    · exact ⟨trivial, fine_str _⟩
  | 9, _ =>
    unfold resT
    show OkRes (if c.i = c.j ∧ (c.a + c.b) / two c.j = 0 then .d (.tuple [.int (c.b % two c.j), .int (two c.j)]) else .l ((if c.i = c.j then [] else (someF c).map fun y => y * two c.i + c.b).map PyData.int)) ∧
      fineR (toldR (if c.i = c.j ∧ (c.a + c.b) / two c.j = 0 then .d (.tuple [.int (c.b % two c.j), .int (two c.j)]) else .l ((if c.i = c.j then [] else (someF c).map fun y => y * two c.i + c.b).map PyData.int)))
    split
    · exact ⟨trivial, fine_two _ _ rfl rfl rfl rfl rfl rfl⟩
    · obtain ⟨h1, h2, h3⟩ := ints_fine (if c.i = c.j then [] else (someF c).map fun y => y * two c.i + c.b)
      exact ⟨trivial, h1, h2, by rw [h3]; decide⟩
  | 10, _ => exact ⟨trivial, fine_at _ _ _ _⟩
  | 11, _ =>
    refine ⟨trivial, ?_⟩
    show fineD (leadF c z)
    unfold leadF
    split
    · exact fine_two _ _ rfl rfl rfl rfl rfl rfl
    · exact fine_non
  | 12, _ =>
    refine ⟨trivial, ?_⟩
    show fineD (undoneF c)
    unfold undoneF
    split <;> split <;> exact ⟨rfl, rfl, by simp [Card.d, PyData.depth, PyData.depthAll]⟩
  | 13, _ => exact ⟨trivial, fine_str _⟩
  | 14, _ => exact ⟨trivial, rfl, rfl, by simp [Card.d, PyData.depth, PyData.depthAll]⟩
  | 15, _ =>
    unfold resT
    show OkRes (if fewestF (mkF (cardF x.cps.toList)) < x.cps.toList.length then .x "Longer" else .d (.int (rankM (mkF (cardF x.cps.toList)) x.cps.toList))) ∧ fineR (toldR (if fewestF (mkF (cardF x.cps.toList)) < x.cps.toList.length then .x "Longer" else .d (.int (rankM (mkF (cardF x.cps.toList)) x.cps.toList))))
    split
    · exact ⟨.inr rfl, fine_two _ _ rfl rfl rfl rfl rfl rfl⟩
    · exact ⟨trivial, fine_int _⟩
  | i + 16, hi => exact absurd hi (by omega)
/-! ### a value that was told -/
def DueIs (K : PySem.W.Frag) (H0 H : Hp) (r : Res) (y : V) : Prop := match r with
  | .d d => Dp K H y d
  | .l ds => ∃ l zs, y = .ref l ∧ H0 l = none ∧ H l = some (.lst zs) ∧ DpAll K H zs ds
  | .x _ => False
theorem due_ex {H0 H H' : Hp} {r : Res} {y : V} (h : DueIs K H0 H r y) (e : Ex H H') : DueIs K H0 H' r y := by
  cases r with
  | d d => exact Dp.ex e h
  | l ds =>
    obtain ⟨l, zs, h1, h2, h3, h4⟩ := h
    exact ⟨l, zs, h1, h2, e _ _ h3, DpAll.ex e h4⟩
  | x n => exact h
theorem due_mut {H0 H H' : Hp} {r : Res} {y : V} (f : fineR r) (h : DueIs K H0 H r y) (e : ExT H H') (kp : ∀ ds l zs, r = .l ds → y = .ref l → H l = some (.lst zs) → H' l = some (.lst zs)) : DueIs K H0 H' r y := by
  cases r with
  | d d => exact Dp.exT e f.1 h
  | l ds =>
    obtain ⟨l, zs, h1, h2, h3, h4⟩ := h
    exact ⟨l, zs, h1, h2, kp ds l zs rfl h1 h3, DpAll.exT e f.1 h4⟩
  | x n => exact h
theorem due_dp {H0 H : Hp} {r : Res} {y : V} (f : fineR r) (h : DueIs K H0 H r y) : Dp K H y (dataOf r) := by
  cases r with
  | d d => exact h
  | l ds =>
    obtain ⟨l, zs, rfl, h2, h3, h4⟩ := h
    exact .lst (SqL.of h3) h4
  | x n => exact f.elim
/-- [_law_told(_law_call) for _law_call in _law_calls_here] -/
theorem tolds (T : Top K mg) {H : Hp} {pc : Addr} {x : Str} {v : V} {z : Int} {c : Card} {v0 v1 v2 v3 v4 v6 v7 v8 v9 v10 : Option V} {Q : VK} (ca : CallsAt H pc x v z) (cd : Cd K H v c) (wk : Wk x) (h9 : x.cps.size ≤ 9) (sm : Sm c) (far : Far z)
    (k : ∀ p ys H2, H p = none → Ex H H2 → H2 p = some (.lst ys) → ys.length = 16 → (∀ i y, ys[i]? = some y → DueIs K H H2 (resT x c z i) y ∧ ∀ ds, resT x c z i = .l ds → y ≠ .ref p) → Q (.ref p) H2) :
    tLc (iList K (tVar 5)) (gName 10) tYes (tCl (sp_told P w K mg base) (tCons (tVar 10) tNil)) [10] [v0, v1, v2, v3, v4, some (.ref pc), v6, v7, v8, v9, v10] H Q := by
  obtain ⟨n, fs, h1, h2, h3, h4, h5, h6, h7⟩ := ca.ex
  refine ⟨_, rfl, pc, rfl, ⟨_, SqL.of h1⟩, fun Dl hD => ?_⟩
  refine lc_list (xs := fs.map V.ref) (fun i H' => Ex H H' ∧ ∃ ys, H' Dl = some (.lst ys) ∧ ys.length = i ∧ ∀ j y, ys[j]? = some y → DueIs K H H' (resT x c z j) y ∧ ∀ ds, resT x c z j = .l ds → y ≠ .ref Dl) ⟨Ex.new hD, [], upd_same, rfl, fun j y e => by simp at e⟩ (fun i H' _ p => SqL.of (p.1 _ _ h1)) ?_ ?_
  · rintro i xv H' hx ⟨e1, ys, g1, g2, g3⟩
    rw [List.getElem?_map] at hx
    cases hf : fs[i]? with
    | none => rw [hf] at hx; cases hx
    | some f =>
      rw [hf] at hx
      have ex : V.ref f = xv := Option.some.inj hx
      subst ex
      have hi : i < 16 := by rw [← h2]; exact (List.getElem?_eq_some_iff.mp hf).1
      have li : IsLamI H' n i f := by
        have q := lamsAt_get h3 hf
        rw [Nat.zero_add] at q
        exact IsLam.ext q (ExtN.of e1)
      have ce : CellsAt3 H' n x v z := ⟨by obtain ⟨a, q1, q2⟩ := h4; exact ⟨a, q1, e1 _ _ q2⟩, by obtain ⟨a, q1, q2⟩ := h5; exact ⟨a, q1, e1 _ _ q2⟩, by obtain ⟨a, q1, q2⟩ := h6; exact ⟨a, q1, e1 _ _ q2⟩, h7⟩
      obtain ⟨okr, fr⟩ := fine_res x c z hi
      refine ⟨rfl, ?_⟩
      show (tCl (sp_told P w K mg base) (tCons (tVar 10) tNil)) _ H' _
      refine ⟨_, rfl, f, resF x c z i, rfl, okr, fun Q' E' r => act_all T hi li ce (cd.ex e1) wk h9 sm far r, ?_⟩
      have sz : ys.length < sizeLine := Evl.sz_lt (by omega)
      show RetR K H' _ E0 (resT x c z i)
      cases hr : resT x c z i with
      | d d =>
        rw [hr] at fr
        intro u H2 e2 hd
        have eT : ExT H2 (upd H2 Dl (.lst (ys ++ [u]))) := ExT.mut (fun _ _ h _ => h) (e2 _ _ g1)
        refine ⟨ys, e2 _ _ g1, sz, Ex.mut (e1.trans e2) hD, ys ++ [u], upd_same, by rw [List.length_append, g2]; rfl, fun j y hy => ?_⟩
        by_cases hj : j < ys.length
        · rw [List.getElem?_append_left hj] at hy
          obtain ⟨q1, q2⟩ := g3 j y hy
          exact ⟨due_mut (fine_res x c z (by omega)).2 (due_ex q1 e2) eT fun ds l zs er el hl => by rw [upd_ne (fun w => q2 ds er (by rw [el, w]))]; exact hl, q2⟩
        · rw [List.getElem?_append_right (by omega)] at hy
          have ej : j = i := by
            have : j - ys.length < [u].length := (List.getElem?_eq_some_iff.mp hy).1
            have e0 : [u].length = 1 := rfl
            omega
          have ey : u = y := by
            rw [ej, g2, Nat.sub_self] at hy
            exact Option.some.inj hy
          subst ey ej
          rw [hr]
          exact ⟨Dp.exT eT fr.1 hd, fun ds er => by cases er⟩
      | l ds =>
        rw [hr] at fr
        intro p zs H2 hp e2 h2' hd
        have np : p ≠ Dl := fun q => by rw [q, g1] at hp; cases hp
        have eT : ExT H2 (upd H2 Dl (.lst (ys ++ [.ref p]))) := ExT.mut (fun _ _ h _ => h) (e2 _ _ g1)
        refine ⟨ys, e2 _ _ g1, sz, Ex.mut (e1.trans e2) hD, ys ++ [.ref p], upd_same, by rw [List.length_append, g2]; rfl, fun j y hy => ?_⟩
        by_cases hj : j < ys.length
        · rw [List.getElem?_append_left hj] at hy
          obtain ⟨q1, q2⟩ := g3 j y hy
          exact ⟨due_mut (fine_res x c z (by omega)).2 (due_ex q1 e2) eT fun ds l zs er el hl => by rw [upd_ne (fun w => q2 ds er (by rw [el, w]))]; exact hl, q2⟩
        · rw [List.getElem?_append_right (by omega)] at hy
          have ej : j = i := by
            have : j - ys.length < [V.ref p].length := (List.getElem?_eq_some_iff.mp hy).1
            have e0 : [V.ref p].length = 1 := rfl
            omega
          have ey : V.ref p = y := by
            rw [ej, g2, Nat.sub_self] at hy
            exact Option.some.inj hy
          subst ey ej
          rw [hr]
          exact ⟨⟨p, zs, rfl, Evl.fresh_back e1 hp, by rw [upd_ne np]; exact h2', DpAll.exT eT fr.1 hd⟩, fun ds er q => np (V.ref.inj q)⟩
      | x nn => rw [hr] at fr; exact fr.elim
  · rintro H' ⟨e1, ys, g1, g2, g3⟩
    rw [List.length_map, h2] at g2
    exact k Dl ys H' hD e1 g1 g2 g3
end Hs

set_option Elab.async false
set_option linter.all false
set_option maxRecDepth 100000
set_option maxHeartbeats 4000000
/-! The def law. -/
namespace Hs
open PySem PySem.Spec PyProof.Rows L2
open Evl (Ex)
open LamX (ExtN Tabs TabB)
variable {P : Program} {w : World} {K : PySem.W.Frag} {mg : Str → Option Value} {base : Heap}
def rNeP (K : PySem.W.Frag) : R2 := fun x y H Q => ∃ d e, Dp K H x d ∧ Dp K H y e ∧ d.plain = true ∧ e.plain = true ∧ d.depth ≤ 60 ∧ Q (.bl (!PyData.eqv d e)) H
theorem op_neP {X : Cx} (hu : X.A.units + 64 < cLine) : OpR X (compareOp .NotEq) (rNeP X.K) := by
  intro pins s σ H x y v u Q I rx ry h
  obtain ⟨d, e, hd, he, sd, se, dp, q⟩ := h
  obtain ⟨as, r1⟩ := Dp.reads I d x v hd rx
  obtain ⟨bs, r2⟩ := Dp.reads I e y u he ry
  refine SeqAt.ne_plain r1 r2 sd se ?_ ⟨.bl _, H, I, rfl, q⟩
  have := Nat.min_le_left d.depth e.depth
  omega
theorem someF_len {c : Card} (sm : Sm c) (hne : c.i ≠ c.j) : (someF c).length ≤ 1000 := by
  have i0 := sm.i0; have j0 := sm.j0; have j1 := sm.j1
  unfold someF
  split
  · split <;> simp
  · have g1 : 0 < two c.j - two c.i := by
      have : two c.i < two c.j := two_lt i0 (by omega)
      omega
    have tj : two c.j ≤ 512 := by
      by_cases z : c.j = 9
      · rw [z]; decide
      · have := two_lt j0 (show c.j < 9 by omega)
        have e9 : two 9 = 512 := by decide
        omega
    have few := few_turns (s := c.a + c.b) (w := two c.j) g1 (Int.le_of_lt (two_pos _))
    unfold rgI
    rw [List.length_map, List.length_range]
    omega
theorem resT_len (x : Str) {c : Card} (sm : Sm c) (z : Int) {i : Nat} (hi : i < 16) {ds : List PyData} (h : resT x c z i = .l ds) : ds.length ≤ 1000 := by
  unfold resT at h
  match i, hi with
  | 0, _ => cases h
  | 1, _ => cases h
  | 2, _ => cases h
  | 3, _ => cases h
  | 4, _ => cases h
  | 5, _ => cases h
  | 6, _ => cases h
  | 7, _ => cases h
  | 8, _ =>
    have h : toldR (if 400 < fewestF (mkF c) then .x "TooMany" else .d (.str ⟨(workF (mkF c)).toArray⟩)) = .l ds := h
    split at h <;> cases h
  | 9, _ =>
    have h : toldR (if c.i = c.j ∧ (c.a + c.b) / two c.j = 0 then .d (.tuple [.int (c.b % two c.j), .int (two c.j)]) else .l ((if c.i = c.j then [] else (someF c).map fun y => y * two c.i + c.b).map PyData.int)) = .l ds := h
    split at h
    · cases h
    · cases h
      rw [List.length_map]
      split
      · simp
      · rw [List.length_map]; exact someF_len sm (by assumption)
  | 10, _ => cases h
  | 11, _ => cases h
  | 12, _ => cases h
  | 13, _ => cases h
  | 14, _ => cases h; decide
  | 15, _ =>
    have h : toldR (if fewestF (mkF (cardF x.cps.toList)) < x.cps.toList.length then .x "Longer" else .d (.int (rankM (mkF (cardF x.cps.toList)) x.cps.toList))) = .l ds := h
    split at h <;> cases h
  | i + 16, hi => exact absurd hi (by omega)
/-- data without lists is no list -/
theorem no_list {H : Hp} {y : V} {d : PyData} (f : noL d = true) (h : Dp K H y d) : ∃ t, TyX K H y t ∧ PySem.W.kitOne K t (.type "list") = some false := by
  cases h with
  | non => exact ⟨_, .base .non, kit_ty (by decide +kernel)⟩
  | bl b => exact ⟨_, .base (.bl b), kit_ty (by decide +kernel)⟩
  | int i => exact ⟨_, .base (.int i), kit_ty (by decide +kernel)⟩
  | str x => exact ⟨_, .base (.str x), kit_ty (by decide +kernel)⟩
  | lst h r => simp [noL] at f
  | tup h r =>
    rcases h with (h | ⟨o, h⟩) | ⟨o, its, n, h, hc, _⟩
    · exact ⟨_, .base (.tup h), kit_ty (by decide +kernel)⟩
    · exact ⟨_, .fTuple h, kit_ty (by decide +kernel)⟩
    · exact ⟨_, .kTuple h hc, kit_ty (by decide +kernel)⟩
def rLiO (K : PySem.W.Frag) : List V → Hp → VK → Prop := fun xs H Q => ∃ p ys, xs = [.ref p] ∧ (SqL K H p ys ∨ SqT K H p ys) ∧ ∀ l, H l = none → Q (.ref l) (upd H l (.lst ys))
def te_kept (K : PySem.W.Frag) : TE := tIf (tB (tCB (rIsi K) (tCons (tVar 8) (tCons (tC (.ty "list")) tNil)))) (tCB (rLiO K) (tCons (tVar 8) tNil)) (tVar 8)
theorem yes_list {H : Hp} {l : Addr} {zs : List V} (h : H l = some (.lst zs)) : TyX K H (.ref l) (.type "list") ∧ PySem.W.kitOne K (.type "list") (.type "list") = some true := ⟨.base (.lst h), kit_ty (by decide +kernel)⟩
/-- [list(x) if isinstance(x, list) else x for x in due] -/
theorem kepts {H0 H : Hp} {Dd : Addr} {ys : List V} {x : Str} {c : Card} {z : Int} {v0 v1 v2 v3 v4 v5 v7 v8 v9 v10 : Option V} {Q : VK} (hd : H Dd = some (.lst ys)) (hl : ys.length = 16) (due : ∀ i y, ys[i]? = some y → DueIs K H0 H (resT x c z i) y)
    (k : ∀ p ks H2, H p = none → Ex H H2 → H2 p = some (.lst ks) → ks.length = 16 → (∀ i y, ks[i]? = some y → DueIs K H H2 (resT x c z i) y) → Q (.ref p) H2) :
    tLc (iList K (tVar 6)) (gName 8) tYes (te_kept K) [8] [v0, v1, v2, v3, v4, v5, some (.ref Dd), v7, v8, v9, v10] H Q := by
  refine ⟨_, rfl, Dd, rfl, ⟨_, SqL.of hd⟩, fun Dl hD => ?_⟩
  refine lc_list (xs := ys) (fun i H' => Ex H H' ∧ ∃ ks, H' Dl = some (.lst ks) ∧ ks.length = i ∧ ∀ j y, ks[j]? = some y → DueIs K H H' (resT x c z j) y ∧ ∀ ds, resT x c z j = .l ds → y ≠ .ref Dl) ⟨Ex.new hD, [], upd_same, rfl, fun j y e => by simp at e⟩ (fun i H' _ p => SqL.of (p.1 _ _ hd)) ?_ ?_
  · rintro i xv H' hx ⟨e1, ks, g1, g2, g3⟩
    have hi : i < 16 := by rw [← hl]; exact (List.getElem?_eq_some_iff.mp hx).1
    have dx := due_ex (due i xv hx) e1
    obtain ⟨okr, fr⟩ := fine_res x c z hi
    refine ⟨rfl, ?_⟩
    show (te_kept K) _ H' _
    have sz : ks.length < sizeLine := Evl.sz_lt (by omega)
    have old : ∀ {u : V} (j : Nat) (y : V) {H2 : Hp}, Ex H' H2 → ks[j]? = some y → DueIs K H (upd H2 Dl (.lst (ks ++ [u]))) (resT x c z j) y ∧ ∀ ds, resT x c z j = .l ds → y ≠ .ref Dl := fun {u} j y {H2} e2 hy => by
      obtain ⟨q1, q2⟩ := g3 j y hy
      have hj : j < ks.length := (List.getElem?_eq_some_iff.mp hy).1
      have eT : ExT H2 (upd H2 Dl (.lst (ks ++ [u]))) := ExT.mut (fun _ _ h _ => h) (e2 _ _ g1)
      exact ⟨due_mut (fine_res x c z (by omega)).2 (due_ex q1 e2) eT fun ds l zs er el hl => by rw [upd_ne (fun w => q2 ds er (by rw [el, w]))]; exact hl, q2⟩
    cases hr : resT x c z i with
    | d d =>
      rw [hr] at fr dx
      obtain ⟨t, ty, kt⟩ := no_list fr.1 dx
      refine ⟨_, rfl, xv, .ty "list", t, .type "list", false, rfl, .ty "list", ty, kt, false, rfl, iteF ⟨_, rfl, ?_⟩⟩
      have eT : ExT H' (upd H' Dl (.lst (ks ++ [xv]))) := ExT.mut (fun _ _ h _ => h) g1
      refine ⟨ks, g1, sz, Ex.mut e1 hD, ks ++ [xv], upd_same, by rw [List.length_append, g2]; rfl, fun j y hy => ?_⟩
      by_cases hj : j < ks.length
      · rw [List.getElem?_append_left hj] at hy
        exact old j y (Ex.refl _) hy
      · rw [List.getElem?_append_right (by omega)] at hy
        have ej : j = i := by
          have : j - ks.length < [xv].length := (List.getElem?_eq_some_iff.mp hy).1
          have e0 : [xv].length = 1 := rfl
          omega
        have ey : xv = y := by
          rw [ej, g2, Nat.sub_self] at hy
          exact Option.some.inj hy
        subst ey ej
        rw [hr]
        exact ⟨Dp.exT eT fr.1 dx, fun ds er => by cases er⟩
    | l ds =>
      rw [hr] at fr dx
      obtain ⟨l, zs, rfl, q1, q2, q3⟩ := dx
      obtain ⟨ty, kt⟩ := yes_list (K := K) q2
      refine ⟨_, rfl, .ref l, .ty "list", _, .type "list", true, rfl, .ty "list", ty, kt, true, rfl, iteT ⟨_, rfl, l, zs, rfl, .inl (SqL.of q2), fun l2 hl2 => ?_⟩⟩
      have e2 : Ex H' (upd H' l2 (.lst zs)) := Ex.new hl2
      have nl2 : l2 ≠ Dl := fun q => by rw [q, g1] at hl2; cases hl2
      have eT : ExT (upd H' l2 (.lst zs)) (upd (upd H' l2 (.lst zs)) Dl (.lst (ks ++ [.ref l2]))) := ExT.mut (fun _ _ h _ => h) (e2 _ _ g1)
      refine ⟨ks, e2 _ _ g1, sz, Ex.mut (e1.trans e2) hD, ks ++ [.ref l2], upd_same, by rw [List.length_append, g2]; rfl, fun j y hy => ?_⟩
      by_cases hj : j < ks.length
      · rw [List.getElem?_append_left hj] at hy
        exact old j y e2 hy
      · rw [List.getElem?_append_right (by omega)] at hy
        have ej : j = i := by
          have : j - ks.length < [V.ref l2].length := (List.getElem?_eq_some_iff.mp hy).1
          have e0 : [V.ref l2].length = 1 := rfl
          omega
        have ey : V.ref l2 = y := by
          rw [ej, g2, Nat.sub_self] at hy
          exact Option.some.inj hy
        subst ey ej
        rw [hr]
        exact ⟨⟨l2, zs, rfl, Evl.fresh_back e1 hl2, by rw [upd_ne nl2, upd_same], DpAll.exT eT fr.1 (DpAll.ex e2 q3)⟩, fun ds er q => nl2 (V.ref.inj q)⟩
    | x nn => rw [hr] at fr; exact fr.elim
  · rintro H' ⟨e1, ks, g1, g2, g3⟩
    rw [hl] at g2
    exact k Dl ks H' hD e1 g1 g2 fun i y hy => (g3 i y hy).1
end Hs

set_option Elab.async false
set_option linter.all false
set_option maxRecDepth 100000
set_option maxHeartbeats 4000000
/-! The def law, its walk. -/
namespace Hs
open PySem PySem.Spec PyProof.Rows L2
open Evl (Ex)
open LamX (ExtN Tabs TabB)
variable {P : Program} {w : World} {K : PySem.W.Frag} {mg : Str → Option Value} {base : Heap}
theorem all_at {H : Hp} {f : Nat → PyData} : ∀ (ys : List V) (j : Nat), (∀ i y, ys[i]? = some y → Dp K H y (f (j + i))) → DpAll K H ys ((List.range' j ys.length).map f)
  | [], _, _ => .nil
  | y :: ys, j, h => by
    refine .cons (h 0 y rfl) ?_
    have z := all_at ys (j + 1) fun i y' e => by
      have q := h (i + 1) y' (by simpa using e)
      rw [show j + (i + 1) = j + 1 + i by omega] at q
      exact q
    exact z
def datas (x : Str) (c : Card) (z : Int) : List PyData := (List.range' 0 16).map fun i => dataOf (resT x c z i)
theorem dueAll {H0 H : Hp} {ys : List V} {x : Str} {c : Card} {z : Int} (hl : ys.length = 16) (h : ∀ i y, ys[i]? = some y → DueIs K H0 H (resT x c z i) y) : DpAll K H ys (datas x c z) := by
  have q := all_at (f := fun i => dataOf (resT x c z i)) ys 0 fun i y e => by
    have hi : i < 16 := by rw [← hl]; exact (List.getElem?_eq_some_iff.mp e).1
    rw [Nat.zero_add]
    exact due_dp (fine_res x c z hi).2 (h i y e)
  rw [hl] at q
  exact q
theorem fine_all {f : Nat → PyData} : ∀ (n j : Nat), (∀ i, j ≤ i → i < j + n → (f i).plain = true ∧ (f i).depth ≤ 5) → PyData.plainAll ((List.range' j n).map f) = true ∧ PyData.depthAll ((List.range' j n).map f) ≤ 5
  | 0, _, _ => ⟨rfl, Nat.zero_le _⟩
  | n + 1, j, h => by
    obtain ⟨a, b⟩ := fine_all n (j + 1) fun i h1 h2 => h i (by omega) (by omega)
    obtain ⟨c, d⟩ := h j (Nat.le_refl _) (by omega)
    refine ⟨?_, ?_⟩
    · show ((f j).plain && PyData.plainAll ((List.range' (j + 1) n).map f)) = true
      rw [c, a]; rfl
    · show max (f j).depth (PyData.depthAll ((List.range' (j + 1) n).map f)) ≤ 5
      omega
theorem datas_fine (x : Str) (c : Card) (z : Int) : PyData.plain (.list (datas x c z)) = true ∧ PyData.depth (.list (datas x c z)) ≤ 60 := by
  obtain ⟨a, b⟩ := fine_all (f := fun i => dataOf (resT x c z i)) 16 0 fun i _ hi => by
    have f := (fine_res x c z (i := i) (by omega)).2
    show (dataOf (resT x c z i)).plain = true ∧ _
    cases hr : resT x c z i with
    | d d => rw [hr] at f; exact ⟨f.2.1, Nat.le_trans f.2.2 (by decide)⟩
    | l ds =>
      rw [hr] at f
      refine ⟨f.2.1, ?_⟩
      show PyData.depthAll ds + 1 ≤ 5
      have := f.2.2
      omega
    | x n => rw [hr] at f; exact f.elim
  refine ⟨a, ?_⟩
  show PyData.depthAll (datas x c z) + 1 ≤ 60
  have b' : PyData.depthAll (datas x c z) ≤ 5 := b
  omega
abbrev N_law : List Str := ["_law_script", "_law_d", "_law_work_here", "_law_one", "_law_n", "_law_calls_here", "_law_due", "_law_kept", "_law_told_here", "_law_bench", "_law_call"]
theorem sc_law : FnScope N_law ["_law_script"] (defScope s_law) := ⟨rfl, rfl, rfl, by decide +kernel, rfl, by decide +kernel, by decide +kernel⟩
def sp_law (K : PySem.W.Frag) : Sp := fun vs H Q _ => ∃ (a : Addr) (ns : List Int), vs = [.ref a] ∧ SqL K H a (ns.map V.int) ∧ ns.length ≤ 63 ∧ Tabs (tabL K) H ∧ ∀ H2, Q (.bl true) H2
theorem go_name {i : Nat} {x : V} {σ : L2.St} {H : Hp} {Q : L2.St → Hp → Prop} (h : Q (σ.set i (some x)) H) : gName i x σ H Q := h
theorem far8 {z : Int} (h : Far z) : Far (z / 8) ∧ Far (z / 8 + 1) := by
  obtain ⟨a, b⟩ := h
  have c : (0 : Int) ≤ 10 ^ 60 := by decide
  have c8 : (8 : Int) ≤ 10 ^ 60 := by decide
  refine ⟨⟨?_, ?_⟩, ⟨?_, ?_⟩⟩
  all_goals omega
theorem fnd_of {x qual : Str} {params : Arguments} {body : List Stmt} {scope : Scope} {f : Addr} {N ps : List Str} {k : Nat} {sp : Sp} {fd : FuncData} (D : FunD K x qual params body scope [] [] f fd) (S : FnScope N ps scope) (len : ∀ vs H Q E, sp vs H Q E → vs.length = ps.length)
    (hbody : ∀ (cdv : Value) (A : Around) (outer : List Env) (s : Shared) (H : Hp) (vs : List V) (Q : VK) (E : XK), Room k (A.deeper (envOfC qual scope s.heap.objs.size f cdv)) → sp vs H Q E →
      ∃ t, PSs (cxOf CX0 P w K mg base N qual scope f cdv A outer s H E).nox body t ∧ t { nx := fun _ H' => Q .non H', rt := Q } (start N vs) H) : FnOk P w K mg base CX0 (k + 1) f fd ps sp :=
  D.ok S len fun cdv A outer s H vs Q E hr h => by
    obtain ⟨t, h1, h2⟩ := hbody cdv A outer s H vs Q E hr h
    exact ⟨t, h1.nox, h2⟩
theorem fn_law (T : Top K mg) (B : TabB base mg (cTL K).1 (cTL K).2) {fd : FuncData} (DL : FunD K "law" "law" (defArgs s_law) (defBody s_law) (defScope s_law) [] [] (He.ga K "law") fd) : FnOk P w K mg base CX0 8 (He.ga K "law") fd ["_law_script"] (sp_law K) := by
  refine fnd_of DL sc_law (fun vs H Q E h => ?_) (fun cdv A outer s H vs Q E hr h => ?_)
  · obtain ⟨_, _, rfl, _⟩ := h; rfl
  · obtain ⟨a, ns, rfl, ha, hlen, hT, k⟩ := h
    have nd := sc_law.nd
    have D1 := ok_dice (P := P) (w := w) (base := base) T
    have D2 := ok_lwork (P := P) (w := w) (base := base) T
    have D3 := ok_pack (P := P) (w := w) (base := base) T
    have D4 := ok_lnumber (P := P) (w := w) (base := base) T
    have D5 := ok_calls (P := P) (w := w) (base := base) T B
    have D6 := ok_told (P := P) (w := w) (base := base) T
    have D7 := ok_binit (P := P) (w := w) (base := base) T
    have D8 := ok_bdo (P := P) (w := w) (base := base) T
    have D9 := ok_bworks (P := P) (w := w) (base := base) T
    have D10 := ok_bnumber (P := P) (w := w) (base := base) T
    refine ⟨_, pss_cons (ps_set (i := 1) nd rfl (.inl rfl) (pc D1 hr T.g_law_dice (pa_cons (pv 0) pa_nil)))
      (pss_cons (ps_par3 (i := 2) (j := 3) (l := 4) rfl nd rfl rfl rfl (by decide) (by decide) (by decide) rfl rfl rfl (pa_cons (pc D2 hr T.g_law_work (pa_cons (pv 1) (pa_cons pe_int pa_nil))) (pa_cons (pc D3 hr T.g_law_pack (pa_cons (pv 1) (pa_cons pe_int pa_nil))) (pa_cons (pc D4 hr T.g_law_number (pa_cons (pv 1) pa_nil)) pa_nil))) (by rfl))
      (pss_cons (ps_set (i := 5) nd rfl (.inl rfl) (pc D5 hr T.g_law_calls (pa_cons (pv 2) (pa_cons (pv 3) (pa_cons (pv 4) pa_nil)))))
      (pss_cons (ps_setLc (i := 6) (own := [("_law_call", 10)]) (g := gName 10) (tt := tYes) (te := tCl (sp_told P w K mg base) (tCons (tVar 10) tNil)) rfl nd rfl rfl (sw_true rfl rfl rfl (by decide +kernel)) (pi_list (pv 5)) (blkOk_by (own := [("_law_call", 10)]) (N := N_law) (sc := defScope s_law) (by decide +kernel))
        (fun _ _ _ _ _ => pg_name (i := 10) nd rfl (Or.inl rfl)) (fun _ _ _ _ _ => pts_nil) (fun _ _ _ _ _ => pc D6 hr T.g_law_told (pa_cons (pv 10) pa_nil)))
      (pss_cons (ps_setLc (i := 7) (own := [("_law_told_here", 8)]) (g := gName 8) (tt := tYes) (te := te_kept K) rfl nd rfl rfl (sw_true rfl rfl rfl (by decide +kernel)) (pi_list (pv 6)) (blkOk_by (own := [("_law_told_here", 8)]) (N := N_law) (sc := defScope s_law) (by decide +kernel))
        (fun _ _ _ _ _ => pg_name (i := 8) nd rfl (Or.inl rfl)) (fun _ _ _ _ _ => pts_nil)
        (fun _ _ _ _ _ => pe_ifExp (pt_val (pe_callB call_isi (by rfl) T.f_isinstance (by decide +kernel) (pa_cons (pv 8) (pa_cons (pe_bltn (by rfl) T.f_list (by decide +kernel) rfl) pa_nil)))) (pe_callTy call_list_of (by rfl) T.f_list (by decide +kernel) (pa_cons (pv 8) pa_nil)) (pv 8)))
      (pss_cons (ps_for PassesOwn.never rfl (pi_list (pv 6)) (pg_name (i := 8) nd rfl (.inl rfl)) (pss_one (ps_if (pt_val (pe_callB call_isi (by rfl) T.f_isinstance (by decide +kernel) (pa_cons (pv 8) (pa_cons (pe_bltn (v := .ty "list") (by rfl) T.f_list (by decide +kernel) rfl) pa_nil))))
        (pss_one (ps_expr (pe_bm PySem.F.plainAttrs_list PySem.F.slot_list_append PySem.F.type_list_append mt_append (pv 8) (pa_cons pe_str pa_nil)))) pss_nil)))
      (pss_cons (ps_if (pt_cmpR (op_neP hr.units) (pe_lc (own := [("_law_call", 10)]) (g := gName 10) (tt := tYes) (te := tCl (sp_told P w K mg base) (tCons (tVar 10) tNil)) rfl nd (pi_list (pv 5)) (blkOk_by (own := [("_law_call", 10)]) (N := N_law) (sc := defScope s_law) (by decide +kernel))
        (fun _ _ _ _ _ => pg_name (i := 10) nd rfl (Or.inl rfl)) (fun _ _ _ _ _ => pts_nil) (fun _ _ _ _ _ => pc D6 hr T.g_law_told (pa_cons (pv 10) pa_nil))) (pv 7) (nomark _)) (pss_one (ps_ret pe_bl)) pss_nil)
      (pss_cons (ps_set (i := 9) nd rfl (.inl rfl) (pmk T.mk_Bench D7 hr T.g_Bench (pa_cons (pe_op op_fdiv (pv 4) pe_int) pa_nil)))
      (pss_cons (ps_expr (pm (pv 9) T.c_Bench T.m_Bench_do D8 hr (pa_cons pe_str pa_nil)))
      (pss_cons (ps_expr (pe_bm PySem.F.plainAttrs_list PySem.F.slot_list_append PySem.F.type_list_append mt_append (pm0 (pv 9) T.c_Bench T.m_Bench_works D9 hr) (pa_cons pe_str pa_nil)))
      (pss_one (ps_ret (pe_and (pe_cmpR (op_eqD hr.units) (pm0 (pv 9) T.c_Bench T.m_Bench_works D9 hr) (pe_lst (pa_cons pe_str pa_nil)) (nomark _)) (pe_one (pe_cmpR op_eq (pm0 (pv 9) T.c_Bench T.m_Bench_number D10 hr) (pe_op op_add (pe_op op_fdiv (pv 4) pe_int) pe_int) (nomark _))))))))))))))), ?_⟩
    refine ⟨_, rfl, a, ns, rfl, ha, hlen, fun p H1 hp e1 d1 => ?_⟩
    refine ⟨_, rfl, p, a, ns, rfl, d1, fun x H2 wk h9 e2 d2 => ⟨_, rfl, p, a, ns, rfl, d2, fun v c H3 sm e3 d3 nv cd => ⟨_, rfl, p, a, ns, rfl, d3, fun z H4 far e4 d4 => ⟨_, _, _, rfl, ?_⟩⟩⟩⟩
    have xH : Ex H H4 := fun b u hb => by
      have n : b ≠ p := fun q => by rw [q, hp] at hb; cases hb
      exact e4 b u n (e3 b u n (e2 b u n (e1 b u hb)))
    have cd4 : Cd K H4 v c := by
      obtain ⟨t, rfl, ht⟩ := cd
      have n : t ≠ p := fun q => nv (by rw [q])
      refine ⟨t, rfl, ?_⟩
      rcases ht with (ht | ⟨o, ht⟩) | ht
      · exact .inl (.inl (e4 _ _ n ht))
      · exact .inl (.inr ⟨o, e4 _ _ n ht⟩)
      · exact .inr ht
    refine ⟨_, rfl, _, rfl, _, rfl, x, v, z, rfl, LamX.Tabs.ext hT xH, fun pc' H5 e5 ca => ?_⟩
    have cd5 : Cd K H5 v c := by
      obtain ⟨t, rfl, ht⟩ := cd4
      refine ⟨t, rfl, ?_⟩
      rcases ht with (ht | ⟨o, ht⟩) | ht
      · exact .inl (.inl (e5 _ _ ht (fun ps q => by cases q)))
      · exact .inl (.inr ⟨o, e5 _ _ ht (fun ps q => by cases q)⟩)
      · exact .inr ht
    refine go_name ?_
    refine go_next (go_seq (go_asg (tolds (v0 := some (.ref a)) (v1 := some (.ref p)) (v2 := some (.str x)) (v3 := some v) (v4 := some (.int z)) (v6 := none) (v7 := none) (v8 := none) (v9 := none) (v10 := none) T ca cd5 wk h9 sm far fun Dd ys H6 hDd e6 h6 l6 due => ?_)))
    refine go_name ?_
    refine go_next (go_seq (go_asg (kepts (v0 := some (.ref a)) (v1 := some (.ref p)) (v2 := some (.str x)) (v3 := some v) (v4 := some (.int z)) (v5 := some (.ref pc')) (v7 := none) (v8 := none) (v9 := none) (v10 := none) h6 l6 (fun i y hy => (due i y hy).1) fun Dk ks H7 hDk e7 h7 l7 kept => ?_)))
    refine go_name ?_
    have fineI := fun i (hi : i < 16) => fine_res x c z (i := i) hi
    -- the lists that were told
    have islist : ∀ (i : Nat) (ds : List PyData) (b : Addr), resT x c z i = .l ds → ys[i]? = some (.ref b) → H5 b = none ∧ (∃ zs, H6 b = some (.lst zs) ∧ zs.length ≤ 1000) ∧ b ≠ Dd := fun i ds b hr hy => by
      have hi : i < 16 := by rw [← l6]; exact (List.getElem?_eq_some_iff.mp hy).1
      obtain ⟨q1, q2⟩ := due i _ hy
      rw [hr] at q1
      obtain ⟨l, zs, el, g1, g2, g3⟩ := q1
      cases el
      exact ⟨g1, ⟨zs, g2, by rw [dlen g3]; exact resT_len x sm z hi hr⟩, fun q => q2 ds hr (by rw [q])⟩
    let Told : Addr → Prop := fun b => ∃ i ds, resT x c z i = .l ds ∧ ys[i]? = some (.ref b)
    refine ⟨_, rfl, Dd, rfl, ⟨_, SqL.of (e7 _ _ h6)⟩, for_list (K := K) (a := Dd) (xs := ys)
      (fun i σ H' => (∀ b u, H7 b = some u → ¬ Told b → H' b = some u) ∧ (∀ b, Told b → ∃ zs, H' b = some (.lst zs) ∧ zs.length ≤ 1000 + i) ∧ ∃ v8, σ = [some (.ref a), some (.ref p), some (.str x), some v, some (.int z), some (.ref pc'), some (.ref Dd), some (.ref Dk), v8, none, none])
      ⟨fun b u h _ => h, fun b ⟨i, ds, hr, hy⟩ => ?_, none, rfl⟩ ?_ ?_ ?_⟩
    · obtain ⟨_, ⟨zs, g1, g2⟩, _⟩ := islist i ds b hr hy
      exact ⟨zs, e7 _ _ g1, by omega⟩
    · intro i σ H' _ q
      exact SqL.of (q.1 Dd _ (e7 _ _ h6) fun ⟨i, ds, hr, hy⟩ => (islist i ds Dd hr hy).2.2 rfl)
    · rintro i y σ H' hy ⟨q1, q2, v8, rfl⟩
      have hi : i < 16 := by rw [← l6]; exact (List.getElem?_eq_some_iff.mp hy).1
      have eT : ExT H7 H' := fun b u hb ht => q1 b u hb fun ⟨j, ds, hr, hyj⟩ => by
        obtain ⟨_, ⟨zs, g1, _⟩, _⟩ := islist j ds b hr hyj
        rw [e7 _ _ g1] at hb
        cases hb
        exact ht
      cases hr : resT x c z i with
      | d d =>
        have fr := (fineI i hi).2
        have dx := (due i y hy).1
        rw [hr] at fr dx
        obtain ⟨t, ty, kt⟩ := no_list fr.1 (Dp.exT eT fr.1 (Dp.ex e7 dx))
        refine ⟨_, rfl, y, .ty "list", t, .type "list", false, rfl, .ty "list", ty, kt, false, rfl, iteF ?_⟩
        exact ⟨q1, fun b hb => by obtain ⟨zs, g1, g2⟩ := q2 b hb; exact ⟨zs, g1, by omega⟩, some y, rfl⟩
      | l ds =>
        have dx := (due i y hy).1
        rw [hr] at dx
        obtain ⟨l, zs0, rfl, _, _, _⟩ := dx
        have tl : Told l := ⟨i, ds, hr, hy⟩
        obtain ⟨zs, g1, g2⟩ := q2 l tl
        obtain ⟨ty, kt⟩ := yes_list (K := K) g1
        refine ⟨_, rfl, .ref l, .ty "list", _, .type "list", true, rfl, .ty "list", ty, kt, true, rfl, iteT ?_⟩
        refine ⟨_, rfl, .inl ⟨rfl, _, SqL.of g1⟩, l, zs, _, rfl, rfl, g1, Evl.sz_lt (by omega), ?_⟩
        refine ⟨fun b u hb nb => ?_, fun b hb => ?_, some (.ref l), rfl⟩
        · rw [upd_ne (fun q => nb (by rw [q]; exact tl))]; exact q1 b u hb nb
        · by_cases eb : b = l
          · subst eb
            exact ⟨_, upd_same, by rw [List.length_append]; show zs.length + 1 ≤ _; omega⟩
          · obtain ⟨zs', w1, w2⟩ := q2 b hb
            exact ⟨zs', by rw [upd_ne eb]; exact w1, by omega⟩
      | x nn => have fr := (fineI i hi).2; rw [hr] at fr; exact fr.elim
    · rintro σ H8 ⟨q1, q2, v8, rfl⟩
      have x58 : Ex H5 H8 := fun b u hb => q1 b u (e7 _ _ (e6 _ _ hb)) fun ⟨j, ds, hr, hyj⟩ => by
        rw [(islist j ds b hr hyj).1] at hb; cases hb
      have eT : ExT H7 H8 := fun b u hb ht => q1 b u hb fun ⟨j, ds, hr, hyj⟩ => by
        obtain ⟨_, ⟨zs, g1, _⟩, _⟩ := islist j ds b hr hyj
        rw [e7 _ _ g1] at hb
        cases hb
        exact ht
      have fresh6 : ∀ b, H6 b = none → ¬ Told b := fun b hb ⟨j, ds, hr, hyj⟩ => by
        obtain ⟨_, ⟨zs, g1, _⟩, _⟩ := islist j ds b hr hyj
        rw [g1] at hb; cases hb
      have k8 : H8 Dk = some (.lst ks) := q1 _ _ h7 (fresh6 _ hDk)
      have kd8 : Dp K H8 (.ref Dk) (.list (datas x c z)) := .lst (SqL.of k8) (dueAll (H0 := H6) l7 fun i y hy => due_mut (fineI i (by rw [← l7]; exact (List.getElem?_eq_some_iff.mp hy).1)).2 (kept i y hy) eT fun ds l zs er el hl => by
        have hk := kept i y hy
        rw [er] at hk
        obtain ⟨l', zs', el', g1, g2, g3⟩ := hk
        rw [el] at el'
        cases el'
        exact q1 _ _ hl (fresh6 _ g1))
      obtain ⟨pl, dep⟩ := datas_fine x c z
      refine go_next (go_seq (go_if (go_test (go_op (tolds (v0 := some (.ref a)) (v1 := some (.ref p)) (v2 := some (.str x)) (v3 := some v) (v4 := some (.int z)) (v6 := some (.ref Dd)) (v7 := some (.ref Dk)) (v8 := v8) (v9 := none) (v10 := none) T (ca.exx x58) (cd5.ex x58) wk h9 sm far fun D2 ys2 H9 hD2 e9 hd9 l9 due9 => ?_)))))
      have dd9 : Dp K H9 (.ref D2) (.list (datas x c z)) := .lst (SqL.of hd9) (dueAll (H0 := H8) l9 fun i y hy => (due9 i y hy).1)
      refine ⟨_, rfl, .list (datas x c z), .list (datas x c z), dd9, Dp.ex e9 kd8, pl, pl, dep, _, rfl, ?_⟩
      rw [SeqAt.eqv_refl_plain _ pl]
      refine iteF ?_
      obtain ⟨fz, fz1⟩ := far8 far
      have er : runF ("+" : Str).cps.toList (z / 8) = z / 8 + 1 := by rw [tx_plus]; rfl
      refine ⟨_, rfl, _, _, rfl, rfl, ⟨by decide, by decide⟩, fun xb dx hx hdx nn => ⟨xb, dx, _, rfl, upd_same, fz, fun H10 ba => ⟨rfl, ?_⟩⟩⟩
      have ba' := ba
      obtain ⟨dx1, fs1, l1, vs1, b1, bf1, bl1, b2, b3⟩ := ba
      refine ⟨_, rfl, xb, dx1, fs1, rfl, b1, bf1.do_, xb, "+", z / 8, rfl, ba', wk_plus, fz, by rw [er]; exact fz1, fun H11 ba2 => ?_⟩
      have ba2' := ba2
      obtain ⟨dx2, fs2, l2, vs2, b4, bf2, bl2, b5, b6⟩ := ba2
      refine ⟨_, rfl, xb, dx2, fs2, rfl, b4, bf2.works, xb, _, _, rfl, ba2', by show 1 ≤ 100; decide, fun q ys3 H12 hq e12 hq2 d12 => ⟨.inl ⟨rfl, _, SqL.of hq2⟩, q, ys3, _, rfl, rfl, hq2, ?_, ?_⟩⟩
      · have := dlen d12
        have : ys3.length = 1 := this
        exact Evl.sz_lt (by omega)
      · have e13 : Ex H11 (upd H12 q (.lst (ys3 ++ [.str "spoilt"]))) := Ex.mut e12 hq
        have ba3 := ba2'.exx e13
        generalize upd H12 q (.lst (ys3 ++ [.str "spoilt"])) = H13 at e13 ba3
        have ba3' := ba3
        obtain ⟨dx3, fs3, l3, vs3, b7, bf3, bl3, b8, b9⟩ := ba3
        refine ⟨_, rfl, xb, dx3, fs3, rfl, b7, bf3.works, xb, _, _, rfl, ba3', by show 1 ≤ 100; decide, fun q2 ys4 H14 hq2 e14 hq3 d14 => ⟨(by show 1 ≤ sizeLine; decide), fun q3 hq3' => ?_⟩⟩
        have e15 : Ex H14 (upd H14 q3 (.lst [.str "+"])) := Ex.new hq3'
        have ba4 := (ba3'.exx e14).exx e15
        have ba4' := ba4
        obtain ⟨dx4, fs4, l4, vs4, b10, bf4, bl4, b11, b12⟩ := ba4
        refine ⟨.list [.str "+"], .list [.str "+"], Dp.ex e15 (.lst (SqL.of hq3) d14), .lst (SqL.of upd_same) (.cons (.str _) .nil), by decide +kernel, by decide +kernel, _, rfl, ?_⟩
        have ev : PyData.eqv (.list [.str "+"]) (.list [.str "+"]) = true := SeqAt.eqv_refl_plain _ rfl
        rw [ev]
        refine iteT ?_
        refine ⟨_, rfl, xb, dx4, fs4, rfl, b10, bf4.number, xb, _, _, rfl, ba4', _, rfl, _, _, rfl, rfl, ⟨by decide, by decide⟩, _, _, rfl, rfl, rfl, ?_⟩
        rw [er, decide_eq_true rfl]
        exact k _
end Hs

set_option Elab.async false
set_option linter.all false
set_option maxRecDepth 100000
set_option maxHeartbeats 4000000
/-! The end. -/
namespace Hs
open PySem PySem.Spec PyProof.Rows L2
open LamX (TabB)
theorem end_at {w : World} {mg : Str → Option Value} {fa' : Addr} {h : Heap} {K : PySem.W.Frag} (KX : K.In h) (G : h.Ns mainGlobals mg) (hmg : mg ("law" : Str) = some (.ref fa')) (c : He.SaysX fa fn [] tf ex w h K) :
    LamX.LawAtS PySem.Challenge.rw_halfsteps_k32_whole_asked_again w K CX0 8 63 "_law_script" mg fa' h := by
  have T : Top K mg := ⟨c.t.d, c.more, h, KX, G⟩
  obtain ⟨fd, D⟩ := T.fd_law
  have ef : fa' = He.ga K "law" := by
    have e := T.g_law
    rw [hmg] at e
    exact Value.ref.inj (Option.some.inj e)
  subst ef
  have hm : (("_law_calls", none) : He.Defn) ∈ tf := List.mem_cons_self
  refine ⟨fd, [cTL K], sp_law K, ?_, ?_, ?_, ?_, ?_, ?_⟩
  · intro p hp
    rw [List.mem_singleton.mp hp]
    exact c.empty _ hm
  · intro p hp
    rw [List.mem_singleton.mp hp]
    exact c.out _ hm
  · intro p hp
    rw [List.mem_singleton.mp hp]
    exact PySem.W.codeHd_of_K KX (c.hd _ hm)
  · intro s u
    obtain ⟨oc, od, dV, kV, doc, pm, an, cdv, ct, osl, rfl, lk, hcd, hd, hk⟩ := D.ex
    rcases hd with ⟨_, rfl⟩ | ⟨z, _⟩
    · exact .of_eq rfl
    · exact absurd rfl z
  · intro H a ns hl _ hT hS
    refine ⟨a, ns, rfl, hS, hl, fun q hq => ?_, fun _ => rfl⟩
    have e : q = ((cTL K).2, lamQ) := List.mem_singleton.mp hq
    subst e
    exact LamX.TabS.nil (hT (cTL K) List.mem_cons_self)
  · intro base X hG hB
    exact fn_law T (hB (cTL K) List.mem_cons_self) D
end Hs
open PySem PySem.W PySem.Calls PyProof.Rows
theorem PySem.Challenge.cw_halfsteps_k32_whole_asked_again_holds : PySem.Challenge.rw_halfsteps_k32_whole_asked_again.Holds := by
  w_on; o_law
  refine HandSHeadRun.head_any (r := OpenLaw.row PySem.Challenge.rw_halfsteps_k32_whole_asked_again) (q := view (OpenLaw.row PySem.Challenge.rw_halfsteps_k32_whole_asked_again).prog [70]) (H := Hs.hk) (ob := Hs.ob) (M := 6000) (loose := Hs.loose) (d := HandSHeadRun.topDef (OpenLaw.row PySem.Challenge.rw_halfsteps_k32_whole_asked_again).prog 70) (kwd := []) Hs.ob_eq
    (by kernel_rfl) (fun s => by kernel_rfl) Hs.run (by kernel_rfl) (by kernel_rfl) (by kernel_rfl) (by rfl) (by first | assumption | decide +kernel) (by decide +kernel) ⟨rfl, rfl, rfl, rfl, rfl, by decide +kernel⟩ ?hw ?hc
  case hw => w_witness2
  case hc =>
    refine LamX.walk_ofTsE (l := PySem.Challenge.rw_halfsteps_k32_whole_asked_again) (n := 63) (k := 8) (x := "_law_script") (CX := fun _ => L2.CX0) rfl (by decide) (by kernel_rfl) ⟨rfl, by decide, by decide⟩ ?F (fun _ _ _ _ _ z => z)
    intro w mg fa h Y G hmg0
    obtain ⟨K, KX, c⟩ := Y
    have hmg : mg ("law" : PySem.Str) = some (.ref fa) := by
      have e : (HandSHeadRun.topDef (OpenLaw.row PySem.Challenge.rw_halfsteps_k32_whole_asked_again).prog 70).name = ("law" : PySem.Str) := by kernel_rfl
      rw [← e]
      exact hmg0
    exact ⟨K, KX, Hs.end_at KX G hmg c⟩
