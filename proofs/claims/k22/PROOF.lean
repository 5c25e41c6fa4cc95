import PyProof.Rows.All
import Wide.All
import OpenK.AllK
import Wide.FinOn
import HandS.ForMost
import KE.KStateDown
import Lean
import HandS.More
import HandS.Defaults
import HandS.IsInst
import HandS.EndTab
import HandS.Head0
import HandS.Head1
import HandS.Head2
import HandS.HeadEnd
import HandS.HeadHook1
import HandS.HeadHook2
import HandS.HeadHook3
import HandS.HeadHook4
import HandS.HeadWalk
import HandS.MakeKwOnly
import HandS.DictComp
import HandS.Flow
import HandS.Strs
import HandS.Conv
import HandS.Deep
import HandS.TupAny
import HandS.NoneIn
import HandS.Walk
import HandS.Lambda
import HandS.SortInts
import HandS.Evl
import KE.GoesMore
import HandS.Small
import KE.SortKeyHeap
import PySem.Challenge.RW_holdtree_k22_whole_nobody_is_passed
set_option Elab.async false
set_option linter.all false
set_option maxRecDepth 100000
/-! the text by places -/
namespace HT
open PySem PySem.Spec PyProof.Rows L2
def topS (i : Nat) : Stmt := PySem.Challenge.pw_holdtree_k22_whole_nobody_is_passed.main.body.getD i (.Pass ⟨0, 0, 0, 0⟩)
abbrev s_is_name : Stmt := topS 13
abbrev s_is_number : Stmt := topS 14
abbrev s_is_row : Stmt := topS 15
abbrev s_are_modes : Stmt := topS 20
abbrev s_is_mode : Stmt := topS 21
abbrev s_are_pairs : Stmt := topS 22
abbrev s_is_dict : Stmt := topS 23
abbrev s_Table_init : Stmt := inClass (topS 24) 0
abbrev s_Table_need : Stmt := inClass (topS 24) 2
abbrev s_Table_beside : Stmt := inClass (topS 24) 3
abbrev s_Table_bears : Stmt := inClass (topS 24) 6
abbrev s_Table_joined : Stmt := inClass (topS 24) 7
abbrev s_Table_quarrel : Stmt := inClass (topS 24) 8
abbrev s_Table_is_over : Stmt := inClass (topS 24) 9
abbrev s_Table_flaws : Stmt := inClass (topS 24) 10
abbrev s_Table_flaw : Stmt := inClass (topS 24) 11
abbrev s_need_table : Stmt := topS 25
abbrev s_need_deal : Stmt := topS 27
abbrev s_Line_init : Stmt := inClass (topS 28) 0
abbrev s_Line_fits : Stmt := inClass (topS 28) 1
abbrev s_Line_grant : Stmt := inClass (topS 28) 2
abbrev s_Line_ask : Stmt := inClass (topS 28) 3
abbrev s_Line_unwait : Stmt := inClass (topS 28) 4
abbrev s_Line_granted_now : Stmt := inClass (topS 28) 5
abbrev s_Line_go : Stmt := inClass (topS 28) 6
abbrev s_Line_cease : Stmt := inClass (topS 28) 7
abbrev s_Line_ease : Stmt := inClass (topS 28) 8
abbrev s_Line_held : Stmt := inClass (topS 28) 9
abbrev s_Line_holders : Stmt := inClass (topS 28) 10
abbrev s_Line_waiting : Stmt := inClass (topS 28) 11
abbrev s_Line_passed : Stmt := inClass (topS 28) 12
abbrev s_law_begun : Stmt := topS 30
abbrev s_law_take : Stmt := topS 31
abbrev s_law_pick : Stmt := topS 32
abbrev s_law_words : Stmt := topS 33
abbrev s_law_stair : Stmt := topS 34
abbrev s_law_usual_like : Stmt := topS 35
abbrev s_law_any_table : Stmt := topS 36
abbrev s_law_made : Stmt := topS 37
abbrev s_law_table : Stmt := topS 38
abbrev s_law_near : Stmt := topS 39
abbrev s_law_bears : Stmt := topS 40
abbrev s_law_joined : Stmt := topS 41
abbrev s_law_empty : Stmt := topS 42
abbrev s_law_fits : Stmt := topS 43
abbrev s_law_grant : Stmt := topS 44
abbrev s_law_asks : Stmt := topS 45
abbrev s_law_scan : Stmt := topS 46
abbrev s_law_out : Stmt := topS 47
abbrev s_law_does : Stmt := topS 48
abbrev s_law_told : Stmt := topS 49
abbrev s_law_deed : Stmt := topS 50
abbrev s_law_deals : Stmt := topS 52
abbrev s_law_row_right : Stmt := topS 53
abbrev s_law_ask_right : Stmt := topS 54
abbrev s_law_counted : Stmt := topS 55
abbrev s_law : Stmt := topS 56
end HT
set_option Elab.async false
set_option linter.all false
set_option maxRecDepth 100000
set_option maxHeartbeats 0
/-! the head: facts by names, the run -/
noncomputable section
namespace HT
open PySem PySem.Spec PyProof.Rows L2
def d_is_name : He.DefD := ⟨("is_name", none), "is_name", "is_name", defArgs s_is_name, defBody s_is_name, defScope s_is_name, [], []⟩
def d_is_number : He.DefD := ⟨("is_number", none), "is_number", "is_number", defArgs s_is_number, defBody s_is_number, defScope s_is_number, [.non], []⟩
def d_is_row : He.DefD := ⟨("is_row", none), "is_row", "is_row", defArgs s_is_row, defBody s_is_row, defScope s_is_row, [], []⟩
def d_are_modes : He.DefD := ⟨("are_modes", none), "are_modes", "are_modes", defArgs s_are_modes, defBody s_are_modes, defScope s_are_modes, [], []⟩
def d_is_mode : He.DefD := ⟨("is_mode", none), "is_mode", "is_mode", defArgs s_is_mode, defBody s_is_mode, defScope s_is_mode, [], []⟩
def d_are_pairs : He.DefD := ⟨("are_pairs", none), "are_pairs", "are_pairs", defArgs s_are_pairs, defBody s_are_pairs, defScope s_are_pairs, [], []⟩
def d_is_dict : He.DefD := ⟨("is_dict", none), "is_dict", "is_dict", defArgs s_is_dict, defBody s_is_dict, defScope s_is_dict, [], []⟩
def d_Table_init : He.DefD := ⟨("Table", some "__init__"), "__init__", "Table.__init__", defArgs s_Table_init, defBody s_Table_init, defScope s_Table_init, [], [("above", .non)]⟩
def d_Table_need : He.DefD := ⟨("Table", some "need"), "need", "Table.need", defArgs s_Table_need, defBody s_Table_need, defScope s_Table_need, [], []⟩
def d_Table_beside : He.DefD := ⟨("Table", some "beside"), "beside", "Table.beside", defArgs s_Table_beside, defBody s_Table_beside, defScope s_Table_beside, [], []⟩
def d_Table_bears : He.DefD := ⟨("Table", some "bears"), "bears", "Table.bears", defArgs s_Table_bears, defBody s_Table_bears, defScope s_Table_bears, [], []⟩
def d_Table_joined : He.DefD := ⟨("Table", some "joined"), "joined", "Table.joined", defArgs s_Table_joined, defBody s_Table_joined, defScope s_Table_joined, [], []⟩
def d_Table_quarrel : He.DefD := ⟨("Table", some "quarrel"), "quarrel", "Table.quarrel", defArgs s_Table_quarrel, defBody s_Table_quarrel, defScope s_Table_quarrel, [], []⟩
def d_Table_is_over : He.DefD := ⟨("Table", some "is_over"), "is_over", "Table.is_over", defArgs s_Table_is_over, defBody s_Table_is_over, defScope s_Table_is_over, [], []⟩
def d_Table_flaws : He.DefD := ⟨("Table", some "flaws"), "flaws", "Table.flaws", defArgs s_Table_flaws, defBody s_Table_flaws, defScope s_Table_flaws, [], []⟩
def d_Table_flaw : He.DefD := ⟨("Table", some "flaw"), "flaw", "Table.flaw", defArgs s_Table_flaw, defBody s_Table_flaw, defScope s_Table_flaw, [], []⟩
def d_need_table : He.DefD := ⟨("need_table", none), "need_table", "need_table", defArgs s_need_table, defBody s_need_table, defScope s_need_table, [], []⟩
def d_need_deal : He.DefD := ⟨("need_deal", none), "need_deal", "need_deal", defArgs s_need_deal, defBody s_need_deal, defScope s_need_deal, [], []⟩
def d_Line_init : He.DefD := ⟨("Line", some "__init__"), "__init__", "Line.__init__", defArgs s_Line_init, defBody s_Line_init, defScope s_Line_init, [], []⟩
def d_Line_fits : He.DefD := ⟨("Line", some "fits"), "fits", "Line.fits", defArgs s_Line_fits, defBody s_Line_fits, defScope s_Line_fits, [], []⟩
def d_Line_grant : He.DefD := ⟨("Line", some "grant"), "grant", "Line.grant", defArgs s_Line_grant, defBody s_Line_grant, defScope s_Line_grant, [], []⟩
def d_Line_ask : He.DefD := ⟨("Line", some "ask"), "ask", "Line.ask", defArgs s_Line_ask, defBody s_Line_ask, defScope s_Line_ask, [], []⟩
def d_Line_unwait : He.DefD := ⟨("Line", some "unwait"), "unwait", "Line.unwait", defArgs s_Line_unwait, defBody s_Line_unwait, defScope s_Line_unwait, [], []⟩
def d_Line_granted_now : He.DefD := ⟨("Line", some "granted_now"), "granted_now", "Line.granted_now", defArgs s_Line_granted_now, defBody s_Line_granted_now, defScope s_Line_granted_now, [], []⟩
def d_Line_go : He.DefD := ⟨("Line", some "go"), "go", "Line.go", defArgs s_Line_go, defBody s_Line_go, defScope s_Line_go, [], []⟩
def d_Line_cease : He.DefD := ⟨("Line", some "cease"), "cease", "Line.cease", defArgs s_Line_cease, defBody s_Line_cease, defScope s_Line_cease, [], []⟩
def d_Line_ease : He.DefD := ⟨("Line", some "ease"), "ease", "Line.ease", defArgs s_Line_ease, defBody s_Line_ease, defScope s_Line_ease, [], []⟩
def d_Line_held : He.DefD := ⟨("Line", some "held"), "held", "Line.held", defArgs s_Line_held, defBody s_Line_held, defScope s_Line_held, [], []⟩
def d_Line_holders : He.DefD := ⟨("Line", some "holders"), "holders", "Line.holders", defArgs s_Line_holders, defBody s_Line_holders, defScope s_Line_holders, [], []⟩
def d_Line_waiting : He.DefD := ⟨("Line", some "waiting"), "waiting", "Line.waiting", defArgs s_Line_waiting, defBody s_Line_waiting, defScope s_Line_waiting, [], []⟩
def d_Line_passed : He.DefD := ⟨("Line", some "passed"), "passed", "Line.passed", defArgs s_Line_passed, defBody s_Line_passed, defScope s_Line_passed, [], []⟩
def d_law_begun : He.DefD := ⟨("_law_begun", none), "_law_begun", "_law_begun", defArgs s_law_begun, defBody s_law_begun, defScope s_law_begun, [], []⟩
def d_law_take : He.DefD := ⟨("_law_take", none), "_law_take", "_law_take", defArgs s_law_take, defBody s_law_take, defScope s_law_take, [], []⟩
def d_law_pick : He.DefD := ⟨("_law_pick", none), "_law_pick", "_law_pick", defArgs s_law_pick, defBody s_law_pick, defScope s_law_pick, [], []⟩
def d_law_words : He.DefD := ⟨("_law_words", none), "_law_words", "_law_words", defArgs s_law_words, defBody s_law_words, defScope s_law_words, [], []⟩
def d_law_stair : He.DefD := ⟨("_law_stair", none), "_law_stair", "_law_stair", defArgs s_law_stair, defBody s_law_stair, defScope s_law_stair, [], []⟩
def d_law_usual_like : He.DefD := ⟨("_law_usual_like", none), "_law_usual_like", "_law_usual_like", defArgs s_law_usual_like, defBody s_law_usual_like, defScope s_law_usual_like, [], []⟩
def d_law_any_table : He.DefD := ⟨("_law_any_table", none), "_law_any_table", "_law_any_table", defArgs s_law_any_table, defBody s_law_any_table, defScope s_law_any_table, [], []⟩
def d_law_made : He.DefD := ⟨("_law_made", none), "_law_made", "_law_made", defArgs s_law_made, defBody s_law_made, defScope s_law_made, [], []⟩
def d_law_table : He.DefD := ⟨("_law_table", none), "_law_table", "_law_table", defArgs s_law_table, defBody s_law_table, defScope s_law_table, [], []⟩
def d_law_near : He.DefD := ⟨("_law_near", none), "_law_near", "_law_near", defArgs s_law_near, defBody s_law_near, defScope s_law_near, [], []⟩
def d_law_bears : He.DefD := ⟨("_law_bears", none), "_law_bears", "_law_bears", defArgs s_law_bears, defBody s_law_bears, defScope s_law_bears, [], []⟩
def d_law_joined : He.DefD := ⟨("_law_joined", none), "_law_joined", "_law_joined", defArgs s_law_joined, defBody s_law_joined, defScope s_law_joined, [], []⟩
def d_law_empty : He.DefD := ⟨("_law_empty", none), "_law_empty", "_law_empty", defArgs s_law_empty, defBody s_law_empty, defScope s_law_empty, [], []⟩
def d_law_fits : He.DefD := ⟨("_law_fits", none), "_law_fits", "_law_fits", defArgs s_law_fits, defBody s_law_fits, defScope s_law_fits, [], []⟩
def d_law_grant : He.DefD := ⟨("_law_grant", none), "_law_grant", "_law_grant", defArgs s_law_grant, defBody s_law_grant, defScope s_law_grant, [], []⟩
def d_law_asks : He.DefD := ⟨("_law_asks", none), "_law_asks", "_law_asks", defArgs s_law_asks, defBody s_law_asks, defScope s_law_asks, [], []⟩
def d_law_scan : He.DefD := ⟨("_law_scan", none), "_law_scan", "_law_scan", defArgs s_law_scan, defBody s_law_scan, defScope s_law_scan, [], []⟩
def d_law_out : He.DefD := ⟨("_law_out", none), "_law_out", "_law_out", defArgs s_law_out, defBody s_law_out, defScope s_law_out, [], []⟩
def d_law_does : He.DefD := ⟨("_law_does", none), "_law_does", "_law_does", defArgs s_law_does, defBody s_law_does, defScope s_law_does, [], []⟩
def d_law_told : He.DefD := ⟨("_law_told", none), "_law_told", "_law_told", defArgs s_law_told, defBody s_law_told, defScope s_law_told, [], []⟩
def d_law_deed : He.DefD := ⟨("_law_deed", none), "_law_deed", "_law_deed", defArgs s_law_deed, defBody s_law_deed, defScope s_law_deed, [], []⟩
def d_law_deals : He.DefD := ⟨("_law_deals", none), "_law_deals", "_law_deals", defArgs s_law_deals, defBody s_law_deals, defScope s_law_deals, [], []⟩
def d_law_row_right : He.DefD := ⟨("_law_row_right", none), "_law_row_right", "_law_row_right", defArgs s_law_row_right, defBody s_law_row_right, defScope s_law_row_right, [], []⟩
def d_law_ask_right : He.DefD := ⟨("_law_ask_right", none), "_law_ask_right", "_law_ask_right", defArgs s_law_ask_right, defBody s_law_ask_right, defScope s_law_ask_right, [], []⟩
def d_law_counted : He.DefD := ⟨("_law_counted", none), "_law_counted", "_law_counted", defArgs s_law_counted, defBody s_law_counted, defScope s_law_counted, [], []⟩
def d_law : He.DefD := ⟨("law", none), "law", "law", defArgs s_law, defBody s_law, defScope s_law, [], []⟩
def fn : List He.DefD := [d_is_name, d_is_number, d_is_row, d_are_modes, d_is_mode, d_are_pairs, d_is_dict, d_Table_init, d_Table_need, d_Table_beside, d_Table_bears, d_Table_joined, d_Table_quarrel, d_Table_is_over, d_Table_flaws, d_Table_flaw, d_need_table, d_need_deal, d_Line_init, d_Line_fits, d_Line_grant, d_Line_ask, d_Line_unwait, d_Line_granted_now, d_Line_go, d_Line_cease, d_Line_ease, d_Line_held, d_Line_holders, d_Line_waiting] ++ [d_Line_passed, d_law_begun, d_law_take, d_law_pick, d_law_words, d_law_stair, d_law_usual_like, d_law_any_table, d_law_made, d_law_table, d_law_near, d_law_bears, d_law_joined, d_law_empty, d_law_fits, d_law_grant, d_law_asks, d_law_scan, d_law_out, d_law_does, d_law_told, d_law_deed, d_law_deals, d_law_row_right, d_law_ask_right, d_law_counted, d_law]
-- 0 d_is_name
-- 1 d_is_number
-- 2 d_is_row
-- 3 d_are_modes
-- 4 d_is_mode
-- 5 d_are_pairs
-- 6 d_is_dict
-- 7 d_Table_init
-- 8 d_Table_need
-- 9 d_Table_beside
-- 10 d_Table_bears
-- 11 d_Table_joined
-- 12 d_Table_quarrel
-- 13 d_Table_is_over
-- 14 d_Table_flaws
-- 15 d_Table_flaw
-- 16 d_need_table
-- 17 d_need_deal
-- 18 d_Line_init
-- 19 d_Line_fits
-- 20 d_Line_grant
-- 21 d_Line_ask
-- 22 d_Line_unwait
-- 23 d_Line_granted_now
-- 24 d_Line_go
-- 25 d_Line_cease
-- 26 d_Line_ease
-- 27 d_Line_held
-- 28 d_Line_holders
-- 29 d_Line_waiting
-- 30 d_Line_passed
-- 31 d_law_begun
-- 32 d_law_take
-- 33 d_law_pick
-- 34 d_law_words
-- 35 d_law_stair
-- 36 d_law_usual_like
-- 37 d_law_any_table
-- 38 d_law_made
-- 39 d_law_table
-- 40 d_law_near
-- 41 d_law_bears
-- 42 d_law_joined
-- 43 d_law_empty
-- 44 d_law_fits
-- 45 d_law_grant
-- 46 d_law_asks
-- 47 d_law_scan
-- 48 d_law_out
-- 49 d_law_does
-- 50 d_law_told
-- 51 d_law_deed
-- 52 d_law_deals
-- 53 d_law_row_right
-- 54 d_law_ask_right
-- 55 d_law_counted
-- 56 d_law
def fa : List He.Fa := [.glo "is_name", .glo "is_number", .glo "is_row", .glo "are_modes", .glo "is_mode", .glo "are_pairs", .glo "is_dict", .glo "need_table", .glo "need_deal", .glo "_law_begun", .glo "_law_take", .glo "_law_pick", .glo "_law_words", .glo "_law_stair", .glo "_law_usual_like", .glo "_law_any_table", .glo "_law_made", .glo "_law_table", .glo "_law_near", .glo "_law_bears", .glo "_law_joined", .glo "_law_empty", .glo "_law_fits", .glo "_law_grant", .glo "_law_asks", .glo "_law_scan", .glo "_law_out", .glo "_law_does", .glo "_law_told", .glo "_law_deed"] ++ [.glo "_law_deals", .glo "_law_row_right", .glo "_law_ask_right", .glo "_law_counted", .glo "law", .glo "Table", .cls "Table", .mkr "Table", .glo "Line", .cls "Line", .mkr "Line", .noat "Table" "order", .noat "Table" "pairs", .noat "Table" "worth", .noat "Table" "upper", .noat "Table" "judged", .noat "Line" "table", .noat "Line" "keeps", .noat "Line" "row", .noat "Line" "tickets", .noat "Line" "skips", .noat "Line" "turn", .meth "Table" "need", .meth "Table" "beside", .meth "Table" "bears", .meth "Table" "joined", .meth "Table" "quarrel", .meth "Table" "is_over", .meth "Table" "flaws", .meth "Table" "flaw"] ++ [.meth "Line" "fits", .meth "Line" "grant", .meth "Line" "ask", .meth "Line" "unwait", .meth "Line" "granted_now", .meth "Line" "go", .meth "Line" "cease", .meth "Line" "ease", .meth "Line" "held", .meth "Line" "holders", .meth "Line" "waiting", .meth "Line" "passed", .free "abs", .free "all", .free "bool", .free "dict", .free "enumerate", .free "int", .free "isinstance", .free "len", .free "list", .free "min", .free "range", .free "set", .free "sorted", .free "str", .free "tuple", .str "LETTERS" "abcdefghijklmnopqrstuvwxyz", .int "LONGEST" 8, .int "MOST_MODES" 8] ++ [.int "MOST_PAIRS" 64, .glo "WORTHS"]
-- 0 .glo "is_name"
-- 1 .glo "is_number"
-- 2 .glo "is_row"
-- 3 .glo "are_modes"
-- 4 .glo "is_mode"
-- 5 .glo "are_pairs"
-- 6 .glo "is_dict"
-- 7 .glo "need_table"
-- 8 .glo "need_deal"
-- 9 .glo "_law_begun"
-- 10 .glo "_law_take"
-- 11 .glo "_law_pick"
-- 12 .glo "_law_words"
-- 13 .glo "_law_stair"
-- 14 .glo "_law_usual_like"
-- 15 .glo "_law_any_table"
-- 16 .glo "_law_made"
-- 17 .glo "_law_table"
-- 18 .glo "_law_near"
-- 19 .glo "_law_bears"
-- 20 .glo "_law_joined"
-- 21 .glo "_law_empty"
-- 22 .glo "_law_fits"
-- 23 .glo "_law_grant"
-- 24 .glo "_law_asks"
-- 25 .glo "_law_scan"
-- 26 .glo "_law_out"
-- 27 .glo "_law_does"
-- 28 .glo "_law_told"
-- 29 .glo "_law_deed"
-- 30 .glo "_law_deals"
-- 31 .glo "_law_row_right"
-- 32 .glo "_law_ask_right"
-- 33 .glo "_law_counted"
-- 34 .glo "law"
-- 35 .glo "Table"
-- 36 .cls "Table"
-- 37 .mkr "Table"
-- 38 .glo "Line"
-- 39 .cls "Line"
-- 40 .mkr "Line"
-- 41 .noat "Table" "order"
-- 42 .noat "Table" "pairs"
-- 43 .noat "Table" "worth"
-- 44 .noat "Table" "upper"
-- 45 .noat "Table" "judged"
-- 46 .noat "Line" "table"
-- 47 .noat "Line" "keeps"
-- 48 .noat "Line" "row"
-- 49 .noat "Line" "tickets"
-- 50 .noat "Line" "skips"
-- 51 .noat "Line" "turn"
-- 52 .meth "Table" "need"
-- 53 .meth "Table" "beside"
-- 54 .meth "Table" "bears"
-- 55 .meth "Table" "joined"
-- 56 .meth "Table" "quarrel"
-- 57 .meth "Table" "is_over"
-- 58 .meth "Table" "flaws"
-- 59 .meth "Table" "flaw"
-- 60 .meth "Line" "fits"
-- 61 .meth "Line" "grant"
-- 62 .meth "Line" "ask"
-- 63 .meth "Line" "unwait"
-- 64 .meth "Line" "granted_now"
-- 65 .meth "Line" "go"
-- 66 .meth "Line" "cease"
-- 67 .meth "Line" "ease"
-- 68 .meth "Line" "held"
-- 69 .meth "Line" "holders"
-- 70 .meth "Line" "waiting"
-- 71 .meth "Line" "passed"
-- 72 .free "abs"
-- 73 .free "all"
-- 74 .free "bool"
-- 75 .free "dict"
-- 76 .free "enumerate"
-- 77 .free "int"
-- 78 .free "isinstance"
-- 79 .free "len"
-- 80 .free "list"
-- 81 .free "min"
-- 82 .free "range"
-- 83 .free "set"
-- 84 .free "sorted"
-- 85 .free "str"
-- 86 .free "tuple"
-- 87 .str "LETTERS" "abcdefghijklmnopqrstuvwxyz"
-- 88 .int "LONGEST" 8
-- 89 .int "MOST_MODES" 8
-- 90 .int "MOST_PAIRS" 64
-- 91 .glo "WORTHS"
def loose : List Str := (["_wall", "HoldError", "NoTable", "Unsound", "NoMode", "NoDeal", "Waiting", "NotThere", "NotBorne", "LETTERS", "LONGEST", "is_name", "is_number", "is_row", "MOST_MODES", "MOST_PAIRS", "WORTHS", "are_modes", "is_mode", "are_pairs", "is_dict", "Table", "need_table", "need_deal", "Line", "_law_begun", "_law_take", "_law_pick", "_law_words", "_law_stair"] : List Str) ++ (["_law_usual_like", "_law_any_table", "_law_made", "_law_table", "_law_near", "_law_bears", "_law_joined", "_law_empty", "_law_fits", "_law_grant", "_law_asks", "_law_scan", "_law_out", "_law_does", "_law_told", "_law_deed", "_law_stands", "_law_deals", "_law_row_right", "_law_ask_right", "_law_counted"] : List Str)
/-- what isinstance asks of an own class -/
def insB (K : PySem.W.Frag) (x : Str) : Bool := He.eqO (PySem.W.findIn K (.ref (He.ga K x)) "__class__") (some (some (.builtin "object.__class__"))) && (He.eqO (PySem.W.specialIn K (.builtin "object.__class__") "__get__") (some (some (.builtin "getset_descriptor.__get__"))) &&
  (decide (PySem.W.takesIn K (.builtin "object.__class__") = some true) && decide (PySem.W.mroIn K (He.ga K x) (.type "object") = some true)))
/-- a tuple without a dict -/
def tupOB (K : PySem.W.Frag) (x : Str) : Bool := match K.lookup (He.ga K x) with
  | some ⟨.type c, none, _, _⟩ => decide (c = "tuple")
  | _ => false
def ex (K : PySem.W.Frag) : Bool := He.tupB K "WORTHS" [.str "", .str "see", .str "change"] && (tupOB K "WORTHS" && (insB K "Table" && insB K "Line"))
def tf : List He.Defn := [("Table", some "flaws")]
abbrev R : PySem.W.OpenRow := PySem.W.OpenLaw.row PySem.Challenge.rw_holdtree_k22_whole_nobody_is_passed
abbrev hk : PySem.W.Hook := He.hookX 6 fa fn [] tf ex
def ob (s : PySem.W.SharedT) : He.AlX := He.obsX 6 fa fn [] tf ex (HandSHeadRun.getT s)
theorem ob_eq (s : PySem.W.SharedT) : ob s = hk.obs s.abs := He.obsX_eq (HandSHeadRun.getT_eq s)
theorem run (w : World) : HandSHeadRun.RunEq R (PySem.W.view R.prog [56]) hk ob 12000 loose w := by
  intro os
  kernel_rfl
end HT
end
set_option Elab.async false
set_option linter.all false
set_option maxRecDepth 100000
set_option maxHeartbeats 4000000
/-! own layer: what evaluates to what, lists of data, fields, dicts, calls -/
namespace HT
open PySem PySem.Spec PyProof.Rows L2 Evl

/-! ### the heap -/
theorem ex_upd {H : Hp} {a : Addr} {o : HO} (h : H a = none) : Ex H (upd H a o) := Ex.new h
theorem pair_mono {α β : Type} {F G : α → β → Prop} {l : List α} {m : List β} (h : Paired F l m) (k : ∀ a b, F a b → G a b) : Paired G l m := L2.Paired.mapP h k
theorem pair_len {α β : Type} {F : α → β → Prop} {l : List α} {m : List β} (h : Paired F l m) : l.length = m.length := Paired.length h
theorem pair_snoc {α β : Type} {F : α → β → Prop} : ∀ {l : List α} {m : List β} {a : α} {b : β}, Paired F l m → F a b → Paired F (l ++ [a]) (m ++ [b])
  | [], [], _, _, .nil, h => .cons h .nil
  | _ :: _, _ :: _, _, _, .cons h t, k => .cons h (pair_snoc t k)
theorem pair_get {α β : Type} {F : α → β → Prop} : ∀ {l : List α} {m : List β} {i : Nat} {b : β}, Paired F l m → m[i]? = some b → ∃ a, l[i]? = some a ∧ F a b
  | _, _, _, _, .nil, h => by simp at h
  | _ :: _, _ :: _, 0, _, .cons h t, e => by simp at e; subst e; exact ⟨_, rfl, h⟩
  | _ :: _, _ :: _, i + 1, _, .cons h t, e => by
    obtain ⟨a, h1, h2⟩ := pair_get (i := i) t (by simpa using e)
    exact ⟨a, by simpa using h1, h2⟩
theorem pair_getL {α β : Type} {F : α → β → Prop} : ∀ {l : List α} {m : List β} {i : Nat} {a : α}, Paired F l m → l[i]? = some a → ∃ b, m[i]? = some b ∧ F a b
  | _, _, _, _, .nil, h => by simp at h
  | _ :: _, _ :: _, 0, _, .cons h t, e => by simp at e; subst e; exact ⟨_, rfl, h⟩
  | _ :: _, _ :: _, i + 1, _, .cons h t, e => by
    obtain ⟨a, h1, h2⟩ := pair_getL (i := i) t (by simpa using e)
    exact ⟨a, by simpa using h1, h2⟩
theorem pair_map {α β : Type} {ρ : α → β} : ∀ {l : List α} {m : List β}, Paired (fun a b => b = ρ a) l m → m = l.map ρ
  | _, _, .nil => rfl
  | _ :: _, _ :: _, .cons h t => by rw [h, pair_map t]; rfl
theorem pair_of_map {α β : Type} {ρ : α → β} {F : α → β → Prop} (h : ∀ a, F a (ρ a)) : ∀ l : List α, Paired F l (l.map ρ)
  | [] => .nil
  | _ :: l => .cons (h _) (pair_of_map h l)
theorem pair_of_mapm {α β : Type} {ρ : α → β} {F : α → β → Prop} : ∀ l : List α, (∀ a ∈ l, F a (ρ a)) → Paired F l (l.map ρ)
  | [], _ => .nil
  | _ :: l, h => .cons (h _ (by simp)) (pair_of_mapm l fun a m => h a (by simp [m]))
theorem pair_append {α β : Type} {F : α → β → Prop} : ∀ {l l' : List α} {m m' : List β}, Paired F l m → Paired F l' m' → Paired F (l ++ l') (m ++ m')
  | _, _, _, _, .nil, h => h
  | _, _, _, _, .cons h t, k => .cons h (pair_append t k)
theorem pair_take {α β : Type} {F : α → β → Prop} : ∀ {l : List α} {m : List β} (n : Nat), Paired F l m → Paired F (l.take n) (m.take n)
  | _, _, 0, _ => .nil
  | _, _, _ + 1, .nil => .nil
  | _, _, n + 1, .cons h t => .cons h (pair_take n t)
theorem pair_drop {α β : Type} {F : α → β → Prop} : ∀ {l : List α} {m : List β} (n : Nat), Paired F l m → Paired F (l.drop n) (m.drop n)
  | _, _, 0, h => h
  | _, _, _ + 1, .nil => .nil
  | _, _, n + 1, .cons _ t => pair_drop n t

/-! ### evaluation to something that is told -/
def EvP (te : TE) (σ : L2.St) (H : Hp) (P : Hp → V → Hp → Prop) : Prop := ∀ H1, Ex H H1 → ∀ Q : VK, (∀ v H2, Ex H1 H2 → P H1 v H2 → Q v H2) → te σ H1 Q
section
variable {K : PySem.W.Frag} {σ : L2.St} {H H' : Hp} {ta tb te tx : TE} {t u : TT} {x y z v : V} {r : R2}
theorem EvP.mono {P : Hp → V → Hp → Prop} (e : Ex H H') (h : EvP te σ H P) : EvP te σ H' P := fun H1 e1 => h H1 (e.trans e1)
theorem EvP.imp {P P' : Hp → V → Hp → Prop} (h : EvP te σ H P) (k : ∀ H1 v H2, Ex H H1 → Ex H1 H2 → P H1 v H2 → P' H1 v H2) : EvP te σ H P' := fun H1 e1 Q q => h H1 e1 Q fun v H2 e2 p => q v H2 e2 (k H1 v H2 e1 e2 p)
theorem ep_ev (h : Ev te σ H v) : EvP te σ H fun _ w _ => w = v := fun H1 e1 Q q => h H1 e1 Q fun H2 e2 => q v H2 e2 rfl
theorem ev_ep (h : EvP te σ H fun _ w _ => w = v) : Ev te σ H v := fun H1 e1 Q q => h H1 e1 Q fun w H2 e2 p => by subst p; exact q H2 e2
theorem el_ep {xs : List V} (h : EvP te σ H fun H1 w H2 => ∃ p, w = .ref p ∧ H1 p = none ∧ H2 p = some (.lst xs)) : EvL te σ H xs := fun H1 e1 Q q => h H1 e1 Q fun w H2 e2 ⟨p, hw, hn, hp⟩ => by subst hw; exact q p H2 hn e2 hp
theorem ep_el {xs : List V} (h : EvL te σ H xs) : EvP te σ H fun H1 w H2 => ∃ p, w = .ref p ∧ H1 p = none ∧ H2 p = some (.lst xs) := fun H1 e1 Q q => h H1 e1 Q fun p H2 hn e2 hp => q _ H2 e2 ⟨p, rfl, hn, hp⟩
theorem eu_ep {xs : List V} (h : EvP te σ H fun H1 w H2 => ∃ p, w = .ref p ∧ H1 p = none ∧ H2 p = some (.tup xs)) : EvU te σ H xs := fun H1 e1 Q q => h H1 e1 Q fun w H2 e2 ⟨p, hw, hn, hp⟩ => by subst hw; exact q p H2 hn e2 hp
theorem ep_eu {xs : List V} (h : EvU te σ H xs) : EvP te σ H fun H1 w H2 => ∃ p, w = .ref p ∧ H1 p = none ∧ H2 p = some (.tup xs) := fun H1 e1 Q q => h H1 e1 Q fun p H2 hn e2 hp => q _ H2 e2 ⟨p, rfl, hn, hp⟩
/-- o.f -/
theorem ev_fld {f : Str} {a C dx : Addr} {fs : List (Str × V)} (h : Ev ta σ H (.ref a)) (ho : H a = some (.ins C dx fs)) (hc : Cls K C) (hn : NoAttr K C f) (hl : fs.lookup f = some v) : Ev (tFld K ta f) σ H v :=
  fun H1 e1 Q q => h H1 e1 _ fun H2 e2 => ⟨a, C, dx, fs, v, rfl, e2 _ _ (e1 _ _ ho), hc, hn, hl, q H2 e2⟩
theorem dget_mono {a : Addr} {o : Option V} (e : Ex H H') (h : DGet H a y o) : DGet H' a y o := by
  rcases h with ⟨kvs, k, h1, h2, h3⟩ | ⟨kvs, k, b, h1, h2, h3, h4⟩
  · exact .inl ⟨kvs, k, ex_rd e h1, h2, h3⟩
  · exact .inr ⟨kvs, k, b, ex_rd e h1, h2, e _ _ h3, h4⟩
/-- d[y] -/
theorem ev_dget {td ty : TE} {a : Addr} (h : Ev td σ H (.ref a)) (hy : Ev ty σ H y) (hg : DGet H a y (some v)) : Ev (tDGet td ty) σ H v :=
  fun H1 e1 Q q => h H1 e1 _ fun H2 e2 => hy H2 (e1.trans e2) _ fun H3 e3 => ⟨a, v, rfl, dget_mono ((e1.trans e2).trans e3) hg, q H3 (e2.trans e3)⟩
/-- d[(a, b)]: the key a new tuple -/
theorem ev_din {td ty : TE} {a : Addr} {o : Option V} (hy : Ev ty σ H y) (h : Ev td σ H (.ref a)) (hg : DGet H a y o) : Ev (tDIn ty td) σ H (.bl o.isSome) :=
  fun H1 e1 Q q => hy H1 e1 _ fun H2 e2 => h H2 (e1.trans e2) _ fun H3 e3 => ⟨a, o, rfl, dget_mono ((e1.trans e2).trans e3) hg, q H3 (e2.trans e3)⟩
theorem ev_dnotin {td ty : TE} {a : Addr} {o : Option V} (hy : Ev ty σ H y) (h : Ev td σ H (.ref a)) (hg : DGet H a y o) : Ev (tDNotIn ty td) σ H (.bl (!o.isSome)) :=
  fun H1 e1 Q q => hy H1 e1 _ fun H2 e2 => h H2 (e1.trans e2) _ fun H3 e3 => ⟨a, o, rfl, dget_mono ((e1.trans e2).trans e3) hg, q H3 (e2.trans e3)⟩
/-- (a, b) in d, d a dict of tuple keys -/
theorem ev_dinU {td ty : TE} {a : Addr} {ks : List Key} {kvs : List (List Key × V)} (hy : EvU ty σ H (ks.map kV)) (h : Ev td σ H (.ref a)) (hd : H a = some (.dT kvs)) : Ev (tDIn ty td) σ H (.bl (valV kvs ks).isSome) :=
  fun H1 e1 Q q => hy H1 e1 _ fun p H2 hn e2 hp => h H2 (e1.trans e2) _ fun H3 e3 => ⟨a, _, rfl, DGet.t (((e1.trans e2).trans e3) _ _ hd) (e3 _ _ hp), q H3 (e2.trans e3)⟩
theorem isd_mono {a : Addr} (e : Ex H H') (h : IsD H a) : IsD H' a := by
  rcases h with ⟨kvs, h⟩ | ⟨kvs, h⟩
  · exact .inl ⟨kvs, ex_rd e h⟩
  · exact .inr ⟨kvs, ex_rd e h⟩
theorem dget_isd {a : Addr} {o : Option V} (h : DGet H a y o) : IsD H a := by
  rcases h with ⟨kvs, k, h1, _⟩ | ⟨kvs, k, b, h1, _⟩
  · exact .inl ⟨kvs, h1⟩
  · exact .inr ⟨kvs, h1⟩
theorem ev_dget1 {td ty : TE} {a : Addr} {o : Option V} (h : Ev td σ H (.ref a)) (hy : Ev ty σ H y) (hg : DGet H a y o) : Ev (tDGet1 td ty) σ H (o.getD .non) :=
  fun H1 e1 Q q => h H1 e1 _ fun H2 e2 => ⟨a, rfl, isd_mono (e1.trans e2) (dget_isd hg), hy H2 (e1.trans e2) _ fun H3 e3 => ⟨o, dget_mono ((e1.trans e2).trans e3) hg, q H3 (e2.trans e3)⟩⟩
theorem ev_dget2 {td ty tz : TE} {a : Addr} {o : Option V} (h : Ev td σ H (.ref a)) (hy : Ev ty σ H y) (hz : Ev tz σ H z) (hg : DGet H a y o) : Ev (tDGet2 td ty tz) σ H (o.getD z) :=
  fun H1 e1 Q q => h H1 e1 _ fun H2 e2 => ⟨a, rfl, isd_mono (e1.trans e2) (dget_isd hg), hy H2 (e1.trans e2) _ fun H3 e3 => hz H3 ((e1.trans e2).trans e3) _ fun H4 e4 => ⟨o, dget_mono (((e1.trans e2).trans e3).trans e4) hg, q H4 ((e2.trans e3).trans e4)⟩⟩
theorem dget_k {a : Addr} {kvs : List (Key × V)} {k : Key} (h : Rd H a (.dK kvs)) : DGet H a (kV k) (valV kvs k) := .inl ⟨kvs, k, h, rfl, rfl⟩
/-- what a promise gives that leaves what is known -/
theorem ev_meth {C : Addr} {m : Str} {sp : Sp} {dvs vs : List V} {E : XK} {tA : TA} {a dx : Addr} {fs : List (Str × V)} (h : Ev ta σ H (.ref a)) (ho : H a = some (.ins C dx fs)) (hl : fs.lookup m = none) (hA : EvA tA σ H vs) (hs : SpV sp (.ref a :: (vs ++ dvs)) H z) : Ev (tMeth C m sp dvs E ta tA) σ H z :=
  fun H1 e1 Q q => h H1 e1 _ fun H2 e2 => ⟨a, dx, fs, rfl, e2 _ _ (e1 _ _ ho), hl, hA H2 (e1.trans e2) _ fun H3 e3 => hs H3 ((e1.trans e2).trans e3) _ (fun H4 e4 => q H4 ((e2.trans e3).trans e4)) E⟩
def SpP (sp : Sp) (vs : List V) (H : Hp) (P : Hp → V → Hp → Prop) : Prop := ∀ H1, Ex H H1 → ∀ Q : VK, (∀ v H2, Ex H1 H2 → P H1 v H2 → Q v H2) → ∀ E : XK, sp vs H1 Q E
theorem ep_meth {C : Addr} {m : Str} {sp : Sp} {dvs vs : List V} {E : XK} {tA : TA} {a dx : Addr} {fs : List (Str × V)} {P : Hp → V → Hp → Prop} (h : Ev ta σ H (.ref a)) (ho : H a = some (.ins C dx fs)) (hl : fs.lookup m = none) (hA : EvA tA σ H vs)
    (hs : SpP sp (.ref a :: (vs ++ dvs)) H P) (hP : ∀ H1 H2 v H3, Ex H1 H2 → P H2 v H3 → P H1 v H3) : EvP (tMeth C m sp dvs E ta tA) σ H P :=
  fun H1 e1 Q q => h H1 e1 _ fun H2 e2 => ⟨a, dx, fs, rfl, e2 _ _ (e1 _ _ ho), hl, hA H2 (e1.trans e2) _ fun H3 e3 => hs H3 ((e1.trans e2).trans e3) _ (fun v H4 e4 p => q v H4 ((e2.trans e3).trans e4) (hP _ _ _ _ (e2.trans e3) p)) E⟩
theorem ep_call {sp : Sp} {dvs vs : List V} {E : XK} {tA : TA} {P : Hp → V → Hp → Prop} (hA : EvA tA σ H vs) (hs : SpP sp (vs ++ dvs) H P) (hP : ∀ H1 H2 v H3, Ex H1 H2 → P H2 v H3 → P H1 v H3) : EvP (tCall sp dvs E tA) σ H P :=
  fun H1 e1 Q q => hA H1 e1 _ fun H2 e2 => hs H2 (e1.trans e2) _ (fun v H3 e3 p => q v H3 (e2.trans e3) (hP _ _ _ _ e2 p)) E
theorem spv_of {sp : Sp} {vs : List V} (h : SpP sp vs H fun _ w _ => w = z) : SpV sp vs H z := fun H1 e1 Q q E => h H1 e1 Q (fun w H2 e2 p => by subst p; exact q H2 e2) E
/-- tests -/
theorem ev_isN (h : Ev ta σ H x) : Ev (tIsN ta) σ H (.bl (decide (x = .non))) := fun H1 e1 Q q => h H1 e1 _ fun H2 e2 => q H2 e2
theorem ev_notN (h : Ev ta σ H x) : Ev (tNotN ta) σ H (.bl (!decide (x = .non))) := fun H1 e1 Q q => h H1 e1 _ fun H2 e2 => q H2 e2
/-- all(list of truths) -/
theorem ev_all {bs : List Bool} (h : EvL ta σ H (bs.map V.bl)) : Ev (tCB (rAll K) (tCons ta tNil)) σ H (.bl (bs.all id)) :=
  fun H1 e1 Q q => h H1 e1 _ fun p H2 hn e2 hp => ⟨p, bs, rfl, SqL.of hp, q H2 e2⟩
theorem ev_allA {bs : List Bool} {a : Addr} (h : Ev ta σ H (.ref a)) (hs : SqL K H a (bs.map V.bl)) : Ev (tCB (rAll K) (tCons ta tNil)) σ H (.bl (bs.all id)) :=
  fun H1 e1 Q q => h H1 e1 _ fun H2 e2 => ⟨a, bs, rfl, ex_l (e1.trans e2) hs, q H2 e2⟩
/-- a method of a built-in type -/
theorem tyv_mono {T : String} (e : Ex H H') (h : tyV K T x H) : tyV K T x H' := by
  cases x with
  | ref p =>
    rcases h with ⟨h1, xs, h2⟩ | h | ⟨h1, h2⟩ | ⟨h1, S, n, h2⟩
    · exact .inl ⟨h1, xs, ex_l e h2⟩
    · exact .inr (.inl h)
    · refine .inr (.inr (.inl ⟨h1, ?_⟩))
      rcases h2 with ⟨kvs, h2⟩ | ⟨kvs, h2⟩
      · exact .inl ⟨kvs, e _ _ h2⟩
      · exact .inr ⟨kvs, e _ _ h2⟩
    · exact .inr (.inr (.inr ⟨h1, S, n, e _ _ h2⟩))
  | _ => exact h
def RM (r : V → List V → Hp → VK → Prop) (x : V) (vs : List V) (H : Hp) (z : V) : Prop := ∀ H1, Ex H H1 → ∀ Q : VK, (∀ H2, Ex H1 H2 → Q z H2) → r x vs H1 Q
theorem ev_bm {T : String} {r : V → List V → Hp → VK → Prop} {tA : TA} {vs : List V} (h : Ev ta σ H x) (ty : tyV K T x H) (hA : EvA tA σ H vs) (hr : RM r x vs H z) : Ev (tBM K T r ta tA) σ H z :=
  fun H1 e1 Q q => h H1 e1 _ fun H2 e2 => ⟨tyv_mono (e1.trans e2) ty, hA H2 (e1.trans e2) _ fun H3 e3 => hr H3 ((e1.trans e2).trans e3) _ fun H4 e4 => q H4 ((e2.trans e3).trans e4)⟩
end
mutual
theorem dp_mono {K : PySem.W.Frag} {H H' : Hp} (e : Ex H H') : ∀ {d : PyData} {x : V}, Dp K H x d → Dp K H' x d
  | _, _, .non => .non
  | _, _, .bl b => .bl b
  | _, _, .int i => .int i
  | _, _, .str x => .str x
  | _, _, .lst h1 h2 => .lst (ex_l e h1) (dpall_mono e h2)
  | _, _, .tup h1 h2 => .tup (ex_t e h1) (dpall_mono e h2)
theorem dpall_mono {K : PySem.W.Frag} {H H' : Hp} (e : Ex H H') : ∀ {ds : List PyData} {xs : List V}, DpAll K H xs ds → DpAll K H' xs ds
  | _, _, .nil => .nil
  | _, _, .cons h1 h2 => .cons (dp_mono e h1) (dpall_mono e h2)
end
end HT
set_option Elab.async false
set_option linter.all false
set_option maxRecDepth 100000
set_option maxHeartbeats 4000000
/-! own layer: comprehensions over data -/
namespace HT
open PySem PySem.Spec PyProof.Rows L2 Evl
/-- tuples stay -/
def ExL (H H' : Hp) : Prop := ∀ b xs, H b = some (.tup xs) → H' b = some (.tup xs)
theorem ExL.of {H H' : Hp} (e : Ex H H') : ExL H H' := fun b xs h => e b _ h
theorem ExL.refl (H : Hp) : ExL H H := fun _ _ h => h
theorem ExL.trans {H H1 H2 : Hp} (a : ExL H H1) (b : ExL H1 H2) : ExL H H2 := fun c xs h => b c xs (a c xs h)
theorem ExL.upd {H : Hp} {a : Addr} {u o : HO} (h : H a = some u) (n : ∀ xs, u ≠ .tup xs) : ExL H (upd H a o) := fun b xs e => by
  by_cases hb : b = a
  · rw [hb, h] at e; cases e; exact absurd rfl (n xs)
  · rw [upd_ne hb]; exact e
/-- a kind of data: what an item is, told of the heap by its tuples alone -/
structure Kd (β : Type) where
  R : β → V → Hp → Prop
  mono : ∀ b v H H', ExL H H' → R b v H → R b v H'
theorem Kd.ex {β : Type} (k : Kd β) {b : β} {v : V} {H H' : Hp} (e : Ex H H') (h : k.R b v H) : k.R b v H' := k.mono b v H H' (ExL.of e) h
/-- a plain value -/
def kdV {β : Type} (ρ : β → V) : Kd β := ⟨fun b v _ => v = ρ b, fun _ _ _ _ _ h => h⟩
/-- a tuple of plain values -/
def kdT {β : Type} (ρ : β → List V) : Kd β := ⟨fun b v H => ∃ p, v = .ref p ∧ H p = some (.tup (ρ b)), fun b v H H' e ⟨p, h1, h2⟩ => ⟨p, h1, e _ _ h2⟩⟩
/-- items of a list -/
def Kd.L {β : Type} (k : Kd β) (bs : List β) (vs : List V) (H : Hp) : Prop := Paired (fun b v => k.R b v H) bs vs
theorem Kd.L_mono {β : Type} (k : Kd β) {bs : List β} {vs : List V} {H H' : Hp} (e : ExL H H') (h : k.L bs vs H) : k.L bs vs H' := pair_mono h fun b v q => k.mono b v H H' e q
theorem Kd.L_ex {β : Type} (k : Kd β) {bs : List β} {vs : List V} {H H' : Hp} (e : Ex H H') (h : k.L bs vs H) : k.L bs vs H' := k.L_mono (ExL.of e) h
theorem kdV_L {β : Type} {ρ : β → V} {bs : List β} {vs : List V} {H : Hp} (h : (kdV ρ).L bs vs H) : vs = bs.map ρ := pair_map (ρ := ρ) h
theorem kdV_of {β : Type} {ρ : β → V} {bs : List β} {H : Hp} : (kdV ρ).L bs (bs.map ρ) H := pair_of_map (ρ := ρ) (F := fun b v => (kdV ρ).R b v H) (fun _ => rfl) bs
section
variable {α β : Type} {K : PySem.W.Frag} {σ σ2 : L2.St} {H H' : Hp} {t : TT} {te : TE}
/-- behind i items of as: what stands in the new list -/
def CwP (as : List α) (p : α → Bool) (gm : α → β) (k : Kd β) (H : Hp) (Dl : Addr) (i : Nat) (H' : Hp) : Prop :=
  H Dl = none ∧ Ex H H' ∧ ∃ ys, H' Dl = some (.lst ys) ∧ ys.length ≤ i ∧ k.L (((as.take i).filter p).map gm) ys H'
theorem CwP.ex {as : List α} {p : α → Bool} {gm : α → β} {k : Kd β} {Dl : Addr} {i : Nat} {H1 H2 : Hp} (h : CwP as p gm k H Dl i H1) (e : Ex H1 H2) : CwP as p gm k H Dl i H2 := by
  obtain ⟨h1, h2, ys, h3, h4, h5⟩ := h
  exact ⟨h1, h2.trans e, ys, e _ _ h3, h4, k.L_ex e h5⟩
theorem take_succ_of {as : List α} {i : Nat} {a : α} (h : as[i]? = some a) : as.take (i + 1) = as.take i ++ [a] := by
  rw [List.take_add_one, h]; rfl
theorem cwp_turn {as : List α} {p : α → Bool} {gm : α → β} {k : Kd β} {Dl : Addr} {i : Nat} {a : α} (h : CwP as p gm k H Dl i H') (ha : as[i]? = some a) (hi : i < 50000) (ht : EvT t σ2 H' (p a)) (he : p a = true → EvP te σ2 H' fun _ y H3 => k.R (gm a) y H3) :
    t σ2 H' fun b H3 => if b = true then te σ2 H3 fun y H4 => ∃ acc, H4 Dl = some (.lst acc) ∧ acc.length < sizeLine ∧ CwP as p gm k H Dl (i + 1) (upd H4 Dl (.lst (acc ++ [y]))) else CwP as p gm k H Dl (i + 1) H3 := by
  refine ht H' (Ex.refl _) _ fun H3 e3 => ?_
  obtain ⟨h1, h2, ys, h3, h4, h5⟩ := h
  cases hf : p a with
  | true =>
    show te σ2 H3 fun y H4 => ∃ acc, H4 Dl = some (.lst acc) ∧ acc.length < sizeLine ∧ CwP as p gm k H Dl (i + 1) (upd H4 Dl (.lst (acc ++ [y])))
    refine he hf H3 e3 _ fun y H4 e4 hy => ⟨ys, e4 _ _ (e3 _ _ h3), sz_lt (by omega), h1, Ex.mut ((h2.trans e3).trans e4) h1, ys ++ [y], upd_same, by rw [List.length_append, List.length_singleton]; omega, ?_⟩
    have eL : ExL H4 (upd H4 Dl (.lst (ys ++ [y]))) := ExL.upd (e4 _ _ (e3 _ _ h3)) (fun xs z => by cases z)
    rw [take_succ_of ha, List.filter_append, List.map_append]
    have e1 : ([a].filter p).map gm = [gm a] := by simp [hf]
    rw [e1]
    exact pair_snoc (k.L_mono eL (k.L_ex (e3.trans e4) h5)) (k.mono _ _ _ _ eL hy)
  | false =>
    show CwP as p gm k H Dl (i + 1) H3
    refine ⟨h1, h2.trans e3, ys, e3 _ _ h3, by omega, ?_⟩
    rw [take_succ_of ha, List.filter_append, List.map_append]
    have e1 : ([a].filter p).map gm = [] := by simp [hf]
    rw [e1, List.append_nil]
    exact k.L_ex e3 h5
/-- what a comprehension gives: a new list of such items -/
def NewL (k : Kd β) (bs : List β) : Hp → V → Hp → Prop := fun H1 v H2 => ∃ q ys, v = .ref q ∧ H1 q = none ∧ H2 q = some (.lst ys) ∧ k.L bs ys H2
theorem NewL.back {k : Kd β} {bs : List β} {H1 H2 H3 : Hp} {v : V} (e : Ex H1 H2) (h : NewL k bs H2 v H3) : NewL k bs H1 v H3 := by
  obtain ⟨q, ys, h1, h2, h3, h4⟩ := h
  exact ⟨q, ys, h1, fresh_back e h2, h3, h4⟩
/-- over a list: its items are the data as -/
theorem ep_lcL {as : List α} (p : α → Bool) (gm : α → β) (ka : Kd α) (k : Kd β) {tl : TE} {g : TG} {vs : List Nat} {a : Addr} {xs : List V} (h : Ev tl σ H (.ref a)) (hx : SqL K H a xs) (ha : ka.L as xs H) (hz : as.length ≤ 40000)
    (turn : ∀ (b : α) (x : V) H1, b ∈ as → Ex H H1 → ka.R b x H1 → g x (wipe σ vs) H1 fun σ2 H2 => wipe σ2 vs = wipe σ vs ∧ Ex H1 H2 ∧ EvT t σ2 H2 (p b) ∧ (p b = true → EvP te σ2 H2 fun _ y H3 => k.R (gm b) y H3))
    (gmono : ∀ x σ1 H1 (Q Q' : L2.St → Hp → Prop), (∀ σ2 H2, Q σ2 H2 → Q' σ2 H2) → g x σ1 H1 Q → g x σ1 H1 Q') :
    EvP (tLc (iList K tl) g t te vs) σ H (NewL k ((as.filter p).map gm)) := fun H0 e0 Q q => h H0 e0 _ fun H1 e1 => ⟨a, rfl, ⟨xs, ex_l (e0.trans e1) hx⟩, fun Dl hD =>
  lc_list (xs := xs) (CwP as p gm k H1 Dl) ⟨hD, Ex.new hD, [], upd_same, Nat.le_refl _, .nil⟩ (fun i H' _ w => ex_l ((e0.trans e1).trans w.2.1) hx)
    (fun i x H' hi w => by
      obtain ⟨b, hb, hR⟩ := pair_get ha hi
      have hlt : i < as.length := (List.getElem?_eq_some_iff.mp hb).1
      refine gmono _ _ _ _ _ ?_ (turn b x H' (List.mem_of_getElem? hb) ((e0.trans e1).trans w.2.1) (ka.ex ((e0.trans e1).trans w.2.1) hR))
      rintro σ2 H2 ⟨hw, e2, ht, he⟩
      exact ⟨hw, cwp_turn (w.ex e2) hb (by omega) ht he⟩)
    (fun H' w => by
      obtain ⟨h1, h2, ys, h3, h4, h5⟩ := w
      refine q _ _ (e1.trans h2) ⟨Dl, ys, rfl, fresh_back e1 h1, h3, ?_⟩
      rw [← pair_len ha, List.take_length] at h5
      exact h5)⟩
/-- over a new list -/
theorem ep_lcN {as : List α} (p : α → Bool) (gm : α → β) (ka : Kd α) (k : Kd β) {tl : TE} {g : TG} {vs : List Nat} (h : EvP tl σ H (NewL ka as)) (hz : as.length ≤ 40000)
    (turn : ∀ (b : α) (x : V) H1, b ∈ as → Ex H H1 → ka.R b x H1 → g x (wipe σ vs) H1 fun σ2 H2 => wipe σ2 vs = wipe σ vs ∧ Ex H1 H2 ∧ EvT t σ2 H2 (p b) ∧ (p b = true → EvP te σ2 H2 fun _ y H3 => k.R (gm b) y H3))
    (gmono : ∀ x σ1 H1 (Q Q' : L2.St → Hp → Prop), (∀ σ2 H2, Q σ2 H2 → Q' σ2 H2) → g x σ1 H1 Q → g x σ1 H1 Q') :
    EvP (tLc (iList K tl) g t te vs) σ H (NewL k ((as.filter p).map gm)) := fun H0 e0 Q q => h H0 e0 _ fun v H1 e1 ⟨a, xs, hv, hn, hx, ha⟩ => ⟨a, hv, ⟨xs, SqL.of hx⟩, fun Dl hD =>
  lc_list (xs := xs) (CwP as p gm k H1 Dl) ⟨hD, Ex.new hD, [], upd_same, Nat.le_refl _, .nil⟩ (fun i H' _ w => SqL.of (w.2.1 _ _ hx))
    (fun i x H' hi w => by
      obtain ⟨b, hb, hR⟩ := pair_get ha hi
      have hlt : i < as.length := (List.getElem?_eq_some_iff.mp hb).1
      refine gmono _ _ _ _ _ ?_ (turn b x H' (List.mem_of_getElem? hb) ((e0.trans e1).trans w.2.1) (ka.ex w.2.1 hR))
      rintro σ2 H2 ⟨hw, e2, ht, he⟩
      exact ⟨hw, cwp_turn (w.ex e2) hb (by omega) ht he⟩)
    (fun H' w => by
      obtain ⟨h1, h2, ys, h3, h4, h5⟩ := w
      refine q _ _ (e1.trans h2) ⟨Dl, ys, rfl, fresh_back e1 h1, h3, ?_⟩
      rw [← pair_len ha, List.take_length] at h5
      exact h5)⟩
/-- over a tuple -/
theorem ep_lcT {as : List α} (p : α → Bool) (gm : α → β) (ka : Kd α) (k : Kd β) {tl : TE} {g : TG} {vs : List Nat} {a : Addr} {xs : List V} (h : Ev tl σ H (.ref a)) (hx : SqT K H a xs) (ha : ka.L as xs H) (hz : as.length ≤ 40000)
    (turn : ∀ (b : α) (x : V) H1, b ∈ as → Ex H H1 → ka.R b x H1 → g x (wipe σ vs) H1 fun σ2 H2 => wipe σ2 vs = wipe σ vs ∧ Ex H1 H2 ∧ EvT t σ2 H2 (p b) ∧ (p b = true → EvP te σ2 H2 fun _ y H3 => k.R (gm b) y H3))
    (gmono : ∀ x σ1 H1 (Q Q' : L2.St → Hp → Prop), (∀ σ2 H2, Q σ2 H2 → Q' σ2 H2) → g x σ1 H1 Q → g x σ1 H1 Q') :
    EvP (tLc (iTup K tl) g t te vs) σ H (NewL k ((as.filter p).map gm)) := fun H0 e0 Q q => h H0 e0 _ fun H1 e1 => ⟨a, rfl, ⟨xs, ex_t (e0.trans e1) hx⟩, fun Dl hD =>
  lc_tup (xs := xs) (CwP as p gm k H1 Dl) ⟨hD, Ex.new hD, [], upd_same, Nat.le_refl _, .nil⟩ (fun i H' _ w => ex_t ((e0.trans e1).trans w.2.1) hx)
    (fun i x H' hi w => by
      obtain ⟨b, hb, hR⟩ := pair_get ha hi
      have hlt : i < as.length := (List.getElem?_eq_some_iff.mp hb).1
      refine gmono _ _ _ _ _ ?_ (turn b x H' (List.mem_of_getElem? hb) ((e0.trans e1).trans w.2.1) (ka.ex ((e0.trans e1).trans w.2.1) hR))
      rintro σ2 H2 ⟨hw, e2, ht, he⟩
      exact ⟨hw, cwp_turn (w.ex e2) hb (by omega) ht he⟩)
    (fun H' w => by
      obtain ⟨h1, h2, ys, h3, h4, h5⟩ := w
      refine q _ _ (e1.trans h2) ⟨Dl, ys, rfl, fresh_back e1 h1, h3, ?_⟩
      rw [← pair_len ha, List.take_length] at h5
      exact h5)⟩
/-- a name as the target -/
theorem gname_mono {i : Nat} : ∀ x σ1 H1 (Q Q' : L2.St → Hp → Prop), (∀ σ2 H2, Q σ2 H2 → Q' σ2 H2) → gName i x σ1 H1 Q → gName i x σ1 H1 Q' := fun x σ1 H1 Q Q' k h => k _ _ h
theorem gnil_mono : ∀ xs σ1 H1 (Q Q' : L2.St → Hp → Prop), (∀ σ2 H2, Q σ2 H2 → Q' σ2 H2) → gNil xs σ1 H1 Q → gNil xs σ1 H1 Q' := fun xs σ1 H1 Q Q' k ⟨h1, h2⟩ => ⟨h1, k _ _ h2⟩
theorem gcons_mono {t : TG} {u : TGs} (ht : ∀ x σ1 H1 (Q Q' : L2.St → Hp → Prop), (∀ σ2 H2, Q σ2 H2 → Q' σ2 H2) → t x σ1 H1 Q → t x σ1 H1 Q') (hu : ∀ xs σ1 H1 (Q Q' : L2.St → Hp → Prop), (∀ σ2 H2, Q σ2 H2 → Q' σ2 H2) → u xs σ1 H1 Q → u xs σ1 H1 Q') :
    ∀ xs σ1 H1 (Q Q' : L2.St → Hp → Prop), (∀ σ2 H2, Q σ2 H2 → Q' σ2 H2) → gCons t u xs σ1 H1 Q → gCons t u xs σ1 H1 Q' := fun xs σ1 H1 Q Q' k ⟨v, r, e, h⟩ => ⟨v, r, e, ht _ _ _ _ _ (fun σ2 H2 q => hu _ _ _ _ _ k q) h⟩
theorem gtup_mono {n : Nat} {u : TGs} (hu : ∀ xs σ1 H1 (Q Q' : L2.St → Hp → Prop), (∀ σ2 H2, Q σ2 H2 → Q' σ2 H2) → u xs σ1 H1 Q → u xs σ1 H1 Q') :
    ∀ x σ1 H1 (Q Q' : L2.St → Hp → Prop), (∀ σ2 H2, Q σ2 H2 → Q' σ2 H2) → gTup K n u x σ1 H1 Q → gTup K n u x σ1 H1 Q' := fun x σ1 H1 Q Q' k ⟨a, xs, h1, h2, h3, h4⟩ => ⟨a, xs, h1, h2, h3, hu _ _ _ _ _ k h4⟩
theorem gt2_mono {i j : Nat} : ∀ x σ1 H1 (Q Q' : L2.St → Hp → Prop), (∀ σ2 H2, Q σ2 H2 → Q' σ2 H2) → gTup K 2 (gCons (gName i) (gCons (gName j) gNil)) x σ1 H1 Q → gTup K 2 (gCons (gName i) (gCons (gName j) gNil)) x σ1 H1 Q' :=
  gtup_mono (gcons_mono gname_mono (gcons_mono gname_mono gnil_mono))
end
/-! ### a comprehension over the keys of a dict, which is locked meanwhile -/
section
variable {β : Type} {K : PySem.W.Frag} {σ : L2.St} {H : Hp} {t : TT} {te : TE}
/-- the reading under a lock: what is known ahead is known behind -/
def EvK (te : TE) (σ : L2.St) (H : Hp) (P : Hp → V → Hp → Prop) : Prop := EvP te σ H P
theorem ex_unlock {H H' : Hp} {d : Addr} {u : HO} {od : Obj} (h : H d = some u) (e : Ex (upd H d (.frz od u)) H') : Ex H (upd H' d u) := fun b o hb => by
  by_cases q : b = d
  · rw [q, upd_same]; rw [q, h] at hb; exact hb
  · rw [upd_ne q]; exact e b o (by rw [upd_ne q]; exact hb)
theorem ep_lcK {kvs : List (Key × V)} (p : Key × V → Bool) (gm : Key × V → β) (k : Kd β) {td : TE} {i : Nat} {vs : List Nat} {d : Addr} (hd : ∀ od, Ev td σ (upd H d (.frz od (.dK kvs))) (.ref d)) (hk : H d = some (.dK kvs)) (hz : kvs.length ≤ 40000)
    (turn : ∀ (od : Obj) (b : Key × V), b ∈ kvs → ∀ (H1 : Hp), Ex (upd H d (.frz od (.dK kvs))) H1 → wipe ((wipe σ vs).set i (some (kV b.1))) vs = wipe σ vs ∧ EvT t ((wipe σ vs).set i (some (kV b.1))) H1 (p b) ∧ (p b = true → EvP te ((wipe σ vs).set i (some (kV b.1))) H1 fun _ y H3 => k.R (gm b) y H3)) :
    ∀ Q : VK, (∀ v H2, Ex H H2 → NewL k ((kvs.filter p).map gm) H v H2 → Q v H2) → tLockE (tLc (iKeys td) (gName i) t te vs) σ H Q := fun Q q => by
  refine ⟨d, _, hk, trivial, fun od => ?_⟩
  refine hd od _ (Ex.refl _) _ fun H1 e1 => ?_
  refine ⟨d, od, rfl, .inl ⟨kvs, e1 _ _ upd_same, fun Dl hD => ?_⟩⟩
  refine lc_it walk_keys (CwP kvs p gm k H1 Dl) ⟨hD, Ex.new hD, [], upd_same, Nat.le_refl _, .nil⟩ (fun i H' _ w => w.2.1 _ _ (e1 _ _ upd_same)) (fun j x H2 H3 hj w hy => ?_) (fun H' w => ?_)
  · obtain ⟨rfl, k0, v0, hg, rfl⟩ := hy
    obtain ⟨hw, ht, he⟩ := turn od (k0, v0) (List.mem_of_getElem? hg) _ (e1.trans w.2.1)
    exact ⟨hw, cwp_turn w hg (by omega) ht he⟩
  · obtain ⟨h1, h2, ys, h3, h4, h5⟩ := w
    have eH : Ex (upd H d (.frz od (.dK kvs))) H' := e1.trans h2
    have hdq : d ≠ Dl := ne_of (eH _ _ upd_same) h3 (by intro z; cases z)
    refine ⟨eH _ _ upd_same, q _ _ (ex_unlock hk eH) ⟨Dl, ys, rfl, ?_, by rw [upd_ne hdq.symm]; exact h3, ?_⟩⟩
    · have z := fresh_back e1 h1
      rw [upd_ne hdq.symm] at z
      exact z
    · rw [List.take_length] at h5
      exact k.L_mono (ExL.upd (eH _ _ upd_same) fun xs z => by cases z) h5
end
end HT
set_option Elab.async false
set_option linter.all false
set_option maxRecDepth 100000
set_option maxHeartbeats 4000000
/-! the text's facts; calls by promises -/
namespace HT
open PySem PySem.Spec PyProof.Rows L2 Evl
/-- what the top has left: the classes Table (C) and Line (D), constants, built-ins by their names -/
structure Txt (K : PySem.W.Frag) (mg : Str → Option Value) (C D : Addr) : Prop where
  clC : Cls K C
  clD : Cls K D
  mgC : mg "Table" = some (.ref C)
  mgD : mg "Line" = some (.ref D)
  nOrder : NoAttr K C "order"
  nPairs : NoAttr K C "pairs"
  nWorth : NoAttr K C "worth"
  nUpper : NoAttr K C "upper"
  nJudged : NoAttr K C "judged"
  nTable : NoAttr K D "table"
  nKeeps : NoAttr K D "keeps"
  nRow : NoAttr K D "row"
  nTickets : NoAttr K D "tickets"
  nSkips : NoAttr K D "skips"
  nTurn : NoAttr K D "turn"
  fAbs : mg "abs" = none
  fAll : mg "all" = none
  fBool : mg "bool" = none
  fDict : mg "dict" = none
  fEnum : mg "enumerate" = none
  fInt : mg "int" = none
  fIsi : mg "isinstance" = none
  fLen : mg "len" = none
  fList : mg "list" = none
  fMin : mg "min" = none
  fRange : mg "range" = none
  fSet : mg "set" = none
  fSorted : mg "sorted" = none
  fStr : mg "str" = none
  fTuple : mg "tuple" = none
  letters : ∃ t, mg "LETTERS" = some (.str "abcdefghijklmnopqrstuvwxyz" t)
  longest : ∃ t, mg "LONGEST" = some (.int 8 t)
  mostModes : ∃ t, mg "MOST_MODES" = some (.int 8 t)
  mostPairs : ∃ t, mg "MOST_PAIRS" = some (.int 64 t)
  worths : ∃ a, mg "WORTHS" = some (.ref a) ∧ (∀ H, SqT K H a [.str "", .str "see", .str "change"]) ∧ ∃ o, K.lookup a = some o ∧ o.cls = .type "tuple" ∧ o.dict = none
  tyC : ∀ H a dx fs, H a = some (.ins C dx fs) → TyOf K H (.ref a) (.ref C)
section
variable {P : Program} {w : World} {K : PySem.W.Frag} {mg : Str → Option Value} {base : Heap}
/-- a def of the module, by its promise -/
structure GF (P : Program) (w : World) (K : PySem.W.Frag) (mg : Str → Option Value) (base : Heap) (x : Str) (ps : List Str) (dvs : List V) (k : Nat) (sp : Sp) : Prop where
  ex : ∃ f fd ds, mg x = some (.ref f) ∧ PySem.W.keepIn K (.ref f) = true ∧ Vals dvs ds ∧ Binds K fd ps ds ∧ FnOk P w K mg base CX0 k f fd ps sp
/-- a method of the class at C -/
structure MF (P : Program) (w : World) (K : PySem.W.Frag) (mg : Str → Option Value) (base : Heap) (C : Addr) (m : Str) (ps : List Str) (k : Nat) (sp : Sp) : Prop where
  ex : ∃ f fd, Meth K C m f ∧ Binds K fd ps [] ∧ FnOk P w K mg base CX0 k f fd ps sp
end
section
variable {X : Cx} {k j : Nat} {C : Addr} {ps : List Str} {dvs : List V} {sp : Sp} {x m : Str} {p pos apos : Pos} {e o : Expr} {es : List Expr} {ta : TE} {t : TA}
theorem pe_callG (G : GF X.prog X.w X.K X.mg X.base x ps dvs k sp) (hr : Room j X.A) (hj : k ≤ j) (hg : Gl X x) (ha : PA X (e :: es) t) (hdb : (x == ("__debug__" : Str)) = false := by decide)
    (he : starEach (e :: es) X.env = (false, eval e X.env) :: starEach es X.env := by rfl) (hpl : (backTo pos (starEach es X.env)).any (·.1) = false := by rfl) : PE X (.Call (.Name x p) (e :: es) [] pos) (tCall sp dvs E0 t) := by
  obtain ⟨f, fd, ds, h1, h2, h3, h4, h5⟩ := G.ex
  exact pe_call h5 (hr.mono hj) hg h1 h2 h4 h3 pass0 ha hdb he hpl
theorem pe_callG0 (G : GF X.prog X.w X.K X.mg X.base x ps dvs k sp) (hr : Room j X.A) (hj : k ≤ j) (hg : Gl X x) (hdb : (x == ("__debug__" : Str)) = false := by decide) : PE X (.Call (.Name x p) [] [] pos) (tCall sp dvs E0 tNil) := by
  obtain ⟨f, fd, ds, h1, h2, h3, h4, h5⟩ := G.ex
  exact pe_call0 h5 (hr.mono hj) hg h1 h2 h4 h3 pass0 hdb
theorem pe_methG {pl : Sem Bool} (G : MF X.prog X.w X.K X.mg X.base C m ps k sp) (c : Cls X.K C) (hr : Room j X.A) (hj : k ≤ j) (ho : PE X o ta) (ha : PA X (e :: es) t)
    (hst : starEach (e :: es) X.env = (false, eval e X.env) :: starEach es X.env := by rfl) (hpl : (backTo pos (starEach es X.env)).any (·.1) = false := by rfl)
    (ht : eval (.Call (.Attribute o m apos) (e :: es) [] pos) X.env = (do
      let ov ← eval o X.env
      standAt apos.atName
      let (f, first) ← holding [ov] (getMethod ov m pl)
      callWith pos f first (backTo pos (starEach (e :: es) X.env)) (backToKw pos (keywordEach [] X.env))) := by rfl) :
    PE X (.Call (.Attribute o m apos) (e :: es) [] pos) (tMeth C m sp [] E0 ta t) := by
  obtain ⟨f, fd, h1, h2, h3⟩ := G.ex
  exact pe_meth ho c h1 h3 (hr.mono hj) h2 .nil pass0 ha hst hpl ht
theorem pe_methG0 {pl : Sem Bool} (G : MF X.prog X.w X.K X.mg X.base C m ps k sp) (c : Cls X.K C) (hr : Room j X.A) (hj : k ≤ j) (ho : PE X o ta)
    (ht : eval (.Call (.Attribute o m apos) [] [] pos) X.env = (do
      let ov ← eval o X.env
      standAt apos.atName
      let (f, first) ← holding [ov] (getMethod ov m pl)
      callWith pos f first (backTo pos (starEach [] X.env)) (backToKw pos (keywordEach [] X.env))) := by rfl) :
    PE X (.Call (.Attribute o m apos) [] [] pos) (tMeth C m sp [] E0 ta tNil) := by
  obtain ⟨f, fd, h1, h2, h3⟩ := G.ex
  exact pe_meth0 ho c h1 h3 (hr.mono hj) h2 .nil pass0 ht
end
end HT
set_option Elab.async false
set_option linter.all false
set_option maxRecDepth 100000
set_option maxHeartbeats 4000000
/-! isinstance, lengths, membership: what evaluates to what -/
namespace HT
open PySem PySem.Spec PyProof.Rows L2 Evl
section
variable {K : PySem.W.Frag} {σ : L2.St} {H H' : Hp} {ta tb te tx : TE} {t u : TT} {x y z v : V} {r : R2}
theorem tyof_mono {t : Value} (e : Ex H H') (h : TyOf K H x t) : TyOf K H' x t := by
  cases h with
  | non => exact .non
  | bl b => exact .bl b
  | int i => exact .int i
  | str x => exact .str x
  | flt x => exact .flt x
  | lst h => exact .lst (e _ _ h)
  | frz h => exact .frz (e _ _ h)
  | tup h => exact .tup (e _ _ h)
  | dK h => exact .dK (e _ _ h)
  | dT h => exact .dT (e _ _ h)
  | ins h cl ha hn htk hm => exact .ins (e _ _ h) cl ha hn htk hm
/-- isinstance(x, c) -/
theorem ev_isi {c : V} {t u : Value} {b : Bool} (h : Ev ta σ H x) (hc : ClsV c u) (ht : TyOf K H x t) (hk : PySem.W.kitOne K t u = some b) : Ev (tCB (rIsi K) (tCons ta (tCons (tC c) tNil))) σ H (.bl b) :=
  fun H1 e1 Q q => h H1 e1 _ fun H2 e2 => ⟨x, c, t, u, b, rfl, hc, .base (tyof_mono (e1.trans e2) ht), hk, q H2 e2⟩
/-- isinstance(x, (c1, c2)) -/
theorem ev_isiT {c1 c2 : V} {t u1 u2 : Value} {b : Bool} (h : Ev ta σ H x) (h1 : ClsV c1 u1) (h2 : ClsV c2 u2) (ht : TyOf K H x t) (hk : PySem.W.kitAny K t [u1, u2] = some b) :
    Ev (tCB (rIsiT K) (tCons ta (tCons (tTup (tCons (tC c1) (tCons (tC c2) tNil))) tNil))) σ H (.bl b) :=
  fun H1 e1 Q q => h H1 e1 _ fun H2 e2 => ⟨(by show 2 ≤ sizeLine; decide), fun p hp => ⟨x, p, [c1, c2], t, [u1, u2], b, rfl, upd_same, .cons h1 (.cons h2 .nil), .base (tyof_mono ((e1.trans e2).trans (Ex.new hp)) ht), hk, q _ (e2.trans (Ex.new hp))⟩⟩
/-- len -/
abbrev rLenQ (K : PySem.W.Frag) : List V → Hp → VK → Prop := fun xs H Q => ∃ p ys, xs = [.ref p] ∧ (SqL K H p ys ∨ SqT K H p ys) ∧ Q (.int ys.length) H
theorem ev_lenL {p : Addr} {xs : List V} (h : Ev ta σ H (.ref p)) (hs : SqL K H p xs) : Ev (tCB (rLenQ K) (tCons ta tNil)) σ H (.int xs.length) :=
  fun H1 e1 Q q => h H1 e1 _ fun H2 e2 => ⟨p, xs, rfl, .inl (ex_l (e1.trans e2) hs), q H2 e2⟩
theorem ev_lenT {p : Addr} {xs : List V} (h : Ev ta σ H (.ref p)) (hs : SqT K H p xs) : Ev (tCB (rLenQ K) (tCons ta tNil)) σ H (.int xs.length) :=
  fun H1 e1 Q q => h H1 e1 _ fun H2 e2 => ⟨p, xs, rfl, .inr (ex_t (e1.trans e2) hs), q H2 e2⟩
theorem ev_lenNL {α : Type} {k : Kd α} {as : List α} (h : EvP ta σ H (NewL k as)) : Ev (tCB (rLenQ K) (tCons ta tNil)) σ H (.int as.length) :=
  fun H1 e1 Q q => h H1 e1 _ fun v H2 e2 ⟨p, ys, h1, h2, h3, h4⟩ => by
    subst h1
    refine ⟨p, ys, rfl, .inl (SqL.of h3), ?_⟩
    rw [← pair_len h4]
    exact q H2 e2
theorem ev_lenS {z : Str} (h : Ev ta σ H (.str z)) (hz : z.length ≤ 100000) : Ev (tCB (fun xs H Q => ∃ z, xs = [.str z] ∧ z.length ≤ sizeLine ∧ Q (.int z.length) H) (tCons ta tNil)) σ H (.int z.length) :=
  fun H1 e1 Q q => h H1 e1 _ fun H2 e2 => ⟨z, rfl, sz_of hz, q H2 e2⟩
/-- texts in a list or a tuple of texts -/
theorem inv_strs {m : Str} : ∀ {ms : List Str}, inV (.str m) (ms.map V.str) = decide (m ∈ ms)
  | [] => rfl
  | x :: ms => by
    have ih := inv_strs (m := m) (ms := ms)
    unfold inV at ih ⊢
    rw [List.map_cons, List.any_cons, ih]
    show ((x == m) || decide (m ∈ ms)) = _
    by_cases h : x = m
    · subst h; simp
    · have h2 : (x == m) = false := by simpa using h
      rw [h2, Bool.false_or]
      have h3 : m ≠ x := fun q => h q.symm
      simp [h3]
theorem inv_ints {m : Int} : ∀ {ms : List Int}, inV (.int m) (ms.map V.int) = decide (m ∈ ms)
  | [] => rfl
  | x :: ms => by
    have ih := inv_ints (m := m) (ms := ms)
    unfold inV at ih ⊢
    rw [List.map_cons, List.any_cons, ih]
    show ((x == m) || decide (m ∈ ms)) = _
    by_cases h : x = m
    · subst h; simp
    · have h2 : (x == m) = false := by simpa using h
      rw [h2, Bool.false_or]
      have h3 : m ≠ x := fun q => h q.symm
      simp [h3]
theorem flat_strs : ∀ ms : List Str, (ms.map V.str).all flatV = true
  | [] => rfl
  | _ :: ms => by rw [List.map_cons, List.all_cons, flat_strs ms]; rfl
theorem flat_ints : ∀ ms : List Int, (ms.map V.int).all flatV = true
  | [] => rfl
  | _ :: ms => by rw [List.map_cons, List.all_cons, flat_ints ms]; rfl
theorem ev_inStr {m : Str} {ms : List Str} {a : Addr} (h : Ev ta σ H (.str m)) (hb : Ev tb σ H (.ref a)) (hs : SqL K H a (ms.map V.str) ∨ SqT K H a (ms.map V.str)) : Ev (tOp (rIn K false) ta tb) σ H (.bl (decide (m ∈ ms))) := by
  rw [← inv_strs]
  rcases hs with hs | hs
  · exact ev_op h hb (rv_isL hs rfl (flat_strs ms))
  · exact ev_op h hb (rv_isT hs rfl (flat_strs ms))
theorem ev_inInt {m : Int} {ms : List Int} {a : Addr} (h : Ev ta σ H (.int m)) (hb : Ev tb σ H (.ref a)) (hs : SqL K H a (ms.map V.int)) : Ev (tOp (rIn K false) ta tb) σ H (.bl (decide (m ∈ ms))) := by
  rw [← inv_ints]
  exact ev_op h hb (rv_isL hs rfl (flat_ints ms))
theorem ev_notInInt {m : Int} {ms : List Int} {a : Addr} (h : Ev ta σ H (.int m)) (hb : Ev tb σ H (.ref a)) (hs : SqL K H a (ms.map V.int)) : Ev (tOp (rIn K true) ta tb) σ H (.bl (!decide (m ∈ ms))) := by
  rw [← inv_ints]
  exact ev_op h hb (rv_niL hs rfl (flat_ints ms))
end
end HT
set_option Elab.async false
set_option linter.all false
set_option maxRecDepth 100000
set_option maxHeartbeats 8000000
/-! len(set(xs)), xs a list of unlike texts -/
namespace HT
open PySem PySem.Spec PyProof.Rows
section
variable {prog : Program} {w : World} {A : Around} {I : Addr} {fp wr : List Addr} {G : Array GenState → Array GenState → Prop} {n : Nat} {P : Nat → Value → Prop} {St : Nat → Shared → Prop}
/-- the first i texts are in the set -/
abbrev InSet (prog : Program) (w : World) (zs : List Str) (h : Heap) (a : Addr) (i : Nat) : Prop := h.SetOf (PySem.strKind prog w) a (fun z => (zs.take i).any (fun y => y == z)) i
theorem inset_moved {zs : List Str} {h h' : Heap} {a : Addr} {i : Nat} (r : InSet prog w zs h a i) (k : ∀ o, h.get? a = some o → h'.get? a = some o) : InSet prog w zs h' a i := by
  obtain ⟨o, es, ep, t, ho, more⟩ := r
  exact ⟨o, es, ep, t, k o ho, more⟩
theorem take_any {zs : List Str} (nd : zs.Nodup) {i : Nat} (hi : i < zs.length) : (zs.take i).any (fun y => y == zs.getD i Str.empty) = false := by
  cases e : (zs.take i).any (fun y => y == zs.getD i Str.empty) with
  | false => rfl
  | true =>
    obtain ⟨y, hy, hq⟩ := List.any_eq_true.mp e
    have hq' : y = zs.getD i Str.empty := by simpa using hq
    have hg : zs[i]? = some (zs.getD i Str.empty) := by rw [List.getD_eq_getElem?_getD, List.getElem?_eq_getElem hi]; rfl
    obtain ⟨j, hj⟩ := List.mem_iff_getElem?.mp hy
    have hji : j < i := by
      have := (List.getElem?_eq_some_iff.mp hj).1
      rw [List.length_take] at this
      omega
    rw [List.getElem?_take_of_lt hji, hq'] at hj
    have := L2.nd_ix nd hj hg
    omega
theorem fill_set (W : WalksS prog w A.in1 I fp wr G n P St) (a : Addr) (out : a ∉ fp) (zs : List Str) (nd : zs.Nodup) (hz : zs.length = n) (few : n + 1 < scanBound) (item : ∀ i v, P i v → ∃ t, v = .str (zs.getD i Str.empty) t) (R : Result → Shared → Prop) :
    ∀ (left i : Nat) (s : Shared), i + left = n → St i s → InSet prog w zs s.heap a i → (∀ s', Moved (a :: wr) G s s' → InSet prog w zs s'.heap a n → R (.ok (.ret .none)) s') →
      codeAny (model prog w) A (.builtin "set.update.loop" ⟨[.ref a, .ref I], []⟩) R s := by
  have aw : a ∉ wr := fun z => out (W.sub _ z)
  have up : ∀ b ∈ wr, b ∈ a :: wr := fun b hb => List.mem_cons_of_mem _ hb
  intro left
  induction left with
  | zero =>
    intro i s hl st r k
    obtain rfl : i = n := by omega
    refine codeAny_builtin PyProof.Rows.F.entry_set_update_loop ?_
    rw [Around.under_plainId PyProof.Rows.F.plain_set_update_loop _]
    show wpAny _ A.in1 (pyNext (.ref I) >>= _) _ _ s
    exact wpAny_bind (W.done s _ _ st fun s' m => wpAny_pure (k s' (m.mono up) (inset_moved r fun o e => m.heap a _ aw e)))
  | succ left ih =>
    intro i s hl st r k
    have lt : i < n := by omega
    refine codeAny_builtin PyProof.Rows.F.entry_set_update_loop ?_
    rw [Around.under_plainId PyProof.Rows.F.plain_set_update_loop _]
    show wpAny _ A.in1 (pyNext (.ref I) >>= _) _ _ s
    refine wpAny_bind (W.item i s _ _ lt st fun v s' hp st' m => ?_)
    obtain ⟨t, rfl⟩ := item i v hp
    have r' : InSet prog w zs s'.heap a i := inset_moved r fun o e => m.heap a _ aw e
    show wpAny _ A.in1 (holding [Value.str (zs.getD i Str.empty) t] (setAdd a (.str (zs.getD i Str.empty) t)) >>= _) _ _ s'
    refine wpAny_bind (wpAny_holding ?_)
    unfold setAdd
    refine wpAny_holding (wpAny_bind ((PySem.strKind prog w).pyHash (k := zs.getD i Str.empty) (strKind_is _ _ _ _) ?_))
    refine wpAny_setAddHashed_of (knd := PySem.strKind prog w) (s := { s' with toks := s'.toks + 1 }) (strKind_is _ _ _ _) rfl r' (by omega) fun h' same new => ?_
    have r2 : InSet prog w zs h' a (i + 1) := by
      refine PyProof.Rows.SetOf_congr new (fun z => ?_) ?_
      · have hg : zs[i]? = some (zs.getD i Str.empty) := by rw [List.getD_eq_getElem?_getD, List.getElem?_eq_getElem (by omega)]; rfl
        rw [List.take_add_one, hg, List.any_append]
        show ((zs.take i).any (fun y => y == z) || decide (z = zs.getD i Str.empty)) = ((zs.take i).any (fun y => y == z) || ((zs.getD i Str.empty == z) || false))
        rw [Bool.or_false]
        congr 1
        by_cases q : z = zs.getD i Str.empty
        · subst q; simp
        · have q2 : (zs.getD i Str.empty == z) = false := by simpa using fun y : zs.getD i Str.empty = z => q y.symm
          rw [q2]; simpa using q
      · rw [take_any nd (by omega)]; rfl
    refine wpAny_pure ⟨plainId_quiet PyProof.Rows.F.plain_set_update_loop _, ih (i + 1) _ (by omega) (W.frame _ s' _ _ st' (Nat.le_succ _) fun b hb o e => ?_) r2 fun s2 m2 r3 => ?_⟩
    · rw [same.2 b (fun z : b = a => out (z ▸ hb))]; exact e
    · refine k s2 (Moved.trans W.gtrans ((m.mono up).then_heap (Nat.le_succ _) fun b o hb e => ?_) m2) r3
      rw [same.2 b (fun z : b = a => hb (z ▸ List.mem_cons_self))]; exact e
end
section
variable {prog : Program} {w : World} {A : Around} {E : Value → Shared → Prop} {s : Shared}
/-- set(l) of a list of unlike texts: a new object with so many members -/
theorem set_of_strs {l : Addr} {its : Array Value} {zs : List Str} {Q : Value → Shared → Prop} (hh : A.handled = none) (hl : s.heap.IsList l its) (hi : StrsAre its.toList zs) (nd : zs.Nodup) (few : zs.length + 1 < scanBound)
    (k : ∀ (h' : Heap) (tk : Nat), InSet prog w zs h' s.heap.objs.size zs.length → (∀ b o, b < s.heap.objs.size → s.heap.get? b = some o → h'.get? b = some o) → Q (.ref s.heap.objs.size) { s with heap := h', toks := tk }) :
    wpAny (model prog w) A (call (.type "set") [.ref l]) Q E s := by
  obtain ⟨mc, mt, hmro⟩ := PySem.F.called_set.mro
  have q1 := PySem.F.called_set.made
  have q2 := PySem.F.called_set.sub
  refine wpAny_call (codeAny_of_tree (show wpAny _ _ (callAny (.type "set") _) _ _ _ from ?_))
  refine wpAny_pure ⟨Code.quiet_builtin _ (by decide +kernel), codeAny_builtin PySem.F.entry_type_call ?_⟩
  rw [Around.under_plain (weight_type_call_type "set" [.ref l] []) rfl]
  have q3 := PySem.F.called_set.notType
  have q4 := PySem.F.called_set.canCreate
  have q5 := PySem.F.typeCall_set_1 (.ref l)
  repeat (any_goals (first | assumption | wp_step))
  refine codeAny_mono (code_set_new_1 (.ref l) (E := E) (Q₁ := fun ob s1 => ∃ led : Bool, ob = .ref s.heap.objs.size ∧ s1 = { s with heap := s.heap.push { cls := .type "set", dict := none, data := .set #[] 0 (.fresh 0 0 led) } }) fun led => ⟨led, rfl, rfl⟩) fun r s1 hr => ?_
  cases r with
  | error e => exact hr
  | ok fl =>
    cases fl with
    | next => exact hr.elim
    | brk => exact hr.elim
    | cont => exact hr.elim
    | ret ob =>
      obtain ⟨led, rfl, rfl⟩ := hr
      generalize hg0 : s.heap.push { cls := .type "set", dict := none, data := .set #[] 0 (.fresh 0 0 led) } = g0
      have at0 : g0.get? s.heap.objs.size = some { cls := .type "set", dict := none, data := .set #[] 0 (.fresh 0 0 led) } := by rw [← hg0]; exact Heap.get?_push_size _ rfl
      have old0 : ∀ b o, s.heap.get? b = some o → g0.get? b = some o := fun b o e => by rw [← hg0]; exact Heap.get?_push_of_some _ e
      have sz0 : g0.objs.size = s.heap.objs.size + 1 := by rw [← hg0]; exact Heap.size_push _ _
      have ty0 : Shared.TypeIs { s with heap := g0 } (.ref s.heap.objs.size) "set" := ⟨_, at0, rfl⟩
      have q6 := PySem.F.called_set.init.lookup
      have q7 := PySem.F.called_set.init.bind (.ref s.heap.objs.size)
      repeat (any_goals (first | assumption | wp_step))
      refine codeAny_mono (codeAny_call_builtin (R := wants (fun r s2 => r = .none ∧ ∃ h' tk, s2 = { s with heap := h', toks := tk } ∧ InSet prog w zs h' s.heap.objs.size zs.length ∧ (∀ b o, b < s.heap.objs.size → s.heap.get? b = some o → h'.get? b = some o)) E)
        PySem.F.called_set.init.plain PySem.F.entry_set_init (check_set_init_1 ty0 ?_)) fun r2 s2 hr2 => ?_
      · obtain ⟨⟨lc, ld, lo, ls⟩, hol, hcl, nl, hdl⟩ := hl
        simp only at hcl hdl
        subst hcl
        subst hdl
        have hol0 := old0 _ _ hol
        have n1 := PySem.F.sub_list_set
        have n2 := PySem.F.sub_list_frozenset
        have n3 : (Value.type "list" == Value.type "dict") = false := by decide
        have hl0 : g0.IsList l its := ⟨_, hol0, rfl, nl, rfl⟩
        unfold Builtin.«set.__init__» noKeywords Builtin.Frozenset.updateFrom
        generalize ePI : pyIter = PI
        wp_walk
        subst ePI
        refine wpAny_pyIter_list hl0 (wpAny_bind (wpAny_runValue ?_))
        have lS : l < s.heap.objs.size := Heap.lt_size hol
        have hh3 : A.in1.in1.in1.handled = none := by simp [hh]
        have lI : l ≠ g0.objs.size := by rw [sz0]; exact Nat.ne_of_lt (Nat.lt_succ_of_lt lS)
        have aOut : s.heap.objs.size ∉ [g0.objs.size, l] := by
          rw [sz0]
          intro z
          rcases List.mem_cons.mp z with e | z
          · exact Nat.ne_of_lt (Nat.lt_succ_self _) e
          · exact Nat.ne_of_gt lS (List.mem_singleton.mp z)
        have ez : its.size = zs.length := by rw [← StrsAre.len_eq hi, Array.length_toList]
        refine fill_set ((Walks.list hh3 _ l lI its).toS) s.heap.objs.size aOut zs nd ez.symm (by rw [ez]; exact few) (fun i v hv => SS.strs_at hi i v (by rw [Array.getElem?_toList]; exact hv)) _ its.size 0 _ (by omega) ⟨⟨_, Heap.get?_push_size _ rfl, rfl, rfl⟩, (hl0.push _)⟩ ?start ?fin
        case start =>
          refine PyProof.Rows.SetOf_congr ((PyProof.Rows.setObjOf_fresh (knd := PySem.strKind prog w) led).setOf (Heap.get?_push_of_some _ at0) (by unfold scanBound; omega)) (fun _ => rfl) rfl
        case fin =>
          intro s' m r'
          obtain ⟨h', g', d', tk', os'⟩ := s'
          obtain rfl : g' = s.gens := m.gens
          obtain rfl : d' = s.drawn := m.drawn
          obtain rfl : os' = s.os := m.os
          show wpAny _ _ _ _ _ _
          refine wpAny_pure (show wpAny _ _ (ret Value.none) _ _ _ from wpAny_pure ⟨rfl, h', tk', rfl, ?_, fun b o hb e => ?_⟩)
          · rw [ez] at r'; exact r'
          · refine m.heap b o (fun z => ?_) (Heap.get?_push_of_some _ (old0 _ _ e))
            rcases List.mem_cons.mp z with e1 | z
            · exact Nat.ne_of_lt hb e1
            · have e2 := List.mem_singleton.mp z
              rw [sz0] at e2
              exact Nat.ne_of_lt (Nat.lt_succ_of_lt hb) e2
      · cases r2 with
        | error e => exact hr2
        | ok fl2 =>
          cases fl2 with
          | next => exact hr2.elim
          | brk => exact hr2.elim
          | cont => exact hr2.elim
          | ret r =>
            obtain ⟨rfl, h', tk, rfl, r', hk'⟩ := hr2
            repeat (any_goals (first | assumption | wp_step))
            exact k _ _ r' hk'
end
end HT
namespace HT
open PySem PySem.Spec PyProof.Rows L2
/-- len(set(xs)) -/
def tLenSetU (K : PySem.W.Frag) (ta : TE) : TE := fun σ H Q => ta σ H fun x H1 => ∃ l, ∃ zs : List Str, x = .ref l ∧ SqL K H1 l (zs.map V.str) ∧ zs.Nodup ∧ zs.length ≤ 1000 ∧ Q (.int zs.length) H1
theorem pe_lenSetU {X : Cx} {a : Expr} {ta : TE} {p p2 q pos : Pos} (hc : X.calm = true) (hg : Gl X "len") (hm : X.mg "len" = none) (hg2 : Gl X "set") (hm2 : X.mg "set" = none) (ha : PE X a ta)
    (na : starEach [a] X.env = (false, eval a X.env) :: starEach [] X.env := by rfl) : PE X (.Call (.Name "len" p) [.Call (.Name "set" p2) [a] [] q] [] pos) (tLenSetU X.K ta) := by
  refine ⟨fun pins s σ H Q I h => Call_ (ld_blt I hg hm boot_len (PyProof.Rows.callWith_builtin1 (PyProof.Rows.args_cons ?_ rfl) rfl rfl))⟩
  refine Call_ (ld_blt I hg2 hm2 boot_set (PyProof.Rows.callWith_type1 (PyProof.Rows.args_cons (thn (ha.run pins s σ H _ I h) fun v s1 ⟨x, H1, I1, r1, q1⟩ => PyProof.Rows.args_nil ?_) na) na rfl))
  obtain ⟨l, zs, rfl, hl, nd, few, q1⟩ := q1
  cases r1
  obtain ⟨its, r, pl, hz⟩ := I1.list hl
  have hsb : zs.length + 1 < scanBound := by unfold scanBound; omega
  refine set_of_strs (I1.ok.hd hc) pl.isList (by simpa using strsAre_of r) nd hsb fun h' tk hS hk => PyProof.Rows.args_nil ?_
  obtain ⟨o, es, ep, t, ho, hex, hd, _, _, _, hf, hn⟩ := hS
  have I2 : Inv X pins σ H1 { s1 with heap := h', toks := tk } := I1.kept fun b o e => hk b o (Heap.lt_size e) e
  exact call_len_set ho hex hd hf (by rw [hn]; omega) ⟨.int zs.length, H1, I2.tok _, ⟨_, by rw [hn]⟩, q1⟩
end HT
set_option Elab.async false
set_option linter.all false
set_option maxRecDepth 100000
set_option maxHeartbeats 4000000
/-! tables, as plain data: the mathematics -/
namespace HT
/-- the first pair of a key -/
def aget {κ β : Type} [DecidableEq κ] : List (κ × β) → κ → Option β
  | [], _ => none
  | p :: l, k => if p.1 = k then some p.2 else aget l k
theorem aget_map {κ β κ' β' : Type} [DecidableEq κ] [DecidableEq κ'] (f : κ → κ') (g : β → β') (inj : ∀ a b, f a = f b → a = b) (k : κ) : ∀ l : List (κ × β), aget (l.map fun p => (f p.1, g p.2)) (f k) = (aget l k).map g
  | [] => rfl
  | p :: l => by
    rw [List.map_cons]
    unfold aget
    by_cases h : p.1 = k
    · rw [if_pos (show (f p.1, g p.2).1 = f k by rw [h]), if_pos h]; rfl
    · rw [if_neg (fun z : (f p.1, g p.2).1 = f k => h (inj _ _ z)), if_neg h]
      exact aget_map f g inj k l
theorem aget_mem {κ β : Type} [DecidableEq κ] {k : κ} {v : β} : ∀ {l : List (κ × β)}, aget l k = some v → (k, v) ∈ l
  | [], h => by cases h
  | p :: l, h => by
    unfold aget at h
    by_cases q : p.1 = k
    · rw [if_pos q] at h
      cases h
      subst q
      simp
    · rw [if_neg q] at h
      exact List.mem_cons_of_mem _ (aget_mem h)
theorem aget_none {κ β : Type} [DecidableEq κ] {k : κ} : ∀ {l : List (κ × β)}, k ∉ l.map (·.1) → aget l k = none
  | [], _ => rfl
  | p :: l, h => by
    unfold aget
    rw [if_neg (fun z => h (by simp [z]))]
    exact aget_none fun z => h (by simp only [List.map_cons, List.mem_cons]; exact .inr z)
theorem aget_some {κ β : Type} [DecidableEq κ] {k : κ} : ∀ {l : List (κ × β)}, k ∈ l.map (·.1) → ∃ v, aget l k = some v
  | [], h => by simp at h
  | p :: l, h => by
    unfold aget
    by_cases q : p.1 = k
    · exact ⟨p.2, by rw [if_pos q]⟩
    · rw [if_neg q]
      refine aget_some ?_
      simp only [List.map_cons, List.mem_cons] at h
      exact h.resolve_left fun z => q z.symm
structure TD (α : Type) where
  order : List α
  pairs : List (α × α)
  gives : List (α × Nat)
  above : List (α × α)
def pairsOf {α : Type} : List α → List (α × α)
  | [] => []
  | a :: l => l.map (fun b => (a, b)) ++ pairsOf l
namespace TD
variable {α β : Type} [DecidableEq α] [DecidableEq β]
def near (D : TD α) (a b : α) : Bool := decide ((a, b) ∈ D.pairs) || decide ((b, a) ∈ D.pairs)
def rank (D : TD α) (a : α) : Nat := (aget D.gives a).getD 0
def up (D : TD α) (a : α) : α := (aget D.above a).getD a
def bears (D : TD α) (a b : α) : Bool := !decide (D.rank a < D.rank b) && D.order.all fun m => !D.near a m || D.near b m
def both (D : TD α) (a b : α) : List α := D.order.filter fun m => D.bears m a && D.bears m b
def least (D : TD α) (a b : α) : List α := (D.both a b).filter fun m => (D.both a b).all fun k => D.bears k m
def joined (D : TD α) (a b : α) : Option α := if D.bears a b then some a else if D.bears b a then some b else (D.least a b).head?
def quarrel (D : TD α) (a b : α) : Bool := (!decide (D.rank a = 0) && !decide (D.rank b = 0)) && (decide (D.rank a = 2) || decide (D.rank b = 2))
def isOver (D : TD α) (a b : α) : Bool := match D.joined a b with
  | none => true
  | some j => match D.joined (D.up a) (D.up b) with
    | none => false
    | some u => D.bears u (D.up j)
def clean (D : TD α) : Bool := D.order.all (fun m => D.bears (D.up m) (D.up (D.up m))) && ((pairsOf D.order).all (fun p => (D.joined p.1 p.2).isSome) && ((pairsOf D.order).all (fun p => D.isOver p.1 p.2) &&
  ((pairsOf D.order ++ D.order.map fun m => (m, m)).all (fun p => !(D.near p.1 p.2 && D.quarrel p.1 p.2)) &&
    D.order.all fun a => (D.order.filter fun b => D.quarrel a b).all fun b => (D.order.filter fun m => D.near a m).all fun m => !D.bears m (D.up b))))
def map (f : α → β) (D : TD α) : TD β := ⟨D.order.map f, D.pairs.map fun p => (f p.1, f p.2), D.gives.map fun p => (f p.1, p.2), D.above.map fun p => (f p.1, f p.2)⟩
section
variable {D : TD α} {f : α → β} (inj : ∀ a b, f a = f b → a = b)
include inj
theorem near_map (a b : α) : (D.map f).near (f a) (f b) = D.near a b := by
  have h : ∀ a b, ((f a, f b) ∈ (D.map f).pairs) ↔ (a, b) ∈ D.pairs := fun a b => by
    unfold map
    simp only [List.mem_map]
    constructor
    · rintro ⟨⟨x, y⟩, hm, e⟩
      injection e with e1 e2
      have e3 : x = a := inj _ _ e1
      have e4 : y = b := inj _ _ e2
      rw [← e3, ← e4]
      exact hm
    · intro hm
      exact ⟨(a, b), hm, rfl⟩
  unfold near
  rw [decide_eq_decide.mpr (h a b), decide_eq_decide.mpr (h b a)]
theorem rank_map (a : α) : (D.map f).rank (f a) = D.rank a := by
  unfold rank map
  rw [aget_map f (fun r => r) inj]
  cases aget D.gives a <;> rfl
theorem up_map (a : α) : (D.map f).up (f a) = f (D.up a) := by
  unfold up map
  rw [aget_map f f inj]
  cases aget D.above a <;> rfl
theorem bears_map (a b : α) : (D.map f).bears (f a) (f b) = D.bears a b := by
  unfold bears
  rw [rank_map inj, rank_map inj]
  show (_ && (D.order.map f).all _) = _
  rw [List.all_map]
  have e : ((fun m => !(D.map f).near (f a) m || (D.map f).near (f b) m) ∘ f) = fun m => !D.near a m || D.near b m := by
    funext m
    show (!(D.map f).near (f a) (f m) || (D.map f).near (f b) (f m)) = _
    rw [near_map inj, near_map inj]
  rw [e]
theorem both_map (a b : α) : (D.map f).both (f a) (f b) = (D.both a b).map f := by
  unfold both
  show (D.order.map f).filter _ = _
  rw [List.filter_map]
  congr 2
  funext m
  show ((D.map f).bears (f m) (f a) && (D.map f).bears (f m) (f b)) = _
  rw [bears_map inj, bears_map inj]
theorem least_map (a b : α) : (D.map f).least (f a) (f b) = (D.least a b).map f := by
  unfold least
  rw [both_map inj, List.filter_map]
  congr 2
  funext m
  show ((D.both a b).map f).all (fun k => (D.map f).bears k (f m)) = _
  rw [List.all_map]
  congr 1
  funext k
  show (D.map f).bears (f k) (f m) = _
  rw [bears_map inj]
theorem joined_map (a b : α) : (D.map f).joined (f a) (f b) = (D.joined a b).map f := by
  unfold joined
  rw [bears_map inj, bears_map inj, least_map inj]
  cases D.bears a b
  · cases D.bears b a
    · rw [if_neg (by decide), if_neg (by decide), if_neg (by decide), if_neg (by decide), List.head?_map]
    · rfl
  · rfl
theorem quarrel_map (a b : α) : (D.map f).quarrel (f a) (f b) = D.quarrel a b := by
  unfold quarrel
  rw [rank_map inj, rank_map inj]
theorem isOver_map (a b : α) : (D.map f).isOver (f a) (f b) = D.isOver a b := by
  unfold isOver
  rw [joined_map inj, up_map inj, up_map inj, joined_map inj]
  cases D.joined a b with
  | none => rfl
  | some j =>
    cases D.joined (D.up a) (D.up b) with
    | none => rfl
    | some u =>
      show (D.map f).bears (f u) ((D.map f).up (f j)) = _
      rw [up_map inj, bears_map inj]
omit inj [DecidableEq α] [DecidableEq β] in
theorem pairsOf_map (l : List α) : pairsOf (l.map f) = (pairsOf l).map fun p => (f p.1, f p.2) := by
  induction l with
  | nil => rfl
  | cons a l ih =>
    show (l.map f).map _ ++ pairsOf (l.map f) = (l.map _ ++ pairsOf l).map _
    rw [ih, List.map_append, List.map_map, List.map_map]
    rfl
theorem clean_map : (D.map f).clean = D.clean := by
  unfold clean
  have e0 : (D.map f).order = D.order.map f := rfl
  rw [e0, pairsOf_map, List.all_map, List.all_map, List.all_map, List.all_append, List.all_append, List.all_map, List.map_map, List.all_map, List.all_map, List.all_map]
  congr 1
  · congr 1
    funext m
    show (D.map f).bears ((D.map f).up (f m)) ((D.map f).up ((D.map f).up (f m))) = _
    rw [up_map inj, up_map inj, bears_map inj]
  · congr 1
    · congr 1
      funext p
      show ((D.map f).joined (f p.1) (f p.2)).isSome = _
      rw [joined_map inj]
      cases D.joined p.1 p.2 <;> rfl
    · congr 1
      · congr 1
        funext p
        show (D.map f).isOver (f p.1) (f p.2) = _
        rw [isOver_map inj]
      · congr 1
        · congr 1
          · congr 1
            funext p
            show (!((D.map f).near (f p.1) (f p.2) && (D.map f).quarrel (f p.1) (f p.2))) = _
            rw [near_map inj, quarrel_map inj]
          · congr 1
            funext m
            show (!((D.map f).near (f m) (f m) && (D.map f).quarrel (f m) (f m))) = _
            rw [near_map inj, quarrel_map inj]
            rfl
        · congr 1
          funext a
          show ((D.order.map f).filter fun b => (D.map f).quarrel (f a) b).all _ = _
          rw [List.filter_map, List.all_map]
          have e1 : ((fun b => (D.map f).quarrel (f a) b) ∘ f) = fun b => D.quarrel a b := by
            funext b
            exact quarrel_map inj a b
          rw [e1]
          congr 1
          funext b
          show ((D.order.map f).filter fun m => (D.map f).near (f a) m).all (fun m => !(D.map f).bears m ((D.map f).up (f b))) = _
          rw [List.filter_map, List.all_map]
          have e2 : ((fun m => (D.map f).near (f a) m) ∘ f) = fun m => D.near a m := by
            funext m
            exact near_map inj a m
          rw [e2]
          congr 1
          funext m
          show (!(D.map f).bears (f m) ((D.map f).up (f b))) = _
          rw [up_map inj, bears_map inj]
end
section
variable {D : TD α}
theorem near_symm (a b : α) : D.near a b = D.near b a := by unfold near; rw [Bool.or_comm]
theorem bears_refl (a : α) : D.bears a a = true := by
  unfold bears
  simp
theorem bears_near {a b m : α} (h : D.bears a b = true) (hm : m ∈ D.order) (hn : D.near a m = true) : D.near b m = true := by
  unfold bears at h
  simp only [Bool.and_eq_true, List.all_eq_true] at h
  have := h.2 m hm
  rw [hn] at this
  simpa using this
theorem both_mem {a b m : α} (h : m ∈ D.both a b) : m ∈ D.order ∧ D.bears m a = true ∧ D.bears m b = true := by
  unfold both at h
  simpa [List.mem_filter] using h
theorem joined_in {a b j : α} (h : D.joined a b = some j) (ha : a ∈ D.order) (hb : b ∈ D.order) : j ∈ D.order ∧ D.bears j a = true := by
  unfold joined at h
  split at h
  · cases h; exact ⟨ha, bears_refl _⟩
  · split at h
    · cases h
      exact ⟨hb, by assumption⟩
    · have hm := List.mem_of_head? h
      unfold least at hm
      have := both_mem (List.mem_filter.mp hm).1
      exact ⟨this.1, this.2.1⟩
theorem least_symm (a b : α) : D.least a b = D.least b a := by
  have e : D.both a b = D.both b a := by
    unfold both
    congr 1
    funext m
    rw [Bool.and_comm]
  unfold least
  rw [e]
theorem joined_none_symm {a b : α} (h : D.joined a b = none) : D.joined b a = none := by
  unfold joined at h ⊢
  split at h
  · cases h
  · split at h
    · cases h
    · rename_i h1 h2
      rw [if_neg h2, if_neg h1, least_symm]
      exact h
theorem mem_pairsOf {a b : α} : ∀ {l : List α}, a ∈ l → b ∈ l → a ≠ b → (a, b) ∈ pairsOf l ∨ (b, a) ∈ pairsOf l
  | [], h, _, _ => by simp at h
  | c :: l, ha, hb, hn => by
    unfold pairsOf
    simp only [List.mem_cons] at ha hb
    rcases ha with rfl | ha
    · rcases hb with rfl | hb
      · exact absurd rfl hn
      · exact .inl (List.mem_append_left _ (List.mem_map.mpr ⟨b, hb, rfl⟩))
    · rcases hb with rfl | hb
      · exact .inr (List.mem_append_left _ (List.mem_map.mpr ⟨a, ha, rfl⟩))
      · rcases mem_pairsOf ha hb hn with h | h
        · exact .inl (List.mem_append_right _ h)
        · exact .inr (List.mem_append_right _ h)
/-- a table without flaw joins any two -/
theorem clean_joined (h : D.clean = true) {a b : α} (ha : a ∈ D.order) (hb : b ∈ D.order) : ∃ j, D.joined a b = some j := by
  by_cases q : a = b
  · subst q
    refine ⟨a, ?_⟩
    unfold joined
    rw [if_pos (bears_refl a)]
  · unfold clean at h
    simp only [Bool.and_eq_true, List.all_eq_true] at h
    have h2 := h.2.1
    rcases mem_pairsOf ha hb q with hm | hm
    · exact Option.isSome_iff_exists.mp (h2 _ hm)
    · have := Option.isSome_iff_exists.mp (h2 _ hm)
      cases e : D.joined a b with
      | some j => exact ⟨j, rfl⟩
      | none =>
        obtain ⟨j, hj⟩ := this
        rw [joined_none_symm e] at hj
        cases hj
end
end TD
/-! ### the drawn tables without flaw, by numbers -/
def rot {α : Type} (n : Nat) (l : List α) : List α := l.drop n ++ l.take n
def usualN (more : Bool) (lead : Nat) : TD (Fin 6) :=
  ⟨rot lead (if more then [0, 1, 2, 3, 4, 5] else [0, 1, 2, 3, 4]), [(0, 0), (0, 1), (0, 2), (0, 3), (1, 1), (2, 2)] ++ (if more then [(5, 0), (2, 5)] else []), [(2, 1), (3, 1), (4, 2)] ++ (if more then [(5, 1)] else []), [(2, 0), (3, 1), (4, 1)] ++ (if more then [(5, 0)] else [])⟩
def stairN (four : Bool) (lead : Nat) : TD (Fin 6) :=
  if four then ⟨rot lead [0, 1, 2, 3], [(0, 0), (0, 1), (0, 2), (0, 3)] ++ [(1, 1), (1, 2), (2, 2)], [(2, 1), (3, 2)], [(1, 0), (2, 1)]⟩
  else ⟨rot lead [0, 1, 2, 3, 4, 5], ([(0, 0), (0, 1), (0, 2), (0, 3), (0, 4), (0, 5)] ++ [(1, 1), (1, 3), (3, 3)]) ++ [(2, 2), (2, 4), (4, 4)], [(3, 1), (4, 1), (5, 1)], [(3, 1), (4, 2), (5, 0)]⟩
set_option maxRecDepth 100000 in
theorem usualN_clean : ∀ (b : Bool) (n : Fin 6), (usualN b n.val).clean = true := by decide +kernel
theorem stairN_clean4 : ∀ (n : Fin 4), (stairN true n.val).clean = true := by decide +kernel
theorem stairN_clean6 : ∀ (n : Fin 6), (stairN false n.val).clean = true := by decide +kernel
end HT
set_option Elab.async false
set_option linter.all false
set_option maxRecDepth 100000
set_option maxHeartbeats 4000000
/-! own layer: frames; dicts as functions; a table in the heap -/
namespace HT
open PySem PySem.Spec PyProof.Rows L2 Evl
/-! ### what a change may touch: F before, F' behind; tuples stay -/
def Fr (F F' : List Addr) (H H' : Hp) : Prop := (∀ b o, b ∉ F → H b = some o → H' b = some o) ∧ (∀ b ∈ F', b ∈ F ∨ H b = none) ∧ ExL H H'
theorem Fr.of {F : List Addr} {H H' : Hp} (e : Ex H H') : Fr F F H H' := ⟨fun b o _ h => e b o h, fun b h => .inl h, ExL.of e⟩
theorem Fr.refl (F : List Addr) (H : Hp) : Fr F F H H := Fr.of (Ex.refl _)
theorem Fr.trans {F F1 F2 : List Addr} {H H1 H2 : Hp} (a : Fr F F1 H H1) (b : Fr F1 F2 H1 H2) : Fr F F2 H H2 := by
  refine ⟨fun c o hc h => b.1 c o (fun q => ?_) (a.1 c o hc h), fun c hc => ?_, a.2.2.trans b.2.2⟩
  · rcases a.2.1 c q with z | z
    · exact hc z
    · rw [h] at z; cases z
  · rcases b.2.1 c hc with z | z
    · exact a.2.1 c z
    · by_cases hf : c ∈ F
      · exact .inl hf
      · right
        cases e : H c with
        | none => rfl
        | some o => rw [a.1 c o hf e] at z; cases z
theorem Fr.ex {F F1 : List Addr} {H H1 H2 : Hp} (a : Fr F F1 H H1) (e : Ex H1 H2) : Fr F F1 H H2 := a.trans (Fr.of e)
theorem Fr.pre {F F1 : List Addr} {H H1 H2 : Hp} (e : Ex H H1) (a : Fr F F1 H1 H2) : Fr F F1 H H2 := (Fr.of e).trans a
theorem Fr.upd {F : List Addr} {H : Hp} {a : Addr} {u o : HO} (ha : a ∈ F) (h : H a = some u) (n : ∀ xs, u ≠ .tup xs) : Fr F F H (upd H a o) :=
  ⟨fun b o' hb h' => by rw [upd_ne (fun z => hb (by rw [z]; exact ha))]; exact h', fun b hb => .inl hb, ExL.upd h n⟩
theorem Fr.sub {F F' F2 : List Addr} {H H' : Hp} (a : Fr F F' H H') (h : ∀ b ∈ F2, b ∈ F' ∨ H b = none) : Fr F F2 H H' := ⟨a.1, fun b hb => (h b hb).elim (a.2.1 b) .inr, a.2.2⟩
theorem Fr.keep {F F' : List Addr} {H H' : Hp} {b : Addr} {o : HO} (a : Fr F F' H H') (hb : b ∉ F) (h : H b = some o) : H' b = some o := a.1 b o hb h
/-- the part of the heap that never changes -/
theorem Fr.z {F F' : List Addr} {H H' Z : Hp} (a : Fr F F' H H') (z : Ex Z H) (hz : ∀ b ∈ F, Z b = none) : Ex Z H' ∧ ∀ b ∈ F', Z b = none := by
  refine ⟨fun b o h => a.1 b o (fun q => ?_) (z b o h), fun b hb => ?_⟩
  · have := hz b q
    rw [h] at this
    cases this
  · rcases a.2.1 b hb with q | q
    · exact hz b q
    · cases e : Z b with
      | none => rfl
      | some o => rw [z b o e] at q; cases q
/-- two structures stay apart -/
theorem Fr.apart {F F' F2 : List Addr} {H H' : Hp} (a : Fr F F' H H') (h : ∀ b ∈ F2, b ∉ F) (l : ∀ b ∈ F2, ∃ o, H b = some o) : ∀ b ∈ F2, b ∉ F' := fun b hb q => by
  rcases a.2.1 b q with z | z
  · exact h b hb z
  · obtain ⟨o, e⟩ := l b hb
    rw [z] at e
    cases e
/-! ### dicts with whole numbers as keys, as functions -/
abbrev FI := Int → Option V
def fput (f : FI) (k : Int) (o : Option V) : FI := fun i => if i = k then o else f i
def fnil : FI := fun _ => none
theorem fput_same {f : FI} {k : Int} {o : Option V} : fput f k o k = o := by unfold fput; rw [if_pos rfl]
theorem fput_ne {f : FI} {k i : Int} {o : Option V} (h : i ≠ k) : fput f k o i = f i := by unfold fput; rw [if_neg h]
/-- at a the dict f: whole keys, each once, all of them in ds -/
structure DI (H : Hp) (a : Addr) (f : FI) (kvs : List (Key × V)) : Prop where
  at_ : H a = some (.dK kvs)
  nd : (kvs.map (·.1)).Nodup
  ik : ∀ p ∈ kvs, ∃ i, p.1 = Sum.inl i
  va : ∀ i, valV kvs (.inl i) = f i
def DA (H : Hp) (a : Addr) (f : FI) : Prop := ∃ kvs, DI H a f kvs
theorem DA.ex {H H' : Hp} {a : Addr} {f : FI} (h : DA H a f) (e : Ex H H') : DA H' a f := by
  obtain ⟨kvs, h⟩ := h
  exact ⟨kvs, e _ _ h.at_, h.nd, h.ik, h.va⟩
theorem DA.of_eq {H H' : Hp} {a : Addr} {f : FI} (h : DA H a f) (e : ∀ o, H a = some o → H' a = some o) : DA H' a f := by
  obtain ⟨kvs, h⟩ := h
  exact ⟨kvs, e _ h.at_, h.nd, h.ik, h.va⟩
theorem DA.get {H : Hp} {a : Addr} {f : FI} (h : DA H a f) (i : Int) : DGet H a (.int i) (f i) := by
  obtain ⟨kvs, h⟩ := h
  rw [← h.va]
  exact DGet.k (k := Sum.inl i) h.at_
theorem DA.isD {H : Hp} {a : Addr} {f : FI} (h : DA H a f) : IsD H a := by
  obtain ⟨kvs, h⟩ := h
  exact .inl ⟨kvs, .inl h.at_⟩
theorem DA.nil {H : Hp} {a : Addr} (h : H a = some (.dK [])) : DA H a fnil := ⟨[], h, by simp, by simp, fun _ => rfl⟩
theorem DA.some {H : Hp} {a : Addr} {f : FI} (h : DA H a f) : ∃ u, H a = some u ∧ ∀ xs, u ≠ .tup xs := by
  obtain ⟨kvs, h⟩ := h
  exact ⟨_, h.at_, fun xs z => by cases z⟩
section
variable {κ : Type} [DecidableEq κ]
theorem valV_append {k : κ} : ∀ {l m : List (κ × V)}, valV (l ++ m) k = (valV l k).or (valV m k)
  | [], m => by cases h : valV m k <;> simp [valV_nil, h]
  | p :: l, m => by
    by_cases h : p.1 = k
    · rw [List.cons_append, valV_pos h, valV_pos h]; rfl
    · rw [List.cons_append, valV_neg h, valV_neg h]; exact valV_append
theorem valV_none {k : κ} {kvs : List (κ × V)} (h : k ∉ kvs.map (·.1)) : valV kvs k = none := by
  cases e : valV kvs k with
  | none => rfl
  | some v =>
    have := valV_any k kvs
    rw [e] at this
    obtain ⟨p, hp, hq⟩ := List.any_eq_true.mp this
    exact absurd (List.mem_map.mpr ⟨p, hp, by simpa using hq⟩) h
theorem valV_some {k : κ} {kvs : List (κ × V)} (h : k ∈ kvs.map (·.1)) : ∃ v, valV kvs k = some v := by
  obtain ⟨p, hp, e⟩ := List.mem_map.mp h
  have : (kvs.any fun kv => decide (kv.1 = k)) = true := List.any_eq_true.mpr ⟨p, hp, by simp [e]⟩
  rw [valV_any] at this
  exact Option.isSome_iff_exists.mp this
theorem valV_filter {k : κ} (q : κ → Bool) : ∀ kvs : List (κ × V), valV (kvs.filter fun kv => q kv.1) k = if q k = true then valV kvs k else none
  | [] => by simp [valV_nil]
  | p :: l => by
    have ih := valV_filter (k := k) q l
    by_cases h : p.1 = k
    · rw [List.filter_cons, h]
      by_cases hq : q k = true
      · rw [if_pos hq, if_pos hq, valV_pos h, valV_pos h]
      · rw [if_neg hq, if_neg hq, ih, if_neg hq]
    · rw [List.filter_cons, valV_neg h]
      by_cases hq : q p.1 = true
      · rw [if_pos hq, valV_neg h, ih]
      · rw [if_neg hq, ih]
theorem keys_putK {kvs : List (κ × V)} {k : κ} {v : V} : (putK kvs k v).map (·.1) = if k ∈ kvs.map (·.1) then kvs.map (·.1) else kvs.map (·.1) ++ [k] := by
  unfold putK
  by_cases h : k ∈ kvs.map (·.1)
  · have : (kvs.any fun kv => decide (kv.1 = k)) = true := by
      obtain ⟨p, hp, e⟩ := List.mem_map.mp h
      exact List.any_eq_true.mpr ⟨p, hp, by simp [e]⟩
    rw [if_pos this, if_pos h, List.map_map]
    congr 1
    funext p
    show (if p.1 = k then (p.1, v) else p).1 = p.1
    split <;> rfl
  · have : ¬ (kvs.any fun kv => decide (kv.1 = k)) = true := fun z => h (by
      obtain ⟨p, hp, e⟩ := List.any_eq_true.mp z
      exact List.mem_map.mpr ⟨p, hp, by simpa using e⟩)
    rw [if_neg this, if_neg h, List.map_append]
    rfl
theorem valV_putK {kvs : List (κ × V)} {k j : κ} {v : V} : valV (putK kvs k v) j = if j = k then some v else valV kvs j := by
  unfold putK
  rw [valV_any]
  cases e : valV kvs k with
  | none =>
    rw [if_neg (by rw [Option.isSome_none]; decide), valV_append]
    by_cases h : j = k
    · subst h
      rw [if_pos rfl, e, valV_pos rfl]
      rfl
    · rw [if_neg h, valV_neg (fun z => h z.symm), valV_nil]
      cases valV kvs j <;> rfl
  | some w =>
    rw [if_pos (by rw [Option.isSome_some]), valV_map]
    by_cases h : j = k
    · subst h
      rw [if_pos rfl, e]
      simp
    · rw [if_neg h]
      simp [h]
end
theorem DI.put {H : Hp} {a : Addr} {f : FI} {kvs : List (Key × V)} (h : DI H a f kvs) (k : Int) (v : V) : DI (upd H a (.dK (putK kvs (.inl k) v))) a (fput f k (some v)) (putK kvs (.inl k) v) := by
  refine ⟨upd_same, ?_, ?_, fun i => ?_⟩
  · rw [keys_putK]
    split
    · exact h.nd
    · rename_i hn
      exact List.nodup_append.mpr ⟨h.nd, by simp, fun x hx y hy z => hn (by simp at hy; rw [← hy, ← z]; exact hx)⟩
  · intro p hp
    have : p.1 ∈ (putK kvs (.inl k) v).map (·.1) := List.mem_map.mpr ⟨p, hp, rfl⟩
    rw [keys_putK] at this
    have h2 : p.1 ∈ kvs.map (·.1) ∨ p.1 = .inl k := by
      split at this
      · exact .inl this
      · simpa using this
    rcases h2 with z | z
    · obtain ⟨q, hq, e⟩ := List.mem_map.mp z
      obtain ⟨i, hi⟩ := h.ik q hq
      exact ⟨i, by rw [← e]; exact hi⟩
    · exact ⟨k, z⟩
  · rw [valV_putK, h.va]
    unfold fput
    by_cases z : i = k
    · subst z; simp
    · rw [if_neg z, if_neg (fun q => z (by cases q; rfl))]
theorem DI.drop {H : Hp} {a : Addr} {f : FI} {kvs : List (Key × V)} (h : DI H a f kvs) (k : Int) : DI (upd H a (.dK (dropK kvs (.inl k)))) a (fput f k none) (dropK kvs (.inl k)) := by
  have e0 : dropK kvs (.inl k) = kvs.filter fun kv => (fun x : Key => decide (x ≠ .inl k)) kv.1 := rfl
  refine ⟨upd_same, ?_, fun p hp => h.ik p (List.mem_filter.mp hp).1, fun i => ?_⟩
  · rw [e0]
    exact (List.Sublist.map _ List.filter_sublist).nodup h.nd
  · rw [e0, valV_filter (fun x : Key => decide (x ≠ .inl k)), h.va]
    unfold fput
    by_cases z : i = k
    · subst z; simp
    · rw [if_neg z, if_pos (by simpa using z)]
/-- all keys stand in ds -/
def FIn (f : FI) (ds : List Int) : Prop := ∀ i, (f i).isSome = true → i ∈ ds
theorem FIn.put {f : FI} {ds : List Int} {k : Int} {o : Option V} (h : FIn f ds) (hk : k ∈ ds) : FIn (fput f k o) ds := fun i hi => by
  by_cases z : i = k
  · rw [z]; exact hk
  · rw [fput_ne z] at hi; exact h i hi
theorem FIn.drop {f : FI} {ds : List Int} {k : Int} (h : FIn f ds) : FIn (fput f k none) ds := fun i hi => by
  by_cases z : i = k
  · rw [z, fput_same] at hi; cases hi
  · rw [fput_ne z] at hi; exact h i hi
theorem FIn.nil {ds : List Int} : FIn fnil ds := fun i hi => by cases hi
theorem DI.mem {H : Hp} {a : Addr} {f : FI} {kvs : List (Key × V)} (h : DI H a f kvs) {p : Key × V} (hp : p ∈ kvs) : ∃ i, p.1 = .inl i ∧ f i = some p.2 := by
  obtain ⟨i, hi⟩ := h.ik p hp
  refine ⟨i, hi, ?_⟩
  rw [← h.va, ← hi]
  exact val_nodup h.nd p hp
theorem DI.has {H : Hp} {a : Addr} {f : FI} {kvs : List (Key × V)} (h : DI H a f kvs) {i : Int} {v : V} (hv : f i = some v) : (Sum.inl i, v) ∈ kvs := by
  rw [← h.va] at hv
  unfold valV at hv
  obtain ⟨p, hp, e⟩ := Option.map_eq_some_iff.mp hv
  have h1 := List.mem_of_find?_eq_some hp
  have h2 := List.find?_some hp
  have h3 : p.1 = .inl i := by simpa using h2
  have : p = (.inl i, v) := by rw [← h3, ← e]
  rw [← this]
  exact h1
theorem nd_sub_len {α : Type} [DecidableEq α] : ∀ {l m : List α}, l.Nodup → (∀ a ∈ l, a ∈ m) → l.length ≤ m.length
  | [], m, _, _ => Nat.zero_le _
  | a :: l, m, h, k => by
    have h2 := List.nodup_cons.mp h
    have := nd_sub_len (m := m.erase a) h2.2 fun b hb => (List.mem_erase_of_ne (fun z => h2.1 (by rw [← z]; exact hb))).mpr (k b (List.mem_cons_of_mem _ hb))
    have hm : a ∈ m := k a (List.mem_cons_self ..)
    rw [List.length_erase_of_mem hm] at this
    have hp : 0 < m.length := List.length_pos_of_mem hm
    rw [List.length_cons]
    omega
theorem DI.len {H : Hp} {a : Addr} {f : FI} {kvs : List (Key × V)} {ds : List Int} (h : DI H a f kvs) (hd : FIn f ds) : kvs.length ≤ ds.length := by
  have h1 : (kvs.map (·.1)).length ≤ (ds.map (Sum.inl : Int → Key)).length := by
    refine nd_sub_len h.nd fun k hk => ?_
    obtain ⟨p, hp, e⟩ := List.mem_map.mp hk
    obtain ⟨i, hi, hf⟩ := h.mem hp
    refine List.mem_map.mpr ⟨i, hd i (by rw [hf]; rfl), ?_⟩
    rw [← e, hi]
  simpa using h1
end HT
set_option Elab.async false
set_option linter.all false
set_option maxRecDepth 100000
set_option maxHeartbeats 4000000
/-! the rules once more, the fragment by its name (a rule under a comprehension's binders) -/
namespace HT
open PySem PySem.Spec PyProof.Rows L2 Evl
section
variable {X : Cx} (K : PySem.W.Frag) (h : X.K = K)
include h
theorem pe_fldK {e : Expr} {f : Str} {pos : Pos} {ta : TE} (he : PE X e ta) (hb : attributeBase e f X.env (eval e X.env) = eval e X.env) : PE X (.Attribute e f pos) (tFld K ta f) := by subst h; exact pe_fld he hb
theorem ix_listK : IxR X (rIxL K) := by subst h; exact ix_list
theorem ix_tupK : IxR X (rIxT K) := by subst h; exact ix_tup
theorem op_in_seqK : OpR X (compareOp .In) (rIn K false) := by subst h; exact op_in_seq
theorem op_notIn_seqK : OpR X (compareOp .NotIn) (rIn K true) := by subst h; exact op_notIn_seq
theorem op_eqDK (hu : X.A.units + 64 < cLine) : OpR X (compareOp .Eq) (rEqD K) := by subst h; exact op_eqD hu
theorem op_neDK (hu : X.A.units + 64 < cLine) : OpR X (compareOp .NotEq) (rNeD K) := by subst h; exact op_neD hu
theorem op_inDK (hu : X.A.units + 65 < cLine) : OpR X (compareOp .In) (rInD K) := by subst h; exact op_inD hu
theorem op_catAK : OpR X (binaryOp .Add) (rCatA K) := by subst h; exact op_catA
theorem call_len_seqK : CallR X (.builtin "len") (rLenQ K) := by subst h; exact call_len_seq
theorem cr_allK (hc : X.calm = true) : CallR X (.builtin "all") (rAll K) := by subst h; exact cr_all hc
theorem call_list_ofK : CallR X (.type "list") (rListS K) := by subst h; exact call_list_of
theorem call_isiK1 : CallR X (.builtin "isinstance") (rIsi K) := by subst h; exact call_isi
theorem call_isiTK : CallR X (.builtin "isinstance") (rIsiT K) := by subst h; exact call_isiT
theorem call_dictPK (hc : X.calm = true) : CallR X (.type "dict") (fun xs H Q => ∃ (a : Addr) (ps : List Addr) (kvs : List (Key × V)), xs = [.ref a] ∧ SqL K H a (ps.map V.ref) ∧ Paired (fun p kv => SqT K H p [kV kv.1, kv.2]) ps kvs ∧ ∀ p, H p = none → Q (.ref p) (upd H p (.dK (mergeK [] kvs)))) := by subst h; exact call_dictP hc
theorem sl_listK : SlR X (rSlL K) := by subst h; exact sl_list
theorem sl_tupAK : SlR X (rSlA K) := by subst h; exact sl_tupA
theorem mt_tup_indexK : MtR X "tuple.index" (fun x xs H Q => ∃ p, ∃ ys : List Str, ∃ z j, x = .ref p ∧ xs = [.str z] ∧ SqT K H p (ys.map V.str) ∧ ys[j]? = some z ∧ (∀ m, m < j → ys[m]? ≠ some z) ∧ Q (.int (j : Nat)) H) := by subst h; exact mt_tup_index
theorem mt_indexK : MtR X "list.index" (rIndex K) := by subst h; exact mt_index
theorem pe_bmK {o e : Expr} {es : List Expr} {to : TE} {t : TA} {name : Str} {apos cpos : Pos} {T id : String} {r : V → List V → Hp → VK → Prop} (pa : PlainAttrs T) (slot : Slot T name id) (hty : typeOf (.builtin id) = pure (.type "method_descriptor")) (hm : MtR X id r) (ho : PE X o to) (ha : PA X (e :: es) t)
    (hbase : attributeBase o name X.env (eval o X.env) = eval o X.env := by rfl)
    (hfew : ((backTo cpos (starEach (e :: es) X.env)).all (fun x => !x.1) && (backToKw cpos (keywordEach [] X.env)).all (fun x => x.1.isSome)
      && decide ((e :: es).length + ([] : List Keyword).length + (if ([] : List Keyword).isEmpty then 0 else 1) < 30)) = true := by rfl)
    (hline : (apos.endLine == cpos.line) = true := by rfl) (hs : starEach (e :: es) X.env = (false, eval e X.env) :: starEach es X.env := by rfl) (hplain : (backTo cpos (starEach es X.env)).any (·.1) = false := by rfl) :
    PE X (.Call (.Attribute o name apos) (e :: es) [] cpos) (tBM K T r to t) := by subst h; exact pe_bm pa slot hty hm ho ha hbase hfew hline hs hplain
theorem pi_listK {tg l : Expr} {tl : TE} (hl : PE X l tl) : PI X tg l (iList K tl) := by subst h; exact pi_list hl
theorem pi_tupK {tg l : Expr} {tl : TE} (hl : PE X l tl) : PI X tg l (iTup K tl) := by subst h; exact pi_tup hl
theorem pg_tupK {es : List Expr} {k : Nat} {t : TGs} {n : Nat} {pos : Pos} (hc : X.calm = true) (hg : PGs X es t) (hn : (assignEach es X.env).length = n := by rfl) (hst : (assignEach es X.env).findIdx? (·.1) = none := by rfl) : PG X (.Tuple es k pos) (gTup K n t) := by subst h; exact pg_tup hc hg hn hst
theorem pg_lstK {es : List Expr} {k : Nat} {t : TGs} {n : Nat} {pos : Pos} (hc : X.calm = true) (hg : PGs X es t) (hn : (assignEach es X.env).length = n := by rfl) (hst : (assignEach es X.env).findIdx? (·.1) = none := by rfl) : PG X (.Tuple es k pos) (gLst K n t) := by subst h; exact pg_lst hc hg hn hst
end
end HT
set_option Elab.async false
set_option linter.all false
set_option maxRecDepth 100000
set_option maxHeartbeats 4000000
/-! lists of data: equality, length, comprehension *-/
namespace HT
open PySem PySem.Spec PyProof.Rows L2 Evl
def LsP (K : PySem.W.Frag) {β : Type} (k : Kd β) (bs : List β) (v : V) (H : Hp) : Prop := ∃ p xs, v = .ref p ∧ SqL K H p xs ∧ k.L bs xs H
theorem LsP.ex {K : PySem.W.Frag} {β : Type} {k : Kd β} {bs : List β} {v : V} {H H' : Hp} (h : LsP K k bs v H) (e : Ex H H') : LsP K k bs v H' := by
  obtain ⟨p, xs, h1, h2, h3⟩ := h
  exact ⟨p, xs, h1, ex_l e h2, k.L_ex e h3⟩
theorem NewL.ls {K : PySem.W.Frag} {β : Type} {k : Kd β} {bs : List β} {v : V} {H H' : Hp} (h : NewL k bs H v H') : LsP K k bs v H' := by
  obtain ⟨p, xs, h1, h2, h3, h4⟩ := h
  exact ⟨p, xs, h1, SqL.of h3, h4⟩
section
variable {K : PySem.W.Frag} {α β : Type} {k : Kd β} {as bs : List β} {σ : L2.St} {H : Hp} {ta tb : TE} {v : V}
theorem ls_new (h : EvP ta σ H (NewL k bs)) : EvP ta σ H fun _ v H2 => LsP K k bs v H2 := h.imp fun _ _ _ _ _ q => q.ls
theorem ls_var (h : Ev ta σ H v) (hl : LsP K k bs v H) : EvP ta σ H fun _ v H2 => LsP K k bs v H2 := fun H1 e1 Q q => h H1 e1 Q fun H2 e2 => q v H2 e2 (hl.ex (e1.trans e2))
theorem ls_nil : EvP (tLst tNil) σ H fun _ v H2 => LsP K k [] v H2 := fun H1 e1 Q q => el_lst (σ := σ) (H := H) ea_nil (by show 0 ≤ 100000; decide) H1 e1 Q fun p H2 _ e2 hp => q _ H2 e2 ⟨p, [], rfl, SqL.of hp, .nil⟩
theorem ls_el {xs : List V} (h : EvL ta σ H xs) (hk : ∀ H2, Ex H H2 → k.L bs xs H2) : EvP ta σ H fun _ v H2 => LsP K k bs v H2 := fun H1 e1 Q q => h H1 e1 Q fun p H2 _ e2 hp => q _ H2 e2 ⟨p, xs, rfl, SqL.of hp, hk H2 (e1.trans e2)⟩
/-- how items are compared -/
structure Cmp (K : PySem.W.Frag) (k : Kd β) [DecidableEq β] where
  enc : β → PyData
  eqv : ∀ a b, PyData.eqv (enc a) (enc b) = decide (a = b)
  dp : ∀ b v H, k.R b v H → Dp K H v (enc b)
def lowD (d : PyData) : Bool := d.canLay0 && decide (d.depth ≤ 10)
variable [DecidableEq β] (c : Cmp K k)
theorem Cmp.all (c : Cmp K k) : ∀ {bs : List β} {xs : List V}, k.L bs xs H → DpAll K H xs (bs.map c.enc)
  | [], [], .nil => .nil
  | _ :: _, _ :: _, .cons h t => .cons (c.dp _ _ _ h) (c.all t)
theorem low_all : ∀ {ds : List PyData}, (∀ d ∈ ds, lowD d = true) → PyData.canLayAll0 ds = true ∧ PyData.depthAll ds ≤ 10
  | [], _ => ⟨rfl, Nat.zero_le _⟩
  | d :: ds, h => by
    have h1 := h d (by simp)
    have h2 := low_all (ds := ds) fun d hd => h d (by simp [hd])
    unfold lowD at h1
    simp only [Bool.and_eq_true, decide_eq_true_eq] at h1
    constructor
    · show (d.canLay0 && PyData.canLayAll0 ds) = true
      rw [h1.1, h2.1]; rfl
    · show max d.depth (PyData.depthAll ds) ≤ 10
      omega
theorem shaped_low {ds : List PyData} (h : ∀ d ∈ ds, lowD d = true) : SeqAt.shaped (.list ds) = true := by
  have h2 := low_all h
  unfold SeqAt.shaped
  have e1 : (PyData.list ds).canLay0 = PyData.canLayAll0 ds := by rw [PyData.canLay0]
  have e2 : (PyData.list ds).depth = PyData.depthAll ds + 1 := by rw [PyData.depth]
  rw [e1, h2.1, e2, Bool.true_and]
  exact decide_eq_true (by omega)
theorem eqvAll_map (c : Cmp K k) : ∀ {as bs : List β}, PyData.eqvAll (as.map c.enc) (bs.map c.enc) = decide (as = bs)
  | [], [] => by rw [List.map_nil, PyData.eqvAll]; rfl
  | [], b :: bs => by rw [List.map_nil, List.map_cons, PyData.eqvAll]; rfl
  | a :: as, [] => by rw [List.map_nil, List.map_cons, PyData.eqvAll]; rfl
  | a :: as, b :: bs => by
    rw [List.map_cons, List.map_cons, PyData.eqvAll, c.eqv, eqvAll_map c]
    by_cases h : a = b
    · subst h
      rw [decide_eq_true rfl, Bool.true_and]
      by_cases h2 : as = bs
      · subst h2; rw [decide_eq_true rfl, decide_eq_true rfl]
      · rw [decide_eq_false h2, decide_eq_false (fun z => h2 (by injection z))]
    · rw [decide_eq_false h, Bool.false_and, decide_eq_false (fun z => h (by injection z))]
theorem rv_eqL (c : Cmp K k) {x y : V} (hx : LsP K k as x H) (hy : LsP K k bs y H) (la : ∀ a ∈ as, lowD (c.enc a) = true) (lb : ∀ b ∈ bs, lowD (c.enc b) = true) : RV (rEqD K) x y H (.bl (decide (as = bs))) := by
  obtain ⟨p, xs, rfl, h2, h3⟩ := hx
  obtain ⟨q, ys, rfl, g2, g3⟩ := hy
  refine rv_val fun H1 e1 Q hq => ⟨.list (as.map c.enc), .list (bs.map c.enc), .lst (ex_l e1 h2) (c.all (k.L_ex e1 h3)), .lst (ex_l e1 g2) (c.all (k.L_ex e1 g3)), shaped_low ?_, shaped_low ?_, ?_⟩
  · intro d hd
    obtain ⟨a, ha, rfl⟩ := List.mem_map.mp hd
    exact la a ha
  · intro d hd
    obtain ⟨a, ha, rfl⟩ := List.mem_map.mp hd
    exact lb a ha
  · have : PyData.eqv (.list (as.map c.enc)) (.list (bs.map c.enc)) = decide (as = bs) := by rw [PyData.eqv, eqvAll_map]
    rw [this]
    exact hq
theorem rv_neL (c : Cmp K k) {x y : V} (hx : LsP K k as x H) (hy : LsP K k bs y H) (la : ∀ a ∈ as, lowD (c.enc a) = true) (lb : ∀ b ∈ bs, lowD (c.enc b) = true) : RV (rNeD K) x y H (.bl (!decide (as = bs))) := by
  obtain ⟨p, xs, rfl, h2, h3⟩ := hx
  obtain ⟨q, ys, rfl, g2, g3⟩ := hy
  refine rv_val fun H1 e1 Q hq => ⟨.list (as.map c.enc), .list (bs.map c.enc), .lst (ex_l e1 h2) (c.all (k.L_ex e1 h3)), .lst (ex_l e1 g2) (c.all (k.L_ex e1 g3)), shaped_low ?_, shaped_low ?_, ?_⟩
  · intro d hd
    obtain ⟨a, ha, rfl⟩ := List.mem_map.mp hd
    exact la a ha
  · intro d hd
    obtain ⟨a, ha, rfl⟩ := List.mem_map.mp hd
    exact lb a ha
  · have : PyData.eqv (.list (as.map c.enc)) (.list (bs.map c.enc)) = decide (as = bs) := by rw [PyData.eqv, eqvAll_map]
    rw [this]
    exact hq
/-- two operands, told -/
theorem ev_opP {r : R2} {Pa Pb : V → Hp → Prop} {z : V} (h1 : EvP ta σ H fun _ v H2 => Pa v H2) (h2 : EvP tb σ H fun _ v H2 => Pb v H2) (ma : ∀ v H H', Ex H H' → Pa v H → Pa v H') (hr : ∀ x y H1, Ex H H1 → Pa x H1 → Pb y H1 → RV r x y H1 z) : Ev (tOp r ta tb) σ H z :=
  fun H1 e1 Q q => h1 H1 e1 _ fun x H2 e2 hx => h2 H2 (e1.trans e2) _ fun y H3 e3 hy => hr x y H3 ((e1.trans e2).trans e3) (ma _ _ _ e3 hx) hy H3 (Ex.refl _) Q fun H4 e4 => q H4 ((e2.trans e3).trans e4)
theorem ev_eqL (c : Cmp K k) (h1 : EvP ta σ H fun _ v H2 => LsP K k as v H2) (h2 : EvP tb σ H fun _ v H2 => LsP K k bs v H2) (la : ∀ a ∈ as, lowD (c.enc a) = true) (lb : ∀ b ∈ bs, lowD (c.enc b) = true) : Ev (tOp (rEqD K) ta tb) σ H (.bl (decide (as = bs))) :=
  ev_opP h1 h2 (fun _ _ _ e q => q.ex e) fun _ _ _ _ hx hy => rv_eqL c hx hy la lb
theorem ev_neL (c : Cmp K k) (h1 : EvP ta σ H fun _ v H2 => LsP K k as v H2) (h2 : EvP tb σ H fun _ v H2 => LsP K k bs v H2) (la : ∀ a ∈ as, lowD (c.enc a) = true) (lb : ∀ b ∈ bs, lowD (c.enc b) = true) : Ev (tOp (rNeD K) ta tb) σ H (.bl (!decide (as = bs))) :=
  ev_opP h1 h2 (fun _ _ _ e q => q.ex e) fun _ _ _ _ hx hy => rv_neL c hx hy la lb
/-- the comparisons that we use -/
def cmpI : Cmp K (kdV V.int) := ⟨PyData.int, fun a b => by rw [PyData.eqv]; exact (Bool.eq_iff_iff.mpr (by simp)), fun b v H h => by cases h; exact .int _⟩
def cmpS : Cmp K (kdV V.str) := ⟨PyData.str, fun a b => by rw [PyData.eqv]; exact (Bool.eq_iff_iff.mpr (by simp)), fun b v H h => by cases h; exact .str _⟩
theorem low_int (i : Int) : lowD (.int i) = true := rfl
theorem low_str {z : Str} (h : PyData.strOk z = true) : lowD (.str z) = true := by
  unfold lowD
  have e1 : (PyData.str z).canLay0 = PyData.strOk z := by rw [PyData.canLay0]
  have e2 : (PyData.str z).depth = 0 := by rw [PyData.depth]
  rw [e1, h, e2]; rfl
end
section
variable {K : PySem.W.Frag} {α β : Type} {σ : L2.St} {H : Hp} {t : TT} {te : TE}
/-- a comprehension over a list that is told -/
theorem ep_lcP {as : List α} (p : α → Bool) (gm : α → β) (ka : Kd α) (k : Kd β) {tl : TE} {g : TG} {vs : List Nat} (h : EvP tl σ H fun _ v H2 => LsP K ka as v H2) (hz : as.length ≤ 40000)
    (turn : ∀ (b : α) (x : V) H1, b ∈ as → Ex H H1 → ka.R b x H1 → g x (wipe σ vs) H1 fun σ2 H2 => wipe σ2 vs = wipe σ vs ∧ Ex H1 H2 ∧ EvT t σ2 H2 (p b) ∧ (p b = true → EvP te σ2 H2 fun _ y H3 => k.R (gm b) y H3))
    (gmono : ∀ x σ1 H1 (Q Q' : L2.St → Hp → Prop), (∀ σ2 H2, Q σ2 H2 → Q' σ2 H2) → g x σ1 H1 Q → g x σ1 H1 Q') :
    EvP (tLc (iList K tl) g t te vs) σ H (NewL k ((as.filter p).map gm)) := fun H0 e0 Q q => h H0 e0 _ fun v H1 e1 ⟨a, xs, hv, hx, ha⟩ => ⟨a, hv, ⟨xs, hx⟩, fun Dl hD =>
  lc_list (xs := xs) (CwP as p gm k H1 Dl) ⟨hD, Ex.new hD, [], upd_same, Nat.le_refl _, .nil⟩ (fun i H' _ w => ex_l w.2.1 hx)
    (fun i x H' hi w => by
      obtain ⟨b, hb, hR⟩ := pair_get ha hi
      have hlt : i < as.length := (List.getElem?_eq_some_iff.mp hb).1
      refine gmono _ _ _ _ _ ?_ (turn b x H' (List.mem_of_getElem? hb) ((e0.trans e1).trans w.2.1) (ka.ex w.2.1 hR))
      rintro σ2 H2 ⟨hw, e2, ht, he⟩
      exact ⟨hw, cwp_turn (w.ex e2) hb (by omega) ht he⟩)
    (fun H' w => by
      obtain ⟨h1, h2, ys, h3, h4, h5⟩ := w
      refine q _ _ (e1.trans h2) ⟨Dl, ys, rfl, fresh_back e1 h1, h3, ?_⟩
      rw [← pair_len ha, List.take_length] at h5
      exact h5)⟩
theorem ev_lenP {k : Kd α} {as : List α} {ta : TE} (h : EvP ta σ H fun _ v H2 => LsP K k as v H2) : Ev (tCB (rLenQ K) (tCons ta tNil)) σ H (.int as.length) :=
  fun H1 e1 Q q => h H1 e1 _ fun v H2 e2 ⟨p, ys, h1, h3, h4⟩ => by
    subst h1
    refine ⟨p, ys, rfl, .inl h3, ?_⟩
    rw [← pair_len h4]
    exact q H2 e2
theorem hu65 {A : Around} {k : Nat} (r : Room (k + 1) A) : A.units + 65 < cLine := by have := r.un; omega
end
end HT
set_option Elab.async false
set_option linter.all false
set_option maxRecDepth 100000
set_option maxHeartbeats 4000000
/-! words.py; small ones -/
namespace HT
open PySem PySem.Spec PyProof.Rows L2 Evl
abbrev FnT (K : PySem.W.Frag) (x q : Str) (st : Stmt) (dvs : List V) (kws : List (Str × V)) (f : Addr) (fd : FuncData) : Prop := FunD K x q (defArgs st) (defBody st) (defScope st) dvs kws f fd
section
variable {P : Program} {w : World} {K : PySem.W.Frag} {mg : Str → Option Value} {base : Heap} {C D : Addr} {f : Addr} {fd : FuncData}
def spIsRow : Sp := fun vs H Q _ => ∃ (a : Addr) (xs : List V), vs = [.ref a] ∧ H a = some (.lst xs) ∧ ∀ H', Ex H H' → Q (.bl true) H'
theorem sc_is_row : FnScope ["thing"] ["thing"] (defScope s_is_row) := ⟨rfl, rfl, rfl, by decide +kernel, rfl, by decide +kernel, by decide +kernel⟩
theorem ok_is_row (F : FnT K "is_row" "is_row" s_is_row [] [] f fd) (T : Txt K mg C D) : FnOk P w K mg base CX0 1 f fd ["thing"] spIsRow := by
  refine F.ok sc_is_row (fun vs H Q E ⟨_, _, h, _⟩ => by rw [h]; rfl) (fun cdv A outer s H vs Q E hr ⟨a, xs, hv, ha, q⟩ => ⟨_, PSs.nox (pss_one (ps_ret (pe_callB call_isiT (by rfl) T.fIsi boot_isinstance (pa_cons (pv 0) (pa_cons (pe_tup (pa_cons (pe_bltn (v := .ty "list") (by rfl) T.fList boot_list rfl) (pa_cons (pe_bltn (v := .ty "tuple") (by rfl) T.fTuple boot_tuple rfl) pa_nil))) pa_nil))))), ?_⟩)
  subst hv
  refine s_ret (v := .bl true) (ev_isiT (ev_var rfl) (.ty "list") (.ty "tuple") (.lst ha) ?_) q
  exact kitAny_cons (kit_ty (r := true) (by decide +kernel)) (fun z => nomatch z) (fun _ => rfl)
def spIsMode (K : PySem.W.Frag) : Sp := fun vs H Q _ => ∃ (m : Str) (a : Addr) (ms : List Str), vs = [.str m, .ref a] ∧ (SqL K H a (ms.map V.str) ∨ SqT K H a (ms.map V.str)) ∧ ∀ H', Ex H H' → Q (.bl (decide (m ∈ ms))) H'
theorem sc_is_mode : FnScope ["thing", "modes"] ["thing", "modes"] (defScope s_is_mode) := ⟨rfl, rfl, rfl, by decide +kernel, rfl, by decide +kernel, by decide +kernel⟩
theorem ok_is_mode (F : FnT K "is_mode" "is_mode" s_is_mode [] [] f fd) (T : Txt K mg C D) : FnOk P w K mg base CX0 1 f fd ["thing", "modes"] (spIsMode K) := by
  refine F.ok sc_is_mode (fun vs H Q E ⟨_, _, _, h, _⟩ => by rw [h]; rfl) (fun cdv A outer s H vs Q E hr ⟨m, a, ms, hv, ha, q⟩ => ⟨_, PSs.nox (pss_one (ps_ret (pe_and (pe_callB call_isi (by rfl) T.fIsi boot_isinstance (pa_cons (pv 0) (pa_cons (pe_bltn (v := .ty "str") (by rfl) T.fStr boot_str rfl) pa_nil))) (pe_one (pe_cmpR op_in_seq (pv 0) (pv 1) (by rfl)))))), ?_⟩)
  subst hv
  have h1 := ev_andV (ev_isi (K := K) (σ := start ["thing", "modes"] [.str m, .ref a]) (H := H) (ev_var (i := 0) rfl) (.ty "str") (.str m) (kit_ty (r := true) (by decide +kernel))) (fun _ => ev_inStr (ev_var (i := 0) rfl) (ev_var (i := 1) rfl) ha)
  exact s_ret h1 q
def spIsNumber : Sp := fun vs H Q _ => ∃ (i l : Int), vs = [.int i, .int l, .non] ∧ l ≤ i ∧ ∀ H', Ex H H' → Q (.bl true) H'
theorem sc_is_number : FnScope ["thing", "low", "high"] ["thing", "low", "high"] (defScope s_is_number) := ⟨rfl, rfl, rfl, by decide +kernel, rfl, by decide +kernel, by decide +kernel⟩
theorem ok_is_number (F : FnT K "is_number" "is_number" s_is_number [.non] [] f fd) (T : Txt K mg C D) : FnOk P w K mg base CX0 1 f fd ["thing", "low", "high"] spIsNumber := by
  refine F.ok sc_is_number (fun vs H Q E ⟨_, _, h, _⟩ => by rw [h]; rfl) (fun cdv A outer s H vs Q E hr ⟨i, l, hv, hi, q⟩ => ⟨_, PSs.nox (pss_cons
    (ps_if (PW.pt (pw_or (pt_not (pt_val (pe_callB call_isi (by rfl) T.fIsi boot_isinstance (pa_cons (pv 0) (pa_cons (pe_bltn (v := .ty "int") (by rfl) T.fInt boot_int rfl) pa_nil))))) (pw_or (pt_val (pe_callB call_isi (by rfl) T.fIsi boot_isinstance (pa_cons (pv 0) (pa_cons (pe_bltn (v := .ty "bool") (by rfl) T.fBool boot_bool rfl) pa_nil)))) (pw_or1 (pt_cmpR op_lt (pv 0) (pv 1) (nomark _)))))) (pss_one (ps_ret pe_bl)) pss_nil)
    (pss_one (ps_ret (pe_or (pe_cmp (pc_isN (pv 2)) rfl) (pe_one (pe_cmpR op_le (pv 0) (pv 2) (nomark _))))))), ?_⟩)
  subst hv
  have hT : EvT _ (start ["thing", "low", "high"] [.int i, .int l, .non]) H _ := et_or (et_not (et_B (ev_isi (K := K) (ev_var (i := 0) rfl) (.ty "int") (.int i) (kit_ty (r := true) (by decide +kernel))))) (fun _ => et_or (et_B (ev_isi (K := K) (ev_var (i := 0) rfl) (.ty "bool") (.int i) (kit_ty (r := false) (by decide +kernel)))) (fun _ => et_test (ev_op (ev_var (i := 0) rfl) (ev_var (i := 1) rfl) (rv_I0 (g := fun i j => .bl (decide (i < j))) (i := i) (j := l)))))
  refine q_when hT (fun z => ?_) (fun _ H1 e1 => ?_)
  · have : decide (i < l) = false := by simpa using hi
    rw [this] at z
    cases z
  · refine s_ret (v := .bl true) ?_ (fun H2 e2 => q H2 (e1.trans e2))
    exact ev_is (ev_orV (a := true) (b := true) (ev_is (ev_isN (x := .non) (ev_var (i := 2) rfl)) rfl) (fun z => by cases z)) rfl
def spNeedDeal : Sp := fun vs H Q _ => ∃ (i : Int), vs = [.int i] ∧ 1 ≤ i ∧ ∀ H', Ex H H' → Q .non H'
theorem sc_need_deal : FnScope ["thing"] ["thing"] (defScope s_need_deal) := ⟨rfl, rfl, rfl, by decide +kernel, rfl, by decide +kernel, by decide +kernel⟩
theorem ok_need_deal (F : FnT K "need_deal" "need_deal" s_need_deal [] [] f fd) (G : GF P w K mg base "is_number" ["thing", "low", "high"] [.non] 1 spIsNumber) : FnOk P w K mg base CX0 2 f fd ["thing"] spNeedDeal := by
  refine F.ok sc_need_deal (fun vs H Q E ⟨_, h, _⟩ => by rw [h]; rfl) (fun cdv A outer s H vs Q E hr ⟨i, hv, hi, q⟩ => ⟨_, PSs.nox (pss_one (ps_if (pt_not (pt_val (pe_callG G hr (by decide) rfl (pa_cons (pv 0) (pa_cons pe_int pa_nil))))) pss_never pss_nil)), ?_⟩)
  subst hv
  have hT : EvT _ (start ["thing"] [.int i]) H _ := et_not (et_B (ev_call (sp := spIsNumber) (dvs := [.non]) (E := E0) (z := .bl true) (ea_cons (ev_var (i := 0) rfl) (ea_cons (ev_c (v := .int 1)) ea_nil)) (fun H1 e1 Q q E => ⟨i, 1, rfl, hi, q⟩)))
  exact s_when hT (fun z => by cases z) (fun _ H1 e1 => q H1 e1)
end
end HT
set_option Elab.async false
set_option linter.all false
set_option maxRecDepth 100000
set_option maxHeartbeats 4000000
/-! a table in the heap; Table's small methods -/
namespace HT
open PySem PySem.Spec PyProof.Rows L2 Evl
def rankW : Nat → Str
  | 0 => ""
  | 1 => "see"
  | _ => "change"
/-- what a well made table keeps -/
structure WFD (D : TD Str) : Prop where
  nd : D.order.Nodup
  few : D.order.length ≤ 8
  up : ∀ m ∈ D.order, D.up m ∈ D.order
  rk : ∀ m, D.rank m ≤ 2
  ok : ∀ m ∈ D.order, PyData.strOk m = true
def k2 (a b : Str) : List Key := [.inr a, .inr b]
structure TabA (C : Addr) (H : Hp) (t : Addr) (D : TD Str) (j : V) (dx o p w u : Addr) (ob : Obj) (kvp : List (List Key × V)) (kvw kvu : List (Key × V)) : Prop where
  at_ : H t = some (.ins C dx [("order", .ref o), ("pairs", .ref p), ("worth", .ref w), ("upper", .ref u), ("judged", j)])
  ord : H o = some (.frz ob (.tup (D.order.map .str)))
  oc : ob.cls = .type "tuple"
  od : ob.dict = none
  prs : H p = some (.dT kvp)
  near : ∀ a b, (valV kvp (k2 a b)).isSome = D.near a b
  wor : H w = some (.dK kvw)
  rank : ∀ m ∈ D.order, valV kvw (.inr m) = some (.str (rankW (D.rank m)))
  upp : H u = some (.dK kvu)
  up : ∀ m ∈ D.order, valV kvu (.inr m) = some (.str (D.up m))
def TabJ (C : Addr) (H : Hp) (t : Addr) (D : TD Str) (j : V) : Prop := ∃ dx o p w u ob kvp kvw kvu, TabA C H t D j dx o p w u ob kvp kvw kvu
section
variable {K : PySem.W.Frag} {C : Addr} {H H' : Hp} {t : Addr} {D : TD Str} {j : V} {dx o p w u : Addr} {ob : Obj} {kvp : List (List Key × V)} {kvw kvu : List (Key × V)} {ta tb : TE} {σ : L2.St}
theorem TabA.ex (A : TabA C H t D j dx o p w u ob kvp kvw kvu) (e : Ex H H') : TabA C H' t D j dx o p w u ob kvp kvw kvu :=
  ⟨e _ _ A.at_, e _ _ A.ord, A.oc, A.od, e _ _ A.prs, A.near, e _ _ A.wor, A.rank, e _ _ A.upp, A.up⟩
theorem TabJ.ex (A : TabJ C H t D j) (e : Ex H H') : TabJ C H' t D j := by
  obtain ⟨_, _, _, _, _, _, _, _, _, A⟩ := A
  exact ⟨_, _, _, _, _, _, _, _, _, A.ex e⟩
theorem TabA.sq (A : TabA C H t D j dx o p w u ob kvp kvw kvu) : SqT K H o (D.order.map .str) := .inl (.inr ⟨_, A.ord⟩)
theorem TabA.kd (A : TabA C H t D j dx o p w u ob kvp kvw kvu) : (kdV V.str).L D.order (D.order.map .str) H := kdV_of
/-- self.worth[m], self.upper[m], (a, b) in self.pairs -/
theorem TabA.gw (A : TabA C H t D j dx o p w u ob kvp kvw kvu) {m : Str} (hm : m ∈ D.order) : DGet H w (.str m) (some (.str (rankW (D.rank m)))) := by
  rw [← A.rank m hm]; exact DGet.k (k := Sum.inr m) A.wor
theorem TabA.gu (A : TabA C H t D j dx o p w u ob kvp kvw kvu) {m : Str} (hm : m ∈ D.order) : DGet H u (.str m) (some (.str (D.up m))) := by
  rw [← A.up m hm]; exact DGet.k (k := Sum.inr m) A.upp
theorem TabA.inP (A : TabA C H t D j dx o p w u ob kvp kvw kvu) {a b : Str} (hy : EvU tb σ H [.str a, .str b]) (h : Ev ta σ H (.ref p)) : Ev (tDIn tb ta) σ H (.bl (D.near a b)) := by
  rw [← A.near a b]
  exact ev_dinU (ks := k2 a b) hy h A.prs
theorem TabA.inPv (A : TabA C H t D j dx o p w u ob kvp kvw kvu) {a b : Str} {q : Addr} (hy : Ev tb σ H (.ref q)) (hq : H q = some (.tup [.str a, .str b])) (h : Ev ta σ H (.ref p)) : Ev (tDIn tb ta) σ H (.bl (D.near a b)) := by
  rw [← A.near a b]
  exact ev_din hy h (DGet.t (k := k2 a b) A.prs hq)
end
section
variable {P : Program} {w : World} {K : PySem.W.Frag} {mg : Str → Option Value} {base : Heap} {C Dc : Addr} {f : Addr} {fd : FuncData}
def spNeed (C : Addr) : Sp := fun vs H Q _ => ∃ (t : Addr) (m : Str) (D : TD Str) (j : V), vs = [.ref t, .str m] ∧ TabJ C H t D j ∧ m ∈ D.order ∧ ∀ H', Ex H H' → Q .non H'
theorem sc_Table_need : FnScope ["self", "mode"] ["self", "mode"] (defScope s_Table_need) := ⟨rfl, rfl, rfl, by decide +kernel, rfl, by decide +kernel, by decide +kernel⟩
theorem ok_Table_need (F : FnT K "need" "Table.need" s_Table_need [] [] f fd) (T : Txt K mg C Dc) (G_is_mode : GF P w K mg base "is_mode" ["thing", "modes"] [] 1 (spIsMode K)) : FnOk P w K mg base CX0 2 f fd ["self", "mode"] (spNeed C) := by
  refine F.ok sc_Table_need (fun vs H Q E ⟨_, _, _, _, h, _⟩ => by rw [h]; rfl) (fun cdv A outer s H vs Q E hr ⟨t, m, D, j, hv, ⟨dx, o, p, w, u, ob, kvp, kvw, kvu, ha⟩, hm, q⟩ => ⟨_, PSs.nox (pss_one (ps_if (pt_not (pt_val (pe_callG G_is_mode hr (by decide) (by rfl) (pa_cons (pv 1) (pa_cons (pe_fldK K rfl (pv 0) rfl) pa_nil))))) (pss_one ps_never) pss_nil)), ?_⟩)
  subst hv
  refine s_when (b := false) (et_not (et_B (ev_call (sp := spIsMode K) (dvs := []) (E := E0) (z := .bl true) (ea_cons (ev_var rfl) (ea_cons (ev_fld (ev_var rfl) ha.at_ T.clC T.nOrder rfl) ea_nil)) (fun H1 e1 Q q E => ⟨m, o, D.order, rfl, .inr (ha.ex e1).sq, fun H2 e2 => ?_⟩)))) (fun z => by cases z) (fun _ H1 e1 => q H1 e1)
  rw [decide_eq_true hm]
  exact q H2 e2
/-- a method that reads the table: two modes, an answer -/
def spT2 (C : Addr) (ans : TD Str → Str → Str → V) : Sp := fun vs H Q _ => ∃ (t : Addr) (a b : Str) (D : TD Str) (j : V), vs = [.ref t, .str a, .str b] ∧ TabJ C H t D j ∧ WFD D ∧ a ∈ D.order ∧ b ∈ D.order ∧ ∀ H', Ex H H' → Q (ans D a b) H'
theorem spv_need {t : Addr} {m : Str} {D : TD Str} {j : V} {H : Hp} (h : TabJ C H t D j) (hm : m ∈ D.order) : SpV (spNeed C) [.ref t, .str m] H .non := fun H1 e1 Q q E => ⟨t, m, D, j, rfl, h.ex e1, hm, q⟩
theorem spv_T2 {ans : TD Str → Str → Str → V} {t : Addr} {a b : Str} {D : TD Str} {j : V} {H : Hp} (h : TabJ C H t D j) (wf : WFD D) (ha : a ∈ D.order) (hb : b ∈ D.order) : SpV (spT2 C ans) [.ref t, .str a, .str b] H (ans D a b) := fun H1 e1 Q q E => ⟨t, a, b, D, j, rfl, h.ex e1, wf, ha, hb, q⟩
abbrev ansBeside (D : TD Str) (a b : Str) : V := .bl (D.near a b)
abbrev ansBears (D : TD Str) (a b : Str) : V := .bl (D.bears a b)
def optS : Option Str → V
  | none => .non
  | some m => .str m
abbrev ansJoined (D : TD Str) (a b : Str) : V := optS (D.joined a b)
abbrev ansQuarrel (D : TD Str) (a b : Str) : V := .bl (D.quarrel a b)
abbrev ansOver (D : TD Str) (a b : Str) : V := .bl (D.isOver a b)
abbrev AMneed (P : Program) (w : World) (K : PySem.W.Frag) (mg : Str → Option Value) (base : Heap) (C : Addr) := MF P w K mg base C "need" ["self", "mode"] 2 (spNeed C)
abbrev AMt2 (P : Program) (w : World) (K : PySem.W.Frag) (mg : Str → Option Value) (base : Heap) (C : Addr) (m : Str) (k : Nat) (ans : TD Str → Str → Str → V) := MF P w K mg base C m ["self", "one", "other"] k (spT2 C ans)
theorem sc_Table_beside : FnScope ["self", "one", "other"] ["self", "one", "other"] (defScope s_Table_beside) := ⟨rfl, rfl, rfl, by decide +kernel, rfl, by decide +kernel, by decide +kernel⟩
theorem ok_Table_beside (F : FnT K "beside" "Table.beside" s_Table_beside [] [] f fd) (T : Txt K mg C Dc) (M_Table_need : AMneed P w K mg base C) : FnOk P w K mg base CX0 3 f fd ["self", "one", "other"] (spT2 C ansBeside) := by
  refine F.ok sc_Table_beside (fun vs H Q E ⟨_, _, _, _, _, h, _⟩ => by rw [h]; rfl) (fun cdv A outer s H vs Q E hr ⟨t, a, b, D, j, hv, hJ, wf, ha, hb, q⟩ => ⟨_, PSs.nox (pss_cons (ps_expr (pe_methG M_Table_need T.clC hr (by decide) (pv 0) (pa_cons (pv 1) pa_nil)))
    (pss_cons (ps_expr (pe_methG M_Table_need T.clC hr (by decide) (pv 0) (pa_cons (pv 2) pa_nil)))
    (pss_one (ps_ret (pe_cmp (pc_din (hu_of hr) (pe_tup (pa_cons (pv 1) (pa_cons (pv 2) pa_nil))) (pe_fldK K rfl (pv 0) rfl)) rfl))))), ?_⟩)
  subst hv
  refine q_drop (ev_meth (C := C) (m := "need") (dvs := []) (E := E0) (ev_var (v := .ref t) rfl) hJ.choose_spec.choose_spec.choose_spec.choose_spec.choose_spec.choose_spec.choose_spec.choose_spec.choose_spec.at_ rfl (ea_cons (ev_var rfl) ea_nil) (spv_need hJ ha)) fun H1 e1 => ?_
  have hJ1 := hJ.ex e1
  refine q_drop (ev_meth (C := C) (m := "need") (dvs := []) (E := E0) (ev_var (v := .ref t) rfl) hJ1.choose_spec.choose_spec.choose_spec.choose_spec.choose_spec.choose_spec.choose_spec.choose_spec.choose_spec.at_ rfl (ea_cons (ev_var rfl) ea_nil) (spv_need hJ1 hb)) fun H2 e2 => ?_
  obtain ⟨dx, o, p, w, u, ob, kvp, kvw, kvu, hA⟩ := hJ1.ex e2
  exact s_ret (hA.inP (eu_tup (ea_cons (ev_var rfl) (ea_cons (ev_var rfl) ea_nil)) (by show 2 ≤ 100000; decide)) (ev_fld (ev_var rfl) hA.at_ T.clC T.nPairs rfl)) fun H3 e3 => q H3 ((e1.trans e2).trans e3)
theorem idx_worth : ∀ r : Nat, r ≤ 2 → (["", "see", "change"] : List Str)[r]? = some (rankW r) ∧ ∀ m, m < r → (["", "see", "change"] : List Str)[m]? ≠ some (rankW r)
  | 0, _ => ⟨rfl, fun m h => by omega⟩
  | 1, _ => ⟨rfl, fun m h => by
    obtain rfl : m = 0 := by omega
    decide⟩
  | 2, _ => ⟨rfl, fun m h => by
    have : m = 0 ∨ m = 1 := by omega
    rcases this with rfl | rfl <;> decide⟩
/-- WORTHS.index(x) -/
theorem ev_windex {σ : L2.St} {H : Hp} {tb : TE} {r : Nat} (T : Txt K mg C Dc) (h : Ev tb σ H (.str (rankW r))) (hr : r ≤ 2) :
    Ev (tBM K "tuple" (fun x xs H Q => ∃ p, ∃ ys : List Str, ∃ z j, x = .ref p ∧ xs = [.str z] ∧ SqT K H p (ys.map V.str) ∧ ys[j]? = some z ∧ (∀ m, m < j → ys[m]? ≠ some z) ∧ Q (.int (j : Nat)) H) (tC (.ref T.worths.choose)) (tCons tb tNil)) σ H (.int (r : Nat)) :=
  ev_bm ev_c (.inr (.inl ⟨rfl, T.worths.choose_spec.2.2⟩)) (ea_cons h ea_nil) (fun H1 e1 Q q => ⟨_, ["", "see", "change"], rankW r, r, rfl, rfl, T.worths.choose_spec.2.1 H1, (idx_worth r hr).1, (idx_worth r hr).2, q H1 (Ex.refl _)⟩)
theorem all_filter_map {α : Type} (p q : α → Bool) : ∀ l : List α, ((l.filter p).map q).all id = l.all fun m => !p m || q m
  | [] => rfl
  | a :: l => by
    rw [List.filter_cons, List.all_cons]
    cases h : p a
    · rw [if_neg (by decide), all_filter_map p q l]; rfl
    · rw [if_pos rfl, List.map_cons, List.all_cons, all_filter_map p q l]; rfl
theorem el_bools {α : Type} {σ : L2.St} {H : Hp} {te : TE} {as : List α} {g : α → Bool} (h : EvP te σ H (NewL (kdV V.bl) (as.map g))) : EvL te σ H ((as.map g).map V.bl) :=
  el_ep (h.imp fun H1 v H2 e1 e2 ⟨q, ys, h1, h2, h3, h4⟩ => ⟨q, h1, h2, by rw [← kdV_L h4]; exact h3⟩)
theorem sc_Table_bears : FnScope ["self", "one", "other", "mode"] ["self", "one", "other"] (defScope s_Table_bears) := ⟨rfl, rfl, rfl, by decide +kernel, rfl, by decide +kernel, by decide +kernel⟩
theorem ok_Table_bears (F : FnT K "bears" "Table.bears" s_Table_bears [] [] f fd) (T : Txt K mg C Dc) (M_Table_need : AMneed P w K mg base C) : FnOk P w K mg base CX0 3 f fd ["self", "one", "other"] (spT2 C ansBears) := by
  refine F.ok sc_Table_bears (fun vs H Q E ⟨_, _, _, _, _, h, _⟩ => by rw [h]; rfl) (fun cdv A outer s H vs Q E hr ⟨t, a, b, D, j, hv, hJ, wf, ha, hb, q⟩ => ⟨_, PSs.nox (pss_cons (ps_expr (pe_methG M_Table_need T.clC hr (by decide) (pv 0) (pa_cons (pv 1) pa_nil)))
    (pss_cons (ps_expr (pe_methG M_Table_need T.clC hr (by decide) (pv 0) (pa_cons (pv 2) pa_nil)))
    (pss_cons (ps_if (pt_cmpR op_lt (pe_bmK K rfl PySem.F.plainAttrs_tuple PySem.F.slot_tuple_index PySem.F.type_tuple_index (mt_tup_indexK K rfl) (pe_glob (v := .ref T.worths.choose) (by rfl) T.worths.choose_spec.1 rfl) (pa_cons (pe_dget (hu_of hr) (pe_fldK K rfl (pv 0) rfl) (pv 1) (fun _ _ => rfl)) pa_nil)) (pe_bmK K rfl PySem.F.plainAttrs_tuple PySem.F.slot_tuple_index PySem.F.type_tuple_index (mt_tup_indexK K rfl) (pe_glob (v := .ref T.worths.choose) (by rfl) T.worths.choose_spec.1 rfl) (pa_cons (pe_dget (hu_of hr) (pe_fldK K rfl (pv 0) rfl) (pv 2) (fun _ _ => rfl)) pa_nil)) (nomark _)) (pss_one (ps_ret pe_bl)) pss_nil)
    (pss_one (ps_ret (pe_callB (cr_allK K rfl rfl) (by rfl) T.fAll boot_all (pa_cons (pe_lc (own := [("mode", 3)]) rfl sc_Table_bears.nd (pi_tupK K rfl (pe_fldK K rfl (pv 0) rfl)) (blkOk_by (by rfl)) (fun _ _ _ _ _ => (pg_name (i := 3) sc_Table_bears.nd rfl (by first | exact Or.inl rfl | exact Or.inr rfl))) (fun _ _ _ _ _ => (pts_one (pt_cmp (pc_din (hu_of hr) (pe_tup (pa_cons (pv 1) (pa_cons (pv 3) pa_nil))) (pe_fldK K rfl (pv 0) rfl))))) (fun _ _ _ _ _ => (pe_cmp (pc_din (hu_of hr) (pe_tup (pa_cons (pv 2) (pa_cons (pv 3) pa_nil))) (pe_fldK K rfl (pv 0) rfl)) rfl))) pa_nil))))))), ?_⟩)
  subst hv
  refine q_drop (ev_meth (C := C) (m := "need") (dvs := []) (E := E0) (ev_var (v := .ref t) rfl) hJ.choose_spec.choose_spec.choose_spec.choose_spec.choose_spec.choose_spec.choose_spec.choose_spec.choose_spec.at_ rfl (ea_cons (ev_var rfl) ea_nil) (spv_need hJ ha)) fun H1 e1 => ?_
  have hJ1 := hJ.ex e1
  refine q_drop (ev_meth (C := C) (m := "need") (dvs := []) (E := E0) (ev_var (v := .ref t) rfl) hJ1.choose_spec.choose_spec.choose_spec.choose_spec.choose_spec.choose_spec.choose_spec.choose_spec.choose_spec.at_ rfl (ea_cons (ev_var rfl) ea_nil) (spv_need hJ1 hb)) fun H2 e2 => ?_
  obtain ⟨dx, o, p, w, u, ob, kvp, kvw, kvu, hA⟩ := hJ1.ex e2
  have e02 := e1.trans e2
  have hW := ev_fld (K := K) (σ := start ["self", "one", "other", "mode"] [.ref t, .str a, .str b]) (ev_var (i := 0) rfl) hA.at_ T.clC T.nWorth rfl
  refine q_when (et_test (ev_op (ev_windex T (ev_dget hW (ev_var (i := 1) rfl) (hA.gw ha)) (wf.rk a)) (ev_windex T (ev_dget hW (ev_var (i := 2) rfl) (hA.gw hb)) (wf.rk b)) rv_I0)) (fun z H3 e3 => ?_) (fun z H3 e3 => ?_)
  · refine s_ret ev_c fun H4 e4 => ?_
    have z' : D.rank a < D.rank b := by
      have := of_decide_eq_true z
      omega
    have : ansBears D a b = .bl false := by
      show V.bl (!decide (D.rank a < D.rank b) && _) = _
      rw [decide_eq_true z']; rfl
    rw [← this]
    exact q H4 ((e02.trans e3).trans e4)
  · have hB := hA.ex e3
    have hl := el_bools (ep_lcT (K := K) (σ := start ["self", "one", "other", "mode"] [.ref t, .str a, .str b]) (H := H3) (t := _) (te := _) (g := gName 3) (vs := [3]) (fun m => D.near a m) (fun m => D.near b m) (kdV V.str) (kdV V.bl) (ev_fld (ev_var (i := 0) rfl) hB.at_ T.clC T.nOrder rfl) hB.sq hB.kd (by have := wf.few; omega)
      (fun m x H4 hm e4 hx => by
        cases hx
        refine ⟨rfl, Ex.refl _, et_B ((hB.ex e4).inP (eu_tup (ea_cons (ev_var (i := 1) rfl) (ea_cons (ev_var (i := 3) rfl) ea_nil)) (by show 2 ≤ 100000; decide)) (ev_fld (ev_var (i := 0) rfl) (hB.ex e4).at_ T.clC T.nPairs rfl)),
          fun _ => ep_ev ((hB.ex e4).inP (eu_tup (ea_cons (ev_var (i := 2) rfl) (ea_cons (ev_var (i := 3) rfl) ea_nil)) (by show 2 ≤ 100000; decide)) (ev_fld (ev_var (i := 0) rfl) (hB.ex e4).at_ T.clC T.nPairs rfl))⟩)
      gname_mono)
    refine s_ret (ev_all hl) fun H4 e4 => ?_
    have z' : decide (D.rank a < D.rank b) = false := by
      rw [← z]
      congr 1
      exact propext (by omega)
    have : ansBears D a b = .bl ((((D.order.filter fun m => D.near a m).map fun m => D.near b m)).all id) := by
      rw [all_filter_map]
      show V.bl (!decide (D.rank a < D.rank b) && _) = _
      rw [z']; rfl
    rw [← this]
    exact q H4 ((e02.trans e3).trans e4)
end
end HT
set_option Elab.async false
set_option linter.all false
set_option maxRecDepth 100000
set_option maxHeartbeats 4000000
/-! Table's joined, quarrel, is_over -/
namespace HT
open PySem PySem.Spec PyProof.Rows L2 Evl
section
variable {P : Program} {w : World} {K : PySem.W.Frag} {mg : Str → Option Value} {base : Heap} {C Dc : Addr} {f : Addr} {fd : FuncData} {σ : L2.St} {H : Hp} {ta : TE} {tA : TA} {t : Addr} {a b : Str} {D : TD Str} {j : V}
theorem ev_T2 {m : Str} {ans : TD Str → Str → Str → V} (h : Ev ta σ H (.ref t)) (hA : EvA tA σ H [.str a, .str b]) (hJ : TabJ C H t D j) (wf : WFD D) (ha : a ∈ D.order) (hb : b ∈ D.order)
    (hl : ∀ o p w u j : V, ([("order", o), ("pairs", p), ("worth", w), ("upper", u), ("judged", j)] : List (Str × V)).lookup m = none) : Ev (tMeth C m (spT2 C ans) [] E0 ta tA) σ H (ans D a b) := by
  obtain ⟨dx, o, p, w, u, ob, kvp, kvw, kvu, A⟩ := id hJ
  exact ev_meth h A.at_ (hl _ _ _ _ _) hA (spv_T2 hJ wf ha hb)
theorem nl_bears : ∀ o p w u j : V, ([("order", o), ("pairs", p), ("worth", w), ("upper", u), ("judged", j)] : List (Str × V)).lookup ("bears" : Str) = none := fun _ _ _ _ _ => rfl
theorem nl_joined : ∀ o p w u j : V, ([("order", o), ("pairs", p), ("worth", w), ("upper", u), ("judged", j)] : List (Str × V)).lookup ("joined" : Str) = none := fun _ _ _ _ _ => rfl
theorem nl_beside : ∀ o p w u j : V, ([("order", o), ("pairs", p), ("worth", w), ("upper", u), ("judged", j)] : List (Str × V)).lookup ("beside" : Str) = none := fun _ _ _ _ _ => rfl
theorem nl_quarrel : ∀ o p w u j : V, ([("order", o), ("pairs", p), ("worth", w), ("upper", u), ("judged", j)] : List (Str × V)).lookup ("quarrel" : Str) = none := fun _ _ _ _ _ => rfl
theorem nl_over : ∀ o p w u j : V, ([("order", o), ("pairs", p), ("worth", w), ("upper", u), ("judged", j)] : List (Str × V)).lookup ("is_over" : Str) = none := fun _ _ _ _ _ => rfl
theorem nl_need : ∀ o p w u j : V, ([("order", o), ("pairs", p), ("worth", w), ("upper", u), ("judged", j)] : List (Str × V)).lookup ("need" : Str) = none := fun _ _ _ _ _ => rfl

theorem el_of_newS {as : List Str} (h : EvP ta σ H (NewL (kdV V.str) as)) : EvL ta σ H (as.map V.str) := el_ep (h.imp fun H1 v H2 e1 e2 ⟨q, ys, h1, h2, h3, h4⟩ => ⟨q, h1, h2, by rw [← kdV_L h4]; exact h3⟩)
theorem optS_non {o : Option Str} : decide (optS o = .non) = o.isNone := by cases o <;> rfl
theorem TabJ.ord (h : TabJ C H t D j) (T : Txt K mg C Dc) (hv : Ev ta σ H (.ref t)) : ∃ o, Ev (tFld K ta "order") σ H (.ref o) ∧ SqT K H o (D.order.map .str) := by
  obtain ⟨dx, o, p, w, u, ob, kvp, kvw, kvu, A⟩ := h
  exact ⟨o, ev_fld hv A.at_ T.clC T.nOrder rfl, A.sq⟩
abbrev sgJ (a b : Str) (t : Addr) : L2.St := start ["self", "one", "other", "both", "least", "mode", "more"] [.ref t, .str a, .str b]
theorem sc_Table_joined : FnScope ["self", "one", "other", "both", "least", "mode", "more"] ["self", "one", "other"] (defScope s_Table_joined) := ⟨rfl, rfl, rfl, by decide +kernel, rfl, by decide +kernel, by decide +kernel⟩
theorem ok_Table_joined (F : FnT K "joined" "Table.joined" s_Table_joined [] [] f fd) (T : Txt K mg C Dc) (M_Table_bears : AMt2 P w K mg base C "bears" 3 ansBears) : FnOk P w K mg base CX0 4 f fd ["self", "one", "other"] (spT2 C ansJoined) := by
  refine F.ok sc_Table_joined (fun vs H Q E ⟨_, _, _, _, _, h, _⟩ => by rw [h]; rfl) (fun cdv A outer s H vs Q E hr ⟨t, a, b, D, j, hv, hJ, wf, ha, hb, q⟩ => ⟨_, PSs.nox (pss_cons (ps_if (pt_val (pe_methG M_Table_bears T.clC hr (by decide) (pv 0) (pa_cons (pv 1) (pa_cons (pv 2) pa_nil)))) (pss_one (ps_ret (pv 1))) pss_nil)
    (pss_cons (ps_if (pt_val (pe_methG M_Table_bears T.clC hr (by decide) (pv 0) (pa_cons (pv 2) (pa_cons (pv 1) pa_nil)))) (pss_one (ps_ret (pv 2))) pss_nil)
    (pss_cons (ps_set (i := 3) sc_Table_joined.nd rfl (Or.inr rfl) (pe_lc (own := [("mode", 5)]) rfl sc_Table_joined.nd (pi_tupK K rfl (pe_fldK K rfl (pv 0) rfl)) (blkOk_by (by rfl)) (fun _ _ _ _ _ => (pg_name (i := 5) sc_Table_joined.nd rfl (by first | exact Or.inl rfl | exact Or.inr rfl))) (fun _ _ _ _ _ => (pts_one (PW.pt (pw_and (pt_val (pe_methG M_Table_bears T.clC hr (by decide) (pv 0) (pa_cons (pv 5) (pa_cons (pv 1) pa_nil)))) (pw_and1 (pt_val (pe_methG M_Table_bears T.clC hr (by decide) (pv 0) (pa_cons (pv 5) (pa_cons (pv 2) pa_nil))))))))) (fun _ _ _ _ _ => (pv 5))))
    (pss_cons (ps_setLc (i := 4) (own := [("mode", 5)]) rfl sc_Table_joined.nd rfl rfl (sw_true rfl rfl rfl (by rfl)) (pi_listK K rfl (pv 3)) (blkOk_by (by rfl)) (fun _ _ _ _ _ => (pg_name (i := 5) sc_Table_joined.nd rfl (by first | exact Or.inl rfl | exact Or.inr rfl))) (fun _ _ _ _ _ => (pts_one (pt_val (pe_callB (cr_allK K rfl rfl) (by rfl) T.fAll boot_all (pa_cons (pe_lc (own := [("more", 6)]) rfl sc_Table_joined.nd (pi_listK K rfl (pv 3)) (blkOk_by (by rfl)) (fun _ _ _ _ _ => (pg_name (i := 6) sc_Table_joined.nd rfl (by first | exact Or.inl rfl | exact Or.inr rfl))) (fun _ _ _ _ _ => pts_nil) (fun _ _ _ _ _ => (pe_methG M_Table_bears T.clC hr (by decide) (pv 0) (pa_cons (pv 6) (pa_cons (pv 5) pa_nil))))) pa_nil))))) (fun _ _ _ _ _ => (pv 5)))
    (pss_one (ps_ret (pe_ifExp (pt_cmpR (op_neDK K rfl hr.units) (pv 4) (pe_lst pa_nil) (nomark _)) (pe_ix (ix_listK K rfl) (pv 4) pe_int (fun _ _ => rfl)) pe_non))))))), ?_⟩)
  subst hv
  have hab : ansJoined D a b = if D.bears a b then .str a else if D.bears b a then .str b else optS (D.least a b).head? := by
    show optS (D.joined a b) = _
    unfold TD.joined
    split
    · rfl
    · split <;> rfl
  refine q_when (et_B (ev_T2 (ans := ansBears) (ev_var (v := .ref t) rfl) (ea_cons (ev_var rfl) (ea_cons (ev_var rfl) ea_nil)) hJ wf ha hb nl_bears)) (fun z H1 e1 => ?_) (fun z H1 e1 => ?_)
  · refine s_ret (ev_var rfl) fun H2 e2 => ?_
    rw [hab, z] at q
    exact q H2 (e1.trans e2)
  have hJ1 := hJ.ex e1
  refine q_when (et_B (ev_T2 (ans := ansBears) (ev_var (v := .ref t) rfl) (ea_cons (ev_var rfl) (ea_cons (ev_var rfl) ea_nil)) hJ1 wf hb ha nl_bears)) (fun z2 H2 e2 => ?_) (fun z2 H2 e2 => ?_)
  · refine s_ret (ev_var rfl) fun H3 e3 => ?_
    rw [hab, z, z2] at q
    exact q H3 ((e1.trans e2).trans e3)
  have hJ2 := hJ1.ex e2
  have e02 := e1.trans e2
  obtain ⟨o, hE, hS⟩ := hJ2.ord T (ev_var (σ := sgJ a b t) (i := 0) (v := .ref t) rfl)
  have hboth := ep_lcT (K := K) (σ := sgJ a b t) (H := H2) (t := _) (te := _) (g := gName 5) (vs := [5]) (fun m => D.bears m a && D.bears m b) (fun m => m) (kdV V.str) (kdV V.str) hE hS kdV_of (by have := wf.few; omega)
    (fun m x H3 hm e3 hx => by
      cases hx
      exact ⟨rfl, Ex.refl _, et_and (et_B (ev_T2 (ans := ansBears) (ev_var (v := .ref t) (i := 0) rfl) (ea_cons (ev_var (i := 5) rfl) (ea_cons (ev_var (i := 1) rfl) ea_nil)) (hJ2.ex e3) wf hm ha nl_bears)) (fun _ => et_B (ev_T2 (ans := ansBears) (ev_var (v := .ref t) (i := 0) rfl) (ea_cons (ev_var (i := 5) rfl) (ea_cons (ev_var (i := 2) rfl) ea_nil)) (hJ2.ex e3) wf hm hb nl_bears)), fun _ => ep_ev (ev_var (i := 5) rfl)⟩)
    gname_mono
  rw [List.map_id'] at hboth
  refine q_asgL (el_of_newS hboth) fun p H3 hp e3 h3 => ?_
  have hJ3 := hJ2.ex e3
  have hbm : ∀ m ∈ D.both a b, m ∈ D.order := fun m hm => (TD.both_mem hm).1
  have hlen : (D.both a b).length ≤ 8 := by
    have h1 : (D.both a b).length ≤ D.order.length := List.length_filter_le _ _
    have := wf.few
    omega
  have hleast := ep_lcL (K := K) (σ := (sgJ a b t).set 3 (some (.ref p))) (H := H3) (t := _) (te := _) (g := gName 5) (vs := [5]) (fun m => (D.both a b).all fun k => D.bears k m) (fun m => m) (kdV V.str) (kdV V.str) (ev_var (i := 3) rfl) (SqL.of h3) kdV_of (show (D.both a b).length ≤ 40000 by omega)
    (fun m x H4 hm e4 hx => by
      cases hx
      have hi := el_bools (ep_lcL (K := K) (σ := ((sgJ a b t).set 3 (some (.ref p))).set 5 (some (.str m))) (H := H4) (t := tYes) (te := _) (g := gName 6) (vs := [6]) (fun _ => true) (fun k => D.bears k m) (kdV V.str) (kdV V.bl) (ev_var (i := 3) rfl) (SqL.of (e4 _ _ h3)) (kdV_of (bs := D.both a b)) (show (D.both a b).length ≤ 40000 by omega)
        (fun k x H5 hk e5 hx => by
          cases hx
          exact ⟨rfl, Ex.refl _, fun H6 e6 Q q => q H6 (Ex.refl _), fun _ => ep_ev (ev_T2 (ans := ansBears) (ev_var (v := .ref t) (i := 0) rfl) (ea_cons (ev_var (i := 6) rfl) (ea_cons (ev_var (i := 5) rfl) ea_nil)) ((hJ3.ex e4).ex e5) wf (hbm k hk) (hbm m hm) nl_bears)⟩)
        gname_mono)
      refine ⟨rfl, Ex.refl _, ?_, fun _ => ep_ev (ev_var (i := 5) rfl)⟩
      have e6 : ((((D.both a b).filter fun _ => true).map fun k => D.bears k m).all id) = (D.both a b).all fun k => D.bears k m := by
        rw [all_filter_map]; rfl
      rw [← e6]
      exact et_B (ev_all (K := K) hi))
    gname_mono
  rw [List.map_id'] at hleast
  refine q_asgL (el_of_newS hleast) fun p2 H4 hp2 e4 h4 => ?_
  have hlm : ∀ m ∈ D.least a b, m ∈ D.order := fun m hm => hbm m (List.mem_filter.mp hm).1
  have e04 := (e02.trans e3).trans e4
  refine s_ret (v := ansJoined D a b) (ev_if (b := !decide (D.least a b = [])) (et_test (ev_neL cmpS (ls_var (k := kdV V.str) (bs := D.least a b) (ev_var (i := 4) (v := .ref p2) rfl) ⟨p2, _, rfl, SqL.of h4, kdV_of⟩) ls_nil (fun m hm => low_str (wf.ok m (hlm m hm))) (by simp))) (fun z3 => ?_) (fun z3 => ?_)) fun H5 e5 => q H5 (e04.trans e5)
  · rw [hab, z, z2]
    cases hl : D.least a b with
    | nil => rw [hl] at z3; cases z3
    | cons m ms =>
      refine ev_op (ev_var (i := 4) rfl) ev_c (rv_ixL (SqL.of h4) ?_)
      show atI ((D.least a b).map V.str) 0 = _
      rw [hl]
      exact atI_nat (j := 0) rfl
  · rw [hab, z, z2]
    cases hl : D.least a b with
    | nil => exact ev_c
    | cons m ms => rw [hl] at z3; cases z3
end
end HT
set_option Elab.async false
set_option linter.all false
set_option maxRecDepth 100000
set_option maxHeartbeats 4000000
/-! Table's quarrel, is_over -/
namespace HT
open PySem PySem.Spec PyProof.Rows L2 Evl
section
variable {P : Program} {w : World} {K : PySem.W.Frag} {mg : Str → Option Value} {base : Heap} {C Dc : Addr} {f : Addr} {fd : FuncData} {σ : L2.St} {H : Hp} {ta : TE} {tA : TA} {t : Addr} {a b : Str} {D : TD Str} {j : V}
theorem rank_no {r s : Nat} (hr : r ≤ 2) (hs : s ≤ 2) : (!inV (.str "") [.str (rankW r), .str (rankW s)]) = (!decide (r = 0) && !decide (s = 0)) ∧ inV (.str "change") [.str (rankW r), .str (rankW s)] = (decide (r = 2) || decide (s = 2)) := by
  have h1 : r = 0 ∨ r = 1 ∨ r = 2 := by omega
  have h2 : s = 0 ∨ s = 1 ∨ s = 2 := by omega
  rcases h1 with rfl | rfl | rfl <;> rcases h2 with rfl | rfl | rfl <;> decide
theorem ev_worth (hJ : TabJ C H t D j) (T : Txt K mg C Dc) {tb : TE} (hv : Ev ta σ H (.ref t)) (hm : Ev tb σ H (.str a)) (ha : a ∈ D.order) : Ev (tDGet (tFld K ta "worth") tb) σ H (.str (rankW (D.rank a))) := by
  obtain ⟨dx, o, p, w, u, ob, kvp, kvw, kvu, A⟩ := hJ
  exact ev_dget (ev_fld hv A.at_ T.clC T.nWorth rfl) hm (A.gw ha)
theorem ev_upper (hJ : TabJ C H t D j) (T : Txt K mg C Dc) {tb : TE} (hv : Ev ta σ H (.ref t)) (hm : Ev tb σ H (.str a)) (ha : a ∈ D.order) : Ev (tDGet (tFld K ta "upper") tb) σ H (.str (D.up a)) := by
  obtain ⟨dx, o, p, w, u, ob, kvp, kvw, kvu, A⟩ := hJ
  exact ev_dget (ev_fld hv A.at_ T.clC T.nUpper rfl) hm (A.gu ha)
theorem sc_Table_quarrel : FnScope ["self", "one", "other", "both"] ["self", "one", "other"] (defScope s_Table_quarrel) := ⟨rfl, rfl, rfl, by decide +kernel, rfl, by decide +kernel, by decide +kernel⟩
theorem ok_Table_quarrel (F : FnT K "quarrel" "Table.quarrel" s_Table_quarrel [] [] f fd) (T : Txt K mg C Dc) : FnOk P w K mg base CX0 1 f fd ["self", "one", "other"] (spT2 C ansQuarrel) := by
  refine F.ok sc_Table_quarrel (fun vs H Q E ⟨_, _, _, _, _, h, _⟩ => by rw [h]; rfl) (fun cdv A outer s H vs Q E hr ⟨t, a, b, D, j, hv, hJ, wf, ha, hb, q⟩ => ⟨_, PSs.nox (pss_cons (ps_set (i := 3) sc_Table_quarrel.nd rfl (Or.inl rfl) (pe_tup (pa_cons (pe_dget (hu_of hr) (pe_fldK K rfl (pv 0) rfl) (pv 1) (fun _ _ => rfl)) (pa_cons (pe_dget (hu_of hr) (pe_fldK K rfl (pv 0) rfl) (pv 2) (fun _ _ => rfl)) pa_nil))))
    (pss_one (ps_ret (pe_and (pe_cmpR (op_notIn_seqK K rfl) pe_str (pv 3) (by rfl)) (pe_one (pe_cmpR (op_in_seqK K rfl) pe_str (pv 3) (by rfl))))))), ?_⟩)
  subst hv
  have e := rank_no (wf.rk a) (wf.rk b)
  refine q_asgU (eu_tup (ea_cons (ev_worth hJ T (ev_var (v := .ref t) rfl) (ev_var rfl) ha) (ea_cons (ev_worth hJ T (ev_var (v := .ref t) rfl) (ev_var rfl) hb) ea_nil)) (by show 2 ≤ 100000; decide)) fun p H1 hp e1 h1 => ?_
  refine s_ret (ev_andV (ev_op ev_c (ev_var (i := 3) rfl) (rv_niT (st_of h1) rfl rfl)) (fun _ => ev_op ev_c (ev_var (i := 3) rfl) (rv_isT (st_of h1) rfl rfl))) fun H2 e2 => ?_
  rw [e.1, e.2]
  exact q H2 (e1.trans e2)
theorem q_par {i k : Nat} {x y : V} {tA : TA} {tz : TS} {De : Ends} (h : EvA tA σ H [x, y]) (n : ∀ H1, Ex H H1 → tz De ((σ.set i (some x)).set k (some y)) H1) : tSeq (tPar i k tA) tz De σ H := h H (Ex.refl _) _ fun H1 e1 => ⟨x, y, rfl, n H1 e1⟩
theorem sc_Table_is_over : FnScope ["self", "one", "other", "both", "upper"] ["self", "one", "other"] (defScope s_Table_is_over) := ⟨rfl, rfl, rfl, by decide +kernel, rfl, by decide +kernel, by decide +kernel⟩
theorem ok_Table_is_over (F : FnT K "is_over" "Table.is_over" s_Table_is_over [] [] f fd) (T : Txt K mg C Dc) (M_Table_bears : AMt2 P w K mg base C "bears" 3 ansBears) (M_Table_joined : AMt2 P w K mg base C "joined" 4 ansJoined) : FnOk P w K mg base CX0 5 f fd ["self", "one", "other"] (spT2 C ansOver) := by
  refine F.ok sc_Table_is_over (fun vs H Q E ⟨_, _, _, _, _, h, _⟩ => by rw [h]; rfl) (fun cdv A outer s H vs Q E hr ⟨t, a, b, D, j, hv, hJ, wf, ha, hb, q⟩ => ⟨_, PSs.nox (pss_cons (ps_par (i := 3) (j := 4) rfl sc_Table_is_over.nd rfl rfl (by decide) rfl rfl (pa_cons (pe_methG M_Table_joined T.clC hr (by decide) (pv 0) (pa_cons (pv 1) (pa_cons (pv 2) pa_nil))) (pa_cons (pe_methG M_Table_joined T.clC hr (by decide) (pv 0) (pa_cons (pe_dget (hu_of hr) (pe_fldK K rfl (pv 0) rfl) (pv 1) (fun _ _ => rfl)) (pa_cons (pe_dget (hu_of hr) (pe_fldK K rfl (pv 0) rfl) (pv 2) (fun _ _ => rfl)) pa_nil))) pa_nil)) (by rfl))
    (pss_one (ps_ret (pe_or (pe_cmp (pc_isN (pv 3)) rfl) (pe_one (pe_and (pe_cmp (pc_notN (pv 4)) rfl) (pe_one (pe_methG M_Table_bears T.clC hr (by decide) (pv 0) (pa_cons (pv 4) (pa_cons (pe_dget (hu_of hr) (pe_fldK K rfl (pv 0) rfl) (pv 3) (fun _ _ => rfl)) pa_nil)))))))))), ?_⟩)
  subst hv
  have e1 := ev_T2 (σ := start ["self", "one", "other", "both", "upper"] [.ref t, .str a, .str b]) (H := H) (m := "joined") (ans := ansJoined) (ev_var (v := .ref t) (i := 0) rfl) (ea_cons (ev_var (i := 1) rfl) (ea_cons (ev_var (i := 2) rfl) ea_nil)) hJ wf ha hb nl_joined
  have e2 := ev_T2 (σ := start ["self", "one", "other", "both", "upper"] [.ref t, .str a, .str b]) (H := H) (m := "joined") (ans := ansJoined) (ev_var (v := .ref t) (i := 0) rfl) (ea_cons (ev_upper hJ T (ev_var (v := .ref t) (i := 0) rfl) (ev_var (i := 1) rfl) ha) (ea_cons (ev_upper hJ T (ev_var (v := .ref t) (i := 0) rfl) (ev_var (i := 2) rfl) hb) ea_nil)) hJ wf (wf.up a ha) (wf.up b hb) nl_joined
  refine q_par (ea_cons e1 (ea_cons e2 ea_nil)) fun H1 x1 => ?_
  have hJ1 := hJ.ex x1
  have hA : ansOver D a b = .bl ((D.joined a b).isNone || ((!(D.joined (D.up a) (D.up b)).isNone) && match D.joined a b, D.joined (D.up a) (D.up b) with | some j, some u => D.bears u (D.up j) | _, _ => false)) := by
    show V.bl (D.isOver a b) = _
    unfold TD.isOver
    cases D.joined a b with
    | none => rfl
    | some j => cases D.joined (D.up a) (D.up b) <;> rfl
  refine s_ret (ev_orV (a := (D.joined a b).isNone) (ev_is (ev_isN (ev_var (i := 3) rfl)) (by rw [optS_non])) fun z1 => ev_andV (a := !(D.joined (D.up a) (D.up b)).isNone) (b := match D.joined a b, D.joined (D.up a) (D.up b) with | some j, some u => D.bears u (D.up j) | _, _ => false) (ev_is (ev_notN (ev_var (i := 4) rfl)) (by rw [optS_non])) fun z2 => ?_) fun H2 x2 => ?_
  · cases h1 : D.joined a b with
    | none => rw [h1] at z1; cases z1
    | some jj =>
      cases h2 : D.joined (D.up a) (D.up b) with
      | none => rw [h2] at z2; cases z2
      | some uu =>
        have hj := (TD.joined_in h1 ha hb).1
        have hu := (TD.joined_in h2 (wf.up a ha) (wf.up b hb)).1
        exact ev_T2 (ans := ansBears) (ev_var (v := .ref t) (i := 0) rfl) (ea_cons (ev_var (i := 4) (by rw [show ansJoined D (D.up a) (D.up b) = .str uu from congrArg optS h2]; rfl)) (ea_cons (ev_upper hJ1 T (ev_var (v := .ref t) (i := 0) rfl) (ev_var (i := 3) (by rw [show ansJoined D a b = .str jj from congrArg optS h1]; rfl)) hj) ea_nil)) hJ1 wf hu (wf.up jj hj) nl_bears
  · rw [← hA]
    exact q H2 (x1.trans x2)
end
end HT
set_option Elab.async false
set_option linter.all false
set_option maxRecDepth 100000
set_option maxHeartbeats 4000000
/-! tuple(list) with its object; enumerate(tuple) -/
namespace HT
open PySem PySem.Spec PyProof.Rows L2 Evl
section
variable {X : Cx}
theorem call_tuple_frz : CallR X (.type "tuple") (fun xs H Q => ∃ p ys, xs = [.ref p] ∧ Rd H p (.lst ys) ∧ ∀ l (ob : Obj), H l = none → ob.cls = .type "tuple" → ob.dict = none → Q (.ref l) (upd H l (.frz ob (.tup ys)))) := by
  intro pins s σ H xs us Q I r h
  obtain ⟨p, ys, rfl, hq, q⟩ := h
  obtain ⟨u, rfl, rx⟩ := vals1 r
  cases rx
  obtain ⟨its, r', pl, hz⟩ := I.list (.inl hq)
  have hlen := r'.length
  refine call_tuple_list pl.isList (fun h' kp => ?_) (by simp only [List.size_toArray] <;> omega)
  have I1 : Inv X pins σ H { s with heap := h' } := I.kept (t' := s.toks) kp
  have I2 : Inv X pins σ (upd H h'.objs.size (.frz { cls := .type "tuple", data := .seq its.toArray } (.tup ys))) { s with heap := h'.push { cls := .type "tuple", data := .seq its.toArray } } :=
    I1.laid (t' := s.toks) (fun b o e => Heap.get?_push_of_some _ e) (Nat.le_refl _) (show ObjOk X.prog X.w _ _ _ (.frz _ (.tup ys)) from ⟨Heap.get?_push_size _ rfl, hz, its, r', IsTup.new _ _⟩)
  exact ⟨.ref h'.objs.size, _, I2, rfl, q _ _ (I1.hok.fresh (Nat.le_refl _)) rfl rfl⟩
end
end HT
namespace PySem
open Sem (wp)
open AutoSeq1 (wpAny_loadPart')
theorem ht_meets_enum (l : Addr) (items : Array Value) (n : Nat) (dct : Option Addr) (sl : Array (Option Value)) :
    Meets (Builtin.«enumerate.__new__» ⟨[.type "enumerate", .ref l], []⟩) (fun _ R s => s.heap.get? l = some { cls := .type "tuple", dict := dct, data := .seq items n, slots := sl } ∧
      R (.ok (.ret (.ref (s.heap.push { cls := .type "tuple_iterator", data := .fields #[.ref l, .int 0 0] }).objs.size)))
        { s with heap := (s.heap.push { cls := .type "tuple_iterator", data := .fields #[.ref l, .int 0 0] }).push { cls := .type "enumerate", data := .fields #[.none, .bool false, .ref s.heap.objs.size, rawInt 0, .none, .none] } }) :=
  .of_wp fun prog w A R s h => by
    obtain ⟨hp, g, d, tk, os⟩ := s; obtain ⟨hl, h⟩ := h
    have hsub := sub_enumerate
    have hL : Heap.IsTuple (Shared.heap ⟨hp, g, d, tk, os⟩) l items := ⟨_, hl, rfl, n, rfl⟩
    wp_walk using wpAny_loadPart' hl
    refine wpAny_stack_any fun st => wpAny_pure ?_
    split
    · rename_i c _ _ _ _ _
      cases (c == Value.type "enumerate")
      · wp_walk using wpAny_loadPart' hl, wpAny_pyIter_tuple hL
        exact ⟨_, rfl, h⟩
      · wp_walk using wpAny_loadPart' hl, wpAny_pyIter_tuple hL
        exact ⟨_, rfl, h⟩
    · wp_walk using wpAny_loadPart' hl, wpAny_pyIter_tuple hL
      exact ⟨_, rfl, h⟩
section
variable {prog : Program} {w : World} {A : Around} {E : Value → Shared → Prop} {s : Shared}
theorem ht_call_enum {l : Addr} {items : Array Value} {Q : Value → Shared → Prop} (hL : s.heap.IsTuple l items)
    (h : ∀ h', IsEnum h' (s.heap.objs.size + 1) s.heap.objs.size 0 .none → h'.IsTupleIter s.heap.objs.size l 0 → h'.objs.size = s.heap.objs.size + 2 →
      (∀ b o, s.heap.get? b = some o → h'.get? b = some o) → Q (.ref (s.heap.objs.size + 1)) { s with heap := h' }) :
    wpAny (model prog w) A (call (.type "enumerate") [.ref l]) Q E s := by
  obtain ⟨⟨c, dct, dt, sl⟩, hl, hc, n, hd⟩ := hL
  replace hc : c = .type "tuple" := hc
  replace hd : dt = .seq items n := hd
  subst hc hd
  refine callType_new F.called_enumerate (by decide) (F.typeCall_enumerate_1 _) (F.newCall_enumerate_1 _) (fun obj => F.args_object_init_2 obj _) F.entry_enumerate_new
    (ht_meets_enum l items n dct sl) ⟨hl, ?_⟩
  have hz : (s.heap.push { cls := .type "tuple_iterator", data := .fields #[.ref l, .int 0 0] }).objs.size = s.heap.objs.size + 1 := Heap.size_push ..
  show _ ∧ _
  rw [hz]
  have he : IsEnum ((s.heap.push { cls := .type "tuple_iterator", data := .fields #[.ref l, .int 0 0] }).push
      { cls := .type "enumerate", data := .fields #[.none, .bool false, .ref s.heap.objs.size, rawInt 0, .none, .none] }) (s.heap.objs.size + 1) s.heap.objs.size 0 .none := by
    have := Heap.get?_push_size (s.heap.push { cls := .type "tuple_iterator", data := .fields #[.ref l, .int 0 0] })
      (o := { cls := .type "enumerate", data := .fields #[.none, .bool false, .ref s.heap.objs.size, rawInt 0, .none, .none] }) rfl
    rw [hz] at this; exact this
  refine ⟨⟨_, he, rfl⟩, h _ he ⟨_, Heap.get?_push_of_some _ (Heap.get?_push_size _ rfl), rfl, rfl⟩ (by rw [Heap.size_push, hz]) fun b o x => Heap.get?_push_of_some _ (Heap.get?_push_of_some _ x)⟩
end
end PySem
namespace HT
open PySem PySem.Spec PyProof.Rows L2 Evl
/-- the tuple at a as it stands at each turn, each item in a new pair -/
def IteT (K : PySem.W.Frag) (a : Addr) : It :=
  ⟨fun i H => ∃ (xs : List V) (x : V), SqT K H a xs ∧ xs[i]? = some x, fun i H v H' => ∃ T x, v = .ref T ∧ H T = none ∧ H' = upd H T (.tup [.int (i : Nat), x]) ∧ ∀ xs, SqT K H a xs → xs[i]? = some x, fun i H => ∃ xs : List V, SqT K H a xs ∧ xs.length = i⟩
theorem turn_enumT {P : Program} {w : World} {K : PySem.W.Frag} {elts : List Expr} {kk : Nat} {tpos : Pos} (a e it : Addr) :
    Turn P w K (.Tuple elts kk tpos) (IteT K a) [e, it] e (fun i h => (∃ old, IsEnum h e it ((i : Nat) : Int) old) ∧ h.IsTupleIter it a i ∧ e ≠ it ∧ a ≠ it ∧ a ≠ e) where
  mem := by simp
  obj := fun i h st b hb => by
    obtain ⟨⟨old, he⟩, ⟨o, ho, hc, hd⟩, _⟩ := st
    have e' : b = e ∨ b = it := by simpa using hb
    rcases e' with z | z
    · rw [z]; exact ⟨_, he, fun v q => nomatch q⟩
    · rw [z]; exact ⟨o, ho, fun v q => by rw [hd] at q; cases q⟩
  keep := fun i h h' st k => let ⟨⟨old, he⟩, hi, hne⟩ := st; ⟨⟨old, k e (by simp) _ he⟩, hi.at fun o q => k it (by simp) o q, hne⟩
  item := by
    intro X hP hw hK hc i pins s σ H E I hf st hg
    subst hP hw hK
    obtain ⟨⟨old, he⟩, hit, hne, hai, hae⟩ := st
    obtain ⟨xs, x, hq, hx⟩ := hg
    obtain ⟨its, rv, p, hz⟩ := I.tuple hq
    obtain ⟨u, hu, ru⟩ := rv.get hx
    have hel : e < s.heap.objs.size := Heap.lt_size he
    have hil : it < s.heap.objs.size := by obtain ⟨_, q, _⟩ := hit; exact Heap.lt_size q
    have hlt : i < its.toArray.size := by
      have := (List.getElem?_eq_some_iff.mp hu).1
      simpa using this
    refine wpAny_pyNext_enum_itemD (Draws.tuple (A := X.A.in1) (show X.A.in1.handled = none from I.ok.hd hc) it a hai its.toArray) he ⟨hit, (show s.heap.IsTuple a its.toArray from p)⟩ hlt hne (by simp; exact ⟨hne, Ne.symm hae⟩) fun x0 h' tk hx0 ho hst' hT hsz hk => ?_
    have ex : x0 = u := by
      have h1 : its.toArray[i]? = some u := by simpa using hu
      rw [h1] at hx0
      exact (Option.some.inj hx0).symm
    subst ex
    refine ⟨_, rfl, wpAny_letOwnedTupleGo_enum (s := { s with heap := h', toks := tk + 1 }) ho fun h'' he' sb => ?_⟩
    have hT2 : h''.get? s.heap.objs.size = some { cls := .type "tuple", data := .seq #[.int i tk, x0] } := (sb.2 _ (Nat.ne_of_gt hel)).trans hT
    have new : ObjOk X.prog X.w (upd H s.heap.objs.size (.tup [.int (i : Nat), x])) h'' s.heap.objs.size (.tup [.int (i : Nat), x]) :=
      ⟨by show 2 ≤ sizeLine; decide, [.int i tk, x0], .cons ⟨_, rfl⟩ (.cons ru .nil), ⟨_, hT2, rfl, _, rfl⟩⟩
    have I1 : Inv X pins σ (upd H s.heap.objs.size (.tup [.int (i : Nat), x])) { s with heap := h'', toks := tk + 1 } :=
      I.turnedNew (ch := [e, it]) (fun b ob hb q => (sb.2 b (fun z => hb (by simp [z]))).trans (hk b ob (fun z => hb (by simp [z])) (fun z => hb (by simp [z])) q)) hf (Nat.le_refl _) new
    refine ⟨.ref s.heap.objs.size, _, I1, rfl, ⟨_, x, rfl, I.hok.fresh (Nat.le_refl _), rfl, fun ys hy => by rw [I.tuple_inj hy hq]; exact hx⟩, ⟨⟨x0, ?_⟩, hst'.1.at fun o q => (sb.2 it (Ne.symm hne)).trans q, hne, hai, hae⟩, fun b hb => ?_⟩
    · have e1 : ((i + 1 : Nat) : Int) = (i : Int) + 1 := by omega
      rw [e1]; exact he'
    · have hb' : b < s.heap.objs.size := by
        have e' : b = e ∨ b = it := by simpa using hb
        rcases e' with z | z
        · rw [z]; exact hel
        · rw [z]; exact hil
      rw [upd_ne (Nat.ne_of_lt hb')]
      exact (hf b hb).1
  done := by
    intro X hP hw hK hc i pins s σ H E I hf st hg
    subst hP hw hK
    obtain ⟨⟨old, he⟩, hit, hne, hai, hae⟩ := st
    obtain ⟨xs, hq, hx⟩ := hg
    obtain ⟨its, rv, p, hz⟩ := I.tuple hq
    obtain ⟨f0, f1, f2, f3, f4, f5⟩ := hf it (by simp)
    have hl := rv.length
    have hi : its.toArray.size = i := by rw [List.size_toArray, ← hl, hx]
    rw [← hi] at he hit
    exact wpAny_pyNext_enum_endD (Draws.tuple (A := X.A.in1) (show X.A.in1.handled = none from I.ok.hd hc) it a hai its.toArray) he ⟨hit, (show s.heap.IsTuple a its.toArray from p)⟩ fun h' eb => ⟨rfl, I.turned (t' := s.toks) (fun b o hb q => eb b o hb q) f0 f1 f3 f4 f5⟩
  self := fun A i s Q E st h => let ⟨⟨_, he⟩, _⟩ := st; wpAny_pyIter_enum he h
def iEnumT (K : PySem.W.Frag) (ta : TA) : TI := fun σ H R => ta σ H fun vs H1 => ∃ a xs, vs = [.ref a] ∧ SqT K H1 a xs ∧ R (IteT K a) H1
theorem pi_enumT {X : Cx} (K : PySem.W.Frag) (hK : X.K = K) {e : Expr} {ta : TA} {p pos tpos : Pos} {elts : List Expr} {kk : Nat} (hg : Gl X "enumerate") (hm : X.mg "enumerate" = none) (ha : PA X [e] ta) (hs : starEach [e] X.env = [(false, eval e X.env)] := by rfl) :
    PI X (.Tuple elts kk tpos) (.Call (.Name "enumerate" p) [e] [] pos) (iEnumT K ta) := by
  subst hK
  refine ⟨fun pins s σ H R I h => ?_⟩
  refine Call_ (ld_blt I hg hm boot_enumerate (PyProof.Rows.callWith_type1 (thn (ha.run pos pins s σ H _ I h) fun us s1 ⟨vs, H1, I1, r1, q1⟩ => ?_) hs rfl))
  obtain ⟨a, xs, ex, hq, q⟩ := q1
  subst ex
  cases r1 with
  | cons r rr =>
    cases rr
    cases r
    obtain ⟨its, rv, p', hz⟩ := I1.tuple hq
    have hal : a < s1.heap.objs.size := p'.lt
    refine ht_call_enum (show s1.heap.IsTuple a its.toArray from p') fun h' he hit hsz hk => wpAny_pyIter_enum he ?_
    have I2 : Inv X pins σ H1 { s1 with heap := h' } := I1.kept (t' := s1.toks) hk
    refine ⟨s1.heap.objs.size + 1, [s1.heap.objs.size + 1, s1.heap.objs.size], _, _, H1, rfl, I2, turn_enumT a (s1.heap.objs.size + 1) s1.heap.objs.size, ⟨⟨.none, he⟩, hit, Nat.succ_ne_self _, Nat.ne_of_lt hal, Nat.ne_of_lt (Nat.lt_succ_of_lt hal)⟩, fun b hb => ?_, q⟩
    have e' : b = s1.heap.objs.size + 1 ∨ b = s1.heap.objs.size := by simpa using hb
    have hle : s1.heap.objs.size ≤ b := by
      rcases e' with z | z
      · rw [z]; exact Nat.le_add_right _ _
      · rw [z]; exact Nat.le_refl _
    exact I1.fpOk hle (I1.hok.fresh hle)
end HT
set_option Elab.async false
set_option linter.all false
set_option maxRecDepth 100000
set_option maxHeartbeats 4000000
/-! own layer: what one walks over, by data; comprehensions over it, of one clause and of two -/
namespace HT
open PySem PySem.Spec PyProof.Rows L2 Evl
def WalkP (wi : TI) (σ : L2.St) (H : Hp) {α : Type} (as : List α) (RA : α → V → Hp → Prop) : Prop :=
  ∀ H0, Ex H H0 → ∀ R : It → Hp → Prop, (∀ (J : It) (H1 : Hp) (G : Hp → Prop) (Y : Nat → Hp → V → Hp → Prop), Ex H0 H1 → Walk J as.length G Y → (∀ H2, Ex H1 H2 → G H2) →
    (∀ i x H2 H3, Ex H1 H2 → Y i H2 x H3 → ∃ a, as[i]? = some a ∧ Ex H2 H3 ∧ RA a x H3) → R J H1) → wi σ H0 R
section
variable {α β γ : Type} {K : PySem.W.Frag} {σ : L2.St} {H : Hp} {t : TT} {te tl : TE}
theorem wk_list {as : List α} {ka : Kd α} (h : EvP tl σ H fun _ v H2 => LsP K ka as v H2) : WalkP (iList K tl) σ H as ka.R := fun H0 e0 R r => h H0 e0 _ fun v H1 e1 ⟨a, xs, hv, hx, ha⟩ => ⟨a, hv, ⟨xs, hx⟩, by
  refine r _ H1 (fun H => SqL K H a xs) (YAt xs) e1 ?_ (fun H2 e2 => ex_l e2 hx) (fun i x H2 H3 e2 y => ?_)
  · rw [pair_len ha]; exact walk_list
  · obtain ⟨rfl, hy⟩ := y
    obtain ⟨b, hb, hR⟩ := pair_get ha hy
    exact ⟨b, hb, Ex.refl _, ka.ex e2 hR⟩⟩
theorem wk_tup {as : List α} {ka : Kd α} {a : Addr} {xs : List V} (h : Ev tl σ H (.ref a)) (hx : SqT K H a xs) (ha : ka.L as xs H) : WalkP (iTup K tl) σ H as ka.R := fun H0 e0 R r => h H0 e0 _ fun H1 e1 => ⟨a, rfl, ⟨xs, ex_t (e0.trans e1) hx⟩, by
  refine r _ H1 (fun H => SqT K H a xs) (YAt xs) e1 ?_ (fun H2 e2 => ex_t ((e0.trans e1).trans e2) hx) (fun i x H2 H3 e2 y => ?_)
  · rw [pair_len ha]; exact walk_tup
  · obtain ⟨rfl, hy⟩ := y
    obtain ⟨b, hb, hR⟩ := pair_get ha hy
    exact ⟨b, hb, Ex.refl _, ka.ex ((e0.trans e1).trans e2) hR⟩⟩
theorem wk_str {z : Str} (h : Ev tl σ H (.str z)) : WalkP (iStr tl) σ H z.cps.toList (fun c v _ => v = .str ⟨#[c]⟩) := fun H0 e0 R r => h H0 e0 _ fun H1 e1 => ⟨z, rfl, by
  refine r _ H1 (fun _ => True) _ e1 (by rw [Array.length_toList]; exact walk_str) (fun _ _ => trivial) (fun i x H2 H3 e2 y => ?_)
  obtain ⟨rfl, c, hc, rfl⟩ := y
  exact ⟨c, by simpa using hc, Ex.refl _, rfl⟩⟩
/-- one clause -/
theorem ep_lcW {as : List α} {RA : α → V → Hp → Prop} {wi : TI} (p : α → Bool) (gm : α → β) (k : Kd β) {g : TG} {vs : List Nat} (h : WalkP wi σ H as RA) (hz : as.length ≤ 40000)
    (turn : ∀ (b : α) (x : V) H1, b ∈ as → Ex H H1 → RA b x H1 → g x (wipe σ vs) H1 fun σ2 H2 => wipe σ2 vs = wipe σ vs ∧ Ex H1 H2 ∧ EvT t σ2 H2 (p b) ∧ (p b = true → EvP te σ2 H2 fun _ y H3 => k.R (gm b) y H3))
    (gmono : ∀ x σ1 H1 (Q Q' : L2.St → Hp → Prop), (∀ σ2 H2, Q σ2 H2 → Q' σ2 H2) → g x σ1 H1 Q → g x σ1 H1 Q') :
    EvP (tLc wi g t te vs) σ H (NewL k ((as.filter p).map gm)) := fun H0 e0 Q q => h H0 e0 _ fun J H1 G Y e1 w hG hY Dl hD =>
  lc_it w (CwP as p gm k H1 Dl) ⟨hD, Ex.new hD, [], upd_same, Nat.le_refl _, .nil⟩ (fun i H' _ c => hG _ c.2.1)
    (fun i x H2 H3 hi c y => by
      obtain ⟨b, hb, e3, hR⟩ := hY i x H2 H3 c.2.1 y
      have hlt : i < as.length := (List.getElem?_eq_some_iff.mp hb).1
      refine gmono _ _ _ _ _ ?_ (turn b x H3 (List.mem_of_getElem? hb) ((e0.trans e1).trans (c.2.1.trans e3)) hR)
      rintro σ2 H4 ⟨hw, e4, ht, he⟩
      exact ⟨hw, cwp_turn (c.ex (e3.trans e4)) hb (by omega) ht he⟩)
    (fun H' c => by
      obtain ⟨h1, h2, ys, h3, h4, h5⟩ := c
      refine q _ _ (e1.trans h2) ⟨Dl, ys, rfl, fresh_back e1 h1, h3, ?_⟩
      rw [List.take_length] at h5
      exact h5)
/-- behind i items of as and j of the inner list -/
def Cw2 (as : List α) (bs : α → List β) (gm : α → β → γ) (k : Kd γ) (H : Hp) (Dl : Addr) (i : Nat) (more : List γ) (H' : Hp) : Prop :=
  H Dl = none ∧ Ex H H' ∧ ∃ ys, H' Dl = some (.lst ys) ∧ ys.length ≤ 100 * i + more.length ∧ k.L (((as.take i).flatMap fun a => (bs a).map (gm a)) ++ more) ys H'
theorem Cw2.ex {as : List α} {bs : α → List β} {gm : α → β → γ} {k : Kd γ} {Dl : Addr} {i : Nat} {more : List γ} {H1 H2 : Hp} (h : Cw2 as bs gm k H Dl i more H1) (e : Ex H1 H2) : Cw2 as bs gm k H Dl i more H2 := by
  obtain ⟨h1, h2, ys, h3, h4, h5⟩ := h
  exact ⟨h1, h2.trans e, ys, e _ _ h3, h4, k.L_ex e h5⟩
/-- what an inner clause walks over: what the base H has, or tuples -/
def WalkI (wi : TI) (σ : L2.St) (H Hs : Hp) {α : Type} (as : List α) (RA : α → V → Hp → Prop) : Prop :=
  ∀ H0, Ex H H0 → ExL Hs H0 → ∀ R : It → Hp → Prop, (∀ (J : It) (H1 : Hp) (G : Hp → Prop) (Y : Nat → Hp → V → Hp → Prop), Ex H0 H1 → Walk J as.length G Y → (∀ H2, Ex H H2 → ExL H1 H2 → G H2) →
    (∀ i x H2 H3, Ex H H2 → ExL H1 H2 → Y i H2 x H3 → ∃ a, as[i]? = some a ∧ Ex H2 H3 ∧ RA a x H3) → R J H1) → wi σ H0 R
theorem wi_list {Hs : Hp} {as : List α} {ka : Kd α} {a : Addr} {xs : List V} (h : Ev tl σ H (.ref a)) (hx : SqL K H a xs) (ha : ka.L as xs H) : WalkI (iList K tl) σ H Hs as ka.R := fun H0 e0 l0 R r => h H0 e0 _ fun H1 e1 => ⟨a, rfl, ⟨xs, ex_l (e0.trans e1) hx⟩, by
  refine r _ H1 (fun H => SqL K H a xs) (YAt xs) e1 ?_ (fun H2 e2 _ => ex_l e2 hx) (fun i x H2 H3 e2 _ y => ?_)
  · rw [pair_len ha]; exact walk_list
  · obtain ⟨rfl, hy⟩ := y
    obtain ⟨b, hb, hR⟩ := pair_get ha hy
    exact ⟨b, hb, Ex.refl _, ka.ex e2 hR⟩⟩
theorem wi_tup {Hs : Hp} {as : List α} {ka : Kd α} {a : Addr} {xs : List V} (h : Ev tl σ H (.ref a)) (hx : Hs a = some (.tup xs)) (ha : ka.L as xs Hs) : WalkI (iTup K tl) σ H Hs as ka.R := fun H0 e0 l0 R r => h H0 e0 _ fun H1 e1 => ⟨a, rfl, ⟨xs, SqT.of (e1 _ _ (l0 _ _ hx))⟩, by
  have l1 := l0.trans (ExL.of e1)
  refine r _ H1 (fun H => SqT K H a xs) (YAt xs) e1 ?_ (fun H2 e2 l2 => SqT.of (l2 _ _ (l1 _ _ hx))) (fun i x H2 H3 e2 l2 y => ?_)
  · rw [pair_len ha]; exact walk_tup
  · obtain ⟨rfl, hy⟩ := y
    obtain ⟨b, hb, hR⟩ := pair_get ha hy
    exact ⟨b, hb, Ex.refl _, ka.mono _ _ _ _ (l1.trans l2) hR⟩⟩
/-- a tuple that is told, itself of H or new -/
theorem wi_tupP {Hs : Hp} {as : List α} {ka : Kd α} (h : EvP tl σ H fun _ v H2 => ∃ a xs, v = .ref a ∧ H2 a = some (.tup xs) ∧ ka.L as xs H2) : WalkI (iTup K tl) σ H Hs as ka.R := fun H0 e0 l0 R r => h H0 e0 _ fun v H1 e1 ⟨a, xs, hv, hx, ha⟩ => ⟨a, hv, ⟨xs, SqT.of hx⟩, by
  refine r _ H1 (fun H => SqT K H a xs) (YAt xs) e1 ?_ (fun H2 e2 l2 => SqT.of (l2 _ _ hx)) (fun i x H2 H3 e2 l2 y => ?_)
  · rw [pair_len ha]; exact walk_tup
  · obtain ⟨rfl, hy⟩ := y
    obtain ⟨b, hb, hR⟩ := pair_get ha hy
    exact ⟨b, hb, Ex.refl _, ka.mono _ _ _ _ l2 hR⟩⟩
/-- two clauses, no tests -/
theorem ep_lc2W {as : List α} {RA : α → V → Hp → Prop} {RB : α → β → V → Hp → Prop} {wi wi1 : TI} (bs : α → List β) (gm : α → β → γ) (k : Kd γ) {g g1 : TG} {vs vs1 : List Nat} (h : WalkP wi σ H as RA) (hz : as.length ≤ 100) (hz1 : ∀ a ∈ as, (bs a).length ≤ 100)
    (turn : ∀ (a : α) (x : V) H1, a ∈ as → Ex H H1 → RA a x H1 → g x (wipe σ vs) H1 fun σ2 H2 => wipe σ2 vs = wipe σ vs ∧ Ex H1 H2 ∧ WalkI wi1 σ2 H H2 (bs a) (RB a) ∧
      ∀ (b : β) (y : V) H3, b ∈ bs a → Ex H H3 → ExL H2 H3 → RB a b y H3 → g1 y (wipe σ2 vs1) H3 fun σ3 H4 => wipe σ3 vs1 = wipe σ2 vs1 ∧ Ex H3 H4 ∧ EvP te σ3 H4 fun _ z H5 => k.R (gm a b) z H5)
    (gmono : ∀ x σ1 H1 (Q Q' : L2.St → Hp → Prop), (∀ σ2 H2, Q σ2 H2 → Q' σ2 H2) → g x σ1 H1 Q → g x σ1 H1 Q')
    (g1mono : ∀ x σ1 H1 (Q Q' : L2.St → Hp → Prop), (∀ σ2 H2, Q σ2 H2 → Q' σ2 H2) → g1 x σ1 H1 Q → g1 x σ1 H1 Q') :
    EvP (tLc2 wi g tYes wi1 g1 tYes te vs vs1) σ H (NewL k (as.flatMap fun a => (bs a).map (gm a))) := fun H0 e0 Q q => h H0 e0 _ fun J H1 G Y e1 w hG hY Dl hD => by
  refine ⟨fun i m H => m = as.length - i ∧ i ≤ as.length ∧ Cw2 as bs gm k H1 Dl i [] H, ⟨as.length, by simp, Nat.zero_le _, hD, Ex.new hD, [], upd_same, by simp, .nil⟩, ?_⟩
  rintro i m H2 ⟨rfl, hi, c⟩
  by_cases hlt : i < as.length
  · refine .inr ⟨w.goes i H2 hlt (hG _ c.2.1), Cw2 as bs gm k H1 Dl (i + 1) [], fun H' p' => ⟨as.length - (i + 1), by omega, rfl, hlt, p'⟩, fun x H3 y => ?_⟩
    obtain ⟨a, ha, e3, hR⟩ := hY i x H2 H3 c.2.1 (w.yields i H2 x H3 hlt (hG _ c.2.1) y)
    have ham := List.mem_of_getElem? ha
    refine gmono _ _ _ _ _ ?_ (turn a x H3 ham ((e0.trans e1).trans (c.2.1.trans e3)) hR)
    rintro σ2 H4 ⟨hw, e4, hwk, hin⟩
    refine ⟨hw, ?_⟩
    show wi1 σ2 H4 _
    refine hwk H4 ((e0.trans e1).trans (c.2.1.trans (e3.trans e4))) (ExL.refl _) _ fun J1 H5 G1 Y1 e5 w1 hG1 hY1 => ?_
    have c5 := c.ex ((e3.trans e4).trans e5)
    refine ⟨fun j m H => m = (bs a).length - j ∧ j ≤ (bs a).length ∧ ExL H5 H ∧ Cw2 as bs gm k H1 Dl i (((bs a).take j).map (gm a)) H, ⟨(bs a).length, by simp, Nat.zero_le _, ExL.refl _, by simpa using c5⟩, ?_⟩
    rintro j m1 H6 ⟨rfl, hj, l6, c6⟩
    have eb6 : Ex H H6 := (e0.trans e1).trans c6.2.1
    have hB := hz1 a ham
    by_cases hjl : j < (bs a).length
    · refine .inr ⟨w1.goes j H6 hjl (hG1 _ eb6 l6), fun H' => ExL H5 H' ∧ Cw2 as bs gm k H1 Dl i (((bs a).take (j + 1)).map (gm a)) H', fun H' p' => ⟨(bs a).length - (j + 1), by omega, rfl, hjl, p'.1, p'.2⟩, fun x1 H7 y1 => ?_⟩
      obtain ⟨b, hb, e7, hRb⟩ := hY1 j x1 H6 H7 eb6 l6 (w1.yields j H6 x1 H7 hjl (hG1 _ eb6 l6) y1)
      refine g1mono _ _ _ _ _ ?_ (hin b x1 H7 (List.mem_of_getElem? hb) (eb6.trans e7) ((ExL.of e5).trans (l6.trans (ExL.of e7))) hRb)
      rintro σ3 H8 ⟨hw1, e8, hte⟩
      refine ⟨hw1, ?_⟩
      show te σ3 H8 _
      refine hte H8 (Ex.refl _) _ fun z H9 e9 hz9 => ?_
      obtain ⟨k1, k2, ys, k3, k4, k5⟩ := c6.ex ((e7.trans e8).trans e9)
      have hlen : (((bs a).take j).map (gm a)).length ≤ 100 := by
        rw [List.length_map, List.length_take]
        omega
      have eL : ExL H9 (upd H9 Dl (.lst (ys ++ [z]))) := ExL.upd k3 (fun xs z => by cases z)
      refine ⟨ys, k3, sz_lt (by omega), l6.trans (((ExL.of e7).trans (ExL.of e8)).trans ((ExL.of e9).trans eL)), k1, Ex.mut k2 k1, ys ++ [z], upd_same, ?_, ?_⟩
      · rw [take_succ_of hb, List.map_append, List.length_append, List.length_append]
        show ys.length + 1 ≤ _ + (_ + 1)
        omega
      · rw [take_succ_of hb, List.map_append, ← List.append_assoc]
        exact pair_snoc (k.L_mono eL k5) (k.mono _ _ _ _ eL hz9)
    · have e : j = (bs a).length := by omega
      subst e
      refine .inl ⟨w1.stops H6 (hG1 _ eb6 l6), ?_⟩
      obtain ⟨k1, k2, ys, k3, k4, k5⟩ := c6
      refine ⟨k1, k2, ys, k3, ?_, ?_⟩
      · rw [List.take_length, List.length_map] at k4
        show ys.length ≤ 100 * (i + 1) + 0
        omega
      · rw [take_succ_of ha, List.flatMap_append, List.append_nil]
        rw [List.take_length] at k5
        simpa using k5
  · have e : i = as.length := by omega
    subst e
    refine .inl ⟨w.stops H2 (hG _ c.2.1), ?_⟩
    obtain ⟨h1, h2, ys, h3, h4, h5⟩ := c
    refine q _ _ (e1.trans h2) ⟨Dl, ys, rfl, fresh_back e1 h1, h3, ?_⟩
    rw [List.take_length, List.append_nil] at h5
    exact h5
end
end HT
set_option Elab.async false
set_option linter.all false
set_option maxRecDepth 100000
set_option maxHeartbeats 4000000
/-! is_name, are_modes, are_pairs, is_dict, need_table -/
namespace HT
open PySem PySem.Spec PyProof.Rows L2 Evl
def letS : Str := "abcdefghijklmnopqrstuvwxyz"
/-- a name of a mode -/
structure NameOk (z : Str) : Prop where
  lo : 1 ≤ z.length
  hi : z.length ≤ 8
  let_ : ∀ c ∈ z.cps.toList, c ∈ letS.cps.toList
theorem NameOk.ok {z : Str} (h : NameOk z) : PyData.strOk z = true := by
  unfold PyData.strOk
  rw [← Array.all_toList, List.all_eq_true]
  intro c hc
  have h1 := h.let_ c hc
  have h2 : ∀ d ∈ letS.cps.toList, d < 0x110000 := by decide +kernel
  exact decide_eq_true (h2 c h1)
section
variable {P : Program} {w : World} {K : PySem.W.Frag} {mg : Str → Option Value} {base : Heap} {C Dc : Addr} {f : Addr} {fd : FuncData} {σ : L2.St} {H : Hp} {ta tb tc te : TE} {tt : TT}
theorem ev_chain {r r' : R2} {x y z : V} {a b : Bool} (h1 : Ev ta σ H x) (h2 : Ev tb σ H y) (hr : RV r x y H (.bl a)) (h3 : a = true → Ev tc σ H z) (hr' : a = true → RV r' y z H (.bl b)) : Ev (tChain r r' ta tb tc) σ H (.bl (a && b)) :=
  fun H1 e1 Q q => h1 H1 e1 _ fun H2 e2 => h2 H2 (e1.trans e2) _ fun H3 e3 => hr H3 ((e1.trans e2).trans e3) _ fun H4 e4 => ⟨a, rfl, by
    cases a with
    | false => exact q H4 ((e2.trans e3).trans e4)
    | true => exact h3 rfl H4 (((e1.trans e2).trans e3).trans e4) _ fun H5 e5 => hr' rfl H5 ((((e1.trans e2).trans e3).trans e4).trans e5) _ fun H6 e6 => q H6 (((e2.trans e3).trans e4).trans (e5.trans e6))⟩
theorem ev_allW {α : Type} {as : List α} {p : α → Bool} (h : EvP te σ H (NewL (kdV V.bl) ((as.filter fun _ => true).map p))) : Ev (tCB (rAll K) (tCons te tNil)) σ H (.bl (as.all p)) := by
  have := ev_all (K := K) (el_bools h)
  rw [all_filter_map] at this
  simpa using this
def spIsName : Sp := fun vs H Q _ => ∃ (z : Str), vs = [.str z] ∧ NameOk z ∧ ∀ H', Ex H H' → Q (.bl true) H'
theorem sc_is_name : FnScope ["thing", "sign"] ["thing"] (defScope s_is_name) := ⟨rfl, rfl, rfl, by decide +kernel, rfl, by decide +kernel, by decide +kernel⟩
theorem ok_is_name (F : FnT K "is_name" "is_name" s_is_name [] [] f fd) (T : Txt K mg C Dc) : FnOk P w K mg base CX0 1 f fd ["thing"] spIsName := by
  refine F.ok sc_is_name (fun vs H Q E ⟨_, h, _⟩ => by rw [h]; rfl) (fun cdv A outer s H vs Q E hr ⟨z, hv, hz, q⟩ => ⟨_, PSs.nox (pss_one (ps_ret (pe_and (pe_callB (call_isiK1 K rfl) (by rfl) T.fIsi boot_isinstance (pa_cons (pv 0) (pa_cons (pe_bltn (v := .ty "str") (by rfl) T.fStr boot_str rfl) pa_nil))) (pe_and (pe_chain op_le op_le pe_int (pe_callB call_len_str (by rfl) T.fLen boot_len (pa_cons (pv 0) pa_nil)) (pe_glob (v := .int 8) (by rfl) T.longest.choose_spec ⟨_, rfl⟩)) (pe_one (pe_callB (cr_allK K rfl rfl) (by rfl) T.fAll boot_all (pa_cons (pe_lc (own := [("sign", 1)]) rfl sc_is_name.nd (pi_str (pv 0)) (blkOk_by (by rfl)) (fun _ _ _ _ _ => (pg_name (i := 1) sc_is_name.nd rfl (by first | exact Or.inl rfl | exact Or.inr rfl))) (fun _ _ _ _ _ => pts_nil) (fun _ _ _ _ _ => (pe_cmpR op_in_sign (pv 1) (pe_glob (v := .str "abcdefghijklmnopqrstuvwxyz") (by rfl) T.letters.choose_spec ⟨_, rfl⟩) (by rfl)))) pa_nil))))))), ?_⟩)
  subst hv
  have h1 := ev_isi (K := K) (σ := start ["thing", "sign"] [.str z]) (H := H) (ev_var (i := 0) rfl) (.ty "str") (.str z) (kit_ty (r := true) (by decide +kernel))
  have h2 := ev_chain (σ := start ["thing", "sign"] [.str z]) (H := H) (ev_c (v := .int 1)) (ev_lenS (ev_var (i := 0) rfl) (by have := hz.hi; omega)) (rv_I0 (g := fun i j => .bl (decide (i ≤ j)))) (fun _ => ev_c (v := .int 8)) (fun _ => rv_I0 (g := fun i j => .bl (decide (i ≤ j))))
  refine s_ret (v := .bl true) (ev_is (ev_andV h1 (fun _ => ev_andV h2 (fun _ => ev_allW (as := z.cps.toList) (p := fun c => decide (c ∈ letS.cps.toList)) (ep_lcW (fun _ => true) (fun c => decide (c ∈ letS.cps.toList)) (kdV V.bl) (wk_str (z := z) (ev_var (i := 0) rfl)) ?_
    (fun c x H1 hc e1 hx => by
      subst hx
      exact ⟨rfl, Ex.refl _, fun H6 e6 Q q => q H6 (Ex.refl _), fun _ => ep_ev (ev_op (ev_var (i := 1) rfl) ev_c (fun H2 e2 Q q => ⟨c, letS, rfl, rfl, q H2 (Ex.refl _)⟩))⟩)
    gname_mono)))) ?_) q
  · have h8 := hz.hi
    have : z.cps.toList.length = z.length := by simp [Str.length]
    omega
  have e1 : decide ((1 : Int) ≤ (z.length : Int)) = true := decide_eq_true (by have := hz.lo; omega)
  have e2 : decide ((z.length : Int) ≤ 8) = true := decide_eq_true (by have := hz.hi; omega)
  have e3 : (z.cps.toList.all fun c => decide (c ∈ letS.cps.toList)) = true := List.all_eq_true.mpr fun c hc => decide_eq_true (hz.let_ c hc)
  rw [e1, e2, e3]
  rfl

theorem spv_is_name {z : Str} (h : NameOk z) : SpV spIsName [.str z] H (.bl true) := fun H1 e1 Q q E => ⟨z, rfl, h, q⟩
theorem spv_is_row {a : Addr} {xs : List V} (h : H a = some (.lst xs)) : SpV spIsRow [.ref a] H (.bl true) := fun H1 e1 Q q E => ⟨a, xs, rfl, e1 _ _ h, q⟩
theorem spv_is_mode {m : Str} {a : Addr} {ms : List Str} (h : SqL K H a (ms.map V.str) ∨ SqT K H a (ms.map V.str)) : SpV (spIsMode K) [.str m, .ref a] H (.bl (decide (m ∈ ms))) := fun H1 e1 Q q E => ⟨m, a, ms, rfl, h.imp (ex_l e1) (ex_t e1), q⟩
abbrev AisName (P : Program) (w : World) (K : PySem.W.Frag) (mg : Str → Option Value) (base : Heap) := GF P w K mg base "is_name" ["thing"] [] 1 spIsName
abbrev AisRow (P : Program) (w : World) (K : PySem.W.Frag) (mg : Str → Option Value) (base : Heap) := GF P w K mg base "is_row" ["thing"] [] 1 spIsRow
abbrev AisMode (P : Program) (w : World) (K : PySem.W.Frag) (mg : Str → Option Value) (base : Heap) := GF P w K mg base "is_mode" ["thing", "modes"] [] 1 (spIsMode K)
/-- a list of modes that a table takes -/
structure ModesOk (ms : List Str) : Prop where
  nd : ms.Nodup
  lo : 1 ≤ ms.length
  hi : ms.length ≤ 8
  ok : ∀ m ∈ ms, NameOk m
theorem et_yes : EvT tYes σ H true := fun H6 e6 Q q => q H6 (Ex.refl _)
def spAreModes : Sp := fun vs H Q _ => ∃ (a : Addr) (ms : List Str), vs = [.ref a] ∧ H a = some (.lst (ms.map V.str)) ∧ ModesOk ms ∧ ∀ H', Ex H H' → Q (.bl true) H'
theorem sc_are_modes : FnScope ["thing", "mode"] ["thing"] (defScope s_are_modes) := ⟨rfl, rfl, rfl, by decide +kernel, rfl, by decide +kernel, by decide +kernel⟩
theorem ok_are_modes (F : FnT K "are_modes" "are_modes" s_are_modes [] [] f fd) (T : Txt K mg C Dc) (G_is_row : AisRow P w K mg base) (G_is_name : AisName P w K mg base) : FnOk P w K mg base CX0 2 f fd ["thing"] spAreModes := by
  refine F.ok sc_are_modes (fun vs H Q E ⟨_, _, h, _⟩ => by rw [h]; rfl) (fun cdv A outer s H vs Q E hr ⟨a, ms, hv, ha, hm, q⟩ => ⟨_, PSs.nox (pss_cons (ps_if (PW.pt (pw_or (pt_not (pt_val (pe_callG G_is_row hr (by decide) (by rfl) (pa_cons (pv 0) pa_nil)))) (pw_or (pt_not (pt_chain op_le op_le pe_int (pe_callB (call_len_seqK K rfl) (by rfl) T.fLen boot_len (pa_cons (pv 0) pa_nil)) (pe_glob (v := .int 8) (by rfl) T.mostModes.choose_spec ⟨_, rfl⟩))) (pw_or1 (pt_not (pt_val (pe_callB (cr_allK K rfl rfl) (by rfl) T.fAll boot_all (pa_cons (pe_lc (own := [("mode", 1)]) rfl sc_are_modes.nd (pi_listK K rfl (pv 0)) (blkOk_by (by rfl)) (fun _ _ _ _ _ => (pg_name (i := 1) sc_are_modes.nd rfl (by first | exact Or.inl rfl | exact Or.inr rfl))) (fun _ _ _ _ _ => pts_nil) (fun _ _ _ _ _ => (pe_callG G_is_name hr (by decide) (by rfl) (pa_cons (pv 1) pa_nil)))) pa_nil)))))))) (pss_one (ps_ret pe_bl)) pss_nil)
    (pss_one (ps_ret (pe_cmpR op_eq (pe_lenSetU rfl (by rfl) T.fLen (by rfl) T.fSet (pv 0)) (pe_callB (call_len_seqK K rfl) (by rfl) T.fLen boot_len (pa_cons (pv 0) pa_nil)) (nomark _))))), ?_⟩)
  subst hv
  have e1 : decide ((1 : Int) ≤ ((ms.map V.str).length : Int)) = true := decide_eq_true (by have := hm.lo; rw [List.length_map]; omega)
  have e2 : decide (((ms.map V.str).length : Int) ≤ 8) = true := decide_eq_true (by have := hm.hi; rw [List.length_map]; omega)
  refine q_when (b := false) (et_is (et_or (a := false) (et_not (et_B (ev_call (sp := spIsRow) (dvs := []) (E := E0) (z := .bl true) (ea_cons (ev_var rfl) ea_nil) (spv_is_row ha)))) (fun _ => et_or (a := false) (b := false) (et_is (et_not (et_B (ev_chain (ev_c (v := .int 1)) (ev_lenL (ev_var (i := 0) rfl) (SqL.of ha)) (rv_I0 (g := fun i j => .bl (decide (i ≤ j)))) (fun _ => ev_c (v := .int 8)) (fun _ => rv_I0 (g := fun i j => .bl (decide (i ≤ j))))))) (by rw [e1, e2]; rfl)) (fun _ => et_is (et_not (et_B (ev_allW (as := ms) (p := fun _ => true) (ep_lcW (fun _ => true) (fun _ => true) (kdV V.bl) (wk_list (ka := kdV V.str) (ls_var (bs := ms) (ev_var (i := 0) rfl) ⟨a, _, rfl, SqL.of ha, kdV_of⟩)) (by have := hm.hi; omega)
    (fun m x H1 hmm e1 hx => by
      cases hx
      exact ⟨rfl, Ex.refl _, et_yes, fun _ => ep_ev (ev_call (sp := spIsName) (dvs := []) (E := E0) (ea_cons (ev_var (i := 1) rfl) ea_nil) (spv_is_name (hm.ok m hmm)))⟩)
    gname_mono)))) (by rw [List.all_eq_true.mpr (fun _ _ => rfl)]; rfl)))) rfl) (fun z => by cases z) (fun _ H1 x1 => ?_)
  refine s_ret (v := .bl true) (ev_is (ev_op (x := .int ms.length) (y := .int ms.length) (fun H2 x2 Q q => ?_) (ev_is (ev_lenL (ev_var (i := 0) rfl) (SqL.of (x1 _ _ ha))) (by rw [List.length_map])) (rv_eq rfl)) (by rw [decide_eq_true rfl])) (fun H2 x2 => q H2 (x1.trans x2))
  exact ev_var (i := 0) (v := .ref a) rfl H2 (Ex.refl _) _ fun H3 x3 => ⟨a, ms, rfl, SqL.of ((x1.trans (x2.trans x3)) _ _ ha), hm.nd, by have := hm.hi; omega, q H3 x3⟩
end
end HT
set_option Elab.async false
set_option linter.all false
set_option maxRecDepth 100000
set_option maxHeartbeats 4000000
/-! are_pairs, is_dict, need_table -/
namespace HT
open PySem PySem.Spec PyProof.Rows L2 Evl
/-- pairs of texts -/
def kdP : Kd (Str × Str) := kdT fun p => [.str p.1, .str p.2]
section
variable {P : Program} {w : World} {K : PySem.W.Frag} {mg : Str → Option Value} {base : Heap} {C Dc : Addr} {f : Addr} {fd : FuncData} {σ : L2.St} {H : Hp} {ta tb tc te td : TE} {tt : TT}
/-- over the keys of a dict that is locked meanwhile, at any later heap -/
theorem ep_lcKE {β : Type} {kvs : List (Key × V)} (p : Key × V → Bool) (gm : Key × V → β) (k : Kd β) {i : Nat} {vs : List Nat} {d : Addr} (hk : H d = some (.dK kvs)) (hz : kvs.length ≤ 40000)
    (hd : ∀ H1 od, Ex H H1 → Ev td σ (upd H1 d (.frz od (.dK kvs))) (.ref d))
    (turn : ∀ (H1 : Hp) (od : Obj) (b : Key × V), Ex H H1 → b ∈ kvs → ∀ (H2 : Hp), Ex (upd H1 d (.frz od (.dK kvs))) H2 → wipe ((wipe σ vs).set i (some (kV b.1))) vs = wipe σ vs ∧ EvT tt ((wipe σ vs).set i (some (kV b.1))) H2 (p b) ∧ (p b = true → EvP te ((wipe σ vs).set i (some (kV b.1))) H2 fun _ y H3 => k.R (gm b) y H3)) :
    EvP (tLockE (tLc (iKeys td) (gName i) tt te vs)) σ H (NewL k ((kvs.filter p).map gm)) := fun H1 e1 Q q =>
  ep_lcK p gm k (fun od => hd H1 od e1) (e1 _ _ hk) hz (fun od b hb H2 e2 => turn H1 od b e1 hb H2 e2) Q fun v H2 e2 hn => q v H2 e2 hn
/-- what stays under the lock -/
theorem lock_ne {H H1 H2 : Hp} {d b : Addr} {od : Obj} {u o : HO} (e : Ex H H1) (e2 : Ex (upd H1 d (.frz od u)) H2) (h : H b = some o) (n : b ≠ d) : H2 b = some o := e2 _ _ (by rw [upd_ne n]; exact e _ _ h)
theorem lock_at {H1 H2 : Hp} {d : Addr} {od : Obj} {u : HO} (e2 : Ex (upd H1 d (.frz od u)) H2) : H2 d = some (.frz od u) := e2 _ _ upd_same
theorem lock_l {H H1 H2 : Hp} {d a : Addr} {od : Obj} {kvs : List (Key × V)} {xs : List V} (hk : H d = some (.dK kvs)) (e : Ex H H1) (e2 : Ex (upd H1 d (.frz od (.dK kvs))) H2) (h : SqL K H a xs) : SqL K H2 a xs := by
  rcases h with (h | ⟨o, h⟩) | h
  · exact .inl (.inl (lock_ne e e2 h (ne_of h hk (by intro z; cases z))))
  · exact .inl (.inr ⟨o, lock_ne e e2 h (ne_of h hk (by intro z; cases z))⟩)
  · exact .inr h
theorem lock_t {H H1 H2 : Hp} {d a : Addr} {od : Obj} {kvs : List (Key × V)} {xs : List V} (hk : H d = some (.dK kvs)) (e : Ex H H1) (e2 : Ex (upd H1 d (.frz od (.dK kvs))) H2) (h : SqT K H a xs) : SqT K H2 a xs := by
  rcases h with (h | ⟨o, h⟩) | h
  · exact .inl (.inl (lock_ne e e2 h (ne_of h hk (by intro z; cases z))))
  · exact .inl (.inr ⟨o, lock_ne e e2 h (ne_of h hk (by intro z; cases z))⟩)
  · exact .inr h
theorem el_boolL {bs : List Bool} (h : EvP te σ H (NewL (kdV V.bl) bs)) : EvL te σ H (bs.map V.bl) := el_ep (h.imp fun H1 v H2 e1 e2 ⟨q, ys, h1, h2, h3, h4⟩ => ⟨q, h1, h2, by rw [← kdV_L h4]; exact h3⟩)
def spAreP (K : PySem.W.Frag) : Sp := fun vs H Q _ => ∃ (a m : Addr) (ps : List (Str × Str)) (xs : List V) (ms : List Str), vs = [.ref a, .ref m] ∧ H a = some (.lst xs) ∧ kdP.L ps xs H ∧ ps.length ≤ 64 ∧ SqL K H m (ms.map V.str) ∧ (∀ p ∈ ps, p.1 ∈ ms ∧ p.2 ∈ ms) ∧ ∀ H', Ex H H' → Q (.bl true) H'
theorem sc_are_pairs : FnScope ["thing", "modes", "pairs", "pair", "mode"] ["thing", "modes"] (defScope s_are_pairs) := ⟨rfl, rfl, rfl, by decide +kernel, rfl, by decide +kernel, by decide +kernel⟩
theorem ok_are_pairs (F : FnT K "are_pairs" "are_pairs" s_are_pairs [] [] f fd) (T : Txt K mg C Dc) (G_is_row : AisRow P w K mg base) (G_is_mode : AisMode P w K mg base) : FnOk P w K mg base CX0 2 f fd ["thing", "modes"] (spAreP K) := by
  refine F.ok sc_are_pairs (fun vs H Q E ⟨_, _, _, _, _, h, _⟩ => by rw [h]; rfl) (fun cdv A outer s H vs Q E hr ⟨a, m, ps, xs, ms, hv, ha, hps, hl, hm, hin, q⟩ => ⟨_, PSs.nox (pss_cons (ps_if (PW.pt (pw_or (pt_not (pt_val (pe_callG G_is_row hr (by decide) (by rfl) (pa_cons (pv 0) pa_nil)))) (pw_or1 (pt_cmpR op_gt (pe_callB (call_len_seqK K rfl) (by rfl) T.fLen boot_len (pa_cons (pv 0) pa_nil)) (pe_glob (v := .int 64) (by rfl) T.mostPairs.choose_spec ⟨_, rfl⟩) (nomark _))))) (pss_one (ps_ret pe_bl)) pss_nil)
    (pss_cons (ps_setLc (i := 2) (own := [("pair", 3)]) rfl sc_are_pairs.nd rfl rfl (sw_true rfl rfl rfl (by rfl)) (pi_listK K rfl (pv 0)) (blkOk_by (by rfl)) (fun _ _ _ _ _ => (pg_name (i := 3) sc_are_pairs.nd rfl (by first | exact Or.inl rfl | exact Or.inr rfl))) (fun _ _ _ _ _ => pts_nil) (fun _ _ _ _ _ => (pe_and (pe_callB (call_isiK1 K rfl) (by rfl) T.fIsi boot_isinstance (pa_cons (pv 3) (pa_cons (pe_bltn (v := .ty "tuple") (by rfl) T.fTuple boot_tuple rfl) pa_nil))) (pe_one (pe_cmpR op_eq (pe_callB (call_len_seqK K rfl) (by rfl) T.fLen boot_len (pa_cons (pv 3) pa_nil)) pe_int (nomark _))))))
    (pss_one (ps_ret (pe_and (pe_callB (cr_allK K rfl rfl) (by rfl) T.fAll boot_all (pa_cons (pv 2) pa_nil)) (pe_one (pe_callB (cr_allK K rfl rfl) (by rfl) T.fAll boot_all (pa_cons (pe_lc2 (vs1 := [4]) (own := [("pair", 3), ("mode", 4)]) rfl sc_are_pairs.nd (pi_listK K rfl (pv 0)) (blkOk_by (by rfl)) (by decide) (fun _ _ _ _ _ => (pg_name (i := 3) sc_are_pairs.nd rfl (by first | exact Or.inl rfl | exact Or.inr rfl))) (fun _ _ _ _ _ => pts_nil) (fun _ _ _ _ _ => (pi_tupK K rfl (pv 3))) (fun _ _ _ _ _ => (pg_name (i := 4) sc_are_pairs.nd rfl (by first | exact Or.inl rfl | exact Or.inr rfl))) (fun _ _ _ _ _ => pts_nil) (fun _ _ _ _ _ => (pe_callG G_is_mode hr (by decide) (by rfl) (pa_cons (pv 4) (pa_cons (pv 1) pa_nil))))) pa_nil)))))))), ?_⟩)
  subst hv
  have hxl : xs.length = ps.length := (pair_len hps).symm
  refine q_when (b := false) (et_is (et_or (a := false) (et_not (et_B (ev_call (sp := spIsRow) (dvs := []) (E := E0) (z := .bl true) (ea_cons (ev_var rfl) ea_nil) (spv_is_row ha)))) (fun _ => et_test (b := false) (ev_is (ev_op (ev_lenL (ev_var (i := 0) rfl) (SqL.of ha)) (ev_c (v := .int 64)) (rv_I0 (g := fun i j => .bl (decide (j < i))))) (by congr 1; exact decide_eq_false (by omega))))) rfl) (fun z => by cases z) (fun _ H1 x1 => ?_)
  have hps1 := kdP.L_ex x1 hps
  have hN := ep_lcW (σ := start ["thing", "modes", "pairs", "pair", "mode"] [.ref a, .ref m]) (H := H1) (t := tYes) (te := tAndV (tCB (rIsi K) (tCons (tVar 3) (tCons (tC (.ty "tuple")) tNil))) (tOp rEq (tCB (rLenQ K) (tCons (tVar 3) tNil)) (tC (.int 2)))) (g := gName 3) (vs := [3]) (wi := iList K (tVar 0)) (fun _ => true) (fun _ => true) (kdV V.bl) (wk_list (ka := kdP) (ls_var (bs := ps) (ev_var (i := 0) (v := .ref a) rfl) ⟨a, xs, rfl, SqL.of (x1 _ _ ha), hps1⟩)) (by omega)
    (fun p x H2 hp e2 ⟨t, hx, ht⟩ => by
      subst hx
      refine ⟨rfl, Ex.refl _, et_yes, fun _ => ep_ev (ev_is (ev_andV (a := true) (b := true) (ev_isi (K := K) (ev_var (i := 3) rfl) (.ty "tuple") (.tup ht) (kit_ty (r := true) (by decide +kernel))) (fun _ => ev_is (ev_op (ev_lenT (ev_var (i := 3) rfl) (SqT.of ht)) (ev_c (v := .int 2)) (rv_eq rfl)) rfl)) rfl)⟩)
    gname_mono
  refine q_asgL (el_bools hN) fun pl H2 hp2 x2 h2 => ?_
  have x02 := x1.trans x2
  have hps2 := kdP.L_ex x2 hps1
  have hm2 := ex_l x02 hm
  refine s_ret (v := .bl true) (ev_is (ev_andV (a := true) (b := true) (ev_is (ev_allA (K := K) (ev_var (i := 2) rfl) (SqL.of h2)) (by rw [all_filter_map]; congr 1; exact List.all_eq_true.mpr fun _ _ => rfl)) (fun _ => ev_is (ev_all (K := K) (el_boolL (ep_lc2W (as := ps) (RB := fun p => (kdV V.str).R) (fun p => [p.1, p.2]) (fun p x => decide (x ∈ ms)) (kdV V.bl) (wk_list (ka := kdP) (ls_var (bs := ps) (ev_var (i := 0) (v := .ref a) rfl) ⟨a, xs, rfl, SqL.of (x02 _ _ ha), hps2⟩)) (by omega) (fun p _ => by show 2 ≤ 100; decide)
    (fun p x H3 hp e3 hx => by
      obtain ⟨t, rfl, ht⟩ := hx
      refine ⟨rfl, Ex.refl _, wi_tup (K := K) (ev_var (i := 3) rfl) ht (.cons rfl (.cons rfl .nil)), fun b y H4 hb e4 l4 hy => ?_⟩
      cases hy
      exact ⟨rfl, Ex.refl _, ep_ev (ev_call (sp := spIsMode K) (dvs := []) (E := E0) (ea_cons (ev_var (i := 4) rfl) (ea_cons (ev_var (i := 1) (v := .ref m) rfl) ea_nil)) (spv_is_mode (ms := ms) (.inl (ex_l e4 hm2))))⟩)
    gname_mono gname_mono))) ?_)) rfl) fun H3 x3 => q H3 (x02.trans x3)
  congr 1
  refine List.all_eq_true.mpr fun b hb => ?_
  obtain ⟨p, hp, hb2⟩ := List.mem_flatMap.mp hb
  obtain ⟨x, hx, rfl⟩ := List.mem_map.mp hb2
  have := hin p hp
  simp only [List.mem_cons, List.not_mem_nil, or_false] at hx
  refine decide_eq_true ?_
  rcases hx with rfl | rfl
  · exact this.1
  · exact this.2
/-- a dict of texts, told by pairs -/
def kvS (l : List (Str × Str)) : List (Key × V) := l.map fun p => (.inr p.1, .str p.2)
theorem kvS_mem {l : List (Str × Str)} {b : Key × V} (h : b ∈ kvS l) : ∃ p ∈ l, b = (.inr p.1, .str p.2) := by
  obtain ⟨p, hp, e⟩ := List.mem_map.mp h
  exact ⟨p, hp, e.symm⟩
theorem kvS_get (l : List (Str × Str)) (m : Str) : valV (kvS l) (.inr m) = (aget l m).map V.str := by
  induction l with
  | nil => rfl
  | cons p l ih =>
    unfold aget
    by_cases q : p.1 = m
    · rw [if_pos q, show kvS (p :: l) = (Sum.inr p.1, V.str p.2) :: kvS l from rfl, valV_pos (by rw [q])]; rfl
    · rw [if_neg q, show kvS (p :: l) = (Sum.inr p.1, V.str p.2) :: kvS l from rfl, valV_neg (fun z => q (by injection z))]; exact ih
def spIsDict (K : PySem.W.Frag) : Sp := fun vs H Q _ => ∃ (d m g : Addr) (l : List (Str × Str)) (ms gs : List Str), vs = [.ref d, .ref m, .ref g] ∧ H d = some (.dK (kvS l)) ∧ (l.map (·.1)).Nodup ∧ l.length ≤ 100 ∧ SqL K H m (ms.map V.str) ∧ (SqL K H g (gs.map V.str) ∨ SqT K H g (gs.map V.str)) ∧ (∀ p ∈ l, p.1 ∈ ms ∧ p.2 ∈ gs) ∧ ∀ H', Ex H H' → Q (.bl true) H'
theorem sc_is_dict : FnScope ["thing", "modes", "goals", "mode"] ["thing", "modes", "goals"] (defScope s_is_dict) := ⟨rfl, rfl, rfl, by decide +kernel, rfl, by decide +kernel, by decide +kernel⟩
theorem ok_is_dict (F : FnT K "is_dict" "is_dict" s_is_dict [] [] f fd) (T : Txt K mg C Dc) (G_is_mode : AisMode P w K mg base) : FnOk P w K mg base CX0 2 f fd ["thing", "modes", "goals"] (spIsDict K) := by
  refine F.ok sc_is_dict (fun vs H Q E ⟨_, _, _, _, _, _, h, _⟩ => by rw [h]; rfl) (fun cdv A outer s H vs Q E hr ⟨d, m, g, l, ms, gs, hv, hd, hnd, hl, hm, hg, hin, q⟩ => ⟨_, PSs.nox (pss_cons (ps_if (pt_not (pt_val (pe_callB (call_isiK1 K rfl) (by rfl) T.fIsi boot_isinstance (pa_cons (pv 0) (pa_cons (pe_bltn (v := .ty "dict") (by rfl) T.fDict boot_dict rfl) pa_nil))))) (pss_one (ps_ret pe_bl)) pss_nil)
    (pss_one (ps_ret (pe_callB (cr_allK K rfl rfl) (by rfl) T.fAll boot_all (pa_cons (pe_lock (pe_lc (own := [("mode", 3)]) rfl sc_is_dict.nd (pi_keys (pv 0)) (blkOk_by (by rfl)) (fun _ _ _ _ _ => (pg_name (i := 3) sc_is_dict.nd rfl (by first | exact Or.inl rfl | exact Or.inr rfl))) (fun _ _ _ _ _ => pts_nil) (fun _ _ _ _ _ => (pe_and (pe_callG G_is_mode hr (by decide) (by rfl) (pa_cons (pv 3) (pa_cons (pv 1) pa_nil))) (pe_one (pe_callG G_is_mode hr (by decide) (by rfl) (pa_cons (pe_dget (hu_of hr) (pv 0) (pv 3) (fun _ _ => rfl)) (pa_cons (pv 2) pa_nil)))))))) pa_nil))))), ?_⟩)
  subst hv
  have hkl : (kvS l).length = l.length := List.length_map ..
  refine q_when (b := false) (et_is (et_not (et_B (ev_isi (K := K) (ev_var (i := 0) rfl) (.ty "dict") (.dK hd) (kit_ty (r := true) (by decide +kernel))))) rfl) (fun z => by cases z) (fun _ H1 x1 => ?_)
  have hd1 := x1 _ _ hd
  refine s_ret (v := .bl true) (ev_is (ev_all (K := K) (el_boolL (ep_lcKE (kvs := kvS l) (d := d) (fun _ => true) (fun _ => true) (kdV V.bl) hd1 (by rw [hkl]; omega) (fun H2 od e2 => ev_var (i := 0) rfl) (fun H2 od b e2 hb H3 e3 => ⟨rfl, et_yes, fun _ => ep_ev ?_⟩)))) ?_) fun H2 x2 => q H2 (x1.trans x2)
  · obtain ⟨p, hp, rfl⟩ := kvS_mem hb
    have hm3 := lock_l hd1 e2 e3 (ex_l x1 hm)
    have hg3 : SqL K H3 g (gs.map V.str) ∨ SqT K H3 g (gs.map V.str) := hg.imp (fun h => lock_l hd1 e2 e3 (ex_l x1 h)) (fun h => lock_t hd1 e2 e3 (ex_t x1 h))
    have hp2 := hin p hp
    refine ev_is (ev_andV (a := true) (b := true) (ev_is (ev_call (sp := spIsMode K) (dvs := []) (E := E0) (ea_cons (ev_var (i := 3) rfl) (ea_cons (ev_var (i := 1) (v := .ref m) rfl) ea_nil)) (spv_is_mode (m := p.1) (ms := ms) (.inl hm3))) (by rw [decide_eq_true hp2.1])) (fun _ =>
      ev_is (ev_call (sp := spIsMode K) (dvs := []) (E := E0) (ea_cons (ev_dget (ev_var (i := 0) (v := .ref d) rfl) (ev_var (i := 3) (v := .str p.1) rfl) (v := .str p.2) ?_) (ea_cons (ev_var (i := 2) (v := .ref g) rfl) ea_nil)) (spv_is_mode (m := p.2) (ms := gs) hg3)) (by rw [decide_eq_true hp2.2]))) rfl
    have : some (V.str p.2) = valV (kvS l) (.inr p.1) := (val_nodup (kvs := kvS l) (by
      have : (kvS l).map (·.1) = (l.map (·.1)).map Sum.inr := by unfold kvS; rw [List.map_map, List.map_map]; rfl
      rw [this]
      exact List.Pairwise.map _ (fun a b h z => h (by injection z)) hnd) _ hb).symm
    rw [this]
    exact dget_k (k := Sum.inr p.1) (.inr ⟨od, lock_at e3⟩)
  · congr 1
    refine List.all_eq_true.mpr fun b hb => ?_
    obtain ⟨_, _, rfl⟩ := List.mem_map.mp hb
    rfl
def spNeedT (C : Addr) : Sp := fun vs H Q _ => ∃ (t dx : Addr) (fs : List (Str × V)), vs = [.ref t] ∧ H t = some (.ins C dx fs) ∧ ∀ H', Ex H H' → Q .non H'
theorem sc_need_table : FnScope ["thing"] ["thing"] (defScope s_need_table) := ⟨rfl, rfl, rfl, by decide +kernel, rfl, by decide +kernel, by decide +kernel⟩
theorem ok_need_table (F : FnT K "need_table" "need_table" s_need_table [] [] f fd) (T : Txt K mg C Dc) : FnOk P w K mg base CX0 1 f fd ["thing"] (spNeedT C) := by
  refine F.ok sc_need_table (fun vs H Q E ⟨_, _, _, h, _⟩ => by rw [h]; rfl) (fun cdv A outer s H vs Q E hr ⟨t, dx, fs, hv, ht, q⟩ => ⟨_, PSs.nox (pss_one (ps_if (pt_not (pt_val (pe_callB (call_isiK1 K rfl) (by rfl) T.fIsi boot_isinstance (pa_cons (pv 0) (pa_cons (pe_glob (v := .ref C) (by rfl) T.mgC rfl) pa_nil))))) (pss_one ps_never) pss_nil)), ?_⟩)
  subst hv
  refine s_when (b := false) (et_is (et_not (et_B (ev_isi (K := K) (ev_var (i := 0) rfl) (.own C) (T.tyC H t dx fs ht) (b := true) ?_))) rfl) (fun z => by cases z) (fun _ H1 e1 => q H1 e1)
  unfold PySem.W.kitOne
  rw [if_pos (by simp)]
end
end HT
set_option Elab.async false
set_option linter.all false
set_option maxRecDepth 100000
set_option maxHeartbeats 4000000
/-! own layer: dict comprehensions; attributes set; slots that loops leave -/
namespace HT
open PySem PySem.Spec PyProof.Rows L2 Evl
theorem putK_new {κ : Type} [DecidableEq κ] {kvs : List (κ × V)} {k : κ} {v : V} (h : k ∉ kvs.map (·.1)) : putK kvs k v = kvs ++ [(k, v)] := by
  unfold putK
  rw [if_neg]
  intro z
  obtain ⟨p, hp, e⟩ := List.any_eq_true.mp z
  exact h (List.mem_map.mpr ⟨p, hp, by simpa using e⟩)
/-! ### slots -/
def Keeps (js : List Nat) (σ σ' : L2.St) : Prop := σ'.length = σ.length ∧ ∀ j, j ∉ js → σ'[j]? = σ[j]?
theorem Keeps.refl {js : List Nat} {σ : L2.St} : Keeps js σ σ := ⟨rfl, fun _ _ => rfl⟩
theorem Keeps.set {js : List Nat} {σ σ' : L2.St} {j : Nat} {o : Option V} (h : Keeps js σ σ') (hj : j ∈ js) : Keeps js σ (σ'.set j o) := by
  refine ⟨by rw [List.length_set]; exact h.1, fun i hi => ?_⟩
  rw [List.getElem?_set_ne (fun z => hi (by rw [← z]; exact hj))]
  exact h.2 i hi
theorem Keeps.get {js : List Nat} {σ σ' : L2.St} {i : Nat} {v : V} (h : Keeps js σ σ') (hv : σ[i]? = some (some v)) (n : i ∉ js := by decide) : σ'[i]? = some (some v) := by rw [h.2 i n]; exact hv
theorem wipe_at {σ : L2.St} {n : Nat} : ∀ {vs : List Nat}, (wipe σ vs)[n]? = if n ∈ vs then (if n < σ.length then some none else none) else σ[n]?
  | [] => by simp [wipe]
  | v :: vs => by
    unfold wipe
    by_cases h : v = n
    · subst h
      by_cases hl : v < σ.length
      · rw [List.getElem?_set_self (by rw [wipe_length]; exact hl)]; simp [hl]
      · rw [List.getElem?_eq_none (by rw [List.length_set, wipe_length]; omega)]; simp [hl]
    · rw [List.getElem?_set_ne h, wipe_at]
      have : (n ∈ v :: vs) ↔ n ∈ vs := by
        rw [List.mem_cons]
        exact ⟨fun z => z.resolve_left (fun q => h q.symm), .inr⟩
      simp [this]
theorem wipe_set {σ : L2.St} {vs : List Nat} {j : Nat} {o : Option V} (hj : j ∈ vs) : wipe (σ.set j o) vs = wipe σ vs := List.ext_getElem? fun n => by
  rw [wipe_at, wipe_at, List.length_set]
  by_cases h : n ∈ vs
  · rw [if_pos h, if_pos h]
  · rw [if_neg h, if_neg h, List.getElem?_set_ne (fun z => h (by rw [← z]; exact hj))]
theorem wipe_idem {σ : L2.St} {vs : List Nat} : wipe (wipe σ vs) vs = wipe σ vs := List.ext_getElem? fun n => by
  rw [wipe_at, wipe_at, wipe_length]
  by_cases h : n ∈ vs
  · rw [if_pos h, if_pos h]
  · rw [if_neg h, if_neg h]
theorem wipe_turn {σ : L2.St} {vs : List Nat} {j : Nat} {o : Option V} (hj : j ∈ vs := by decide) : wipe ((wipe σ vs).set j o) vs = wipe σ vs := (wipe_set hj).trans wipe_idem
theorem wipe_turn2 {σ : L2.St} {vs : List Nat} {i j : Nat} {o o' : Option V} (hi : i ∈ vs := by decide) (hj : j ∈ vs := by decide) : wipe (((wipe σ vs).set i o).set j o') vs = wipe σ vs := ((wipe_set hj).trans (wipe_set hi)).trans wipe_idem
theorem Keeps.nil {σ σ' : L2.St} (h : Keeps [] σ σ') : σ' = σ := List.ext_getElem? fun i => h.2 i (by simp)
theorem Keeps.open_ {j : Nat} {js : List Nat} {σ σ' : L2.St} (h : Keeps (j :: js) σ σ') : ∃ o, Keeps js (σ.set j o) σ' := by
  refine ⟨(σ'[j]?).getD none, by rw [List.length_set]; exact h.1, fun n hn => ?_⟩
  by_cases q : n = j
  · subst q
    by_cases hl : n < σ'.length
    · rw [List.getElem?_set_self (by rw [← h.1]; exact hl), List.getElem?_eq_getElem hl]
      rfl
    · rw [List.getElem?_eq_none (by omega), List.getElem?_eq_none (by rw [List.length_set, ← h.1]; omega)]
  · rw [List.getElem?_set_ne (Ne.symm q)]
    exact h.2 n (by simp [q, hn])
theorem Keeps.one {j : Nat} {σ σ' : L2.St} (h : Keeps [j] σ σ') : ∃ o, σ' = σ.set j o := by
  obtain ⟨o, h⟩ := h.open_
  exact ⟨o, h.nil⟩
theorem Keeps.two {i j : Nat} {σ σ' : L2.St} (h : Keeps [i, j] σ σ') : ∃ o1 o2, σ' = (σ.set i o1).set j o2 := by
  obtain ⟨o, h⟩ := h.open_
  obtain ⟨o2, e⟩ := h.one
  exact ⟨o, o2, e⟩
theorem Keeps.three {i j k : Nat} {σ σ' : L2.St} (h : Keeps [i, j, k] σ σ') : ∃ o1 o2 o3, σ' = ((σ.set i o1).set j o2).set k o3 := by
  obtain ⟨o, h⟩ := h.open_
  obtain ⟨o2, o3, e⟩ := h.two
  exact ⟨o, o2, o3, e⟩
theorem Keeps.four {i j k m : Nat} {σ σ' : L2.St} (h : Keeps [i, j, k, m] σ σ') : ∃ o1 o2 o3 o4, σ' = (((σ.set i o1).set j o2).set k o3).set m o4 := by
  obtain ⟨o, h⟩ := h.open_
  obtain ⟨o2, o3, o4, e⟩ := h.three
  exact ⟨o, o2, o3, o4, e⟩
theorem slot_set {σ : L2.St} {j : Nat} {o : Option V} (h : j < σ.length) : (σ.set j o)[j]? = some o := by rw [List.getElem?_set_self h]
theorem slot_ne {σ : L2.St} {i j : Nat} {o : Option V} {v : V} (h : σ[i]? = some (some v)) (n : j ≠ i := by decide) : (σ.set j o)[i]? = some (some v) := by rw [List.getElem?_set_ne n]; exact h
section
variable {α : Type} {K : PySem.W.Frag} {σ : L2.St} {H : Hp} {t : TT} {te tl ta tk tv : TE} {D : Ends} {tz : TS}
/-! ### attributes -/
theorem q_fldP {P : Hp → V → Hp → Prop} {a C dx : Addr} {fs : List (Str × V)} {f : Str} (h : EvP tv σ H P) (ho : Ev ta σ H (.ref a)) (hH : H a = some (.ins C dx fs)) (hc : Cls K C) (hn : NoAttr K C f) (hl : fs.length < 1000)
    (k : ∀ v H1 H2, Ex H H1 → Ex H1 H2 → P H v H1 → tz D σ (upd H2 a (.ins C dx (putF f v fs)))) : tSeq (sFld K ta tv f) tz D σ H := h H (Ex.refl _) _ fun v H1 e1 p => ho H1 e1 _ fun H2 e2 => ⟨a, C, dx, fs, rfl, (e1.trans e2) _ _ hH, hc, hn, hl, k v H1 H2 e1 e2 p⟩
theorem s_fldP {P : Hp → V → Hp → Prop} {a C dx : Addr} {fs : List (Str × V)} {f : Str} (h : EvP tv σ H P) (ho : Ev ta σ H (.ref a)) (hH : H a = some (.ins C dx fs)) (hc : Cls K C) (hn : NoAttr K C f) (hl : fs.length < 1000)
    (k : ∀ v H1 H2, Ex H H1 → Ex H1 H2 → P H v H1 → D.nx σ (upd H2 a (.ins C dx (putF f v fs)))) : sFld K ta tv f D σ H := h H (Ex.refl _) _ fun v H1 e1 p => ho H1 e1 _ fun H2 e2 => ⟨a, C, dx, fs, rfl, (e1.trans e2) _ _ hH, hc, hn, hl, k v H1 H2 e1 e2 p⟩
theorem q_fld {v : V} {a C dx : Addr} {fs : List (Str × V)} {f : Str} (h : Ev tv σ H v) (ho : Ev ta σ H (.ref a)) (hH : H a = some (.ins C dx fs)) (hc : Cls K C) (hn : NoAttr K C f) (hl : fs.length < 1000)
    (k : ∀ H1, Ex H H1 → tz D σ (upd H1 a (.ins C dx (putF f v fs)))) : tSeq (sFld K ta tv f) tz D σ H := q_fldP (ep_ev h) ho hH hc hn hl fun w H1 H2 e1 e2 p => by subst p; exact k H2 (e1.trans e2)
theorem s_fld {v : V} {a C dx : Addr} {fs : List (Str × V)} {f : Str} (h : Ev tv σ H v) (ho : Ev ta σ H (.ref a)) (hH : H a = some (.ins C dx fs)) (hc : Cls K C) (hn : NoAttr K C f) (hl : fs.length < 1000)
    (k : ∀ H1, Ex H H1 → D.nx σ (upd H1 a (.ins C dx (putF f v fs)))) : sFld K ta tv f D σ H := s_fldP (ep_ev h) ho hH hc hn hl fun w H1 H2 e1 e2 p => by subst p; exact k H2 (e1.trans e2)
/-- a new object of this look -/
def NewO (o : HO) : Hp → V → Hp → Prop := fun H1 v H2 => ∃ p, v = .ref p ∧ H1 p = none ∧ H2 p = some o
theorem ep_dnewK : EvP tDNewK σ H (NewO (.dK [])) := fun H1 e1 Q q p hp => q _ _ (Ex.new hp) ⟨p, rfl, hp, upd_same⟩
theorem ep_dnewT : EvP tDNewT σ H (NewO (.dT [])) := fun H1 e1 Q q p hp => q _ _ (Ex.new hp) ⟨p, rfl, hp, upd_same⟩
theorem ep_newL {xs : List V} (h : EvL te σ H xs) : EvP te σ H (NewO (.lst xs)) := fun H1 e1 Q q => h H1 e1 Q fun p H2 hn e2 hp => q _ H2 e2 ⟨p, rfl, hn, hp⟩
theorem ep_newU {xs : List V} (h : EvU te σ H xs) : EvP te σ H (NewO (.tup xs)) := fun H1 e1 Q q => h H1 e1 Q fun p H2 hn e2 hp => q _ H2 e2 ⟨p, rfl, hn, hp⟩
/-! ### dict comprehensions -/
def DcP (as : List α) (p : α → Bool) (kf : α → Key) (vf : α → V) (H : Hp) (Dl : Addr) (i : Nat) (H' : Hp) : Prop :=
  H Dl = none ∧ Ex H H' ∧ H' Dl = some (.dK (((as.take i).filter p).map fun a => (kf a, vf a)))
theorem ep_dcW {as : List α} {RA : α → V → Hp → Prop} {wi : TI} (p : α → Bool) (kf : α → Key) (vf : α → V) {g : TG} {vs : List Nat} (h : WalkP wi σ H as RA) (hz : as.length ≤ 40000) (nd : (as.map kf).Nodup)
    (turn : ∀ (b : α) (x : V) H1, b ∈ as → Ex H H1 → RA b x H1 → g x (wipe σ vs) H1 fun σ2 H2 => wipe σ2 vs = wipe σ vs ∧ Ex H1 H2 ∧ EvT t σ2 H2 (p b) ∧ (p b = true → Ev tk σ2 H2 (kV (kf b)) ∧ Ev tv σ2 H2 (vf b)))
    (gmono : ∀ x σ1 H1 (Q Q' : L2.St → Hp → Prop), (∀ σ2 H2, Q σ2 H2 → Q' σ2 H2) → g x σ1 H1 Q → g x σ1 H1 Q') :
    EvP (tDc wi g t tk tv vs) σ H (NewO (.dK ((as.filter p).map fun a => (kf a, vf a)))) := fun H0 e0 Q q => h H0 e0 _ fun J H1 G Y e1 w hG hY Dl hD => by
  refine ⟨fun i m H => m = as.length - i ∧ i ≤ as.length ∧ DcP as p kf vf H1 Dl i H, ⟨as.length, by simp, Nat.zero_le _, hD, Ex.new hD, upd_same⟩, ?_⟩
  rintro i m H2 ⟨rfl, hi, c⟩
  by_cases hlt : i < as.length
  · refine .inr ⟨w.goes i H2 hlt (hG _ c.2.1), DcP as p kf vf H1 Dl (i + 1), fun H' p' => ⟨as.length - (i + 1), by omega, rfl, hlt, p'⟩, fun x H3 y => ?_⟩
    obtain ⟨b, hb, e3, hR⟩ := hY i x H2 H3 c.2.1 (w.yields i H2 x H3 hlt (hG _ c.2.1) y)
    refine gmono _ _ _ _ _ ?_ (turn b x H3 (List.mem_of_getElem? hb) ((e0.trans e1).trans (c.2.1.trans e3)) hR)
    rintro σ2 H4 ⟨hw, e4, ht, he⟩
    refine ⟨hw, ?_⟩
    obtain ⟨h1, h2, h3⟩ := c
    refine ht H4 (Ex.refl _) _ fun H5 e5 => ?_
    have e25 := (e3.trans e4).trans e5
    cases hf : p b with
    | false =>
      show DcP as p kf vf H1 Dl (i + 1) H5
      refine ⟨h1, h2.trans e25, ?_⟩
      rw [take_succ_of hb, List.filter_append, List.map_append]
      have e1 : ([b].filter p).map (fun a => (kf a, vf a)) = [] := by simp [hf]
      rw [e1, List.append_nil]
      exact e25 _ _ h3
    | true =>
      show tk σ2 H5 _
      obtain ⟨hk, hv⟩ := he hf
      refine hk H5 e5 _ fun H6 e6 => hv H6 (e5.trans e6) _ fun H7 e7 => ?_
      have e27 := (e25.trans e6).trans e7
      have hlen : ((((as.take i).filter p).map fun a => (kf a, vf a)) : List (Key × V)).length ≤ as.length := by
        rw [List.length_map]
        exact Nat.le_trans (List.length_filter_le _ _) (by rw [List.length_take]; omega)
      refine ⟨_, kf b, rfl, e27 _ _ h3, sz_lt (by omega), h1, Ex.mut (h2.trans e27) h1, ?_⟩
      rw [upd_same, putK_new, take_succ_of hb, List.filter_append, List.map_append]
      · have e1 : ([b].filter p).map (fun a => (kf a, vf a)) = [(kf b, vf b)] := by simp [hf]
        rw [e1]
      · rw [List.map_map]
        intro hm
        obtain ⟨a, ha, e⟩ := List.mem_map.mp hm
        have ha2 := (List.mem_filter.mp ha).1
        obtain ⟨j, hj⟩ := List.mem_iff_getElem?.mp ha2
        have hji : j < i := by
          have := (List.getElem?_eq_some_iff.mp hj).1
          rw [List.length_take] at this
          omega
        rw [List.getElem?_take_of_lt hji] at hj
        have h5 : (as.map kf)[j]? = some (kf b) := by
          rw [List.getElem?_map, hj]
          exact congrArg some e
        have h6 : (as.map kf)[i]? = some (kf b) := by rw [List.getElem?_map, hb]; rfl
        have := L2.nd_ix nd h5 h6
        omega
  · have e : i = as.length := by omega
    subst e
    refine .inl ⟨w.stops H2 (hG _ c.2.1), ?_⟩
    obtain ⟨h1, h2, h3⟩ := c
    rw [List.take_length] at h3
    exact q _ _ (e1.trans h2) ⟨Dl, rfl, fresh_back e1 h1, h3⟩
end
end HT
set_option Elab.async false
set_option linter.all false
set_option maxRecDepth 100000
set_option maxHeartbeats 4000000
/-! Table.__init__ -/
namespace HT
open PySem PySem.Spec PyProof.Rows L2 Evl
/-- data that a table takes -/
structure DatOk (D : TD Str) : Prop where
  modes : ModesOk D.order
  few : D.pairs.length ≤ 64
  pin : ∀ p ∈ D.pairs, p.1 ∈ D.order ∧ p.2 ∈ D.order
  gnd : (D.gives.map (·.1)).Nodup
  gfew : D.gives.length ≤ 100
  gin : ∀ p ∈ D.gives, p.1 ∈ D.order ∧ (p.2 = 1 ∨ p.2 = 2)
  und : (D.above.map (·.1)).Nodup
  ufew : D.above.length ≤ 100
  uin : ∀ p ∈ D.above, p.1 ∈ D.order ∧ p.2 ∈ D.order
theorem DatOk.wf {D : TD Str} (h : DatOk D) : WFD D where
  nd := h.modes.nd
  few := h.modes.hi
  up := fun m hm => by
    unfold TD.up
    cases e : aget D.above m with
    | none => exact hm
    | some v => exact (h.uin _ (aget_mem e)).2
  rk := fun m => by
    unfold TD.rank
    cases e : aget D.gives m with
    | none => exact Nat.zero_le _
    | some v =>
      have := (h.gin _ (aget_mem e)).2
      show v ≤ 2
      simp only at this
      omega
  ok := fun m hm => (h.modes.ok m hm).ok
theorem filt_true {α : Type} (l : List α) : (l.filter fun _ => true) = l := List.filter_eq_self.mpr fun _ _ => rfl
def givW (D : TD Str) : List (Str × Str) := D.gives.map fun p => (p.1, rankW p.2)
theorem givW_get (D : TD Str) (m : Str) : (aget (givW D) m).getD "" = rankW (D.rank m) := by
  unfold givW TD.rank
  rw [show (D.gives.map fun p => (p.1, rankW p.2)) = D.gives.map fun p => (id p.1, rankW p.2) from rfl, show aget _ m = aget (D.gives.map fun p => (id p.1, rankW p.2)) (id m) from rfl, aget_map id rankW (fun _ _ h => h)]
  cases aget D.gives m <;> rfl
/-- the parts of the data in the heap -/
structure DatA (H : Hp) (D : TD Str) (a b g u : Addr) (xs : List V) : Prop where
  ord : H a = some (.lst (D.order.map V.str))
  prs : H b = some (.lst xs)
  prk : kdP.L D.pairs xs H
  giv : H g = some (.dK (kvS (givW D)))
  abv : H u = some (.dK (kvS D.above))
theorem DatA.ex {H H' : Hp} {D : TD Str} {a b g u : Addr} {xs : List V} (h : DatA H D a b g u xs) (e : Ex H H') : DatA H' D a b g u xs := ⟨e _ _ h.ord, e _ _ h.prs, kdP.L_ex e h.prk, e _ _ h.giv, e _ _ h.abv⟩
theorem DatA.but {H H' : Hp} {D : TD Str} {a b g u t C dx : Addr} {fs : List (Str × V)} {xs : List V} (h : DatA H D a b g u xs) (ht : H t = some (.ins C dx fs)) (k : ∀ c o, c ≠ t → H c = some o → H' c = some o) : DatA H' D a b g u xs :=
  ⟨k _ _ (ne_of h.ord ht (by intro z; cases z)) h.ord, k _ _ (ne_of h.prs ht (by intro z; cases z)) h.prs, kdP.L_mono (fun c xs hc => k _ _ (ne_of hc ht (by intro z; cases z)) hc) h.prk, k _ _ (ne_of h.giv ht (by intro z; cases z)) h.giv, k _ _ (ne_of h.abv ht (by intro z; cases z)) h.abv⟩
section
theorem g_putT {σ : L2.St} {H : Hp} {to ti : TE} {p : Addr} {ks : List Key} {kvs : List (List Key × V)} {v : V} {Q : L2.St → Hp → Prop} (ho : Ev to σ H (.ref p)) (hi : EvU ti σ H (ks.map kV)) (hp : H p = some (.dT kvs)) (hl : kvs.length < 100000) (k : ∀ H1, Ex H H1 → Q σ (upd H1 p (.dT (putK kvs ks v)))) : gSub to ti rSetD v σ H Q :=
  ho H (Ex.refl _) _ fun H1 e1 => hi H1 e1 _ fun q H2 hn e2 hq => ⟨p, _, rfl, DPut.t ((e1.trans e2) _ _ hp) hq (sz_lt hl), k H2 (e1.trans e2)⟩
variable {P : Program} {w : World} {K : PySem.W.Frag} {mg : Str → Option Value} {base : Heap} {C Dc : Addr} {f : Addr} {fd : FuncData} {σ : L2.St} {H : Hp} {ta tb tc te td : TE} {tt : TT}
/-- a slice of a tuple -/
theorem cutV_all {xs : List V} {lo hi : Option Int} (h : HT.sIx xs.length 0 lo = 0 ∧ HT.sIx xs.length xs.length hi = xs.length) : cutV xs lo hi = xs := by
  unfold cutV
  rw [h.1, h.2, List.drop_zero, Nat.sub_zero, List.take_length]
theorem ep_slT {tl th : TO} {a : Addr} {xs : List V} {lo hi : Option Int} (h : Ev te σ H (.ref a)) (h1 : EvO tl σ H lo) (h2 : EvO th σ H hi) (hs : SqT K H a xs) : EvP (tSl (rSlA K) te tl th) σ H fun _ v H2 => ∃ p, v = .ref p ∧ SqT K H2 p (cutV xs lo hi) :=
  fun H1 e1 Q q => h H1 e1 _ fun H2 e2 => h1 H2 (e1.trans e2) _ fun H3 e3 => h2 H3 ((e1.trans e2).trans e3) _ fun H4 e4 => by
    have e14 := (e2.trans e3).trans e4
    refine ⟨a, xs, rfl, ex_t (e1.trans e14) hs, fun hw => ?_, fun hw p hp => ?_⟩
    · exact q _ H4 e14 ⟨a, rfl, by rw [cutV_all hw]; exact ex_t (e1.trans e14) hs⟩
    · exact q _ _ (e14.trans (Ex.new hp)) ⟨p, rfl, SqT.of upd_same⟩
theorem ev_callP3 {sp : Sp} {dvs : List V} {E : XK} {x y z : V} {Pz : V → Hp → Prop} (h1 : Ev ta σ H x) (h2 : Ev tb σ H y) (h3 : EvP tc σ H fun _ v H2 => Pz v H2) (hs : ∀ v H2, Ex H H2 → Pz v H2 → SpV sp ([x, y, v] ++ dvs) H2 z) : Ev (tCall sp dvs E (tCons ta (tCons tb (tCons tc tNil)))) σ H z :=
  fun H1 e1 Q q => h1 H1 e1 _ fun H2 e2 => h2 H2 (e1.trans e2) _ fun H3 e3 => h3 H3 ((e1.trans e2).trans e3) _ fun v H4 e4 p => hs v H4 (((e1.trans e2).trans e3).trans e4) p H4 (Ex.refl _) _ (fun H5 e5 => q H5 (((e2.trans e3).trans e4).trans e5)) E
abbrev AareModes (P : Program) (w : World) (K : PySem.W.Frag) (mg : Str → Option Value) (base : Heap) := GF P w K mg base "are_modes" ["thing"] [] 2 spAreModes
abbrev AareP (P : Program) (w : World) (K : PySem.W.Frag) (mg : Str → Option Value) (base : Heap) := GF P w K mg base "are_pairs" ["thing", "modes"] [] 2 (spAreP K)
abbrev AisDict (P : Program) (w : World) (K : PySem.W.Frag) (mg : Str → Option Value) (base : Heap) := GF P w K mg base "is_dict" ["thing", "modes", "goals"] [] 2 (spIsDict K)
def spTInit (C : Addr) : Sp := fun vs H Q _ => ∃ (t dx a b g u : Addr) (D : TD Str) (xs : List V), vs = [.ref t, .ref a, .ref b, .ref g, .ref u] ∧ H t = some (.ins C dx []) ∧ DatA H D a b g u xs ∧ DatOk D ∧
  ∀ H', (∀ c o, c ≠ t → H c = some o → H' c = some o) → TabJ C H' t D .non → Q .non H'
theorem sc_Table_init : FnScope ["self", "modes", "beside", "gives", "above", "upper", "one", "other", "mode"] ["self", "modes", "beside", "gives", "above"] (defScope s_Table_init) := ⟨rfl, rfl, rfl, by decide +kernel, rfl, by decide +kernel, by decide +kernel⟩
theorem ok_Table_init (F : FnT K "__init__" "Table.__init__" s_Table_init [] [("above", .non)] f fd) (T : Txt K mg C Dc) (G_are_modes : AareModes P w K mg base) (G_are_pairs : AareP P w K mg base) (G_is_dict : AisDict P w K mg base) :
    FnOk P w K mg base CX0 3 f fd ["self", "modes", "beside", "gives", "above"] (spTInit C) := by
  refine F.ok sc_Table_init (fun vs H Q E ⟨_, _, _, _, _, _, _, _, h, _⟩ => by rw [h]; rfl) (fun cdv A outer s H vs Q E hr ⟨t, dx, a, b, g, u, D, xs, hv, ht, hD, ok, q⟩ => ⟨_, PSs.nox (pss_cons (ps_set (i := 5) sc_Table_init.nd rfl (Or.inr rfl) (pe_ifExp (pt_cmp (pc_isN (pv 4))) pe_dnewK (pv 4)))
    (pss_cons (ps_if (PW.pt (pw_or (pt_not (pt_val (pe_callG G_are_modes hr (by decide) (by rfl) (pa_cons (pv 1) pa_nil)))) (pw_or1 (pt_not (pt_val (pe_callG G_are_pairs hr (by decide) (by rfl) (pa_cons (pv 2) (pa_cons (pv 1) pa_nil)))))))) (pss_one ps_never) pss_nil)
    (pss_cons (ps_if (PW.pt (pw_or (pt_not (pt_val (pe_callG G_is_dict hr (by decide) (by rfl) (pa_cons (pv 3) (pa_cons (pv 1) (pa_cons (pe_slice (sl_tupAK K rfl) (pe_glob (v := .ref T.worths.choose) (by rfl) T.worths.choose_spec.1 rfl) (po_some pe_int) po_none) pa_nil)))))) (pw_or1 (pt_not (pt_val (pe_callG G_is_dict hr (by decide) (by rfl) (pa_cons (pv 5) (pa_cons (pv 1) (pa_cons (pv 1) pa_nil))))))))) (pss_one ps_never) pss_nil)
    (pss_cons (ps_fld (pv 0) (pe_callTy call_tuple_frz (by rfl) T.fTuple boot_tuple (pa_cons (pv 1) pa_nil)) rfl)
    (pss_cons (ps_fld (pv 0) pe_dnewT rfl)
    (pss_cons (ps_for PassesOwn.never rfl (pi_listK K rfl (pv 2)) (pg_tupK (n := 2) K rfl rfl (pgs_cons (pg_name (i := 6) sc_Table_init.nd rfl (by first | exact Or.inl rfl | exact Or.inr rfl)) (pgs_cons (pg_name (i := 7) sc_Table_init.nd rfl (by first | exact Or.inl rfl | exact Or.inr rfl)) pgs_nil))) (pss_one (ps_asg2 pe_bl (pg_sub (pe_fldK K rfl (pv 0) rfl) (pe_tup (pa_cons (pv 6) (pa_cons (pv 7) pa_nil))) (set_dict (hu_of hr))) (pg_sub (pe_fldK K rfl (pv 0) rfl) (pe_tup (pa_cons (pv 7) (pa_cons (pv 6) pa_nil))) (set_dict (hu_of hr))))))
    (pss_cons (ps_fld (pv 0) (pe_dc (own := [("mode", 8)]) rfl sc_Table_init.nd (pi_listK K rfl (pv 1)) (blkOk_by (by rfl)) (fun _ _ _ _ _ => (pg_name (i := 8) sc_Table_init.nd rfl (by first | exact Or.inl rfl | exact Or.inr rfl))) (fun _ _ _ _ _ => pts_nil) (fun _ _ _ _ _ => (pv 8)) (fun _ _ _ _ _ => (pe_dget2 (hu_of hr) (pv 3) (pv 8) pe_str ⟨rfl, rfl, rfl, rfl⟩))) rfl)
    (pss_cons (ps_fld (pv 0) (pe_dc (own := [("mode", 8)]) rfl sc_Table_init.nd (pi_listK K rfl (pv 1)) (blkOk_by (by rfl)) (fun _ _ _ _ _ => (pg_name (i := 8) sc_Table_init.nd rfl (by first | exact Or.inl rfl | exact Or.inr rfl))) (fun _ _ _ _ _ => pts_nil) (fun _ _ _ _ _ => (pv 8)) (fun _ _ _ _ _ => (pe_dget2 (hu_of hr) (pv 5) (pv 8) (pv 8) ⟨rfl, rfl, rfl, rfl⟩))) rfl)
    (pss_one (ps_fld (pv 0) pe_non rfl)))))))))), ?_⟩)
  subst hv
  have wf := ok.wf
  have hoL : (D.order.map V.str).length = D.order.length := List.length_map ..
  refine q_asg (v := .ref u) (ev_if (b := false) (et_is (et_B (ev_isN (ev_var (i := 4) rfl))) rfl) (fun z => by cases z) (fun _ => ev_var (i := 4) rfl)) fun H1 e1 => ?_
  have hD1 := hD.ex e1
  refine q_when (b := false) (et_is (et_or (a := false) (b := false) (et_not (et_B (ev_call (sp := spAreModes) (dvs := []) (E := E0) (z := .bl true) (ea_cons (ev_var (v := .ref a) rfl) ea_nil) (fun H2 e2 Q q E => ⟨a, D.order, rfl, e2 _ _ hD1.ord, ok.modes, q⟩)))) (fun _ => et_is (et_not (et_B (ev_call (sp := spAreP K) (dvs := []) (E := E0) (z := .bl true) (ea_cons (ev_var (v := .ref b) rfl) (ea_cons (ev_var (v := .ref a) rfl) ea_nil)) (fun H2 e2 Q q E => ⟨b, a, D.pairs, xs, D.order, rfl, e2 _ _ hD1.prs, kdP.L_ex e2 hD1.prk, ok.few, SqL.of (e2 _ _ hD1.ord), ok.pin, q⟩)))) rfl)) rfl) (fun z => by cases z) (fun _ H2 e2 => ?_)
  have hD2 := hD1.ex e2
  have hgl : ∀ p ∈ givW D, p.1 ∈ D.order ∧ p.2 ∈ (["see", "change"] : List Str) := fun p hp => by
    obtain ⟨p0, hp0, rfl⟩ := List.mem_map.mp hp
    have := ok.gin p0 hp0
    refine ⟨this.1, ?_⟩
    rcases this.2 with e | e <;> (show rankW p0.2 ∈ _; rw [e]; decide)
  refine q_when (b := false) (et_is (et_or (a := false) (b := false) (et_not (et_B (ev_callP3 (sp := spIsDict K) (dvs := []) (E := E0) (z := .bl true) (ev_var (v := .ref g) rfl) (ev_var (v := .ref a) rfl) (ep_slT (lo := some 1) (hi := none) ev_c (eo_some ev_c) eo_none (T.worths.choose_spec.2.1 _)) (fun v H3 e3 hv => ?_)))) (fun _ => et_is (et_not (et_B (ev_call (sp := spIsDict K) (dvs := []) (E := E0) (z := .bl true) (ea_cons (ev_var (v := .ref u) rfl) (ea_cons (ev_var (v := .ref a) rfl) (ea_cons (ev_var (v := .ref a) rfl) ea_nil))) (fun H3 e3 Q q E => ⟨u, a, a, D.above, D.order, D.order, rfl, e3 _ _ hD2.abv, ok.und, ok.ufew, SqL.of (e3 _ _ hD2.ord), .inl (SqL.of (e3 _ _ hD2.ord)), ok.uin, q⟩)))) rfl)) rfl) (fun z => by cases z) (fun _ H3 e3 => ?_)
  · obtain ⟨wv, rfl, hw⟩ := hv
    refine fun H4 e4 Q q E => ⟨g, a, wv, givW D, D.order, ["see", "change"], rfl, (e3.trans e4) _ _ hD2.giv, ?_, ?_, SqL.of ((e3.trans e4) _ _ hD2.ord), .inr (ex_t e4 hw), hgl, q⟩
    · have : (givW D).map (·.1) = D.gives.map (·.1) := by unfold givW; rw [List.map_map]; rfl
      rw [this]; exact ok.gnd
    · have : (givW D).length = D.gives.length := List.length_map ..
      have := ok.gfew
      omega
  have hD3 := hD2.ex e3
  have ht3 := ((e1.trans e2).trans e3) _ _ ht
  have k3 : ∀ c o, c ≠ t → H c = some o → H3 c = some o := fun c o _ h => ((e1.trans e2).trans e3) _ _ h
  -- order
  refine q_fldP (P := fun _ v H2 => ∃ p ob, v = .ref p ∧ H2 p = some (.frz ob (.tup (D.order.map V.str))) ∧ ob.cls = .type "tuple" ∧ ob.dict = none) (a := t) (fun H4 e4 Q q => ev_var (i := 1) (v := .ref a) rfl H4 (Ex.refl _) _ fun H5 e5 => ⟨a, _, rfl, .inl ((e4.trans e5) _ _ hD3.ord), fun l ob hl oc od => q _ _ (e5.trans (Ex.new hl)) ⟨l, ob, rfl, upd_same, oc, od⟩⟩) (ev_var (i := 0) rfl) ht3 T.clC T.nOrder (by show 0 < 1000; decide) fun v H4 H5 e4 e5 hv => ?_
  obtain ⟨o, ob, rfl, ho, oc, od⟩ := hv
  have e45 := e4.trans e5
  have ht5 := e45 _ _ ht3
  have not : o ≠ t := ne_of ho (e4 _ _ ht3) (by intro z; cases z)
  have k6 : ∀ c o', c ≠ t → H c = some o' → (upd H5 t (.ins C dx (putF "order" (.ref o) []))) c = some o' := fun c o' n h => by rw [upd_ne n]; exact e45 _ _ (k3 c o' n h)
  have ho6 : (upd H5 t (.ins C dx (putF "order" (.ref o) []))) o = some (.frz ob (.tup (D.order.map V.str))) := by rw [upd_ne not]; exact e5 _ _ ho
  have ht6 : (upd H5 t (.ins C dx (putF "order" (.ref o) []))) t = some (.ins C dx [("order", .ref o)]) := upd_same
  generalize upd H5 t (.ins C dx (putF "order" (.ref o) [])) = H6 at k6 ho6 ht6 ⊢
  have hD6 := hD.but ht k6
  -- pairs
  refine q_fldP ep_dnewT (ev_var (i := 0) rfl) ht6 T.clC T.nPairs (by show 1 < 1000; decide) fun v H7 H8 e7 e8 hv => ?_
  obtain ⟨p, rfl, hpn, hp7⟩ := hv
  have e78 := e7.trans e8
  have npt : p ≠ t := fun z => by rw [z, ht6] at hpn; cases hpn
  have npo : o ≠ p := fun z => by rw [← z, ho6] at hpn; cases hpn
  have nHp : ∀ c o', c ≠ t → H c = some o' → c ≠ p := fun c o' n h z => by rw [← z, k6 c o' n h] at hpn; cases hpn
  have k9 : ∀ c o', c ≠ t → H c = some o' → (upd H8 t (.ins C dx (putF "pairs" (.ref p) [("order", .ref o)]))) c = some o' := fun c o' n h => by rw [upd_ne n]; exact e78 _ _ (k6 c o' n h)
  have ho9 : (upd H8 t (.ins C dx (putF "pairs" (.ref p) [("order", .ref o)]))) o = some (.frz ob (.tup (D.order.map V.str))) := by rw [upd_ne not]; exact e78 _ _ ho6
  have ht9 : (upd H8 t (.ins C dx (putF "pairs" (.ref p) [("order", .ref o)]))) t = some (.ins C dx [("order", .ref o), ("pairs", .ref p)]) := upd_same
  have hp9 : (upd H8 t (.ins C dx (putF "pairs" (.ref p) [("order", .ref o)]))) p = some (.dT []) := by rw [upd_ne npt]; exact e8 _ _ hp7
  generalize upd H8 t (.ins C dx (putF "pairs" (.ref p) [("order", .ref o)])) = H9 at k9 ho9 ht9 hp9 ⊢
  have hD9 := hD.but ht k9
  refine q_forL (xs := xs) (ev_var (i := 2) (v := .ref b) rfl) (SqL.of hD9.prs) (fun i σ' H' => Keeps [6, 7] (start ["self", "modes", "beside", "gives", "above", "upper", "one", "other", "mode"] [.ref t, .ref a, .ref b, .ref g, .ref u] |>.set 5 (some (.ref u))) σ' ∧ (∀ c o', c ≠ t → H c = some o' → H' c = some o') ∧ H' o = some (.frz ob (.tup (D.order.map V.str))) ∧
      H' t = some (.ins C dx [("order", .ref o), ("pairs", .ref p)]) ∧ ∃ kvp, H' p = some (.dT kvp) ∧ kvp.length ≤ 2 * i ∧ ∀ m n, (valV kvp (k2 m n)).isSome = (decide ((m, n) ∈ D.pairs.take i) || decide ((n, m) ∈ D.pairs.take i)))
    (fun H10 e10 => ⟨Keeps.refl, fun c o' n h => e10 _ _ (k9 c o' n h), e10 _ _ ho9, e10 _ _ ht9, [], e10 _ _ hp9, Nat.zero_le _, fun m n => rfl⟩) (fun i σ' H' hi w => SqL.of (hD.but ht w.2.1).prs) (fun i x σ' H' hx w => ?_) (fun σ' H' w => ?_)
  · obtain ⟨wk, wh, wo, wt, kvp, wp, wl, wv⟩ := w
    have hD' := hD.but ht wh
    obtain ⟨pr, hpr, tp, rfl, htp⟩ := pair_get hD'.prk hx
    have hil : i < 64 := by
      have := (List.getElem?_eq_some_iff.mp hpr).1
      have := ok.few
      omega
    refine ⟨tp, [.str pr.1, .str pr.2], rfl, SqT.of htp, rfl, .str pr.1, [.str pr.2], rfl, .str pr.2, [], rfl, rfl, ?_⟩
    show tAsg2 (tC (.bl true)) _ _ _ ((σ'.set 6 (some (V.str pr.1))).set 7 (some (V.str pr.2))) H'
    have s6 : ((σ'.set 6 (some (V.str pr.1))).set 7 (some (V.str pr.2)))[6]? = some (some (.str pr.1)) := slot_ne (slot_set (by rw [wk.1]; show 6 < 9; decide))
    have s7 : ((σ'.set 6 (some (V.str pr.1))).set 7 (some (V.str pr.2)))[7]? = some (some (.str pr.2)) := slot_set (by rw [List.length_set, wk.1]; show 7 < 9; decide)
    have wk2 : Keeps [6, 7] (start ["self", "modes", "beside", "gives", "above", "upper", "one", "other", "mode"] [.ref t, .ref a, .ref b, .ref g, .ref u] |>.set 5 (some (.ref u))) ((σ'.set 6 (some (V.str pr.1))).set 7 (some (V.str pr.2))) := (wk.set (by decide)).set (by decide)
    have s0 := wk2.get (i := 0) (v := .ref t) rfl
    generalize ((σ'.set 6 (some (V.str pr.1))).set 7 (some (V.str pr.2))) = σ2 at s6 s7 wk2 s0 ⊢
    show gSub _ _ rSetD (.bl true) σ2 H' (fun σ3 H3 => gSub _ _ rSetD (.bl true) σ3 H3 _)
    refine g_putT (ks := k2 pr.1 pr.2) (ev_fld (ev_var s0) wt T.clC T.nPairs rfl) (eu_tup (ea_cons (ev_var s6) (ea_cons (ev_var s7) ea_nil)) (by show 2 ≤ 100000; decide)) wp (by omega) fun H11 e11 => ?_
    refine g_putT (ks := k2 pr.2 pr.1) (ev_fld (ev_var s0) (by rw [upd_ne npt.symm]; exact e11 _ _ wt) T.clC T.nPairs rfl) (eu_tup (ea_cons (ev_var s7) (ea_cons (ev_var s6) ea_nil)) (by show 2 ≤ 100000; decide)) upd_same (by have := length_putK kvp (k2 pr.1 pr.2) (.bl true); omega) fun H12 e12 => ?_
    refine ⟨wk2, fun c o' n h => ?_, ?_, ?_, _, upd_same, ?_, fun m n => ?_⟩
    · rw [upd_ne (nHp c o' n h)]
      exact e12 _ _ (by rw [upd_ne (nHp c o' n h)]; exact e11 _ _ (wh c o' n h))
    · rw [upd_ne npo]
      exact e12 _ _ (by rw [upd_ne npo]; exact e11 _ _ wo)
    · rw [upd_ne npt.symm]
      exact e12 _ _ (by rw [upd_ne npt.symm]; exact e11 _ _ wt)
    · have h1 := length_putK kvp (k2 pr.1 pr.2) (.bl true)
      have h2 := length_putK (putK kvp (k2 pr.1 pr.2) (.bl true)) (k2 pr.2 pr.1) (.bl true)
      omega
    · rw [valV_putK, valV_putK, take_succ_of hpr]
      simp only [List.mem_append, List.mem_singleton]
      have e1 : (k2 m n = k2 pr.2 pr.1) ↔ ((n, m) = pr) := by
        constructor
        · intro z; unfold k2 at z; injection z with z1 z2; injection z2 with z2 z3; injection z1 with z1; injection z2 with z2; rw [z1, z2]
        · intro z; rw [← z]
      have e2 : (k2 m n = k2 pr.1 pr.2) ↔ ((m, n) = pr) := by
        constructor
        · intro z; unfold k2 at z; injection z with z1 z2; injection z2 with z2 z3; injection z1 with z1; injection z2 with z2; rw [z1, z2]
        · intro z; rw [← z]
      by_cases q1 : (n, m) = pr
      · rw [if_pos (e1.mpr q1)]
        simp [q1]
      · rw [if_neg (fun z => q1 (e1.mp z))]
        by_cases q2 : (m, n) = pr
        · rw [if_pos (e2.mpr q2)]
          simp [q2]
        · rw [if_neg (fun z => q2 (e2.mp z)), wv]
          simp [q1, q2]
  · obtain ⟨wk, wh, wo, wt, kvp, wp, wl, wv⟩ := w
    have hD' := hD.but ht wh
    rw [← pair_len hD'.prk, List.take_length] at wv
    have s0 := wk.get (i := 0) (v := .ref t) rfl
    have s1 := wk.get (i := 1) (v := .ref a) rfl
    have s3 := wk.get (i := 3) (v := .ref g) rfl
    have s5 := wk.get (i := 5) (v := .ref u) rfl
    have hlen := wk.1
    have hl8 : σ'.length = 9 := hlen
    clear hlen wk
    -- worth
    have w8 : ∀ o', ((wipe σ' [8]).set 8 o')[8]? = some o' := fun o' => slot_set (by rw [wipe_length, hl8]; decide)
    have wi8 : ∀ i v, i ≠ 8 → σ'[i]? = some (some v) → ∀ o', ((wipe σ' [8]).set 8 o')[i]? = some (some v) := fun i v n h o' => by
      rw [List.getElem?_set_ne (Ne.symm n)]
      show (σ'.set 8 none)[i]? = _
      rw [List.getElem?_set_ne (Ne.symm n)]
      exact h
    have ww : ∀ o', wipe ((wipe σ' [8]).set 8 o') [8] = wipe σ' [8] := fun o' => by
      show (((σ'.set 8 none).set 8 o').set 8 none) = σ'.set 8 none
      rw [List.set_set, List.set_set]
    have hkn : (D.order.map fun m => (Sum.inr m : Key)).Nodup := List.Pairwise.map _ (fun a b h z => h (by injection z)) ok.modes.nd
    refine q_fldP (ep_dcW (as := D.order) (fun _ => true) (fun m => Sum.inr m) (fun m => .str (rankW (D.rank m))) (wk_list (ka := kdV V.str) (ls_var (bs := D.order) (ev_var s1) ⟨a, _, rfl, SqL.of hD'.ord, kdV_of⟩)) (by have := ok.modes.hi; omega) hkn
      (fun m x H10 hm e10 hx => by
        cases hx
        refine ⟨ww _, Ex.refl _, et_yes, fun _ => ⟨ev_var (w8 _), ?_⟩⟩
        have h0 := ev_dget2 (ev_var (wi8 3 _ (by decide) s3 (some (V.str m)))) (ev_var (w8 (some (V.str m)))) (ev_c (v := .str "")) (dget_k (k := Sum.inr m) (.inl (e10 _ _ hD'.giv)))
        refine ev_is h0 ?_
        rw [kvS_get, ← givW_get]
        cases aget (givW D) m <;> rfl)
      gname_mono) (ev_var s0) wt T.clC T.nWorth (by show 2 < 1000; decide) fun v H10 H11 e10 e11 hv => ?_
    obtain ⟨wd, rfl, hwn, hw⟩ := hv
    rw [filt_true] at hw
    have e1011 := e10.trans e11
    have nwt : wd ≠ t := fun z => by rw [z, wt] at hwn; cases hwn
    have nwo : o ≠ wd := fun z => by rw [← z, wo] at hwn; cases hwn
    have nwp : p ≠ wd := fun z => by rw [← z, wp] at hwn; cases hwn
    have k12 : ∀ c o', c ≠ t → H c = some o' → (upd H11 t (.ins C dx (putF "worth" (.ref wd) [("order", .ref o), ("pairs", .ref p)]))) c = some o' := fun c o' n h => by rw [upd_ne n]; exact e1011 _ _ (wh c o' n h)
    have ho12 : (upd H11 t (.ins C dx (putF "worth" (.ref wd) [("order", .ref o), ("pairs", .ref p)]))) o = some (.frz ob (.tup (D.order.map V.str))) := by rw [upd_ne not]; exact e1011 _ _ wo
    have hp12 : (upd H11 t (.ins C dx (putF "worth" (.ref wd) [("order", .ref o), ("pairs", .ref p)]))) p = some (.dT kvp) := by rw [upd_ne npt]; exact e1011 _ _ wp
    have hw12 : (upd H11 t (.ins C dx (putF "worth" (.ref wd) [("order", .ref o), ("pairs", .ref p)]))) wd = some (.dK (D.order.map fun m => (Sum.inr m, V.str (rankW (D.rank m))))) := by rw [upd_ne nwt]; exact e11 _ _ hw
    have ht12 : (upd H11 t (.ins C dx (putF "worth" (.ref wd) [("order", .ref o), ("pairs", .ref p)]))) t = some (.ins C dx [("order", .ref o), ("pairs", .ref p), ("worth", .ref wd)]) := upd_same
    generalize upd H11 t (.ins C dx (putF "worth" (.ref wd) [("order", .ref o), ("pairs", .ref p)])) = H12 at k12 ho12 hp12 hw12 ht12 ⊢
    have hD12 := hD.but ht k12
    refine q_fldP (ep_dcW (as := D.order) (fun _ => true) (fun m => Sum.inr m) (fun m => .str (D.up m)) (wk_list (ka := kdV V.str) (ls_var (bs := D.order) (ev_var s1) ⟨a, _, rfl, SqL.of hD12.ord, kdV_of⟩)) (by have := ok.modes.hi; omega) hkn
      (fun m x H13 hm e13 hx => by
        cases hx
        refine ⟨ww _, Ex.refl _, et_yes, fun _ => ⟨ev_var (w8 _), ?_⟩⟩
        have h0 := ev_dget2 (ev_var (wi8 5 _ (by decide) s5 (some (V.str m)))) (ev_var (w8 (some (V.str m)))) (ev_var (w8 (some (V.str m)))) (dget_k (k := Sum.inr m) (.inl (e13 _ _ hD12.abv)))
        refine ev_is h0 ?_
        rw [kvS_get]
        unfold TD.up
        cases aget D.above m <;> rfl)
      gname_mono) (ev_var s0) ht12 T.clC T.nUpper (by show 3 < 1000; decide) fun v H13 H14 e13 e14 hv => ?_
    obtain ⟨ud, rfl, hun, hu⟩ := hv
    rw [filt_true] at hu
    have e1314 := e13.trans e14
    have nut : ud ≠ t := fun z => by rw [z, ht12] at hun; cases hun
    refine s_fld (v := .non) ev_c (ev_var s0) upd_same T.clC T.nJudged (by show 4 < 1000; decide) fun H15 e15 => ?_
    have go : ∀ c o', c ≠ t → H14 c = some o' → (upd H15 t (.ins C dx (putF "judged" V.non (putF "upper" (.ref ud) [("order", .ref o), ("pairs", .ref p), ("worth", .ref wd)])))) c = some o' := fun c o' n h => by rw [upd_ne n]; exact e15 _ _ (by rw [upd_ne n]; exact h)
    have vals : ∀ (F : Str → V) (m : Str), m ∈ D.order → valV (D.order.map fun m => ((Sum.inr m : Key), F m)) (.inr m) = some (F m) := fun F m hm => by
      refine val_nodup (kvs := D.order.map fun m => ((Sum.inr m : Key), F m)) ?_ (.inr m, F m) (List.mem_map.mpr ⟨m, hm, rfl⟩)
      rw [List.map_map]
      exact hkn
    refine q _ (fun c o' n h => go c o' n (e1314 _ _ (k12 c o' n h))) ⟨dx, o, p, wd, ud, ob, kvp, _, _, ⟨upd_same, go _ _ not (e1314 _ _ ho12), oc, od, go _ _ npt (e1314 _ _ hp12), fun m n => wv m n, go _ _ nwt (e1314 _ _ hw12), fun m hm => vals _ m hm, go _ _ nut (e14 _ _ hu), fun m hm => vals _ m hm⟩⟩
end
end HT
set_option Elab.async false
set_option linter.all false
set_option maxRecDepth 100000
set_option maxHeartbeats 4000000
/-! sorted(xs, key=lambda pair: (self.order.index(pair[0]), self.order.index(pair[1]))): the key, read plainly -/
namespace HT
open PySem PySem.Spec PyProof.Rows L2 Evl LamX
section
variable {prog : Program} {w : World} {A : Around} {env : Env} {s0 : Shared} {h : Heap}
/-- an expression that only reads -/
def PrE (prog : Program) (w : World) (A : Around) (env : Env) (s0 : Shared) (h : Heap) (e : Expr) (R : Value → Prop) : Prop :=
  ∀ (tk : Nat) (Q : Value → Shared → Prop) (E : Value → Shared → Prop), (∀ v tk', R v → Q v { s0 with heap := h, toks := tk' }) → wpAny (model prog w) A (eval e env) Q E { s0 with heap := h, toks := tk }
theorem pr_free {x : Str} {p : Pos} {c : Addr} {v : Value} (hk : env.scope.kind = .function) (hl : env.kindOf x = some .free) (hc : env.cells.lookup x = some c) (hv : h.IsCell c (some v)) (hd : (x == ("__debug__" : Str)) = false := by decide) (hcd : (x == ("__classdict__" : Str)) = false := by decide) :
    PrE prog w A env s0 h (.Name x p) (fun u => u = v) := fun tk Q E q => wpAny_Name (wpAny_loadName_free hk hl hc hv (q v tk rfl) hcd) hd
theorem pr_local {x : Str} {p : Pos} {m : Str → Option Value} {v : Value} (hk : env.scope.kind = .function) (hl : env.kindOf x = some .local) (hn : h.Ns env.locals m) (hv : m x = some v) (hd : (x == ("__debug__" : Str)) = false := by decide) :
    PrE prog w A env s0 h (.Name x p) (fun u => u = v) := fun tk Q E q => wpAny_Name (wpAny_loadName_local hk hl hn hv (q v tk rfl)) hd
theorem pr_attr {K : PySem.W.Frag} {e : Expr} {f : Str} {pos : Pos} {t dx C : Addr} {mA : Str → Option Value} {v : Value} (he : PrE prog w A env s0 h e (fun u => u = .ref t)) (X : K.In h) (O : ObjM h t dx C mA) (c : Cls K C) (n : NoAttr K C f) (hv : mA f = some v) (hh : PySem.W.handedIn v = true)
    (hb : attributeBase e f env (eval e env) = eval e env := by rfl) : PrE prog w A env s0 h (.Attribute e f pos) (fun u => u = v) := fun tk Q E q =>
  attr_of hb (he tk _ E fun u tk' eu => by
    subst eu
    exact get_map (s := { s0 with heap := h, toks := tk' }) X O (c.get f) c.hd n hv hh (q v (tk' + 1) rfl))
theorem pr_sub {e : Expr} {pos p2 : Pos} {k : Nat} {i : Int} {j : Nat} {p : Addr} {items : Array Value} {x : Value} (he : PrE prog w A env s0 h e (fun u => u = .ref p)) (ht : IsTup h p items) (hi : -(2 ^ 63) ≤ i ∧ i < 2 ^ 63) (hj : seqIndex? i items.size = some j) (hx : items[j]? = some x) :
    PrE prog w A env s0 h (.Subscript e (.Constant (.int i) k p2) pos) (fun u => u = x) := fun tk Q E q =>
  Subscript_ (he tk _ E fun u tk' eu => by
    subst eu
    refine wpAny_Constant_int ?_
    exact subscriptTail_builtinR (x := x) (s := { s0 with heap := h, toks := tk' + 1 }) ht.typeIs slot_tuple_getitem.lookup
      (getItem_tuple (j := j) (Q := fun r s' => r = x ∧ Q r s') ht hi.1 hi.2 hj hx ⟨rfl, q x (tk' + 1) rfl⟩) (by rfl))
theorem pr_index {e a : Expr} {apos pos : Pos} {o : Addr} {ob : Obj} {its : List Value} {n : Nat} {ys : List Str} {z : Str} {j : Nat} (he : PrE prog w A env s0 h e (fun u => u = .ref o)) (ha : PrE prog w A env s0 h a (fun u => ∃ t, u = .str z t))
    (ho : h.get? o = some ob) (hc : ob.cls = .type "tuple") (hdn : ob.dict = none) (hd : ob.data = .seq its.toArray n) (r : Vals (ys.map V.str) its) (hy : ys[j]? = some z) (hno : ∀ m, m < j → ys[m]? ≠ some z)
    (hbase : attributeBase e "index" env (eval e env) = eval e env := by rfl)
    (hfew : ((backTo pos (starEach [a] env)).all (fun x => !x.1) && (backToKw pos (keywordEach [] env)).all (fun x => x.1.isSome)
      && decide (([a] : List Expr).length + ([] : List Keyword).length + (if ([] : List Keyword).isEmpty then 0 else 1) < 30)) = true := by rfl)
    (hline : (apos.endLine == pos.line) = true := by rfl) (htr : backTo pos (starEach [a] env) = [(false, eval a env)] := by rfl) :
    PrE prog w A env s0 h (.Call (.Attribute e "index" apos) [a] [] pos) (fun u => ∃ t, u = .int (j : Nat) t) := fun tk Q E q => by
  refine wpAny_Call_method_late hbase hfew hline htr (he tk _ E fun u tk' eu => ?_)
  subst eu
  refine ⟨"tuple", "tuple.index", PySem.F.plainAttrs_tuple, PySem.F.slot_tuple_index, PySem.F.type_tuple_index, ⟨ob, ho, hc⟩, fun b eb => ?_, ?_⟩
  · cases eb
    exact ⟨ob, ho, hdn⟩
  refine Calls.callWith_builtin rfl (Calls.evalArgs_plain (Calls.spliced_cons (ha tk' _ E fun u2 tk2 hu2 => Calls.spliced_nil ?_)))
  obtain ⟨t, rfl⟩ := hu2
  obtain ⟨cls, dd, dt, sl⟩ := ob
  simp only at hc hd hdn
  subst hc
  subst hd
  have hl : its.toArray.size = ys.length := by rw [List.size_toArray, ← r.length, List.length_map]
  have hj : j < its.toArray.size := by rw [hl]; exact (List.getElem?_eq_some_iff.mp hy).1
  have at' : ∀ (m : Nat) (hm : m < its.toArray.size), ∃ y t', ys[m]? = some y ∧ its.toArray[m] = Value.str y t' := fun m hm => by
    have hm' : m < ys.length := by rw [← hl]; exact hm
    obtain ⟨w, hw, t', hw'⟩ := r.get (i := m) (x := .str ys[m]) (by simp [hm'])
    refine ⟨ys[m], t', List.getElem?_eq_getElem hm', ?_⟩
    have e := (List.getElem?_eq_some_iff.mp hw).2
    rw [← hw', ← e]
    simp
  refine call_meets PySem.F.slot_tuple_index ⟨_, ho, rfl⟩ PySem.F.entry_tuple_index (PySem.F.args_tuple_index_2 _ _) (TI.tuple_indexAt o its.toArray n dd sl (.str z t) (eqU (.str z)) j hj ?_ ?_)
    ⟨ho, fun w hw => mem_eqAt (x := .str z) ⟨t, rfl⟩ rfl r (L2.flat_strs ys) w (by simpa using hw), q _ _ ⟨_, rfl⟩⟩
  · obtain ⟨y, t', h1, h2⟩ := at' j hj
    rw [hy] at h1
    cases h1
    rw [h2]
    show (z == z) = true
    exact beq_self_eq_true z
  · intro m hm hmj
    obtain ⟨y, t', h1, h2⟩ := at' m hm
    rw [h2]
    show (y == z) = false
    have := hno m hmj
    rw [h1] at this
    exact beq_eq_false_iff_ne.mpr fun e => this (by rw [e])
end
end HT
namespace HT
open PySem PySem.Spec PyProof.Rows L2 Evl LamX
section
variable {X : Cx} {p ap p1 p2 p3 p4 p5 p6 q1 q2 q3 q4 q5 q6 r1 r2 r3 r4 tp lpos kpos pos : Pos} {n1 n2 tk0 : Nat} {e : Expr} {ta : TE}
/-- the key's text -/
abbrev lamArgs (ap : Pos) : Arguments := { posonlyargs := [], args := [{ arg := "pair", annotation := none, pos := ap : Arg }], vararg := none, kwonlyargs := [], kw_defaults := [], kwarg := none, defaults := [] : Arguments }
abbrev lamIdx (p1 p2 p3 q1 q2 q3 r1 : Pos) (n : Nat) (i : Int) : Expr :=
  .Call (.Attribute (.Attribute (.Name "self" p1) "order" p2) "index" p3) [.Subscript (.Name "pair" q1) (.Constant (.int i) n q2) q3] [] r1
abbrev lamBody (p1 p2 p3 p4 p5 p6 q1 q2 q3 q4 q5 q6 r1 r2 tp : Pos) (n1 n2 tk0 : Nat) : Expr := .Tuple [lamIdx p1 p2 p3 q1 q2 q3 r1 n1 0, lamIdx p4 p5 p6 q4 q5 q6 r2 n2 1] tk0 tp
abbrev lamScope : Scope := { kind := .function, names := [(Str.ofString "pair", .local), (Str.ofString "self", .free)], isGenerator := false, isCoroutine := false, more := [] }
/-- what it asks: the list's pairs, the table's order, the code tables -/
def tSortL (K : PySem.W.Frag) (T : List (Addr × Str)) (C : Addr) (i : Nat) (ta : TE) : TE := fun σ H Q => ta σ H fun x H1 => ∃ (l : Addr) (bs : List ((Str × Str) × Addr)) (t dx o : Addr) (fs : List (Str × V)) (ob : Obj) (ms : List Str),
  x = .ref l ∧ SqL K H1 l (bs.map fun b => V.ref b.2) ∧ (∀ b ∈ bs, H1 b.2 = some (.tup [.str b.1.1, .str b.1.2])) ∧ (∀ b ∈ bs, b.1.1 ∈ ms ∧ b.1.2 ∈ ms) ∧
  σ[i]? = some (some (.ref t)) ∧ H1 t = some (.ins C dx fs) ∧ fs.lookup ("order" : Str) = some (.ref o) ∧ H1 o = some (.frz ob (.tup (ms.map V.str))) ∧ ob.cls = .type "tuple" ∧ ob.dict = none ∧ ms.length ≤ 1000 ∧ bs.length ≤ 1000 ∧
  Tabs T H1 ∧ ∀ H2, ExtN H1 H2 → Tabs T H2 → ∀ (bs' : List ((Str × Str) × Addr)) (d : Addr), bs'.Perm bs → H2 d = none → Q (.ref d) (upd H2 d (.lst (bs'.map fun b => V.ref b.2)))
def idxS : List Str → Str → Nat
  | [], _ => 0
  | x :: l, z => if x = z then 0 else idxS l z + 1
theorem idxS_at {z : Str} : ∀ {l : List Str}, z ∈ l → l[idxS l z]? = some z ∧ ∀ m, m < idxS l z → l[m]? ≠ some z
  | [], h => by simp at h
  | x :: l, h => by
    unfold idxS
    by_cases q : x = z
    · rw [if_pos q]
      exact ⟨by rw [q]; rfl, fun m hm => by omega⟩
    · rw [if_neg q]
      have h2 : z ∈ l := by
        rcases List.mem_cons.mp h with e | e
        · exact absurd e.symm q
        · exact e
      obtain ⟨a, b⟩ := idxS_at h2
      refine ⟨by simpa using a, fun m hm => ?_⟩
      cases m with
      | zero => simpa using q
      | succ m => simpa using b m (by omega)
theorem refs_eq : ∀ {ps : List ((Str × Str) × Addr)} {us : List Value}, Vals (ps.map fun b => V.ref b.2) us → us = ps.map fun b => Value.ref b.2
  | [], us, r => by
    rw [List.map_nil] at r
    cases r
    rfl
  | p :: ps, us, r => by
    rw [List.map_cons] at r
    cases r with
    | cons h t =>
      cases h
      rw [List.map_cons, ← refs_eq t]
theorem vals_refs : ∀ ps : List ((Str × Str) × Addr), Vals (ps.map fun b => V.ref b.2) (ps.map fun b => Value.ref b.2)
  | [] => .nil
  | _ :: ps => .cons rfl (vals_refs ps)
end
end HT
namespace HT
open PySem PySem.Spec PyProof.Rows L2 Evl LamX
section
variable {X : Cx} {p ap p1 p2 p3 p4 p5 p6 q1 q2 q3 q4 q5 q6 r1 r2 tp lpos kpos pos : Pos} {n1 n2 tk0 : Nat} {e : Expr} {ta : TE}
theorem each_refs : ∀ bs : List ((Str × Str) × Addr), PySem.W.EachIs (fun v (b : (Str × Str) × Addr) => v = Value.ref b.2) (bs.map fun b => Value.ref b.2) bs
  | [] => .nil
  | _ :: bs => .cons rfl (each_refs bs)
theorem each_refs_of : ∀ {out : List Value} {bs : List ((Str × Str) × Addr)}, PySem.W.EachIs (fun v (b : (Str × Str) × Addr) => v = Value.ref b.2) out bs → out = bs.map fun b => Value.ref b.2
  | _, _, .nil => rfl
  | _, _, .cons h t => by rw [h, each_refs_of t]; rfl
theorem pe_sortL {K : PySem.W.Frag} {T : List (Addr × Str)} {c P C : Addr} {i k : Nat} (hK : X.K = K) (hc : Cls X.K C) (hn : NoAttr X.K C "order") (hr : Room (k + 3) X.A) (TB : TabB X.base X.mg c P) (hcode : X.env.code = .ref c)
    (hm : (P, X.env.qual ++ "<lambda>") ∈ T) (hu : ∀ p ∈ T, p.1 = P → p.2 = X.env.qual ++ "<lambda>") (hN : X.N[i]? = some ("self" : Str)) (hcell : X.env.scope.names.lookup ("self" : Str) = some .cell) (hg : Gl X "sorted") (hmg : X.mg "sorted" = none) (ha : PE X e ta)
    (hln1 : (p3.endLine == r1.line) = true := by rfl) (hln2 : (p6.endLine == r2.line) = true := by rfl) (he : backTo pos (starEach [e] X.env) = (false, eval e X.env) :: backTo pos (starEach [] X.env) := by rfl) (hpl : (backTo pos (starEach [e] X.env)).any (·.1) = false := by rfl) :
    PE X (.Call (.Name "sorted" p) [e] [⟨some "key", .Lambda (lamArgs ap) (lamBody p1 p2 p3 p4 p5 p6 q1 q2 q3 q4 q5 q6 r1 r2 tp n1 n2 tk0) lamScope lpos, kpos⟩] pos) (tSortL K T C i ta) := by
  subst hK
  refine ⟨fun pins s σ H Q I h => ?_⟩
  refine wpAny_Call_Name_kw (ld_blt I hg hmg boot_sorted ?_ (by decide) (by decide))
  refine PyProof.Rows.callWith_kw ?_ he hpl (by rfl) (by rfl)
  rw [he]
  refine Calls.spliced_cons (thn (ha.run pins s σ H _ I h) fun v s1 ⟨x, H1, I1, r1, q1⟩ => Calls.spliced_nil ?_)
  obtain ⟨l, bs, t, dx, o, fs, ob, ms, rfl, hl, hb, hin, hsl, ht, hlo, ho, oc, od, hms, hbs, hT, q⟩ := q1
  cases r1
  show wpAny _ _ (evalAll [do let v ← eval (.Lambda (lamArgs ap) (lamBody p1 p2 p3 p4 p5 p6 q1 q2 q3 q4 q5 q6 r1 r2 tp n1 n2 tk0) lamScope lpos) X.env; standAt pos; pure v]) _ _ s1
  refine wpAny_evalAll_cons (wpAny_bind (lam_make2 I1 TB hcode hm hu hT rfl (fun y hy e => ?_) fun f c' pm ctv H2 s2 I2 eN T2 hf hfn hfr hco => wpAny_bind (wpAny_standAt (wpAny_pure (wpAny_evalAll_nil ?_)))))
  · have : y = (Str.ofString "self", NameKind.free) := by
      simp only [lamScope, List.mem_cons, List.not_mem_nil, or_false] at hy
      rcases hy with rfl | rfl
      · cases e
      · rfl
    rw [this]
    exact I1.ok.has _ (.inl hcell)
  show wpAny _ _ (call (.builtin "sorted") [.ref l] [(Str.ofString "key", .ref f)]) _ _ s2
  have notbl : ∀ {b : Addr} {u : HO}, H1 b = some u → (∀ ps, u ≠ .tbl ps) → H2 b = some u := fun e n => eN _ _ e n
  -- the list
  have hl2 : SqL X.K H2 l (bs.map fun b => V.ref b.2) := by
    rcases hl with (z | ⟨oz, z⟩) | z
    · exact .inl (.inl (notbl z (fun ps e => by cases e)))
    · exact .inl (.inr ⟨oz, notbl z (fun ps e => by cases e)⟩)
    · exact .inr z
  obtain ⟨its, rv, pl, hz⟩ := I2.list hl2
  have ei := refs_eq rv
  -- the table's order
  have ht2 := notbl ht (fun ps e => by cases e)
  have ho2 := notbl ho (fun ps e => by cases e)
  obtain ⟨mA, O, rA, _, _, _⟩ := ins_get I2.hok ht2
  obtain ⟨uo, huo, ruo⟩ := RelO.some_of (v := .ref o) (o := mA ("order" : Str)) (by rw [← hlo]; exact rA _)
  cases ruo
  obtain ⟨hob, hot⟩ := (show ObjOk X.prog X.w H2 s2.heap o (.frz ob (.tup (ms.map V.str))) from I2.hok o _ ho2)
  obtain ⟨_, ito, rvo, oo, hoo, _, no, hdo⟩ := hot
  have eoo : oo = ob := Option.some.inj (hoo.symm.trans hob)
  rw [eoo] at hdo
  -- self
  obtain ⟨mX, hnX, hlX⟩ := I2.loc
  obtain ⟨us, rus, lk⟩ := hlX i "self" (.ref t) hN hsl (.inr (.inl hcell))
  cases rus
  obtain ⟨cs, hcs, hcv⟩ : ∃ cs, X.env.cells.lookup ("self" : Str) = some cs ∧ s2.heap.IsCell cs (some (.ref t)) := by
    rcases lk with ⟨z, _⟩ | ⟨_, c0, z1, z2⟩
    · have z : X.env.scope.names.lookup ("self" : Str) = some .local := z
      rw [hcell] at z
      cases z
    · exact ⟨c0, z1, z2⟩
  obtain ⟨⟨occ, ovs, otq, hoc, hdc, hvc⟩, _, _⟩ := I2.hok c' _ hco
  have hz' : bs.length ≤ sizeLine := by simpa using hz
  have hRoom := hr
  have hu1 := hr.un
  have hd1 := hr.dp
  refine PySem.W.sorted_key_data (b := false) (R := fun v (b : (Str × Str) × Addr) => v = Value.ref b.2) (vs := its) (bs := bs) (fun b => .tuple [.int (idxS ms b.1.1 : Nat), .int (idxS ms b.1.2 : Nat)]) pl.isList ?_ (PySem.W.AllAlike.of fun _ _ => by simp [PySem.W.alike, PySem.W.alikeAll]) (PySem.W.Sortable.tuples fun _ => ⟨_, _, rfl⟩) hz' (fun b _ => ?_)
    (ksk_s1 _ _) (fun _ => ksk_l1 _ _) (fun _ => ksk_t1 _ _) (fun v b hv hb2 h tk kp => ?_) (fun out c0 h' tk kp hnone hat hlen hea => ?_)
  · rw [ei]
    exact each_refs bs
  · have hd : (PyData.tuple [.int (idxS ms b.1.1 : Nat), .int (idxS ms b.1.2 : Nat)]).depth = 1 := by simp [PyData.depth, PyData.depthAll]
    rw [hd]
    omega
  · -- the turn
    subst hv
    have hpair := notbl (hb b hb2) (fun ps e => by cases e)
    obtain ⟨_, itp, rvp, hip⟩ := (show ObjOk X.prog X.w H2 s2.heap b.2 (.tup [.str b.1.1, .str b.1.2]) from I2.hok _ _ hpair)
    obtain ⟨v1, v2, rfl, ⟨t1, rfl⟩, ⟨t2, rfl⟩⟩ := Vals.two rvp
    refine wpAny_call ?_
    refine PySem.W.kla_callFunE (s := { s2 with heap := h, toks := tk }) (show X.A.depth < recursionLimit by omega) (kp _ _ hf) rfl rfl rfl rfl ⟨c', occ, ovs, otq, rfl, kp _ _ hoc, hdc, hvc⟩ ?_
    rw [show bindArgs (PySem.W.kla_fn "<lambda>" (X.env.qual ++ "<lambda>") (lamArgs ap) (lamBody p1 p2 p3 p4 p5 p6 q1 q2 q3 q4 q5 q6 r1 r2 tp n1 n2 tk0) lamScope (cloFrom X.env.cells lamScope.names []) pm (.ref c') ctv) ⟨[.ref b.2], []⟩ = pure [(Str.ofString "pair", .ref b.2)] from rfl]
    refine wpAny_pure (wpAny_newFunctionEnv (fun y hy => ?_) (fun y hy => ?_) (fun h₁ hns hsb => ⟨(I2.nolimit.keeps kp).fresh _ hsb, ?_⟩) rfl)
    · simp only [lamScope, List.mem_cons, List.not_mem_nil, or_false] at hy
      rcases hy with rfl | rfl <;> simp
    · simp only [List.mem_cons, List.not_mem_nil, or_false] at hy
      subst hy
      rfl
    have k1 : ∀ b o, s2.heap.get? b = some o → h₁.get? b = some o := fun b o e => hsb.extBut b o (Nat.ne_of_lt (Heap.lt_size (kp b o e))) (Heap.get?_push_of_some _ (kp b o e))
    refine PySem.W.kla_codeExpr ?_
    have pS : ∀ {A' : Around} {pq : Pos}, PrE X.prog X.w A' (PySem.W.envX (X.env.qual ++ "<lambda>") lamScope h.objs.size f (.ref c') (cloFrom X.env.cells lamScope.names [])) s2 h₁ (.Name "self" pq) (fun u => u = .ref t) := fun {A' pq} => by
      obtain ⟨o1, hcv1, hcv2⟩ := hcv
      refine pr_free (c := cs) rfl rfl ?_ ⟨o1, k1 _ _ hcv1, hcv2⟩
      show ([((Str.ofString "self"), (X.env.cells.lookup (Str.ofString "self")).getD 0)] : List (Str × Addr)).lookup (Str.ofString "self") = some cs
      rw [hcs]
      rfl
    have pO : ∀ {A' : Around} {pq pq2 : Pos}, PrE X.prog X.w A' (PySem.W.envX (X.env.qual ++ "<lambda>") lamScope h.objs.size f (.ref c') (cloFrom X.env.cells lamScope.names [])) s2 h₁ (.Attribute (.Name "self" pq) "order" pq2) (fun u => u = .ref o) := fun {A' pq pq2} =>
      pr_attr (K := X.K) pS (I2.kIn.keeps k1) ⟨k1 _ _ O.obj, O.ns.keeps k1, O.ne⟩ hc hn huo rfl
    have pP : ∀ {A' : Around} {pq : Pos}, PrE X.prog X.w A' (PySem.W.envX (X.env.qual ++ "<lambda>") lamScope h.objs.size f (.ref c') (cloFrom X.env.cells lamScope.names [])) s2 h₁ (.Name "pair" pq) (fun u => u = .ref b.2) := fun {A' pq} =>
      pr_local rfl rfl hns rfl
    have hip1 : IsTup h₁ b.2 #[.str b.1.1 t1, .str b.1.2 t2] := by
      obtain ⟨oq, e1, e2, e3⟩ := hip
      exact ⟨oq, k1 _ _ e1, e2, e3⟩
    have pX0 : ∀ {A' : Around} {pq pq2 pq3 : Pos} {n : Nat}, PrE X.prog X.w A' (PySem.W.envX (X.env.qual ++ "<lambda>") lamScope h.objs.size f (.ref c') (cloFrom X.env.cells lamScope.names [])) s2 h₁ (.Subscript (.Name "pair" pq) (.Constant (.int 0) n pq2) pq3) (fun u => ∃ tt, u = .str b.1.1 tt) := fun {A' pq pq2 pq3 n} tk Q E q =>
      pr_sub pP hip1 (by decide) (j := 0) rfl rfl tk Q E fun v tk' e => q v tk' ⟨_, e⟩
    have pX1 : ∀ {A' : Around} {pq pq2 pq3 : Pos} {n : Nat}, PrE X.prog X.w A' (PySem.W.envX (X.env.qual ++ "<lambda>") lamScope h.objs.size f (.ref c') (cloFrom X.env.cells lamScope.names [])) s2 h₁ (.Subscript (.Name "pair" pq) (.Constant (.int 1) n pq2) pq3) (fun u => ∃ tt, u = .str b.1.2 tt) := fun {A' pq pq2 pq3 n} tk Q E q =>
      pr_sub pP hip1 (by decide) (j := 1) rfl rfl tk Q E fun v tk' e => q v tk' ⟨_, e⟩
    have hi1 := idxS_at (hin b hb2).1
    have hi2 := idxS_at (hin b hb2).2
    refine wpAny_Tuple_spliced ?_
    refine Calls.spliced_cons (pr_index pO pX0 (k1 _ _ hob) oc od hdo rvo hi1.1 hi1.2 (by rfl) (by rfl) hln1 (by rfl) _ _ _ fun v tk1 hv1 => ?_)
    refine Calls.spliced_cons (pr_index pO pX1 (k1 _ _ hob) oc od hdo rvo hi2.1 hi2.2 (by rfl) (by rfl) hln2 (by rfl) _ _ _ fun v2 tk2 hv2 => Calls.spliced_nil ?_)
    obtain ⟨u1, rfl⟩ := hv1
    obtain ⟨u2, rfl⟩ := hv2
    refine ⟨by show 2 ≤ sizeLine; decide, h₁.push { cls := .type "tuple", data := .seq [Value.int (idxS ms b.1.1 : Nat) u1, Value.int (idxS ms b.1.2 : Nat) u2].toArray }, tk2, rfl, fun b' o' e' => ?_, ?_⟩
    · have e' : h.get? b' = some o' := e'
      exact Heap.get?_push_of_some _ (hsb.extBut b' o' (Nat.ne_of_lt (Heap.lt_size e')) (Heap.get?_push_of_some _ e'))
    · exact .tuple (Heap.get?_push_size _ rfl) rfl rfl (.cons (.int _ _) (.cons (.int _ _) .nil))
  · have hperm := List.mergeSort_perm bs (PySem.W.dataLe false fun b : (Str × Str) × Addr => .tuple [.int (idxS ms b.1.1 : Nat), .int (idxS ms b.1.2 : Nat)])
    have hout := each_refs_of hea
    have hlen2 : (List.map (fun b : (Str × Str) × Addr => V.ref b.2) (bs.mergeSort (PySem.W.dataLe false fun b : (Str × Str) × Addr => .tuple [.int (idxS ms b.1.1 : Nat), .int (idxS ms b.1.2 : Nat)]))).length ≤ sizeLine := by
      rw [List.length_map, hperm.length_eq]
      exact hz'
    exact ⟨.ref (s2.heap.objs.size + 1), upd H2 (s2.heap.objs.size + 1) (.lst _), I2.laid (t' := tk) kp (Nat.le_succ _) ⟨hlen2, out, c0, by rw [hout]; exact vals_refs _, hat⟩, rfl, q H2 eN T2 _ _ hperm (I2.hok.fresh (Nat.le_succ _))⟩
end
end HT
set_option Elab.async false
set_option linter.all false
set_option maxRecDepth 100000
set_option maxHeartbeats 4000000
/-! Table.flaws -/
namespace HT
open PySem PySem.Spec PyProof.Rows L2 Evl LamX
/-! ### plain: what is found -/
theorem pairsOf_enum {α : Type} : ∀ (l : List α) (k : Nat) (pre : List α), pre.length = k → (l.zipIdx k).flatMap (fun p => ((pre ++ l).drop (p.2 + 1)).map fun b => (p.1, b)) = pairsOf l
  | [], _, _, _ => rfl
  | a :: l, k, pre, h => by
    rw [List.zipIdx_cons, List.flatMap_cons]
    have e1 : ((pre ++ a :: l).drop (k + 1)) = l := by
      rw [← h, show pre ++ a :: l = (pre ++ [a]) ++ l by simp, show pre.length + 1 = (pre ++ [a]).length by simp, List.drop_left]
    show (((pre ++ a :: l).drop (k + 1)).map fun b => (a, b)) ++ _ = _
    rw [e1]
    have := pairsOf_enum l (k + 1) (pre ++ [a]) (by simp [h])
    rw [show (pre ++ [a]) ++ l = pre ++ a :: l by simp] at this
    rw [this]
    rfl
theorem pairsOf_in {α : Type} {a b : α} : ∀ {l : List α}, (a, b) ∈ pairsOf l → a ∈ l ∧ b ∈ l
  | [], h => by simp [pairsOf] at h
  | x :: l, h => by
    unfold pairsOf at h
    rcases List.mem_append.mp h with h | h
    · obtain ⟨c, hc, e⟩ := List.mem_map.mp h
      injection e with e1 e2
      subst e1 e2
      exact ⟨by simp, by simp [hc]⟩
    · have := pairsOf_in h
      exact ⟨by simp [this.1], by simp [this.2]⟩
theorem pairsOf_len {α : Type} : ∀ (l : List α), (pairsOf l).length ≤ l.length * l.length
  | [] => Nat.zero_le _
  | a :: l => by
    unfold pairsOf
    have := pairsOf_len l
    rw [List.length_append, List.length_map, List.length_cons, Nat.add_mul, Nat.mul_add]
    omega
def worse (D : TD Str) (a : Str) : List Str := D.order.filter fun b => D.quarrel a b
def nearS (D : TD Str) (a : Str) : List Str := D.order.filter fun m => D.near a m
def rowsB (D : TD Str) (a : Str) : List (Str × Str × Str) := (worse D a).flatMap fun b => (nearS D a).map fun m => (a, b, m)
def f1 (D : TD Str) : List (List Str) := (D.order.filter fun m => !D.bears (D.up m) (D.up (D.up m))).map fun m => ["above", m]
def f2 (D : TD Str) : List (List Str) := ((pairsOf D.order).filter fun p => (D.joined p.1 p.2).isNone).map fun p => ["apart", p.1, p.2]
def f3 (D : TD Str) : List (List Str) := ((pairsOf D.order).filter fun p => !D.isOver p.1 p.2).map fun p => ["over", p.1, p.2]
def f4 (D : TD Str) (two : List (Str × Str)) : List (List Str) := (two.filter fun p => D.near p.1 p.2 && D.quarrel p.1 p.2).map fun p => ["quarrel", p.1, p.2]
def f5 (D : TD Str) (a : Str) : List (List Str) := ((rowsB D a).filter fun r => D.bears r.2.2 (D.up r.2.1)).map fun r => ["beneath", r.1, r.2.1, r.2.2]
def allTwo (D : TD Str) : List (Str × Str) := pairsOf D.order ++ D.order.map fun m => (m, m)
theorem map_nil_iff {α β : Type} {p : α → Bool} {g : α → β} {l : List α} : (l.filter p).map g = [] ↔ l.all (fun a => !p a) = true := by
  rw [List.map_eq_nil_iff, List.filter_eq_nil_iff, List.all_eq_true]
  constructor
  · intro h a ha; have := h a ha; simpa using this
  · intro h a ha; have := h a ha; simpa using this
theorem flaws_clean (D : TD Str) {two : List (Str × Str)} (hp : two.Perm (allTwo D)) : (((f1 D ++ f2 D) ++ f3 D) ++ f4 D two) ++ D.order.flatMap (f5 D) = [] ↔ D.clean = true := by
  rw [List.append_eq_nil_iff, List.append_eq_nil_iff, List.append_eq_nil_iff, List.append_eq_nil_iff]
  unfold TD.clean
  simp only [Bool.and_eq_true]
  have h1 : f1 D = [] ↔ (D.order.all fun m => D.bears (D.up m) (D.up (D.up m))) = true := by
    unfold f1; rw [map_nil_iff]; simp
  have h2 : f2 D = [] ↔ ((pairsOf D.order).all fun p => (D.joined p.1 p.2).isSome) = true := by
    unfold f2; rw [map_nil_iff]; simp [Option.isSome_iff_ne_none]
  have h3 : f3 D = [] ↔ ((pairsOf D.order).all fun p => D.isOver p.1 p.2) = true := by
    unfold f3; rw [map_nil_iff]; simp
  have h4 : f4 D two = [] ↔ ((pairsOf D.order ++ D.order.map fun m => (m, m)).all fun p => !(D.near p.1 p.2 && D.quarrel p.1 p.2)) = true := by
    unfold f4; rw [map_nil_iff]
    rw [List.all_eq_true, List.all_eq_true]
    constructor
    · intro h p hpm; exact h p (hp.mem_iff.mpr hpm)
    · intro h p hpm; exact h p (hp.mem_iff.mp hpm)
  have h5 : D.order.flatMap (f5 D) = [] ↔ (D.order.all fun a => (D.order.filter fun b => D.quarrel a b).all fun b => (D.order.filter fun m => D.near a m).all fun m => !D.bears m (D.up b)) = true := by
    rw [List.flatMap_eq_nil_iff, List.all_eq_true]
    refine forall_congr' fun a => forall_congr' fun ha => ?_
    unfold f5
    rw [map_nil_iff]
    unfold rowsB worse nearS
    rw [List.all_eq_true, List.all_eq_true]
    constructor
    · intro h b hb
      rw [List.all_eq_true]
      intro m hm
      exact h (a, b, m) (List.mem_flatMap.mpr ⟨b, hb, List.mem_map.mpr ⟨m, hm, rfl⟩⟩)
    · intro h r hr
      obtain ⟨b, hb, hr2⟩ := List.mem_flatMap.mp hr
      obtain ⟨m, hm, rfl⟩ := List.mem_map.mp hr2
      exact List.all_eq_true.mp (h b hb) m hm
  rw [h1, h2, h3, h4, h5]
  constructor
  · rintro ⟨⟨⟨⟨a, b⟩, c⟩, d⟩, e⟩; exact ⟨a, b, c, d, e⟩
  · rintro ⟨a, b, c, d, e⟩; exact ⟨⟨⟨⟨a, b⟩, c⟩, d⟩, e⟩

/-! ### the walk's parts -/
def kdTs : Kd (List Str) := kdT fun zs => zs.map V.str
section
variable {K : PySem.W.Frag} {σ : L2.St} {H H' H0 : Hp} {ta tb te : TE} {D : Ends} {tz : TS} {C t l : Addr} {Dt : TD Str} {j : V} {T : List (Addr × Str)}
theorem wk_enumT {as : List Str} {a : Addr} {tl : TA} (h : EvA tl σ H [.ref a]) (hx : SqT K H a (as.map V.str)) : WalkP (iEnumT K tl) σ H as.zipIdx (fun p v H3 => ∃ q, v = .ref q ∧ H3 q = some (.tup [.int (p.2 : Nat), .str p.1])) := fun H0 e0 R r => h H0 e0 _ fun H1 e1 => ⟨a, _, rfl, ex_t (e0.trans e1) hx, by
  refine r _ H1 (fun H => SqT K H a (as.map V.str)) (fun i H v H' => ∃ T x, v = .ref T ∧ H T = none ∧ H' = upd H T (.tup [.int (i : Nat), x]) ∧ (as.map V.str)[i]? = some x) e1 ?_ (fun H2 e2 => ex_t ((e0.trans e1).trans e2) hx) (fun i x H2 H3 e2 y => ?_)
  · refine ⟨fun i H hi g => ⟨as.map V.str, ?_⟩, fun H g => ⟨as.map V.str, g, ?_⟩, fun i H x H' hi g y => ?_⟩
    · rw [List.length_zipIdx] at hi
      exact ⟨V.str as[i], g, by simp [hi]⟩
    · rw [List.length_zipIdx, List.length_map]
    · obtain ⟨T, x, h1, h2, h3, h4⟩ := y
      exact ⟨T, x, h1, h2, h3, h4 _ g⟩
  · obtain ⟨T, z, rfl, hT, rfl, hz⟩ := y
    rw [List.getElem?_map] at hz
    obtain ⟨m, hm, rfl⟩ := Option.map_eq_some_iff.mp hz
    exact ⟨(m, i), by rw [List.getElem?_zipIdx, hm]; simp, Ex.new hT, T, rfl, upd_same⟩⟩
/-- xs[k:] of a tuple, 1 ≤ k -/
theorem ep_slT1 {tl : TO} {a : Addr} {xs : List V} {k : Nat} (h : Ev te σ H (.ref a)) (h1 : EvO tl σ H (some ((k + 1 : Nat) : Int))) (hs : SqT K H a xs) (hne : xs ≠ []) : EvP (tSl (rSlA K) te tl tNoPart) σ H fun _ v H2 => ∃ p, v = .ref p ∧ H2 p = some (.tup (xs.drop (k + 1))) :=
  fun H1 e1 Q q => h H1 e1 _ fun H2 e2 => h1 H2 (e1.trans e2) _ fun H3 e3 => eo_none H3 ((e1.trans e2).trans e3) _ fun H4 e4 => by
    have e14 := (e2.trans e3).trans e4
    have hl : 0 < xs.length := List.length_pos_iff.mpr hne
    have ec : cutV xs (some ((k + 1 : Nat) : Int)) none = xs.drop (k + 1) := by
      unfold cutV
      rw [sIx_nat, sIx_none]
      by_cases hk : k + 1 ≤ xs.length
      · rw [Nat.min_eq_left hk, List.take_of_length_le (by rw [List.length_drop]; exact Nat.le_refl _)]
      · rw [Nat.min_eq_right (by omega), Nat.sub_self, List.take_zero, List.drop_of_length_le (by omega)]
    refine ⟨a, xs, rfl, ex_t (e1.trans e14) hs, fun hw => ?_, fun hw p hp => ?_⟩
    · rw [sIx_nat] at hw
      omega
    · rw [ec]
      exact q _ _ (e14.trans (Ex.new hp)) ⟨p, rfl, upd_same⟩
/-- xs + ys -/
theorem ep_cat {a b : Addr} {xs ys : List V} (h1 : Ev ta σ H (.ref a)) (h2 : Ev tb σ H (.ref b)) (ha : H a = some (.lst xs)) (hb : H b = some (.lst ys)) (hz : xs.length + ys.length ≤ 100000) : EvP (tOp rCat ta tb) σ H (NewO (.lst (xs ++ ys))) :=
  fun H1 e1 Q q => h1 H1 e1 _ fun H2 e2 => h2 H2 (e1.trans e2) _ fun H3 e3 => ⟨a, b, xs, ys, rfl, rfl, ((e1.trans e2).trans e3) _ _ ha, ((e1.trans e2).trans e3) _ _ hb, sz_of hz, fun p hp => q _ _ ((e2.trans e3).trans (Ex.new hp)) ⟨p, rfl, fresh_back (e2.trans e3) hp, upd_same⟩⟩
/-- xs.extend(new list) -/
theorem q_extN {β : Type} {k : Kd β} {bs : List β} {xs : List V} (hl : H l = some (.lst xs)) (ha : Ev ta σ H (.ref l)) (h : EvP te σ H (NewL k bs)) (hz : xs.length + bs.length ≤ 100000)
    (kk : ∀ zs H1, Ex H H1 → k.L bs zs H1 → tz D σ (upd H1 l (.lst (xs ++ zs)))) : tSeq (tDrop (tBM K "list" rExtend ta (tCons te tNil))) tz D σ H :=
  ha H (Ex.refl _) _ fun H1 e1 => ⟨.inl ⟨rfl, xs, SqL.of (e1 _ _ hl)⟩, h H1 e1 _ fun v H2 e2 ⟨q, ys, h1, h2, h3, h4⟩ => ⟨l, q, xs, ys, rfl, by rw [h1], (e1.trans e2) _ _ hl, h3, by rw [← pair_len h4]; exact sz_of hz, kk ys H2 (e1.trans e2) h4⟩⟩
theorem s_extN {β : Type} {k : Kd β} {bs : List β} {xs : List V} (hl : H l = some (.lst xs)) (ha : Ev ta σ H (.ref l)) (h : EvP te σ H (NewL k bs)) (hz : xs.length + bs.length ≤ 100000)
    (kk : ∀ zs H1, Ex H H1 → k.L bs zs H1 → D.nx σ (upd H1 l (.lst (xs ++ zs)))) : tDrop (tBM K "list" rExtend ta (tCons te tNil)) D σ H :=
  ha H (Ex.refl _) _ fun H1 e1 => ⟨.inl ⟨rfl, xs, SqL.of (e1 _ _ hl)⟩, h H1 e1 _ fun v H2 e2 ⟨q, ys, h1, h2, h3, h4⟩ => ⟨l, q, xs, ys, rfl, by rw [h1], (e1.trans e2) _ _ hl, h3, by rw [← pair_len h4]; exact sz_of hz, kk ys H2 (e1.trans e2) h4⟩⟩
theorem kdP_bs : ∀ {ps : List (Str × Str)} {xs : List V}, kdP.L ps xs H → ∃ bs : List ((Str × Str) × Addr), bs.map (·.1) = ps ∧ xs = bs.map (fun b => V.ref b.2) ∧ ∀ b ∈ bs, H b.2 = some (.tup [.str b.1.1, .str b.1.2])
  | [], [], .nil => ⟨[], rfl, rfl, fun _ h => by cases h⟩
  | p :: ps, x :: xs, .cons ⟨q, h1, h2⟩ t => by
    obtain ⟨bs, e1, e2, e3⟩ := kdP_bs t
    refine ⟨(p, q) :: bs, by rw [List.map_cons, e1], by rw [List.map_cons, e2, h1], fun b hb => ?_⟩
    rcases List.mem_cons.mp hb with rfl | hb
    · exact h2
    · exact e3 b hb
theorem kdP_of_bs : ∀ {bs : List ((Str × Str) × Addr)}, (∀ b ∈ bs, H b.2 = some (.tup [.str b.1.1, .str b.1.2])) → kdP.L (bs.map (·.1)) (bs.map fun b => V.ref b.2) H
  | [], _ => .nil
  | b :: bs, h => .cons ⟨b.2, rfl, h b (by simp)⟩ (kdP_of_bs fun c hc => h c (by simp [hc]))
/-- the table and the code tables, as they stand -/
structure FlS (C : Addr) (T : List (Addr × Str)) (t : Addr) (Dt : TD Str) (j : V) (H0 H : Hp) : Prop where
  tab : TabJ C H t Dt j
  tabs : Tabs T H
  ext : ExtN H0 H
theorem FlS.ex (s : FlS C T t Dt j H0 H) (e : Ex H H') : FlS C T t Dt j H0 H' := ⟨s.tab.ex e, s.tabs.ext e, s.ext.trans (ExtN.of e)⟩
theorem TabJ.but (h : TabJ C H t Dt j) (k : ∀ b o, H b = some o → (∀ xs, o ≠ .lst xs) → (∀ ps, o ≠ .tbl ps) → H' b = some o) : TabJ C H' t Dt j := by
  obtain ⟨dx, o, p, w, u, ob, kvp, kvw, kvu, A⟩ := h
  exact ⟨dx, o, p, w, u, ob, kvp, kvw, kvu, ⟨k _ _ A.at_ (fun _ z => by cases z) (fun _ z => by cases z), k _ _ A.ord (fun _ z => by cases z) (fun _ z => by cases z), A.oc, A.od, k _ _ A.prs (fun _ z => by cases z) (fun _ z => by cases z), A.near, k _ _ A.wor (fun _ z => by cases z) (fun _ z => by cases z), A.rank, k _ _ A.upp (fun _ z => by cases z) (fun _ z => by cases z), A.up⟩⟩
theorem FlS.upd {xs ys : List V} (s : FlS C T t Dt j H0 H) (hl : H l = some (.lst xs)) (h0 : ∀ o, H0 l = some o → ∃ ps, o = .tbl ps) : FlS C T t Dt j H0 (upd H l (.lst ys)) := by
  have k : ∀ b o, H b = some o → (∀ xs, o ≠ .lst xs) → (L2.upd H l (.lst ys)) b = some o := fun b o h n => by
    rw [upd_ne (fun z => by rw [z, hl] at h; cases h; exact n _ rfl)]; exact h
  refine ⟨s.tab.but fun b o h n _ => k b o h n, fun p hp => ?_, fun b o h n => ?_⟩
  · obtain ⟨ps, h1, h2, h3⟩ := s.tabs p hp
    refine ⟨ps, k _ _ h1 (fun _ z => by cases z), h2, fun pos cv hc => ?_⟩
    obtain ⟨c, e1, e2⟩ := h3 pos cv hc
    refine ⟨c, e1, k _ _ e2 (fun xs z => ?_)⟩
    unfold CodeO at z
    cases z
  · rw [upd_ne (fun z => by rw [z] at h; obtain ⟨ps, e⟩ := h0 _ h; exact n ps e)]
    exact s.ext b o h n
theorem extN_exL (e : ExtN H H') : ExL H H' := fun b xs h => e b _ h (fun _ z => by cases z)
theorem kd_extN {β : Type} {k : Kd β} {bs : List β} {vs : List V} (e : ExtN H H') (h : k.L bs vs H) : k.L bs vs H' := k.L_mono (extN_exL e) h
end
end HT
set_option Elab.async false
set_option linter.all false
set_option maxRecDepth 100000
set_option maxHeartbeats 4000000
/-! Table.flaws: the walk -/
namespace HT
open PySem PySem.Spec PyProof.Rows L2 Evl LamX
def lamQ : Str := (envOfC "Table.flaws" (defScope s_Table_flaws) 0 0 .none).qual ++ "<lambda>"
abbrev TL (Pt : Addr) : List (Addr × Str) := [(Pt, lamQ)]
section
variable {P : Program} {w : World} {K : PySem.W.Frag} {mg : Str → Option Value} {base : Heap} {C Dc Pt c : Addr} {f : Addr} {fd : FuncData}
/-- the rule of a def, its code told -/
theorem FunD.okC {CX : CXT} {N ps : List Str} {k : Nat} {sp : Sp} {x qual : Str} {params : Arguments} {body : List Stmt} {scope : Scope} {dvs : List V} {kws : List (Str × V)} (F : FunD K x qual params body scope dvs kws f fd) (S : FnScope N ps scope) (len : ∀ vs H Q E, sp vs H Q E → vs.length = ps.length)
    (hc : ∀ oc od (fd' : FuncData) osl c', K.lookup f = some ⟨oc, od, .func fd', osl⟩ → fd'.code = .ref c' → c' = c)
    (hbody : ∀ (A : Around) (outer : List Env) (s : Shared) (H : Hp) (vs : List V) (Q : VK) (E : XK), Room k (A.deeper (envOfC qual scope s.heap.objs.size f (.ref c))) → sp vs H Q E →
      ∃ t, PSs (cxOf CX P w K mg base N qual scope f (.ref c) A outer s H E) body t ∧ t { nx := fun _ H' => Q .non H', rt := Q } (start N vs) H) : FnOk P w K mg base CX (k + 1) f fd ps sp := by
  obtain ⟨oc, od, dV, kV, doc, pm, an, cdv, ct, osl, rfl, lk, hcd, _, _⟩ := F.ex
  obtain ⟨c', e⟩ : ∃ c', cdv = .ref c' := by cases cdv <;> first | exact ⟨_, rfl⟩ | exact absurd hcd (by intro z; cases z)
  subst e
  have := hc _ _ _ _ c' lk rfl
  subst this
  exact fn_of lk hcd S len fun A outer s H vs Q E hr hsp => hbody A outer s H vs Q E hr hsp
theorem q_asgN {β : Type} {k : Kd β} {bs : List β} {σ : L2.St} {H : Hp} {te : TE} {D : Ends} {tz : TS} {i : Nat} (h : EvP te σ H (NewL k bs)) (kk : ∀ p ys H1, H p = none → Ex H H1 → H1 p = some (.lst ys) → k.L bs ys H1 → tz D (σ.set i (some (.ref p))) H1) : tSeq (tAsg te (gName i)) tz D σ H :=
  h H (Ex.refl _) _ fun v H1 e1 ⟨p, ys, h1, h2, h3, h4⟩ => by rw [h1]; exact kk p ys H1 h2 e1 h3 h4
theorem ep_tupR {β : Type} {ρ : β → List V} {b : β} {σ : L2.St} {H : Hp} {te : TE} (h : EvU te σ H (ρ b)) : EvP te σ H fun _ v H2 => (kdT ρ).R b v H2 := fun H1 e1 Q q => h H1 e1 Q fun p H2 hn e2 hp => q _ H2 e2 ⟨p, rfl, hp⟩
theorem ep_catT {σ : L2.St} {H : Hp} {ta tb : TE} {b : Addr} {xs ys : List V} (h1 : EvU ta σ H xs) (h2 : Ev tb σ H (.ref b)) (hb : H b = some (.tup ys)) (nx : xs ≠ []) (ny : ys ≠ []) (hz : xs.length + ys.length ≤ 100000) : EvP (tOp (rCatA K) ta tb) σ H fun _ v H2 => ∃ p, v = .ref p ∧ H2 p = some (.tup (xs ++ ys)) :=
  fun H1 e1 Q q => h1 H1 e1 _ fun a H2 _ e2 ha => h2 H2 (e1.trans e2) _ fun H3 e3 => ⟨a, b, xs, ys, rfl, rfl, SqT.of (e3 _ _ ha), SqT.of (((e1.trans e2).trans e3) _ _ hb), sz_of hz, fun z => absurd z nx, fun _ z => absurd z ny, fun _ _ p hp => q _ _ ((e2.trans e3).trans (Ex.new hp)) ⟨p, rfl, upd_same⟩⟩
theorem ev_pair0 {σ : L2.St} {H : Hp} {ta : TE} {q : Addr} {x : V} {xs : List V} (h : Ev ta σ H (.ref q)) (hq : H q = some (.tup (x :: xs))) : Ev (tOp (rIxT K) ta (tC (.int 0))) σ H x := ev_op h ev_c (rv_ixT (SqT.of hq) (atI_nat (j := 0) rfl))
theorem ev_pair1 {σ : L2.St} {H : Hp} {ta : TE} {q : Addr} {x y : V} {xs : List V} (h : Ev ta σ H (.ref q)) (hq : H q = some (.tup (x :: y :: xs))) : Ev (tOp (rIxT K) ta (tC (.int 1))) σ H y := ev_op h ev_c (rv_ixT (SqT.of hq) (atI_nat (j := 1) rfl))
theorem flaws_ok {D : TD Str} (wf : WFD D) {two : List (Str × Str)} (ht : ∀ p ∈ two, p.1 ∈ D.order ∧ p.2 ∈ D.order) : ∀ zs ∈ (((f1 D ++ f2 D) ++ f3 D) ++ f4 D two) ++ D.order.flatMap (f5 D), ∀ z ∈ zs, PyData.strOk z = true := by
  have lit : ∀ z ∈ (["above", "apart", "over", "quarrel", "beneath"] : List Str), PyData.strOk z = true := by decide +kernel
  intro zs hzs z hz
  rcases List.mem_append.mp hzs with hzs | hzs
  · rcases List.mem_append.mp hzs with hzs | hzs
    · rcases List.mem_append.mp hzs with hzs | hzs
      · rcases List.mem_append.mp hzs with hzs | hzs
        · obtain ⟨m, hm, rfl⟩ := List.mem_map.mp hzs
          simp only [List.mem_cons, List.not_mem_nil, or_false] at hz
          rcases hz with rfl | rfl
          · exact lit _ (by decide)
          · exact wf.ok _ (List.mem_filter.mp hm).1
        · obtain ⟨m, hm, rfl⟩ := List.mem_map.mp hzs
          have := pairsOf_in (a := m.1) (b := m.2) (List.mem_filter.mp hm).1
          simp only [List.mem_cons, List.not_mem_nil, or_false] at hz
          rcases hz with rfl | rfl | rfl
          · exact lit _ (by decide)
          · exact wf.ok _ this.1
          · exact wf.ok _ this.2
      · obtain ⟨m, hm, rfl⟩ := List.mem_map.mp hzs
        have := pairsOf_in (a := m.1) (b := m.2) (List.mem_filter.mp hm).1
        simp only [List.mem_cons, List.not_mem_nil, or_false] at hz
        rcases hz with rfl | rfl | rfl
        · exact lit _ (by decide)
        · exact wf.ok _ this.1
        · exact wf.ok _ this.2
    · obtain ⟨m, hm, rfl⟩ := List.mem_map.mp hzs
      have := ht m (List.mem_filter.mp hm).1
      simp only [List.mem_cons, List.not_mem_nil, or_false] at hz
      rcases hz with rfl | rfl | rfl
      · exact lit _ (by decide)
      · exact wf.ok _ this.1
      · exact wf.ok _ this.2
  · obtain ⟨a, ha, h5⟩ := List.mem_flatMap.mp hzs
    obtain ⟨r, hr, rfl⟩ := List.mem_map.mp h5
    obtain ⟨b, hb, hr2⟩ := List.mem_flatMap.mp (List.mem_filter.mp hr).1
    obtain ⟨m, hm, rfl⟩ := List.mem_map.mp hr2
    simp only [List.mem_cons, List.not_mem_nil, or_false] at hz
    rcases hz with rfl | rfl | rfl | rfl
    · exact lit _ (by decide)
    · exact wf.ok _ ha
    · exact wf.ok _ (List.mem_filter.mp hb).1
    · exact wf.ok _ (List.mem_filter.mp hm).1
/-- rows of the last look -/
def kdR : Kd (Str × Str × Str) := kdT fun r => [.str "beneath", .str r.1, .str r.2.1, .str r.2.2]
def spFlaws (C Pt : Addr) : Sp := fun vs H Q _ => ∃ (t : Addr) (D : TD Str) (j : V), vs = [.ref t] ∧ TabJ C H t D j ∧ WFD D ∧ Tabs (TL Pt) H ∧
  ∀ H' l ys F, ExtN H H' → Tabs (TL Pt) H' → TabJ C H' t D j → H' l = some (.lst ys) → kdTs.L F ys H' → (∀ zs ∈ F, ∀ z ∈ zs, PyData.strOk z = true) → (F = [] ↔ D.clean = true) → Q (.ref l) H'
theorem sc_Table_flaws : FnScope ["self", "pairs", "alike", "any_two", "goals", "found", "one", "worse", "near", "rows", "at", "other", "mode", "goal", "pair", "row"] ["self"] (defScope s_Table_flaws) := ⟨rfl, rfl, rfl, by decide +kernel, rfl, by decide +kernel, by decide +kernel⟩
theorem ok_Table_flaws (F : FnT K "flaws" "Table.flaws" s_Table_flaws [] [] f fd) (T : Txt K mg C Dc) (TB : TabB base mg c Pt) (hc : ∀ oc od (fd' : FuncData) osl c', K.lookup f = some ⟨oc, od, .func fd', osl⟩ → fd'.code = .ref c' → c' = c)
    (M_Table_bears : AMt2 P w K mg base C "bears" 3 ansBears) (M_Table_joined : AMt2 P w K mg base C "joined" 4 ansJoined) (M_Table_quarrel : AMt2 P w K mg base C "quarrel" 1 ansQuarrel) (M_Table_is_over : AMt2 P w K mg base C "is_over" 5 ansOver) :
    FnOk P w K mg base CX0 6 f fd ["self"] (spFlaws C Pt) := by
  refine FunD.okC F sc_Table_flaws (fun vs H Q E ⟨_, _, _, h, _⟩ => by rw [h]; rfl) hc (fun A outer s H vs Q E hr ⟨t, D, j, hv, hJ, wf, hT, q⟩ => ?_)
  have hcode : (cxOf CX0 P w K mg base ["self", "pairs", "alike", "any_two", "goals", "found", "one", "worse", "near", "rows", "at", "other", "mode", "goal", "pair", "row"] "Table.flaws" (defScope s_Table_flaws) f (.ref c) A outer s H E).nox.env.code = .ref c := rfl
  have hmT : (Pt, (cxOf CX0 P w K mg base ["self", "pairs", "alike", "any_two", "goals", "found", "one", "worse", "near", "rows", "at", "other", "mode", "goal", "pair", "row"] "Table.flaws" (defScope s_Table_flaws) f (.ref c) A outer s H E).nox.env.qual ++ "<lambda>") ∈ TL Pt := List.mem_singleton.mpr rfl
  have huT : ∀ p ∈ TL Pt, p.1 = Pt → p.2 = (cxOf CX0 P w K mg base ["self", "pairs", "alike", "any_two", "goals", "found", "one", "worse", "near", "rows", "at", "other", "mode", "goal", "pair", "row"] "Table.flaws" (defScope s_Table_flaws) f (.ref c) A outer s H E).nox.env.qual ++ "<lambda>" := fun p hp _ => by rw [List.mem_singleton.mp hp]; rfl
  refine ⟨_, PSs.nox (pss_cons (ps_setLc2 (i := 1) (vs1 := [11]) (own := [("at", 10), ("one", 6), ("other", 11)]) rfl sc_Table_flaws.nd rfl rfl (sw_true rfl rfl rfl (by rfl)) (pi_enumT K rfl (by rfl) T.fEnum (pa_cons (pe_fldK K rfl (pv 0) rfl) pa_nil)) (blkOk_by (by rfl)) (by decide) (fun _ _ _ _ _ => (pg_tupK (n := 2) K rfl rfl (pgs_cons (pg_name (i := 10) sc_Table_flaws.nd rfl (by first | exact Or.inl rfl | exact Or.inr rfl)) (pgs_cons (pg_name (i := 6) sc_Table_flaws.nd rfl (by first | exact Or.inl rfl | exact Or.inr rfl)) pgs_nil)))) (fun _ _ _ _ _ => pts_nil) (fun _ _ _ _ _ => (pi_tupK K rfl (pe_slice (sl_tupAK K rfl) (pe_fldK K rfl (pv 0) rfl) (po_some (pe_op op_add (pv 10) pe_int)) po_none))) (fun _ _ _ _ _ => (pg_name (i := 11) sc_Table_flaws.nd rfl (by first | exact Or.inl rfl | exact Or.inr rfl))) (fun _ _ _ _ _ => pts_nil) (fun _ _ _ _ _ => (pe_tup (pa_cons (pv 6) (pa_cons (pv 11) pa_nil)))))
    (pss_cons (ps_setLc (i := 2) (own := [("mode", 12)]) rfl sc_Table_flaws.nd rfl rfl (sw_true rfl rfl rfl (by rfl)) (pi_tupK K rfl (pe_fldK K rfl (pv 0) rfl)) (blkOk_by (by rfl)) (fun _ _ _ _ _ => (pg_name (i := 12) sc_Table_flaws.nd rfl (by first | exact Or.inl rfl | exact Or.inr rfl))) (fun _ _ _ _ _ => pts_nil) (fun _ _ _ _ _ => (pe_tup (pa_cons (pv 12) (pa_cons (pv 12) pa_nil)))))
    (pss_cons (ps_set (i := 3) sc_Table_flaws.nd rfl (Or.inl rfl) (pe_sortL (k := 2) (i := 0) rfl T.clC T.nOrder (hr.mono (by decide)) TB hcode hmT huT rfl rfl (by rfl) T.fSorted (pe_op op_cat (pv 1) (pv 2))))
    (pss_cons (ps_setLc (i := 4) (own := [("mode", 12)]) rfl sc_Table_flaws.nd rfl rfl (sw_true rfl rfl rfl (by rfl)) (pi_tupK K rfl (pe_fldK K rfl (pv 0) rfl)) (blkOk_by (by rfl)) (fun _ _ _ _ _ => (pg_name (i := 12) sc_Table_flaws.nd rfl (by first | exact Or.inl rfl | exact Or.inr rfl))) (fun _ _ _ _ _ => pts_nil) (fun _ _ _ _ _ => (pe_tup (pa_cons (pv 12) (pa_cons (pe_dget (hu_of hr) (pe_fldK K rfl (pv 0) rfl) (pv 12) (fun _ _ => rfl)) pa_nil)))))
    (pss_cons (ps_setLc (i := 5) (own := [("mode", 12), ("goal", 13)]) rfl sc_Table_flaws.nd rfl rfl (sw_true rfl rfl rfl (by rfl)) (pi_listK K rfl (pv 4)) (blkOk_by (by rfl)) (fun _ _ _ _ _ => (pg_tupK (n := 2) K rfl rfl (pgs_cons (pg_name (i := 12) sc_Table_flaws.nd rfl (by first | exact Or.inl rfl | exact Or.inr rfl)) (pgs_cons (pg_name (i := 13) sc_Table_flaws.nd rfl (by first | exact Or.inl rfl | exact Or.inr rfl)) pgs_nil)))) (fun _ _ _ _ _ => (pts_one (pt_not (pt_val (pe_methG M_Table_bears T.clC hr (by decide) (pv 0) (pa_cons (pv 13) (pa_cons (pe_dget (hu_of hr) (pe_fldK K rfl (pv 0) rfl) (pv 13) (fun _ _ => rfl)) pa_nil))))))) (fun _ _ _ _ _ => (pe_tup (pa_cons pe_str (pa_cons (pv 12) pa_nil)))))
    (pss_cons (ps_expr (pe_bmK K rfl PySem.F.plainAttrs_list PySem.F.slot_list_extend PySem.F.type_list_extend mt_extend (pv 5) (pa_cons (pe_lc (own := [("pair", 14)]) rfl sc_Table_flaws.nd (pi_listK K rfl (pv 1)) (blkOk_by (by rfl)) (fun _ _ _ _ _ => (pg_name (i := 14) sc_Table_flaws.nd rfl (by first | exact Or.inl rfl | exact Or.inr rfl))) (fun _ _ _ _ _ => (pts_one (pt_cmp (pc_isN (pe_methG M_Table_joined T.clC hr (by decide) (pv 0) (pa_cons (pe_ix (ix_tupK K rfl) (pv 14) pe_int (fun _ _ => rfl)) (pa_cons (pe_ix (ix_tupK K rfl) (pv 14) pe_int (fun _ _ => rfl)) pa_nil))))))) (fun _ _ _ _ _ => (pe_op (op_catAK K rfl) (pe_tup (pa_cons pe_str pa_nil)) (pv 14)))) pa_nil)))
    (pss_cons (ps_expr (pe_bmK K rfl PySem.F.plainAttrs_list PySem.F.slot_list_extend PySem.F.type_list_extend mt_extend (pv 5) (pa_cons (pe_lc (own := [("pair", 14)]) rfl sc_Table_flaws.nd (pi_listK K rfl (pv 1)) (blkOk_by (by rfl)) (fun _ _ _ _ _ => (pg_name (i := 14) sc_Table_flaws.nd rfl (by first | exact Or.inl rfl | exact Or.inr rfl))) (fun _ _ _ _ _ => (pts_one (pt_not (pt_val (pe_methG M_Table_is_over T.clC hr (by decide) (pv 0) (pa_cons (pe_ix (ix_tupK K rfl) (pv 14) pe_int (fun _ _ => rfl)) (pa_cons (pe_ix (ix_tupK K rfl) (pv 14) pe_int (fun _ _ => rfl)) pa_nil))))))) (fun _ _ _ _ _ => (pe_op (op_catAK K rfl) (pe_tup (pa_cons pe_str pa_nil)) (pv 14)))) pa_nil)))
    (pss_cons (ps_expr (pe_bmK K rfl PySem.F.plainAttrs_list PySem.F.slot_list_extend PySem.F.type_list_extend mt_extend (pv 5) (pa_cons (pe_lc (own := [("pair", 14)]) rfl sc_Table_flaws.nd (pi_listK K rfl (pv 3)) (blkOk_by (by rfl)) (fun _ _ _ _ _ => (pg_name (i := 14) sc_Table_flaws.nd rfl (by first | exact Or.inl rfl | exact Or.inr rfl))) (fun _ _ _ _ _ => (pts_one (PW.pt (pw_and (pt_cmp (pc_din (hu_of hr) (pv 14) (pe_fldK K rfl (pv 0) rfl))) (pw_and1 (pt_val (pe_methG M_Table_quarrel T.clC hr (by decide) (pv 0) (pa_cons (pe_ix (ix_tupK K rfl) (pv 14) pe_int (fun _ _ => rfl)) (pa_cons (pe_ix (ix_tupK K rfl) (pv 14) pe_int (fun _ _ => rfl)) pa_nil))))))))) (fun _ _ _ _ _ => (pe_op (op_catAK K rfl) (pe_tup (pa_cons pe_str pa_nil)) (pv 14)))) pa_nil)))
    (pss_cons (ps_for PassesOwn.never rfl (pi_tupK K rfl (pe_fldK K rfl (pv 0) rfl)) (pg_name (i := 6) sc_Table_flaws.nd rfl (by first | exact Or.inl rfl | exact Or.inr rfl)) (pss_cons (ps_setLc (i := 7) (own := [("other", 11)]) rfl sc_Table_flaws.nd rfl rfl (sw_true rfl rfl rfl (by rfl)) (pi_tupK K rfl (pe_fldK K rfl (pv 0) rfl)) (blkOk_by (by rfl)) (fun _ _ _ _ _ => (pg_name (i := 11) sc_Table_flaws.nd rfl (by first | exact Or.inl rfl | exact Or.inr rfl))) (fun _ _ _ _ _ => (pts_one (pt_val (pe_methG M_Table_quarrel T.clC hr (by decide) (pv 0) (pa_cons (pv 6) (pa_cons (pv 11) pa_nil)))))) (fun _ _ _ _ _ => (pv 11)))
      (pss_cons (ps_set (i := 8) sc_Table_flaws.nd rfl (Or.inr rfl) (pe_lc (own := [("mode", 12)]) rfl sc_Table_flaws.nd (pi_tupK K rfl (pe_fldK K rfl (pv 0) rfl)) (blkOk_by (by rfl)) (fun _ _ _ _ _ => (pg_name (i := 12) sc_Table_flaws.nd rfl (by first | exact Or.inl rfl | exact Or.inr rfl))) (fun _ _ _ _ _ => (pts_one (pt_cmp (pc_din (hu_of hr) (pe_tup (pa_cons (pv 6) (pa_cons (pv 12) pa_nil))) (pe_fldK K rfl (pv 0) rfl))))) (fun _ _ _ _ _ => (pv 12))))
      (pss_cons (ps_setLc2 (i := 9) (vs1 := [12]) (own := [("other", 11), ("mode", 12)]) rfl sc_Table_flaws.nd rfl rfl (sw_true rfl rfl rfl (by rfl)) (pi_listK K rfl (pv 7)) (blkOk_by (by rfl)) (by decide) (fun _ _ _ _ _ => (pg_name (i := 11) sc_Table_flaws.nd rfl (by first | exact Or.inl rfl | exact Or.inr rfl))) (fun _ _ _ _ _ => pts_nil) (fun _ _ _ _ _ => (pi_listK K rfl (pv 8))) (fun _ _ _ _ _ => (pg_name (i := 12) sc_Table_flaws.nd rfl (by first | exact Or.inl rfl | exact Or.inr rfl))) (fun _ _ _ _ _ => pts_nil) (fun _ _ _ _ _ => (pe_tup (pa_cons pe_str (pa_cons (pv 6) (pa_cons (pv 11) (pa_cons (pv 12) pa_nil)))))))
      (pss_one (ps_expr (pe_bmK K rfl PySem.F.plainAttrs_list PySem.F.slot_list_extend PySem.F.type_list_extend mt_extend (pv 5) (pa_cons (pe_lc (own := [("row", 15)]) rfl sc_Table_flaws.nd (pi_listK K rfl (pv 9)) (blkOk_by (by rfl)) (fun _ _ _ _ _ => (pg_name (i := 15) sc_Table_flaws.nd rfl (by first | exact Or.inl rfl | exact Or.inr rfl))) (fun _ _ _ _ _ => (pts_one (pt_val (pe_methG M_Table_bears T.clC hr (by decide) (pv 0) (pa_cons (pe_ix (ix_tupK K rfl) (pv 15) pe_int (fun _ _ => rfl)) (pa_cons (pe_dget (hu_of hr) (pe_fldK K rfl (pv 0) rfl) (pe_ix (ix_tupK K rfl) (pv 15) pe_int (fun _ _ => rfl)) (fun _ _ => rfl)) pa_nil)))))) (fun _ _ _ _ _ => (pv 15))) pa_nil))))))))
    (pss_one (ps_ret (pv 5)))))))))))), ?_⟩
  subst hv
  have h8 := wf.few
  -- pairs
  obtain ⟨o1, hE1, hS1⟩ := hJ.ord T (ev_var (σ := start ["self", "pairs", "alike", "any_two", "goals", "found", "one", "worse", "near", "rows", "at", "other", "mode", "goal", "pair", "row"] [.ref t]) (i := 0) (v := .ref t) rfl)
  have hpl := pairsOf_len D.order
  have hp64 : (pairsOf D.order).length ≤ 64 := Nat.le_trans hpl (Nat.mul_le_mul h8 h8)
  have hP := ep_lc2W (σ := start ["self", "pairs", "alike", "any_two", "goals", "found", "one", "worse", "near", "rows", "at", "other", "mode", "goal", "pair", "row"] [.ref t]) (H := H) (te := tTup (tCons (tVar 6) (tCons (tVar 11) tNil))) (RB := fun _ => (kdV V.str).R) (wi := iEnumT K (tCons (tFld K (tVar 0) "order") tNil)) (wi1 := iTup K (tSl (rSlA K) (tFld K (tVar 0) "order") (tPart (tOp (rI0 fun i j => .int (i + j)) (tVar 10) (tC (.int 1)))) tNoPart)) (g := gTup K 2 (gCons (gName 10) (gCons (gName 6) gNil))) (g1 := gName 11) (vs := [10, 6, 11]) (vs1 := [11])
    (fun p => D.order.drop (p.2 + 1)) (fun p b => (p.1, b)) kdP (wk_enumT (ea_cons hE1 ea_nil) hS1) (by rw [List.length_zipIdx]; omega) (fun p _ => by rw [List.length_drop]; omega)
    (fun p x H1 hp e1 ⟨q, hx, hq⟩ => by
      subst hx
      refine ⟨q, _, rfl, SqT.of hq, rfl, _, _, rfl, _, _, rfl, rfl, rfl, Ex.refl _, ?_, fun b y H4 hb e4 l4 hy => ?_⟩
      · have hne : D.order ≠ [] := fun z => by rw [z] at hp; cases hp
        refine wi_tupP (ka := kdV V.str) ((ep_slT1 (k := p.2) (hJ.ord T (ev_var (i := 0) (v := .ref t) rfl)).choose_spec.1 (eo_some (ev_is (ev_op (ev_var (i := 10) (v := .int (p.2 : Nat)) rfl) ev_c rv_I0) rfl)) (hJ.ord T (ev_var (i := 0) (v := .ref t) rfl)).choose_spec.2 (fun z => hne (List.map_eq_nil_iff.mp z))).imp fun H1 v H2 e1 e2 ⟨pp, hv, hpp⟩ => ⟨pp, _, hv, hpp, ?_⟩)
        rw [← List.map_drop]
        exact kdV_of
      · cases hy
        exact ⟨rfl, Ex.refl _, ep_tupR (ρ := fun p : Str × Str => [.str p.1, .str p.2]) (b := (p.1, b)) (eu_tup (ea_cons (ev_var (i := 6) rfl) (ea_cons (ev_var (i := 11) rfl) ea_nil)) (by show 2 ≤ 100000; decide))⟩)
    gt2_mono gname_mono
  have ePO : (D.order.zipIdx.flatMap fun p => (D.order.drop (p.2 + 1)).map fun b => (p.1, b)) = pairsOf D.order := by
    have := pairsOf_enum D.order 0 [] rfl
    simpa using this
  rw [ePO] at hP
  refine q_asgN hP fun pp ys1 H1 hpp e1 h1 k1 => ?_
  -- alike
  have hJ1 := hJ.ex e1
  obtain ⟨o2, hE2, hS2⟩ := hJ1.ord T (ev_var (σ := (start ["self", "pairs", "alike", "any_two", "goals", "found", "one", "worse", "near", "rows", "at", "other", "mode", "goal", "pair", "row"] [.ref t]).set 1 (some (.ref pp))) (i := 0) (v := .ref t) rfl)
  have hA := ep_lcW (σ := (start ["self", "pairs", "alike", "any_two", "goals", "found", "one", "worse", "near", "rows", "at", "other", "mode", "goal", "pair", "row"] [.ref t]).set 1 (some (.ref pp))) (H := H1) (t := tYes) (te := tTup (tCons (tVar 12) (tCons (tVar 12) tNil))) (g := gName 12) (vs := [12]) (fun _ => true) (fun m => (m, m)) kdP (wk_tup (K := K) hE2 hS2 kdV_of) (by omega)
    (fun m x H2 hm e2 hx => by
      cases hx
      exact ⟨rfl, Ex.refl _, et_yes, fun _ => ep_tupR (ρ := fun p : Str × Str => [.str p.1, .str p.2]) (b := (m, m)) (eu_tup (ea_cons (ev_var (i := 12) rfl) (ea_cons (ev_var (i := 12) rfl) ea_nil)) (by show 2 ≤ 100000; decide))⟩)
    gname_mono
  rw [filt_true] at hA
  refine q_asgN hA fun pa ys2 H2 hpa e2 h2 k2' => ?_
  have e02 := e1.trans e2
  have h12 := e2 _ _ h1
  have k12 := kdP.L_ex e2 k1
  -- any_two
  obtain ⟨bs, hbs1, hbs2, hbs3⟩ := kdP_bs (pair_append k12 k2')
  have hJ2 := hJ.ex e02
  have hT2 := hT.ext e02
  have hl1 : ys1.length = (pairsOf D.order).length := (pair_len k12).symm
  have hl2 : ys2.length = D.order.length := by rw [← pair_len k2', List.length_map]
  have hbl : bs.length ≤ 72 := by
    have : (ys1 ++ ys2).length = bs.length := by rw [hbs2, List.length_map]
    rw [List.length_append] at this
    omega
  have hbin : ∀ b ∈ bs, b.1.1 ∈ D.order ∧ b.1.2 ∈ D.order := fun b hb => by
    have hm : b.1 ∈ pairsOf D.order ++ D.order.map fun m => (m, m) := by rw [← hbs1]; exact List.mem_map.mpr ⟨b, hb, rfl⟩
    rcases List.mem_append.mp hm with h | h
    · exact pairsOf_in h
    · obtain ⟨m, hm, e⟩ := List.mem_map.mp h
      rw [← e]
      exact ⟨hm, hm⟩
  refine ep_cat (ev_var (i := 1) (v := .ref pp) rfl) (ev_var (i := 2) (v := .ref pa) rfl) h12 h2 (by omega) H2 (Ex.refl _) _ fun v H3 e3 ⟨l3, hv3, hn3, h3⟩ => ?_
  obtain ⟨dx, o, p, w0, u, ob, kvp, kvw, kvu, A3⟩ := hJ2.ex e3
  refine ⟨l3, bs, t, dx, o, _, ob, D.order, hv3, SqL.of (by rw [← hbs2]; exact h3), fun b hb => e3 _ _ (hbs3 b hb), hbin, rfl, A3.at_, rfl, A3.ord, A3.oc, A3.od, by omega, by omega, hT2.ext e3, fun H4 eN T4 bs' d hperm hd => ?_⟩
  have hb4 : ∀ b ∈ bs', H4 b.2 = some (.tup [.str b.1.1, .str b.1.2]) := fun b hb => eN _ _ (e3 _ _ (hbs3 b (hperm.mem_iff.mp hb))) (fun _ z => by cases z)
  have eN4 : ExtN H2 (upd H4 d (.lst (bs'.map fun b => V.ref b.2))) := (ExtN.of e3).trans (eN.trans (ExtN.of (Ex.new hd)))
  have s5 : FlS C (TL Pt) t D j H (upd H4 d (.lst (bs'.map fun b => V.ref b.2))) :=
    (FlS.mk (TabJ.but ⟨dx, o, p, w0, u, ob, kvp, kvw, kvu, A3⟩ fun b o h _ n => eN b o h n) T4 ((ExtN.of (e02.trans e3)).trans eN) : FlS C (TL Pt) t D j H H4).ex (Ex.new hd)
  have hd5 : (upd H4 d (.lst (bs'.map fun b => V.ref b.2))) d = some (.lst (bs'.map fun b => V.ref b.2)) := upd_same
  have kd5 : kdP.L (bs'.map (·.1)) (bs'.map fun b => V.ref b.2) (upd H4 d (.lst (bs'.map fun b => V.ref b.2))) := kdP.L_ex (Ex.new hd) (kdP_of_bs hb4)
  have hpp5 : (upd H4 d (.lst (bs'.map fun b => V.ref b.2))) pp = some (.lst ys1) := eN4 _ _ h12 (fun _ z => by cases z)
  have k15 : kdP.L (pairsOf D.order) ys1 (upd H4 d (.lst (bs'.map fun b => V.ref b.2))) := kd_extN eN4 k12
  have hperm2 : (bs'.map (·.1)).Perm (allTwo D) := by
    have := hperm.map (·.1)
    rw [hbs1] at this
    exact this
  have hl5 : bs'.length ≤ 72 := by rw [hperm.length_eq]; exact hbl
  show tSeq _ _ _ (((start ["self", "pairs", "alike", "any_two", "goals", "found", "one", "worse", "near", "rows", "at", "other", "mode", "goal", "pair", "row"] [.ref t]).set 1 (some (.ref pp))).set 2 (some (.ref pa)) |>.set 3 (some (.ref d))) (upd H4 d (.lst (bs'.map fun b => V.ref b.2)))
  generalize upd H4 d (.lst (bs'.map fun b => V.ref b.2)) = H5 at s5 hd5 kd5 hpp5 k15 ⊢
  -- goals
  obtain ⟨o5, hE5, hS5⟩ := s5.tab.ord T (ev_var (σ := (((start ["self", "pairs", "alike", "any_two", "goals", "found", "one", "worse", "near", "rows", "at", "other", "mode", "goal", "pair", "row"] [.ref t]).set 1 (some (.ref pp))).set 2 (some (.ref pa)) |>.set 3 (some (.ref d)))) (i := 0) (v := .ref t) rfl)
  have hG := ep_lcW (σ := (((start ["self", "pairs", "alike", "any_two", "goals", "found", "one", "worse", "near", "rows", "at", "other", "mode", "goal", "pair", "row"] [.ref t]).set 1 (some (.ref pp))).set 2 (some (.ref pa)) |>.set 3 (some (.ref d)))) (H := H5) (t := tYes) (te := tTup (tCons (tVar 12) (tCons (tDGet (tFld K (tVar 0) "upper") (tVar 12)) tNil))) (g := gName 12) (vs := [12]) (fun _ => true) (fun m => (m, D.up m)) kdP (wk_tup (K := K) hE5 hS5 kdV_of) (by omega)
    (fun m x H6 hm e6 hx => by
      cases hx
      exact ⟨rfl, Ex.refl _, et_yes, fun _ => ep_tupR (ρ := fun p : Str × Str => [.str p.1, .str p.2]) (b := (m, D.up m)) (eu_tup (ea_cons (ev_var (i := 12) rfl) (ea_cons (ev_upper (s5.tab.ex e6) T (ev_var (i := 0) (v := .ref t) rfl) (ev_var (i := 12) rfl) hm) ea_nil)) (by show 2 ≤ 100000; decide))⟩)
    gname_mono
  rw [filt_true] at hG
  refine q_asgN hG fun pg ys6 H6 hpg e6 h6 k6 => ?_
  have s6 := s5.ex e6
  have hpp6 := e6 _ _ hpp5
  have k16 := kdP.L_ex e6 k15
  have hd6 := e6 _ _ hd5
  have kd6 := kdP.L_ex e6 kd5
  -- found
  have hF := ep_lcW (σ := ((((start ["self", "pairs", "alike", "any_two", "goals", "found", "one", "worse", "near", "rows", "at", "other", "mode", "goal", "pair", "row"] [.ref t]).set 1 (some (.ref pp))).set 2 (some (.ref pa)) |>.set 3 (some (.ref d))).set 4 (some (.ref pg)))) (H := H6) (te := tTup (tCons (tC (.str "above")) (tCons (tVar 12) tNil))) (g := gTup K 2 (gCons (gName 12) (gCons (gName 13) gNil))) (vs := [12, 13]) (t := tNot (tB (tMeth C "bears" (spT2 C ansBears) [] E0 (tVar 0) (tCons (tVar 13) (tCons (tDGet (tFld K (tVar 0) "upper") (tVar 13)) tNil))))) (fun q : Str × Str => !D.bears q.2 (D.up q.2)) (fun q : Str × Str => (["above", q.1] : List Str)) kdTs
    (wk_list (K := K) (ka := kdP) (ls_var (bs := D.order.map fun m => (m, D.up m)) (ev_var (i := 4) (v := .ref pg) rfl) ⟨pg, ys6, rfl, SqL.of h6, k6⟩)) (by rw [List.length_map]; omega)
    (fun q x H7 hq e7 ⟨tq, hx, htq⟩ => by
      subst hx
      obtain ⟨m, hm, rfl⟩ := List.mem_map.mp hq
      have hu := wf.up m hm
      exact ⟨tq, _, rfl, SqT.of htq, rfl, _, _, rfl, _, _, rfl, rfl, rfl, Ex.refl _, et_not (et_B (ev_T2 (ans := ansBears) (ev_var (i := 0) (v := .ref t) rfl) (ea_cons (ev_var (i := 13) rfl) (ea_cons (ev_upper (s6.tab.ex e7) T (ev_var (i := 0) (v := .ref t) rfl) (ev_var (i := 13) rfl) hu) ea_nil)) (s6.tab.ex e7) wf hu (wf.up _ hu) nl_bears)),
        fun _ => ep_tupR (ρ := fun zs : List Str => zs.map V.str) (b := (["above", m] : List Str)) (eu_tup (ea_cons ev_c (ea_cons (ev_var (i := 12) rfl) ea_nil)) (by show 2 ≤ 100000; decide))⟩)
    gt2_mono
  have eF1 : (((D.order.map fun m => (m, D.up m)).filter fun q : Str × Str => !D.bears q.2 (D.up q.2)).map fun q : Str × Str => (["above", q.1] : List Str)) = f1 D := by
    unfold f1
    rw [List.filter_map, List.map_map]
    rfl
  rw [eF1] at hF
  refine q_asgN hF fun l fs7 H7 hl7 e7 h7 k7 => ?_
  have s7 := s6.ex e7
  have hl0 : ∀ o, H l = some o → ∃ ps, o = .tbl ps := fun o ho => by
    cases o with
    | tbl ps => exact ⟨ps, rfl⟩
    | _ => have := s6.ext _ _ ho (fun _ z => by cases z); rw [hl7] at this; cases this
  have lpp : pp ≠ l := fun z => by rw [← z, hpp6] at hl7; cases hl7
  have ld : d ≠ l := fun z => by rw [← z, hd6] at hl7; cases hl7
  have hpp7 := e7 _ _ hpp6
  have k17 := kdP.L_ex e7 k16
  have hd7 := e7 _ _ hd6
  have kd7 := kdP.L_ex e7 kd6
  have hn1 : (f1 D).length ≤ 8 := by unfold f1; rw [List.length_map]; exact Nat.le_trans (List.length_filter_le _ _) h8
  have hn2 : (f2 D).length ≤ 64 := by unfold f2; rw [List.length_map]; exact Nat.le_trans (List.length_filter_le _ _) hp64
  have hn3 : (f3 D).length ≤ 64 := by unfold f3; rw [List.length_map]; exact Nat.le_trans (List.length_filter_le _ _) hp64
  have hn4 : (f4 D (bs'.map (·.1))).length ≤ 72 := by unfold f4; rw [List.length_map]; exact Nat.le_trans (List.length_filter_le _ _) (by rw [List.length_map]; exact hl5)
  have hfl7 := pair_len k7
  -- apart
  have hX2 := ep_lcW (σ := (((((start ["self", "pairs", "alike", "any_two", "goals", "found", "one", "worse", "near", "rows", "at", "other", "mode", "goal", "pair", "row"] [.ref t]).set 1 (some (.ref pp))).set 2 (some (.ref pa)) |>.set 3 (some (.ref d))).set 4 (some (.ref pg))).set 5 (some (.ref l)))) (H := H7) (te := tOp (rCatA K) (tTup (tCons (tC (.str "apart")) tNil)) (tVar 14)) (g := gName 14) (vs := [14]) (t := tB (tIsN (tMeth C "joined" (spT2 C ansJoined) [] E0 (tVar 0) (tCons (tOp (rIxT K) (tVar 14) (tC (.int 0))) (tCons (tOp (rIxT K) (tVar 14) (tC (.int 1))) tNil))))) (fun q : Str × Str => (D.joined q.1 q.2).isNone) (fun q : Str × Str => (["apart", q.1, q.2] : List Str)) kdTs
    (wk_list (K := K) (ka := kdP) (ls_var (bs := pairsOf D.order) (ev_var (i := 1) (v := .ref pp) rfl) ⟨pp, ys1, rfl, SqL.of hpp7, k17⟩)) (by omega)
    (fun q x H8 hq e8 ⟨tq, hx, htq⟩ => by
      subst hx
      have hin := pairsOf_in (a := q.1) (b := q.2) hq
      exact ⟨rfl, Ex.refl _, et_is (et_B (ev_isN (ev_T2 (ans := ansJoined) (ev_var (i := 0) (v := .ref t) rfl) (ea_cons (ev_pair0 (ev_var (i := 14) rfl) htq) (ea_cons (ev_pair1 (ev_var (i := 14) rfl) htq) ea_nil)) (s7.tab.ex e8) wf hin.1 hin.2 nl_joined))) optS_non,
        fun _ => ep_catT (eu_tup (ea_cons ev_c ea_nil) (by show 1 ≤ 100000; decide)) (ev_var (i := 14) rfl) htq (by simp) (by simp) (by show 3 ≤ 100000; decide)⟩)
    gname_mono
  refine q_extN h7 (ev_var (i := 5) (v := .ref l) rfl) hX2 (by rw [← hfl7]; have := hn2; unfold f2 at this; omega) fun zs2 H8 e8 kz2 => ?_
  have s8 := (s7.ex e8).upd (ys := fs7 ++ zs2) (e8 _ _ h7) hl0
  have eL8 : ExL H8 (upd H8 l (.lst (fs7 ++ zs2))) := ExL.upd (e8 _ _ h7) (fun _ z => by cases z)
  have k8 : kdTs.L (f1 D ++ f2 D) (fs7 ++ zs2) (upd H8 l (.lst (fs7 ++ zs2))) := kdTs.L_mono eL8 (pair_append (kdTs.L_ex e8 k7) kz2)
  have hpp8 : (upd H8 l (.lst (fs7 ++ zs2))) pp = some (.lst ys1) := by rw [upd_ne lpp]; exact e8 _ _ hpp7
  have k18 : kdP.L (pairsOf D.order) ys1 (upd H8 l (.lst (fs7 ++ zs2))) := kdP.L_mono eL8 (kdP.L_ex e8 k17)
  have hd8 : (upd H8 l (.lst (fs7 ++ zs2))) d = some (.lst (bs'.map fun b => V.ref b.2)) := by rw [upd_ne ld]; exact e8 _ _ hd7
  have kd8 : kdP.L (bs'.map (·.1)) (bs'.map fun b => V.ref b.2) (upd H8 l (.lst (fs7 ++ zs2))) := kdP.L_mono eL8 (kdP.L_ex e8 kd7)
  have hl8 : (upd H8 l (.lst (fs7 ++ zs2))) l = some (.lst (fs7 ++ zs2)) := upd_same
  generalize upd H8 l (.lst (fs7 ++ zs2)) = H9 at s8 k8 hpp8 k18 hd8 kd8 hl8 ⊢
  generalize fs7 ++ zs2 = fs8 at k8 hl8
  have hfl8 := pair_len k8
  rw [List.length_append] at hfl8
  clear e8 kz2 k7 h7
  -- over
  have hX3 := ep_lcW (σ := (((((start ["self", "pairs", "alike", "any_two", "goals", "found", "one", "worse", "near", "rows", "at", "other", "mode", "goal", "pair", "row"] [.ref t]).set 1 (some (.ref pp))).set 2 (some (.ref pa)) |>.set 3 (some (.ref d))).set 4 (some (.ref pg))).set 5 (some (.ref l)))) (H := H9) (te := tOp (rCatA K) (tTup (tCons (tC (.str "over")) tNil)) (tVar 14)) (g := gName 14) (vs := [14]) (t := tNot (tB (tMeth C "is_over" (spT2 C ansOver) [] E0 (tVar 0) (tCons (tOp (rIxT K) (tVar 14) (tC (.int 0))) (tCons (tOp (rIxT K) (tVar 14) (tC (.int 1))) tNil))))) (fun q : Str × Str => !D.isOver q.1 q.2) (fun q : Str × Str => (["over", q.1, q.2] : List Str)) kdTs
    (wk_list (K := K) (ka := kdP) (ls_var (bs := pairsOf D.order) (ev_var (i := 1) (v := .ref pp) rfl) ⟨pp, ys1, rfl, SqL.of hpp8, k18⟩)) (by omega)
    (fun q x H8 hq e8 ⟨tq, hx, htq⟩ => by
      subst hx
      have hin := pairsOf_in (a := q.1) (b := q.2) hq
      exact ⟨rfl, Ex.refl _, et_not (et_B (ev_T2 (ans := ansOver) (ev_var (i := 0) (v := .ref t) rfl) (ea_cons (ev_pair0 (ev_var (i := 14) rfl) htq) (ea_cons (ev_pair1 (ev_var (i := 14) rfl) htq) ea_nil)) (s8.tab.ex e8) wf hin.1 hin.2 nl_over)),
        fun _ => ep_catT (eu_tup (ea_cons ev_c ea_nil) (by show 1 ≤ 100000; decide)) (ev_var (i := 14) rfl) htq (by simp) (by simp) (by show 3 ≤ 100000; decide)⟩)
    gname_mono
  refine q_extN hl8 (ev_var (i := 5) (v := .ref l) rfl) hX3 (by rw [← hfl8]; have := hn3; unfold f3 at this; omega) fun zs3 H10 e10 kz3 => ?_
  have s10 := (s8.ex e10).upd (ys := fs8 ++ zs3) (e10 _ _ hl8) hl0
  have eL10 : ExL H10 (upd H10 l (.lst (fs8 ++ zs3))) := ExL.upd (e10 _ _ hl8) (fun _ z => by cases z)
  have k10 : kdTs.L ((f1 D ++ f2 D) ++ f3 D) (fs8 ++ zs3) (upd H10 l (.lst (fs8 ++ zs3))) := kdTs.L_mono eL10 (pair_append (kdTs.L_ex e10 k8) kz3)
  have hd10 : (upd H10 l (.lst (fs8 ++ zs3))) d = some (.lst (bs'.map fun b => V.ref b.2)) := by rw [upd_ne ld]; exact e10 _ _ hd8
  have kd10 : kdP.L (bs'.map (·.1)) (bs'.map fun b => V.ref b.2) (upd H10 l (.lst (fs8 ++ zs3))) := kdP.L_mono eL10 (kdP.L_ex e10 kd8)
  have hl10 : (upd H10 l (.lst (fs8 ++ zs3))) l = some (.lst (fs8 ++ zs3)) := upd_same
  generalize upd H10 l (.lst (fs8 ++ zs3)) = H11 at s10 k10 hd10 kd10 hl10 ⊢
  generalize fs8 ++ zs3 = fs10 at k10 hl10
  have hfl10 := pair_len k10
  rw [List.length_append, List.length_append] at hfl10
  -- quarrel
  have hX4 := ep_lcW (σ := (((((start ["self", "pairs", "alike", "any_two", "goals", "found", "one", "worse", "near", "rows", "at", "other", "mode", "goal", "pair", "row"] [.ref t]).set 1 (some (.ref pp))).set 2 (some (.ref pa)) |>.set 3 (some (.ref d))).set 4 (some (.ref pg))).set 5 (some (.ref l)))) (H := H11) (te := tOp (rCatA K) (tTup (tCons (tC (.str "quarrel")) tNil)) (tVar 14)) (g := gName 14) (vs := [14]) (t := tAnd (tB (tDIn (tVar 14) (tFld K (tVar 0) "pairs"))) (tB (tMeth C "quarrel" (spT2 C ansQuarrel) [] E0 (tVar 0) (tCons (tOp (rIxT K) (tVar 14) (tC (.int 0))) (tCons (tOp (rIxT K) (tVar 14) (tC (.int 1))) tNil))))) (fun q : Str × Str => D.near q.1 q.2 && D.quarrel q.1 q.2) (fun q : Str × Str => (["quarrel", q.1, q.2] : List Str)) kdTs
    (wk_list (K := K) (ka := kdP) (ls_var (bs := bs'.map (·.1)) (ev_var (i := 3) (v := .ref d) rfl) ⟨d, _, rfl, SqL.of hd10, kd10⟩)) (by rw [List.length_map]; omega)
    (fun q x H8 hq e8 ⟨tq, hx, htq⟩ => by
      subst hx
      have hin : q.1 ∈ D.order ∧ q.2 ∈ D.order := by
        obtain ⟨b, hb, rfl⟩ := List.mem_map.mp hq
        exact hbin b (hperm.mem_iff.mp hb)
      obtain ⟨dx', o', p', w', u', ob', kvp', kvw', kvu', A'⟩ := s10.tab.ex e8
      exact ⟨rfl, Ex.refl _, et_and (et_B (A'.inPv (ev_var (i := 14) rfl) htq (ev_fld (ev_var (i := 0) (v := .ref t) rfl) A'.at_ T.clC T.nPairs rfl))) (fun _ => et_B (ev_T2 (ans := ansQuarrel) (ev_var (i := 0) (v := .ref t) rfl) (ea_cons (ev_pair0 (ev_var (i := 14) rfl) htq) (ea_cons (ev_pair1 (ev_var (i := 14) rfl) htq) ea_nil)) (s10.tab.ex e8) wf hin.1 hin.2 nl_quarrel)),
        fun _ => ep_catT (eu_tup (ea_cons ev_c ea_nil) (by show 1 ≤ 100000; decide)) (ev_var (i := 14) rfl) htq (by simp) (by simp) (by show 3 ≤ 100000; decide)⟩)
    gname_mono
  refine q_extN hl10 (ev_var (i := 5) (v := .ref l) rfl) hX4 (by rw [← hfl10]; have := hn4; unfold f4 at this; omega) fun zs4 H12 e12 kz4 => ?_
  have s12 := (s10.ex e12).upd (ys := fs10 ++ zs4) (e12 _ _ hl10) hl0
  have eL12 : ExL H12 (upd H12 l (.lst (fs10 ++ zs4))) := ExL.upd (e12 _ _ hl10) (fun _ z => by cases z)
  have k12' : kdTs.L (((f1 D ++ f2 D) ++ f3 D) ++ f4 D (bs'.map (·.1))) (fs10 ++ zs4) (upd H12 l (.lst (fs10 ++ zs4))) := kdTs.L_mono eL12 (pair_append (kdTs.L_ex e12 k10) kz4)
  have hl12 : (upd H12 l (.lst (fs10 ++ zs4))) l = some (.lst (fs10 ++ zs4)) := upd_same
  generalize upd H12 l (.lst (fs10 ++ zs4)) = H13 at s12 k12' hl12 ⊢
  generalize fs10 ++ zs4 = fs12 at k12' hl12
  have hfl12 := pair_len k12'
  rw [List.length_append, List.length_append, List.length_append] at hfl12
  -- beneath
  obtain ⟨o13, hE13, hS13⟩ := s12.tab.ord T (ev_var (σ := ([some (.ref t), some (.ref pp), some (.ref pa), some (.ref d), some (.ref pg), some (.ref l), none, none, none, none, none, none, none, none, none, none] : L2.St)) (i := 0) (v := .ref t) rfl)
  refine q_forT hE13 hS13 (fun i σ' H' => Keeps [6, 7, 8, 9] ([some (.ref t), some (.ref pp), some (.ref pa), some (.ref d), some (.ref pg), some (.ref l), none, none, none, none, none, none, none, none, none, none] : L2.St) σ' ∧ FlS C (TL Pt) t D j H H' ∧ SqT K H' o13 (D.order.map V.str) ∧
      ∃ fs, H' l = some (.lst fs) ∧ fs.length ≤ 208 + 64 * i ∧ kdTs.L ((((f1 D ++ f2 D) ++ f3 D) ++ f4 D (bs'.map (·.1))) ++ (D.order.take i).flatMap (f5 D)) fs H')
    (fun H14 e14 => ⟨Keeps.refl, s12.ex e14, ex_t e14 hS13, fs12, e14 _ _ hl12, by omega, by simpa using kdTs.L_ex e14 k12'⟩) (fun i σ' H' hi w => w.2.2.1) (fun i x σ' H' hx w => ?_) (fun σ' H' w => ?_)
  · obtain ⟨wk, ws, wo, fs, wl, wn, wf5⟩ := w
    obtain ⟨a6, a7, a8, a9, rfl⟩ := wk.four
    rw [List.getElem?_map] at hx
    obtain ⟨one, hone, rfl⟩ := Option.map_eq_some_iff.mp hx
    have hom := List.mem_of_getElem? hone
    have hi8 : i < 8 := by
      have := (List.getElem?_eq_some_iff.mp hone).1
      omega
    have h14 := ws.tab
    -- worse
    have hW := ep_lcW (σ := ([some (.ref t), some (.ref pp), some (.ref pa), some (.ref d), some (.ref pg), some (.ref l), some (.str one), a7, a8, a9, none, none, none, none, none, none] : L2.St)) (H := H') (te := tVar 11) (g := gName 11) (vs := [11]) (t := tB (tMeth C "quarrel" (spT2 C ansQuarrel) [] E0 (tVar 0) (tCons (tVar 6) (tCons (tVar 11) tNil)))) (fun b => D.quarrel one b) (fun b => b) (kdV V.str)
      (wk_tup (K := K) (h14.ord T (ev_var (i := 0) (v := .ref t) rfl)).choose_spec.1 (h14.ord T (ev_var (i := 0) (v := .ref t) rfl)).choose_spec.2 kdV_of) (by omega)
      (fun b x H15 hb e15 hx => by
        cases hx
        exact ⟨wipe_turn, Ex.refl _, et_B (ev_T2 (ans := ansQuarrel) (ev_var (i := 0) (v := .ref t) rfl) (ea_cons (ev_var (i := 6) rfl) (ea_cons (ev_var (i := 11) rfl) ea_nil)) (h14.ex e15) wf hom hb nl_quarrel), fun _ => ep_ev (ev_var (i := 11) rfl)⟩)
      gname_mono
    rw [List.map_id'] at hW
    refine q_asgN hW fun pw ysw H15 hpw e15 h15 k15' => ?_
    have hW15 := kdV_L k15'
    subst hW15
    have h15t := h14.ex e15
    have hN := ep_lcW (σ := ([some (.ref t), some (.ref pp), some (.ref pa), some (.ref d), some (.ref pg), some (.ref l), some (.str one), some (.ref pw), a8, a9, none, none, none, none, none, none] : L2.St)) (H := H15) (te := tVar 12) (g := gName 12) (vs := [12]) (t := tB (tDIn (tTup (tCons (tVar 6) (tCons (tVar 12) tNil))) (tFld K (tVar 0) "pairs"))) (fun b => D.near one b) (fun b => b) (kdV V.str)
      (wk_tup (K := K) (h15t.ord T (ev_var (i := 0) (v := .ref t) rfl)).choose_spec.1 (h15t.ord T (ev_var (i := 0) (v := .ref t) rfl)).choose_spec.2 kdV_of) (by omega)
      (fun b x H16 hb e16 hx => by
        cases hx
        obtain ⟨dx', o', p', w', u', ob', kvp', kvw', kvu', A'⟩ := h15t.ex e16
        exact ⟨wipe_turn, Ex.refl _, et_B (A'.inP (eu_tup (ea_cons (ev_var (i := 6) rfl) (ea_cons (ev_var (i := 12) rfl) ea_nil)) (by show 2 ≤ 100000; decide)) (ev_fld (ev_var (i := 0) (v := .ref t) rfl) A'.at_ T.clC T.nPairs rfl)), fun _ => ep_ev (ev_var (i := 12) rfl)⟩)
      gname_mono
    rw [List.map_id'] at hN
    refine q_asgN hN fun pn ysn H16 hpn e16 h16 k16' => ?_
    have hN16 := kdV_L k16'
    subst hN16
    have h15' := e16 _ _ h15
    have hwl : (worse D one).length ≤ 8 := Nat.le_trans (List.length_filter_le _ _) h8
    have hnl : (nearS D one).length ≤ 8 := Nat.le_trans (List.length_filter_le _ _) h8
    have hR := ep_lc2W (σ := ([some (.ref t), some (.ref pp), some (.ref pa), some (.ref d), some (.ref pg), some (.ref l), some (.str one), some (.ref pw), some (.ref pn), a9, none, none, none, none, none, none] : L2.St)) (H := H16) (te := tTup (tCons (tC (.str "beneath")) (tCons (tVar 6) (tCons (tVar 11) (tCons (tVar 12) tNil))))) (RB := fun _ => (kdV V.str).R) (wi := iList K (tVar 7)) (wi1 := iList K (tVar 8)) (g := gName 11) (g1 := gName 12) (vs := [11, 12]) (vs1 := [12])
      (fun _ => nearS D one) (fun b m => (one, b, m)) kdR (wk_list (ka := kdV V.str) (ls_var (bs := worse D one) (ev_var (i := 7) (v := .ref pw) rfl) ⟨pw, _, rfl, SqL.of h15', kdV_of⟩)) (by omega) (fun _ _ => by omega)
      (fun b x H17 hb e17 hx => by
        cases hx
        refine ⟨wipe_turn, Ex.refl _, wi_list (K := K) (ka := kdV V.str) (ev_var (i := 8) (v := .ref pn) rfl) (SqL.of h16) kdV_of, fun m y H18 hm e18 l18 hy => ?_⟩
        cases hy
        exact ⟨wipe_turn, Ex.refl _, ep_tupR (ρ := fun r : Str × Str × Str => [.str "beneath", .str r.1, .str r.2.1, .str r.2.2]) (b := (one, b, m)) (eu_tup (ea_cons ev_c (ea_cons (ev_var (i := 6) rfl) (ea_cons (ev_var (i := 11) rfl) (ea_cons (ev_var (i := 12) rfl) ea_nil)))) (by show 4 ≤ 100000; decide))⟩)
      gname_mono gname_mono
    refine q_asgN hR fun pr ysr H17 hpr e17 h17 k17' => ?_
    have h17t := (h15t.ex e16).ex e17
    have wl17 := (e15.trans (e16.trans e17)) _ _ wl
    have wf17 := kdTs.L_ex (e15.trans (e16.trans e17)) wf5
    have hrl : (rowsB D one).length ≤ 64 := by
      have h1 : ∀ (xs : List Str), xs.length ≤ 8 → (xs.flatMap fun b => (nearS D one).map fun m => (one, b, m)).length ≤ 8 * xs.length := fun xs _ => by
        induction xs with
        | nil => simp
        | cons x xs ih =>
          rw [List.flatMap_cons, List.length_append, List.length_map, List.length_cons]
          have := ih (by simp only [List.length_cons] at *; omega)
          omega
      have := h1 (worse D one) hwl
      show ((worse D one).flatMap fun b => (nearS D one).map fun m => (one, b, m)).length ≤ 64
      omega
    have hrow : ∀ r ∈ rowsB D one, r.2.1 ∈ D.order ∧ r.2.2 ∈ D.order := fun r hr => by
      obtain ⟨b, hb, hr2⟩ := List.mem_flatMap.mp hr
      obtain ⟨m, hm, rfl⟩ := List.mem_map.mp hr2
      exact ⟨(List.mem_filter.mp hb).1, (List.mem_filter.mp hm).1⟩
    have hE := ep_lcW (σ := ([some (.ref t), some (.ref pp), some (.ref pa), some (.ref d), some (.ref pg), some (.ref l), some (.str one), some (.ref pw), some (.ref pn), some (.ref pr), none, none, none, none, none, none] : L2.St)) (H := H17) (te := tVar 15) (g := gName 15) (vs := [15]) (t := tB (tMeth C "bears" (spT2 C ansBears) [] E0 (tVar 0) (tCons (tOp (rIxT K) (tVar 15) (tC (.int 3))) (tCons (tDGet (tFld K (tVar 0) "upper") (tOp (rIxT K) (tVar 15) (tC (.int 2)))) tNil)))) (fun r : Str × Str × Str => D.bears r.2.2 (D.up r.2.1)) (fun r : Str × Str × Str => (["beneath", r.1, r.2.1, r.2.2] : List Str)) kdTs
      (wk_list (K := K) (ka := kdR) (ls_var (bs := rowsB D one) (ev_var (i := 9) (v := .ref pr) rfl) ⟨pr, _, rfl, SqL.of h17, k17'⟩)) (by omega)
      (fun r x H18 hr e18 ⟨tq, hx, htq⟩ => by
        subst hx
        have hin := hrow r hr
        refine ⟨wipe_turn, Ex.refl _, et_B (ev_T2 (ans := ansBears) (ev_var (i := 0) (v := .ref t) rfl) (ea_cons (ev_op (ev_var (i := 15) (v := .ref tq) rfl) ev_c (rv_ixT (SqT.of htq) (atI_nat (j := 3) rfl))) (ea_cons (ev_upper (h17t.ex e18) T (ev_var (i := 0) (v := .ref t) rfl) (ev_op (ev_var (i := 15) (v := .ref tq) rfl) ev_c (rv_ixT (SqT.of htq) (atI_nat (j := 2) rfl))) hin.1) ea_nil)) (h17t.ex e18) wf hin.2 (wf.up _ hin.1) nl_bears),
          fun _ => (ep_ev (ev_var (i := 15) (v := .ref tq) rfl)).imp fun H19 v H20 e19 e20 hv => ⟨tq, hv, (e19.trans e20) _ _ htq⟩⟩)
      gname_mono
    have hf5l : (f5 D one).length ≤ 64 := by unfold f5; rw [List.length_map]; exact Nat.le_trans (List.length_filter_le _ _) hrl
    refine s_extN wl17 (ev_var (i := 5) (v := .ref l) rfl) hE (by have := hf5l; unfold f5 at this; omega) fun zs H18 e18 kz => ?_
    have kz' : kdTs.L (f5 D one) zs H18 := kz
    have hzl := pair_len kz'
    have eall := e15.trans (e16.trans (e17.trans e18))
    refine ⟨((((Keeps.refl.set (by decide)).set (by decide)).set (by decide)).set (by decide)).set (by decide) |>.set (by decide) |>.set (by decide) |>.set (by decide), (ws.ex eall).upd (eall _ _ wl) hl0, ?_, fs ++ zs, upd_same, by rw [List.length_append]; omega, ?_⟩
    · rcases ex_t eall wo with (h | ⟨oo, h⟩) | h
      · exact .inl (.inl (by rw [upd_ne (ne_of h (eall _ _ wl) (by intro z; cases z))]; exact h))
      · exact .inl (.inr ⟨oo, by rw [upd_ne (ne_of h (eall _ _ wl) (by intro z; cases z))]; exact h⟩)
      · exact .inr h
    · rw [take_succ_of hone, List.flatMap_append, ← List.append_assoc]
      have eL : ExL H18 (upd H18 l (.lst (fs ++ zs))) := ExL.upd (eall _ _ wl) (fun _ z => by cases z)
      refine kdTs.L_mono eL (pair_append (kdTs.L_ex eall wf5) ?_)
      rw [show [one].flatMap (f5 D) = f5 D one by simp]
      exact kz'
  · obtain ⟨wk, ws, wo, fs, wl, wn, wf5⟩ := w
    obtain ⟨a6, a7, a8, a9, rfl⟩ := wk.four
    rw [List.length_map, List.take_length] at wf5
    refine s_ret (ev_var (i := 5) (v := .ref l) rfl) fun H15 e15 => ?_
    have ws' := ws.ex e15
    exact q H15 l fs _ ws'.ext ws'.tabs ws'.tab (e15 _ _ wl) (kdTs.L_ex e15 wf5) (flaws_ok wf fun p hp => by
      obtain ⟨b, hb, rfl⟩ := List.mem_map.mp hp
      exact hbin b (hperm.mem_iff.mp hb)) (flaws_clean D hperm2)
end
end HT
set_option Elab.async false
set_option linter.all false
set_option maxRecDepth 100000
set_option maxHeartbeats 4000000
/-! Table.flaw -/
namespace HT
open PySem PySem.Spec PyProof.Rows L2 Evl LamX
section
variable {P : Program} {w : World} {K : PySem.W.Frag} {mg : Str → Option Value} {base : Heap} {C Dc Pt c : Addr} {f : Addr} {fd : FuncData} {H : Hp}
def cmpTs : Cmp K kdTs := ⟨fun zs => .tuple (zs.map PyData.str), fun a b => by
    rw [PyData.eqv]
    exact eqvAll_map (K := K) cmpS, fun b v H ⟨p, h1, h2⟩ => by
    rw [h1]
    exact .tup (SqT.of h2) (cmpS.all (K := K) (k := kdV V.str) kdV_of)⟩
theorem low_tup {ds : List PyData} (h : ∀ d ∈ ds, d.canLay0 = true ∧ d.depth = 0) : lowD (.tuple ds) = true := by
  have h2 : PyData.canLayAll0 ds = true ∧ PyData.depthAll ds = 0 := by
    induction ds with
    | nil => exact ⟨rfl, rfl⟩
    | cons d ds ih =>
      have h1 := h d (by simp)
      have h3 := ih fun d hd => h d (by simp [hd])
      constructor
      · show (d.canLay0 && PyData.canLayAll0 ds) = true
        rw [h1.1, h3.1]; rfl
      · show max d.depth (PyData.depthAll ds) = 0
        omega
  unfold lowD
  have e1 : (PyData.tuple ds).canLay0 = PyData.canLayAll0 ds := by rw [PyData.canLay0]
  have e2 : (PyData.tuple ds).depth = PyData.depthAll ds + 1 := by rw [PyData.depth]
  rw [e1, h2.1, e2, h2.2]; rfl
theorem lay_str {z : Str} (h : PyData.strOk z = true) : (PyData.str z).canLay0 = true ∧ (PyData.str z).depth = 0 := by
  constructor
  · rw [PyData.canLay0]; exact h
  · rw [PyData.depth]
theorem lay_int (i : Int) : (PyData.int i).canLay0 = true ∧ (PyData.int i).depth = 0 := by
  constructor
  · rw [PyData.canLay0]
  · rw [PyData.depth]
def spFlaw (C Pt : Addr) : Sp := fun vs H Q _ => ∃ (t : Addr) (D : TD Str), vs = [.ref t] ∧ TabJ C H t D .non ∧ WFD D ∧ Tabs (TL Pt) H ∧
  ∀ H' v, (∀ b o, b ≠ t → H b = some o → (∀ ps, o ≠ .tbl ps) → H' b = some o) → Tabs (TL Pt) H' → (∃ j, TabJ C H' t D j) → (v = .non ↔ D.clean = true) → Q v H'
theorem cut1 (ys : List V) : cutV ys none (some 1) = ys.take 1 := by
  unfold cutV
  rw [show (some (1 : Int)) = some ((1 : Nat) : Int) from rfl, sIx_nat, sIx_none, List.drop_zero, Nat.sub_zero]
  cases ys with
  | nil => rfl
  | cons y ys => rw [show min 1 (y :: ys).length = 1 by simp]
theorem sc_Table_flaw : FnScope ["self"] ["self"] (defScope s_Table_flaw) := ⟨rfl, rfl, rfl, by decide +kernel, rfl, by decide +kernel, by decide +kernel⟩
theorem ok_Table_flaw (F : FnT K "flaw" "Table.flaw" s_Table_flaw [] [] f fd) (T : Txt K mg C Dc) (M_Table_flaws : MF P w K mg base C "flaws" ["self"] 6 (spFlaws C Pt)) : FnOk P w K mg base CX0 7 f fd ["self"] (spFlaw C Pt) := by
  refine F.ok sc_Table_flaw (fun vs H Q E ⟨_, _, h, _⟩ => by rw [h]; rfl) (fun cdv A outer s H vs Q E hr ⟨t, D, hv, hJ, wf, hT, q⟩ => ⟨_, PSs.nox (pss_cons (ps_if (pt_cmp (pc_isN (pe_fldK K rfl (pv 0) rfl))) (pss_one (ps_fld (pv 0) (pe_slice (sl_listK K rfl) (pe_methG0 M_Table_flaws T.clC hr (by decide) (pv 0)) po_none (po_some pe_int)) rfl)) pss_nil)
    (pss_one (ps_ret (pe_ifExp (pt_cmpR (op_neDK K rfl hr.units) (pe_fldK K rfl (pv 0) rfl) (pe_lst pa_nil) (nomark _)) (pe_ix (ix_listK K rfl) (pe_fldK K rfl (pv 0) rfl) pe_int (fun _ _ => rfl)) pe_non)))), ?_⟩)
  subst hv
  obtain ⟨dx, o, p, w0, u, ob, kvp, kvw, kvu, A1⟩ := id hJ
  refine q_when (b := true) (et_is (et_B (ev_isN (ev_fld (ev_var (i := 0) (v := .ref t) rfl) A1.at_ T.clC T.nJudged rfl))) rfl) (fun _ H1 e1 => ?_) (fun z => by cases z)
  have hJ1 := hJ.ex e1
  obtain ⟨dx1, o1, p1, w1, u1, ob1, kvp1, kvw1, kvu1, A2⟩ := id hJ1
  refine ⟨_, rfl, t, dx1, _, rfl, A2.at_, rfl, t, D, .non, rfl, hJ1, wf, hT.ext e1, fun H2 l ys Fs eN T2 J2 hl kF hok hcl => ?_⟩
  refine ⟨1, rfl, l, ys, rfl, SqL.of hl, fun pj hpj => ?_⟩
  obtain ⟨dx2, o2, p2, w2, u2, ob2, kvp2, kvw2, kvu2, A3⟩ := J2
  have npt : pj ≠ t := fun z => by rw [z, A3.at_] at hpj; cases hpj
  have ht3 := Ex.new (o := HO.lst (cutV ys none (some 1))) hpj _ _ A3.at_
  refine ⟨_, rfl, t, C, dx2, _, rfl, ht3, T.clC, T.nJudged, by show 5 < 1000; decide, ?_⟩
  have keep : ∀ b ob', b ≠ t → H2 b = some ob' → (upd (upd H2 pj (.lst (cutV ys none (some 1)))) t (.ins C dx2 (putF "judged" (.ref pj) [("order", .ref o2), ("pairs", .ref p2), ("worth", .ref w2), ("upper", .ref u2), ("judged", .non)]))) b = some ob' := fun b ob' n h => by rw [upd_ne n]; exact Ex.new hpj _ _ h
  have hpj4 : (upd (upd H2 pj (.lst (cutV ys none (some 1)))) t (.ins C dx2 (putF "judged" (.ref pj) [("order", .ref o2), ("pairs", .ref p2), ("worth", .ref w2), ("upper", .ref u2), ("judged", .non)]))) pj = some (.lst (ys.take 1)) := by rw [upd_ne npt, upd_same, cut1]
  have nt : ∀ b ob', H2 b = some ob' → (∀ dx fs, ob' ≠ .ins C dx fs) → b ≠ t := fun b ob' h n z => by rw [z, A3.at_] at h; cases h; exact n _ _ rfl
  have kF4 : kdTs.L (Fs.take 1) (ys.take 1) (upd (upd H2 pj (.lst (cutV ys none (some 1)))) t (.ins C dx2 (putF "judged" (.ref pj) [("order", .ref o2), ("pairs", .ref p2), ("worth", .ref w2), ("upper", .ref u2), ("judged", .non)]))) :=
    pair_take 1 (kdTs.L_mono (fun b xs h => keep b _ (nt b _ h (fun _ _ z => by cases z)) h) kF)
  have J4 : TabJ C (upd (upd H2 pj (.lst (cutV ys none (some 1)))) t (.ins C dx2 (putF "judged" (.ref pj) [("order", .ref o2), ("pairs", .ref p2), ("worth", .ref w2), ("upper", .ref u2), ("judged", .non)]))) t D (.ref pj) :=
    ⟨dx2, o2, p2, w2, u2, ob2, kvp2, kvw2, kvu2, ⟨upd_same, keep _ _ (nt _ _ A3.ord (fun _ _ z => by cases z)) A3.ord, A3.oc, A3.od, keep _ _ (nt _ _ A3.prs (fun _ _ z => by cases z)) A3.prs, A3.near, keep _ _ (nt _ _ A3.wor (fun _ _ z => by cases z)) A3.wor, A3.rank, keep _ _ (nt _ _ A3.upp (fun _ _ z => by cases z)) A3.upp, A3.up⟩⟩
  have T4 : Tabs (TL Pt) (upd (upd H2 pj (.lst (cutV ys none (some 1)))) t (.ins C dx2 (putF "judged" (.ref pj) [("order", .ref o2), ("pairs", .ref p2), ("worth", .ref w2), ("upper", .ref u2), ("judged", .non)]))) := fun pq hpq => by
    obtain ⟨ps, h1, h2, h3⟩ := T2 pq hpq
    refine ⟨ps, keep _ _ (nt _ _ h1 (fun _ _ z => by cases z)) h1, h2, fun pos cv hcv => ?_⟩
    obtain ⟨c0, e1, e2⟩ := h3 pos cv hcv
    exact ⟨c0, e1, keep _ _ (nt _ _ e2 (fun dx fs z => by unfold CodeO at z; cases z)) e2⟩
  have fin : ∀ b ob', b ≠ t → H b = some ob' → (∀ ps, ob' ≠ .tbl ps) → (upd (upd H2 pj (.lst (cutV ys none (some 1)))) t (.ins C dx2 (putF "judged" (.ref pj) [("order", .ref o2), ("pairs", .ref p2), ("worth", .ref w2), ("upper", .ref u2), ("judged", .non)]))) b = some ob' := fun b ob' n h nn => keep b ob' n (eN b ob' (e1 _ _ h) nn)
  have K4 : ∀ H4 : Hp, H4 pj = some (.lst (ys.take 1)) → kdTs.L (Fs.take 1) (ys.take 1) H4 → TabJ C H4 t D (.ref pj) → Tabs (TL Pt) H4 → (∀ b ob', b ≠ t → H b = some ob' → (∀ ps, ob' ≠ .tbl ps) → H4 b = some ob') →
    tRet (tIf (tTest (tOp (rNeD K) (tFld K (tVar 0) "judged") (tLst tNil))) (tOp (rIxL K) (tFld K (tVar 0) "judged") (tC (.int 0))) (tC .non)) { nx := fun _ H' => Q .non H', rt := Q } (start ["self"] [.ref t]) H4 := by
    intro H4 hpj4 kF4 J4 T4 fin
    obtain ⟨dx4, o4, p4, w4, u4, ob4, kvp4, kvw4, kvu4, A4⟩ := id J4
    have hjd := ev_fld (K := K) (σ := start ["self"] [.ref t]) (ev_var (i := 0) (v := .ref t) rfl) A4.at_ T.clC T.nJudged (v := .ref pj) rfl
    have hlow : ∀ zs ∈ Fs.take 1, lowD ((cmpTs (K := K)).enc zs) = true := fun zs hzs => low_tup fun d hd => by
      obtain ⟨z, hz, rfl⟩ := List.mem_map.mp hd
      exact lay_str (hok zs (List.mem_of_mem_take hzs) z hz)
    have hx : ∃ v, Ev (tIf (tTest (tOp (rNeD K) (tFld K (tVar 0) "judged") (tLst tNil))) (tOp (rIxL K) (tFld K (tVar 0) "judged") (tC (.int 0))) (tC .non)) (start ["self"] [.ref t]) H4 v ∧ (v = .non ↔ D.clean = true) := by
      cases Fs with
      | nil => exact ⟨.non, ev_if (b := false) (et_is (et_test (ev_neL cmpTs (ls_var hjd ⟨pj, _, rfl, SqL.of hpj4, kF4⟩) ls_nil hlow (by simp))) rfl) (fun z => by cases z) (fun _ => ev_c), by simpa using hcl⟩
      | cons z zs =>
        cases ys with
        | nil => cases kF
        | cons y ys =>
          have hy : ∃ a, y = .ref a := by
            cases kF with
            | cons h t => obtain ⟨a, ha, _⟩ := h; exact ⟨a, ha⟩
          obtain ⟨a, rfl⟩ := hy
          refine ⟨.ref a, ev_if (b := true) (et_is (et_test (ev_neL cmpTs (ls_var hjd ⟨pj, _, rfl, SqL.of hpj4, kF4⟩) ls_nil hlow (by simp))) (by simp)) (fun _ => ev_op hjd ev_c (rv_ixL (SqL.of hpj4) (atI_nat (j := 0) rfl))) (fun z => by cases z), ?_⟩
          constructor
          · intro z; cases z
          · intro z; have := hcl.mpr z; cases this
    obtain ⟨v, hv1, hv2⟩ := hx
    exact s_ret hv1 fun H5 e5 => q H5 v (fun b ob' n h nn => e5 _ _ (fin b ob' n h nn)) (T4.ext e5) ⟨_, J4.ex e5⟩ hv2
  exact K4 _ hpj4 kF4 J4 T4 fin
end
end HT
set_option Elab.async false
set_option linter.all false
set_option maxRecDepth 100000
set_option maxHeartbeats 4000000
/-! a line: its state as plain data; what it does, plainly; how it stands in the heap -/
namespace HT
open PySem PySem.Spec PyProof.Rows L2 Evl LamX
/-- deal, goal, ticket -/
abbrev Ent := Int × Str × Int
structure LS where
  keeps : Int → Option Str
  row : List Ent
  skips : Int → Option Int
  turn : Int
def put {β : Type} (f : Int → Option β) (k : Int) (o : Option β) : Int → Option β := fun i => if i = k then o else f i
theorem put_same {β : Type} {f : Int → Option β} {k : Int} {o : Option β} : put f k o k = o := by unfold put; rw [if_pos rfl]
theorem put_ne {β : Type} {f : Int → Option β} {k i : Int} {o : Option β} (h : i ≠ k) : put f k o i = f i := by unfold put; rw [if_neg h]
def tkF (row : List Ent) (d : Int) : Option Int := aget (row.map fun e => (e.1, e.2.2)) d
def noW (row : List Ent) (d : Int) : List Ent := row.filter fun e => decide (e.1 ≠ d)
def fitsB (D : TD Str) (ds : List Int) (keeps : Int → Option Str) (d : Int) (g : Str) : Bool := ds.all fun o => decide (o = d) || match keeps o with
  | none => true
  | some m => D.near g m
def bump (row : List Ent) (k : Int) (f : Int → Option Int) : Int → Option Int := row.foldl (fun f e => if e.2.2 < k then put f e.1 (some ((f e.1).getD 0 + 1)) else f) f
namespace LS
def nil : LS := ⟨fun _ => none, [], fun _ => none, 0⟩
def grant (S : LS) (d : Int) (g : Str) (k : Int) : LS := { S with keeps := put S.keeps d (some g), skips := if (S.keeps d).isSome then bump S.row k S.skips else S.skips }
def unwait (S : LS) (d : Int) : LS := { S with row := noW S.row d, skips := put S.skips d none }
def scan (D : TD Str) (ds : List Int) : Nat → LS → LS × List Int
  | 0, S => (S, [])
  | n + 1, S => match S.row with
    | [] => (S, [])
    | e :: _ => if fitsB D ds S.keeps e.1 e.2.1 then let r := scan D ds n ((S.unwait e.1).grant e.1 e.2.1 e.2.2); (r.1, e.1 :: r.2) else (S, [])
def scanAll (D : TD Str) (ds : List Int) (S : LS) : LS × List Int := scan D ds S.row.length S
/-- the raisings: those who wait and hold -/
def rais (S : LS) : List Ent := S.row.filter fun e => (S.keeps e.1).isSome
def insAt (S : LS) (n : Nat) (e : Ent) : LS := { S with row := S.row.take n ++ [e] ++ S.row.drop n, skips := put S.skips e.1 (some 0), turn := e.2.2 }
def ask (D : TD Str) (ds : List Int) (S : LS) (d : Int) (m : Str) : LS × Str :=
  match S.keeps d with
  | none => if fitsB D ds S.keeps d m && decide (S.row = []) then ({ S with turn := S.turn + 1 }.grant d m (S.turn + 1), "held") else (S.insAt S.row.length (d, m, S.turn + 1), "waits")
  | some h => match D.joined h m with
    | none => (S, "held")
    | some g => if g = h then (S, "held") else if fitsB D ds S.keeps d g then ({ S with turn := S.turn + 1 }.grant d g (S.turn + 1), "held") else (S.insAt S.rais.length (d, g, S.turn + 1), "waits")
def go (D : TD Str) (ds : List Int) (S : LS) (d : Int) : LS × List Int := scanAll D ds ({ S with keeps := put S.keeps d none }.unwait d)
def cease (D : TD Str) (ds : List Int) (S : LS) (d : Int) : LS × List Int := scanAll D ds (S.unwait d)
def ease (D : TD Str) (ds : List Int) (S : LS) (d : Int) (m : Str) : LS × List Int := scanAll D ds { S with keeps := put S.keeps d (some m) }
end LS
/-- whole -/
structure LOk (D : TD Str) (ds : List Int) (S : LS) : Prop where
  kin : ∀ d g, S.keeps d = some g → d ∈ ds ∧ g ∈ D.order
  rin : ∀ e ∈ S.row, e.1 ∈ ds ∧ e.2.1 ∈ D.order
  nd : (S.row.map (·.1)).Nodup
  sk : ∀ d, (S.skips d).isSome = true ↔ d ∈ S.row.map (·.1)
structure DsOk (ds : List Int) : Prop where
  nd : ds.Nodup
  few : ds.length ≤ 50
  pos : ∀ d ∈ ds, 1 ≤ d
theorem noW_mem {row : List Ent} {d : Int} {e : Ent} : e ∈ noW row d ↔ e ∈ row ∧ e.1 ≠ d := by unfold noW; simp
theorem noW_deals {row : List Ent} {d i : Int} : i ∈ (noW row d).map (·.1) ↔ i ∈ row.map (·.1) ∧ i ≠ d := by
  constructor
  · intro h
    obtain ⟨e, he, rfl⟩ := List.mem_map.mp h
    have := noW_mem.mp he
    exact ⟨List.mem_map.mpr ⟨e, this.1, rfl⟩, this.2⟩
  · rintro ⟨h, n⟩
    obtain ⟨e, he, rfl⟩ := List.mem_map.mp h
    exact List.mem_map.mpr ⟨e, noW_mem.mpr ⟨he, n⟩, rfl⟩
theorem noW_nd {row : List Ent} {d : Int} (h : (row.map (·.1)).Nodup) : ((noW row d).map (·.1)).Nodup := (List.Sublist.map _ List.filter_sublist).nodup h
theorem bump_some (row : List Ent) (k : Int) : ∀ (f : Int → Option Int), (∀ e ∈ row, (f e.1).isSome = true) → ∀ d, (bump row k f d).isSome = (f d).isSome := by
  unfold bump
  induction row with
  | nil => intro f _ d; rfl
  | cons e r ih =>
    intro f h d
    rw [List.foldl_cons]
    by_cases q : e.2.2 < k
    · rw [if_pos q]
      have hp : ∀ d, (put f e.1 (some ((f e.1).getD 0 + 1)) d).isSome = (f d).isSome := fun d => by
        by_cases z : d = e.1
        · rw [z, put_same, h e (by simp)]; rfl
        · rw [put_ne z]
      rw [ih _ (fun e' he' => by rw [hp]; exact h e' (by simp [he']))]
      exact hp d
    · rw [if_neg q]
      exact ih f (fun e' he' => h e' (by simp [he'])) d
theorem LOk.unwait {D : TD Str} {ds : List Int} {S : LS} (h : LOk D ds S) (d : Int) : LOk D ds (S.unwait d) where
  kin := h.kin
  rin := fun e he => h.rin e (noW_mem.mp he).1
  nd := noW_nd h.nd
  sk := fun i => by
    show (put S.skips d none i).isSome = true ↔ i ∈ (noW S.row d).map (·.1)
    rw [noW_deals]
    by_cases z : i = d
    · rw [z, put_same]; simp
    · rw [put_ne z, h.sk]; simp [z]
theorem LOk.grant {D : TD Str} {ds : List Int} {S : LS} (h : LOk D ds S) {d : Int} {g : Str} {k : Int} (hd : d ∈ ds) (hg : g ∈ D.order) : LOk D ds (S.grant d g k) where
  kin := fun i m hm => by
    by_cases z : i = d
    · have : put S.keeps d (some g) i = some m := hm
      rw [z, put_same] at this
      cases this
      exact ⟨by rw [z]; exact hd, hg⟩
    · have : put S.keeps d (some g) i = some m := hm
      rw [put_ne z] at this
      exact h.kin i m this
  rin := h.rin
  nd := h.nd
  sk := fun i => by
    show ((if (S.keeps d).isSome then bump S.row k S.skips else S.skips) i).isSome = true ↔ _
    split
    · rw [bump_some _ _ _ (fun e he => (h.sk e.1).mpr (List.mem_map.mpr ⟨e, he, rfl⟩))]
      exact h.sk i
    · exact h.sk i
theorem LOk.insAt {D : TD Str} {ds : List Int} {S : LS} (h : LOk D ds S) {n : Nat} {e : Ent} (hd : e.1 ∈ ds) (hg : e.2.1 ∈ D.order) (hn : e.1 ∉ S.row.map (·.1)) : LOk D ds (S.insAt n e) where
  kin := h.kin
  rin := fun x hx => by
    have hx : x ∈ S.row.take n ++ [e] ++ S.row.drop n := hx
    rw [List.append_assoc, List.mem_append, List.mem_append, List.mem_singleton] at hx
    rcases hx with q | q | q
    · exact h.rin x (List.mem_of_mem_take q)
    · rw [q]; exact ⟨hd, hg⟩
    · exact h.rin x (List.mem_of_mem_drop q)
  nd := by
    show ((S.row.take n ++ [e] ++ S.row.drop n).map (·.1)).Nodup
    have hp : (S.row.take n ++ [e] ++ S.row.drop n).Perm (e :: S.row) := by
      rw [List.append_assoc]
      refine List.perm_middle.trans ?_
      show (e :: (S.row.take n ++ S.row.drop n)).Perm _
      rw [List.take_append_drop]
    rw [(hp.map (·.1)).nodup_iff]
    exact List.nodup_cons.mpr ⟨hn, h.nd⟩
  sk := fun i => by
    show (put S.skips e.1 (some 0) i).isSome = true ↔ i ∈ (S.row.take n ++ [e] ++ S.row.drop n).map (·.1)
    have hm : i ∈ (S.row.take n ++ [e] ++ S.row.drop n).map (·.1) ↔ i = e.1 ∨ i ∈ S.row.map (·.1) := by
      conv => rhs; rw [← List.take_append_drop n S.row]
      simp only [List.map_append, List.mem_append, List.map_cons, List.map_nil, List.mem_singleton]
      constructor
      · rintro ((a | a) | a)
        · exact .inr (.inl a)
        · exact .inl a
        · exact .inr (.inr a)
      · rintro (a | a | a)
        · exact .inl (.inr a)
        · exact .inl (.inl a)
        · exact .inr a
    rw [hm]
    by_cases z : i = e.1
    · rw [z, put_same]; simp
    · rw [put_ne z, h.sk]; simp [z]
end HT
set_option Elab.async false
set_option linter.all false
set_option maxRecDepth 100000
set_option maxHeartbeats 4000000
/-! a line in the heap -/
namespace HT
open PySem PySem.Spec PyProof.Rows L2 Evl LamX
def fK (keeps : Int → Option Str) : FI := fun i => (keeps i).map V.str
def fN (g : Int → Option Int) : FI := fun i => (g i).map V.int
theorem fK_put (f : Int → Option Str) (k : Int) (o : Option Str) : fK (put f k o) = fput (fK f) k (o.map V.str) := by
  funext i; unfold fK fput put; by_cases h : i = k <;> simp [h]
theorem fN_put (f : Int → Option Int) (k : Int) (o : Option Int) : fN (put f k o) = fput (fN f) k (o.map V.int) := by
  funext i; unfold fN fput put; by_cases h : i = k <;> simp [h]
/-- entries of a line's row: pairs; of the model's: triples -/
def kdE : Kd Ent := kdT fun e => [.int e.1, .str e.2.1]
def kdM : Kd Ent := kdT fun e => [.int e.1, .str e.2.1, .int e.2.2]
structure LA where
  (ln dx t kd rw tk sk : Addr)
abbrev LA.foot (L : LA) : List Addr := [L.ln, L.kd, L.rw, L.tk, L.sk]
abbrev lnF (L : LA) (turn : Int) : List (Str × V) := [("table", .ref L.t), ("keeps", .ref L.kd), ("row", .ref L.rw), ("tickets", .ref L.tk), ("skips", .ref L.sk), ("turn", .int turn)]
structure LineR (C Dc : Addr) (D : TD Str) (Z H : Hp) (L : LA) (kf : FI) (rows : List Ent) (tf sf : FI) (turn : Int) : Prop where
  z : Ex Z H
  zf : ∀ b ∈ L.foot, Z b = none
  tab : ∃ j, TabJ C Z L.t D j
  nd : L.foot.Nodup
  at_ : H L.ln = some (.ins Dc L.dx (lnF L turn))
  kp : DA H L.kd kf
  row : ∃ xs, H L.rw = some (.lst xs) ∧ kdE.L rows xs H
  tk : DA H L.tk tf
  sk : DA H L.sk sf
abbrev LineAt (C Dc : Addr) (D : TD Str) (Z H : Hp) (L : LA) (S : LS) : Prop := LineR C Dc D Z H L (fK S.keeps) S.row (fN (tkF S.row)) (fN S.skips) S.turn
section
variable {C Dc : Addr} {D : TD Str} {Z H H' : Hp} {L : LA} {kf tf sf : FI} {rows : List Ent} {turn : Int}
theorem LineR.ex (h : LineR C Dc D Z H L kf rows tf sf turn) (e : Ex H H') : LineR C Dc D Z H' L kf rows tf sf turn := by
  obtain ⟨xs, h1, h2⟩ := h.row
  exact ⟨h.z.trans e, h.zf, h.tab, h.nd, e _ _ h.at_, h.kp.ex e, ⟨xs, e _ _ h1, kdE.L_ex e h2⟩, h.tk.ex e, h.sk.ex e⟩
/-- another structure's change -/
theorem LineR.fr {F F' : List Addr} (h : LineR C Dc D Z H L kf rows tf sf turn) (f : Fr F F' H H') (a : ∀ b ∈ F, b ∉ L.foot) (zf : ∀ b ∈ F, Z b = none) : LineR C Dc D Z H' L kf rows tf sf turn := by
  have n : ∀ b ∈ L.foot, b ∉ F := fun b hb q => a b q hb
  obtain ⟨xs, h1, h2⟩ := h.row
  exact ⟨(f.z h.z zf).1, h.zf, h.tab, h.nd, f.keep (n _ (by simp)) h.at_, h.kp.of_eq fun o => f.keep (n _ (by simp)), ⟨xs, f.keep (n _ (by simp)) h1, kdE.L_mono f.2.2 h2⟩, h.tk.of_eq fun o => f.keep (n _ (by simp)), h.sk.of_eq fun o => f.keep (n _ (by simp))⟩
theorem LineR.live (h : LineR C Dc D Z H L kf rows tf sf turn) : ∀ b ∈ L.foot, ∃ o, H b = some o ∧ ∀ xs, o ≠ .tup xs := fun b hb => by
  obtain ⟨xs, h1, _⟩ := h.row
  obtain ⟨k1, hk⟩ := h.kp
  obtain ⟨k2, ht⟩ := h.tk
  obtain ⟨k3, hs⟩ := h.sk
  simp only [LA.foot, List.mem_cons, List.not_mem_nil, or_false] at hb
  rcases hb with rfl | rfl | rfl | rfl | rfl
  · exact ⟨_, h.at_, fun xs z => by cases z⟩
  · exact ⟨_, hk.at_, fun xs z => by cases z⟩
  · exact ⟨_, h1, fun xs z => by cases z⟩
  · exact ⟨_, ht.at_, fun xs z => by cases z⟩
  · exact ⟨_, hs.at_, fun xs z => by cases z⟩
theorem LineR.tabH (h : LineR C Dc D Z H L kf rows tf sf turn) : ∃ j, TabJ C H L.t D j := by
  obtain ⟨j, hj⟩ := h.tab
  exact ⟨j, hj.ex h.z⟩
theorem LineR.new (h : LineR C Dc D Z H L kf rows tf sf turn) {r : Addr} (hn : H r = none) : r ∉ L.foot ∧ Z r = none := by
  refine ⟨fun q => ?_, ?_⟩
  · obtain ⟨o, ho, _⟩ := h.live r q
    rw [hn] at ho; cases ho
  · cases e : Z r with
    | none => rfl
    | some o => have := h.z r o e; rw [hn] at this; cases this
/-- an attribute is set: what it holds is new -/
theorem LineR.set_ (h : LineR C Dc D Z H L kf rows tf sf turn) {H1 : Hp} {L' : LA} {r : Addr} {kf' tf' sf' : FI} {rows' : List Ent} {turn' : Int} (e : Ex H H1) (eln : L'.ln = L.ln) (et : L'.t = L.t) (ex : L'.dx = L.dx)
    (hf : ∀ b ∈ L'.foot, b ∈ L.foot ∨ (b = r ∧ H r = none)) (hnd : L'.foot.Nodup)
    (k1 : DA (upd H1 L.ln (.ins Dc L.dx (lnF L' turn'))) L'.kd kf') (k2 : ∃ xs, (upd H1 L.ln (.ins Dc L.dx (lnF L' turn'))) L'.rw = some (.lst xs) ∧ kdE.L rows' xs H1) (k3 : DA (upd H1 L.ln (.ins Dc L.dx (lnF L' turn'))) L'.tk tf') (k4 : DA (upd H1 L.ln (.ins Dc L.dx (lnF L' turn'))) L'.sk sf') :
    LineR C Dc D Z (upd H1 L.ln (.ins Dc L.dx (lnF L' turn'))) L' kf' rows' tf' sf' turn' ∧ Fr L.foot L'.foot H (upd H1 L.ln (.ins Dc L.dx (lnF L' turn'))) := by
  have fr : Fr L.foot L'.foot H (upd H1 L.ln (.ins Dc L.dx (lnF L' turn'))) := (Fr.pre e (Fr.upd (F := L.foot) (by simp) (e _ _ h.at_) fun xs z => by cases z)).sub fun b hb => (hf b hb).elim .inl fun z => .inr (by rw [z.1]; exact z.2)
  obtain ⟨xs, h1, h2⟩ := k2
  have fz := fr.z h.z h.zf
  have eL : ExL H1 (upd H1 L.ln (.ins Dc L.dx (lnF L' turn'))) := ExL.upd (e _ _ h.at_) fun xs z => by cases z
  exact ⟨⟨fz.1, fz.2, by rw [et]; exact h.tab, hnd, by rw [eln, ex]; exact upd_same, k1, ⟨xs, h1, kdE.L_mono eL h2⟩, k3, k4⟩, fr⟩
theorem da_ne {H : Hp} {a b : Addr} {o : HO} {fn : FI} (h : DA H a fn) (n : a ≠ b) : DA (upd H b o) a fn := h.of_eq fun u hu => by rw [upd_ne n]; exact hu
theorem LineR.nds (h : LineR C Dc D Z H L kf rows tf sf turn) : L.ln ≠ L.kd ∧ L.ln ≠ L.rw ∧ L.ln ≠ L.tk ∧ L.ln ≠ L.sk ∧ L.kd ≠ L.rw ∧ L.kd ≠ L.tk ∧ L.kd ≠ L.sk ∧ L.rw ≠ L.tk ∧ L.rw ≠ L.sk ∧ L.tk ≠ L.sk := by
  have := h.nd
  simp only [LA.foot, List.nodup_cons, List.mem_cons, List.not_mem_nil, or_false, not_or] at this
  exact ⟨this.1.1, this.1.2.1, this.1.2.2.1, this.1.2.2.2, this.2.1.1, this.2.1.2.1, this.2.1.2.2, this.2.2.1.1, this.2.2.1.2, this.2.2.2.1⟩
theorem LineR.setRow (h : LineR C Dc D Z H L kf rows tf sf turn) {H1 : Hp} {r : Addr} {xs : List V} {rows' : List Ent} (e : Ex H H1) (hn : H r = none) (hr : H1 r = some (.lst xs)) (hx : kdE.L rows' xs H1) :
    LineR C Dc D Z (upd H1 L.ln (.ins Dc L.dx (lnF { L with rw := r } turn))) { L with rw := r } kf rows' tf sf turn ∧ Fr L.foot ({ L with rw := r } : LA).foot H (upd H1 L.ln (.ins Dc L.dx (lnF { L with rw := r } turn))) := by
  have nf := (h.new hn).1
  simp only [LA.foot, List.mem_cons, List.not_mem_nil, or_false, not_or] at nf
  obtain ⟨n1, n2, n3, n4, n5, n6, n7, n8, n9, n10⟩ := h.nds
  exact h.set_ (r := r) e rfl rfl rfl (fun b hb => by simp only [LA.foot, List.mem_cons, List.not_mem_nil, or_false] at hb ⊢; rcases hb with q | q | q | q | q <;> simp [q, hn]) (by simp only [LA.foot, List.nodup_cons, List.mem_cons, List.not_mem_nil, or_false, not_or, List.nodup_nil, and_true, not_false_eq_true]; exact ⟨⟨n1, fun z => nf.1 z.symm, n3, n4⟩, ⟨fun z => nf.2.1 z.symm, n6, n7⟩, ⟨nf.2.2.2.1, nf.2.2.2.2⟩, n10⟩)
    (da_ne (h.kp.ex e) n1.symm) ⟨xs, by rw [upd_ne nf.1]; exact hr, hx⟩ (da_ne (h.tk.ex e) n3.symm) (da_ne (h.sk.ex e) n4.symm)
theorem LineR.setKd (h : LineR C Dc D Z H L kf rows tf sf turn) {H1 : Hp} {r : Addr} {kf' : FI} (e : Ex H H1) (hn : H r = none) (hr : DA H1 r kf') :
    LineR C Dc D Z (upd H1 L.ln (.ins Dc L.dx (lnF { L with kd := r } turn))) { L with kd := r } kf' rows tf sf turn ∧ Fr L.foot ({ L with kd := r } : LA).foot H (upd H1 L.ln (.ins Dc L.dx (lnF { L with kd := r } turn))) := by
  have nf := (h.new hn).1
  simp only [LA.foot, List.mem_cons, List.not_mem_nil, or_false, not_or] at nf
  obtain ⟨n1, n2, n3, n4, n5, n6, n7, n8, n9, n10⟩ := h.nds
  obtain ⟨xs, h1, h2⟩ := h.row
  exact h.set_ (r := r) e rfl rfl rfl (fun b hb => by simp only [LA.foot, List.mem_cons, List.not_mem_nil, or_false] at hb ⊢; rcases hb with q | q | q | q | q <;> simp [q, hn]) (by simp only [LA.foot, List.nodup_cons, List.mem_cons, List.not_mem_nil, or_false, not_or, List.nodup_nil, and_true, not_false_eq_true]; exact ⟨⟨fun z => nf.1 z.symm, n2, n3, n4⟩, ⟨nf.2.2.1, nf.2.2.2.1, nf.2.2.2.2⟩, ⟨n8, n9⟩, n10⟩)
    (da_ne hr nf.1) ⟨xs, by rw [upd_ne n2.symm]; exact e _ _ h1, kdE.L_ex e h2⟩ (da_ne (h.tk.ex e) n3.symm) (da_ne (h.sk.ex e) n4.symm)
theorem LineR.setTk (h : LineR C Dc D Z H L kf rows tf sf turn) {H1 : Hp} {r : Addr} {tf' : FI} (e : Ex H H1) (hn : H r = none) (hr : DA H1 r tf') :
    LineR C Dc D Z (upd H1 L.ln (.ins Dc L.dx (lnF { L with tk := r } turn))) { L with tk := r } kf rows tf' sf turn ∧ Fr L.foot ({ L with tk := r } : LA).foot H (upd H1 L.ln (.ins Dc L.dx (lnF { L with tk := r } turn))) := by
  have nf := (h.new hn).1
  simp only [LA.foot, List.mem_cons, List.not_mem_nil, or_false, not_or] at nf
  obtain ⟨n1, n2, n3, n4, n5, n6, n7, n8, n9, n10⟩ := h.nds
  obtain ⟨xs, h1, h2⟩ := h.row
  exact h.set_ (r := r) e rfl rfl rfl (fun b hb => by simp only [LA.foot, List.mem_cons, List.not_mem_nil, or_false] at hb ⊢; rcases hb with q | q | q | q | q <;> simp [q, hn]) (by simp only [LA.foot, List.nodup_cons, List.mem_cons, List.not_mem_nil, or_false, not_or, List.nodup_nil, and_true, not_false_eq_true]; exact ⟨⟨n1, n2, fun z => nf.1 z.symm, n4⟩, ⟨n5, fun z => nf.2.1 z.symm, n7⟩, ⟨fun z => nf.2.2.1 z.symm, n9⟩, nf.2.2.2.2⟩)
    (da_ne (h.kp.ex e) n1.symm) ⟨xs, by rw [upd_ne n2.symm]; exact e _ _ h1, kdE.L_ex e h2⟩ (da_ne hr nf.1) (da_ne (h.sk.ex e) n4.symm)
theorem LineR.setSk (h : LineR C Dc D Z H L kf rows tf sf turn) {H1 : Hp} {r : Addr} {sf' : FI} (e : Ex H H1) (hn : H r = none) (hr : DA H1 r sf') :
    LineR C Dc D Z (upd H1 L.ln (.ins Dc L.dx (lnF { L with sk := r } turn))) { L with sk := r } kf rows tf sf' turn ∧ Fr L.foot ({ L with sk := r } : LA).foot H (upd H1 L.ln (.ins Dc L.dx (lnF { L with sk := r } turn))) := by
  have nf := (h.new hn).1
  simp only [LA.foot, List.mem_cons, List.not_mem_nil, or_false, not_or] at nf
  obtain ⟨n1, n2, n3, n4, n5, n6, n7, n8, n9, n10⟩ := h.nds
  obtain ⟨xs, h1, h2⟩ := h.row
  exact h.set_ (r := r) e rfl rfl rfl (fun b hb => by simp only [LA.foot, List.mem_cons, List.not_mem_nil, or_false] at hb ⊢; rcases hb with q | q | q | q | q <;> simp [q, hn]) (by simp only [LA.foot, List.nodup_cons, List.mem_cons, List.not_mem_nil, or_false, not_or, List.nodup_nil, and_true, not_false_eq_true]; exact ⟨⟨n1, n2, n3, fun z => nf.1 z.symm⟩, ⟨n5, n6, fun z => nf.2.1 z.symm⟩, ⟨n8, fun z => nf.2.2.1 z.symm⟩, fun z => nf.2.2.2.1 z.symm⟩)
    (da_ne (h.kp.ex e) n1.symm) ⟨xs, by rw [upd_ne n2.symm]; exact e _ _ h1, kdE.L_ex e h2⟩ (da_ne (h.tk.ex e) n3.symm) (da_ne hr nf.1)
theorem LineR.setTurn (h : LineR C Dc D Z H L kf rows tf sf turn) {H1 : Hp} {turn' : Int} (e : Ex H H1) :
    LineR C Dc D Z (upd H1 L.ln (.ins Dc L.dx (lnF L turn'))) L kf rows tf sf turn' ∧ Fr L.foot L.foot H (upd H1 L.ln (.ins Dc L.dx (lnF L turn'))) := by
  obtain ⟨n1, n2, n3, n4, n5, n6, n7, n8, n9, n10⟩ := h.nds
  obtain ⟨xs, h1, h2⟩ := h.row
  exact h.set_ (r := L.ln) e rfl rfl rfl (fun b hb => .inl hb) h.nd (da_ne (h.kp.ex e) n1.symm) ⟨xs, by rw [upd_ne n2.symm]; exact e _ _ h1, kdE.L_ex e h2⟩ (da_ne (h.tk.ex e) n3.symm) (da_ne (h.sk.ex e) n4.symm)
/-- an object of the line is written in its place -/
theorem LineR.upd_ (h : LineR C Dc D Z H L kf rows tf sf turn) {a : Addr} {o : HO} {kf' tf' sf' : FI} {rows' : List Ent} (ha : a ∈ L.foot) (n : a ≠ L.ln) (k1 : DA (upd H a o) L.kd kf') (k2 : ∃ xs, (upd H a o) L.rw = some (.lst xs) ∧ kdE.L rows' xs H) (k3 : DA (upd H a o) L.tk tf') (k4 : DA (upd H a o) L.sk sf') :
    LineR C Dc D Z (upd H a o) L kf' rows' tf' sf' turn ∧ Fr L.foot L.foot H (upd H a o) := by
  obtain ⟨u, hu, hnt⟩ := h.live a ha
  have fr : Fr L.foot L.foot H (upd H a o) := Fr.upd ha hu hnt
  have fz := fr.z h.z h.zf
  obtain ⟨xs, h1, h2⟩ := k2
  exact ⟨⟨fz.1, fz.2, h.tab, h.nd, by rw [upd_ne n.symm]; exact h.at_, k1, ⟨xs, h1, kdE.L_mono (ExL.upd hu hnt) h2⟩, k3, k4⟩, fr⟩
theorem LineR.putSk (h : LineR C Dc D Z H L kf rows tf sf turn) {kvs : List (Key × V)} (hk : DI H L.sk sf kvs) (k : Int) (v : V) : LineR C Dc D Z (upd H L.sk (.dK (putK kvs (.inl k) v))) L kf rows tf (fput sf k (some v)) turn ∧ Fr L.foot L.foot H (upd H L.sk (.dK (putK kvs (.inl k) v))) := by
  obtain ⟨n1, n2, n3, n4, n5, n6, n7, n8, n9, n10⟩ := h.nds
  obtain ⟨xs, h1, h2⟩ := h.row
  exact h.upd_ (by simp) n4.symm (da_ne h.kp n7) ⟨xs, by rw [upd_ne n9]; exact h1, h2⟩ (da_ne h.tk n10) ⟨_, hk.put k v⟩
theorem LineR.putTk (h : LineR C Dc D Z H L kf rows tf sf turn) {kvs : List (Key × V)} (hk : DI H L.tk tf kvs) (k : Int) (v : V) : LineR C Dc D Z (upd H L.tk (.dK (putK kvs (.inl k) v))) L kf rows (fput tf k (some v)) sf turn ∧ Fr L.foot L.foot H (upd H L.tk (.dK (putK kvs (.inl k) v))) := by
  obtain ⟨n1, n2, n3, n4, n5, n6, n7, n8, n9, n10⟩ := h.nds
  obtain ⟨xs, h1, h2⟩ := h.row
  exact h.upd_ (by simp) n3.symm (da_ne h.kp n6) ⟨xs, by rw [upd_ne n8]; exact h1, h2⟩ ⟨_, hk.put k v⟩ (da_ne h.sk n10.symm)
theorem LineR.putKd (h : LineR C Dc D Z H L kf rows tf sf turn) {kvs : List (Key × V)} (hk : DI H L.kd kf kvs) (k : Int) (v : V) : LineR C Dc D Z (upd H L.kd (.dK (putK kvs (.inl k) v))) L (fput kf k (some v)) rows tf sf turn ∧ Fr L.foot L.foot H (upd H L.kd (.dK (putK kvs (.inl k) v))) := by
  obtain ⟨n1, n2, n3, n4, n5, n6, n7, n8, n9, n10⟩ := h.nds
  obtain ⟨xs, h1, h2⟩ := h.row
  exact h.upd_ (by simp) n1.symm ⟨_, hk.put k v⟩ ⟨xs, by rw [upd_ne n5.symm]; exact h1, h2⟩ (da_ne h.tk n6.symm) (da_ne h.sk n7.symm)
theorem LineR.putRow (h : LineR C Dc D Z H L kf rows tf sf turn) {xs : List V} {rows' : List Ent} (hx : kdE.L rows' xs H) : LineR C Dc D Z (upd H L.rw (.lst xs)) L kf rows' tf sf turn ∧ Fr L.foot L.foot H (upd H L.rw (.lst xs)) := by
  obtain ⟨n1, n2, n3, n4, n5, n6, n7, n8, n9, n10⟩ := h.nds
  exact h.upd_ (by simp) n2.symm (da_ne h.kp n5) ⟨xs, upd_same, hx⟩ (da_ne h.tk n8.symm) (da_ne h.sk n9.symm)
end
section
variable {P : Program} {w : World} {K : PySem.W.Frag} {mg : Str → Option Value} {base : Heap} {C Dc : Addr} {f : Addr} {fd : FuncData} {Z H : Hp} {L : LA} {S : LS} {D : TD Str} {ds : List Int} {σ : L2.St} {ta tb : TE}
/-- self.f -/
theorem LineR.ekeeps {kf tf sf : FI} {rows : List Ent} {turn : Int} (h : LineR C Dc D Z H L kf rows tf sf turn) (T : Txt K mg C Dc) (hv : Ev ta σ H (.ref L.ln)) : Ev (tFld K ta "keeps") σ H (.ref L.kd) := ev_fld hv h.at_ T.clD T.nKeeps rfl
theorem LineR.erow {kf tf sf : FI} {rows : List Ent} {turn : Int} (h : LineR C Dc D Z H L kf rows tf sf turn) (T : Txt K mg C Dc) (hv : Ev ta σ H (.ref L.ln)) : Ev (tFld K ta "row") σ H (.ref L.rw) := ev_fld hv h.at_ T.clD T.nRow rfl
theorem LineR.etick {kf tf sf : FI} {rows : List Ent} {turn : Int} (h : LineR C Dc D Z H L kf rows tf sf turn) (T : Txt K mg C Dc) (hv : Ev ta σ H (.ref L.ln)) : Ev (tFld K ta "tickets") σ H (.ref L.tk) := ev_fld hv h.at_ T.clD T.nTickets rfl
theorem LineR.eskip {kf tf sf : FI} {rows : List Ent} {turn : Int} (h : LineR C Dc D Z H L kf rows tf sf turn) (T : Txt K mg C Dc) (hv : Ev ta σ H (.ref L.ln)) : Ev (tFld K ta "skips") σ H (.ref L.sk) := ev_fld hv h.at_ T.clD T.nSkips rfl
theorem LineR.etab {kf tf sf : FI} {rows : List Ent} {turn : Int} (h : LineR C Dc D Z H L kf rows tf sf turn) (T : Txt K mg C Dc) (hv : Ev ta σ H (.ref L.ln)) : Ev (tFld K ta "table") σ H (.ref L.t) := ev_fld hv h.at_ T.clD T.nTable rfl
theorem LineR.eturn {kf tf sf : FI} {rows : List Ent} {turn : Int} (h : LineR C Dc D Z H L kf rows tf sf turn) (T : Txt K mg C Dc) (hv : Ev ta σ H (.ref L.ln)) : Ev (tFld K ta "turn") σ H (.int turn) := ev_fld hv h.at_ T.clD T.nTurn rfl
theorem ev_dain {a : Addr} {fn : FI} {i : Int} (hy : Ev tb σ H (.int i)) (h : Ev ta σ H (.ref a)) (hd : DA H a fn) : Ev (tDIn tb ta) σ H (.bl (fn i).isSome) := ev_din hy h (hd.get i)
theorem ev_danotin {a : Addr} {fn : FI} {i : Int} (hy : Ev tb σ H (.int i)) (h : Ev ta σ H (.ref a)) (hd : DA H a fn) : Ev (tDNotIn tb ta) σ H (.bl (!(fn i).isSome)) := ev_dnotin hy h (hd.get i)
theorem ev_daget {a : Addr} {fn : FI} {i : Int} {v : V} (h : Ev ta σ H (.ref a)) (hy : Ev tb σ H (.int i)) (hd : DA H a fn) (hv : fn i = some v) : Ev (tDGet ta tb) σ H v := ev_dget h hy (by rw [← hv]; exact hd.get i)
theorem ev_daget1 {a : Addr} {fn : FI} {i : Int} (h : Ev ta σ H (.ref a)) (hy : Ev tb σ H (.int i)) (hd : DA H a fn) : Ev (tDGet1 ta tb) σ H ((fn i).getD .non) := ev_dget1 h hy (hd.get i)
theorem ev_daget2 {tc : TE} {a : Addr} {fn : FI} {i : Int} {z : V} (h : Ev ta σ H (.ref a)) (hy : Ev tb σ H (.int i)) (hz : Ev tc σ H z) (hd : DA H a fn) : Ev (tDGet2 ta tb tc) σ H ((fn i).getD z) := ev_dget2 h hy hz (hd.get i)
/-- promises that only read a line -/
def spRd (C Dc : Addr) (D : TD Str) (Z : Hp) (ds : List Int) (args : LS → List V → Prop) (ans : LS → List V → V) : Sp := fun vs H Q _ => ∃ (L : LA) (S : LS) (as : List V), vs = .ref L.ln :: as ∧ LineAt C Dc D Z H L S ∧ LOk D ds S ∧ args S as ∧ ∀ H', Ex H H' → Q (ans S as) H'
/-- held, passed -/
def spHeld (C Dc : Addr) (D : TD Str) (Z : Hp) (ds : List Int) : Sp := fun vs H Q _ => ∃ (L : LA) (S : LS) (d : Int), vs = [.ref L.ln, .int d] ∧ LineAt C Dc D Z H L S ∧ 1 ≤ d ∧ ∀ H', Ex H H' → Q (optS (S.keeps d)) H'
def spPassed (C Dc : Addr) (D : TD Str) (Z : Hp) (ds : List Int) : Sp := fun vs H Q _ => ∃ (L : LA) (S : LS) (d : Int), vs = [.ref L.ln, .int d] ∧ LineAt C Dc D Z H L S ∧ 1 ≤ d ∧ ∀ H', Ex H H' → Q (.int ((S.skips d).getD 0)) H'
abbrev AneedDeal (P : Program) (w : World) (K : PySem.W.Frag) (mg : Str → Option Value) (base : Heap) := GF P w K mg base "need_deal" ["thing"] [] 2 spNeedDeal
theorem spv_need_deal {d : Int} (hd : 1 ≤ d) : SpV spNeedDeal [.int d] H .non := fun H1 e1 Q q E => ⟨d, rfl, hd, q⟩
theorem sc_Line_held : FnScope ["self", "deal"] ["self", "deal"] (defScope s_Line_held) := ⟨rfl, rfl, rfl, by decide +kernel, rfl, by decide +kernel, by decide +kernel⟩
theorem ok_Line_held (F : FnT K "held" "Line.held" s_Line_held [] [] f fd) (T : Txt K mg C Dc) (G_need_deal : AneedDeal P w K mg base) : FnOk P w K mg base CX0 3 f fd ["self", "deal"] (spHeld C Dc D Z ds) := by
  refine F.ok sc_Line_held (fun vs H Q E ⟨_, _, _, h, _⟩ => by rw [h]; rfl) (fun cdv A outer s H vs Q E hr ⟨L, S, d, hv, hL, hd, q⟩ => ⟨_, PSs.nox (pss_cons (ps_expr (pe_callG G_need_deal hr (by decide) (by rfl) (pa_cons (pv 1) pa_nil)))
    (pss_one (ps_ret (pe_dget1 (hu_of hr) (pe_fldK K rfl (pv 0) rfl) (pv 1) ⟨rfl, rfl, rfl, rfl⟩)))), ?_⟩)
  subst hv
  refine q_drop (ev_call (sp := spNeedDeal) (dvs := []) (E := E0) (ea_cons (ev_var rfl) ea_nil) (spv_need_deal hd)) fun H1 e1 => ?_
  have hL1 := hL.ex e1
  refine s_ret (ev_is (ev_daget1 (hL1.ekeeps T (ev_var (i := 0) (v := .ref L.ln) rfl)) (ev_var (i := 1) rfl) hL1.kp) ?_) fun H2 e2 => q H2 (e1.trans e2)
  unfold fK optS
  cases S.keeps d <;> rfl
theorem sc_Line_passed : FnScope ["self", "deal"] ["self", "deal"] (defScope s_Line_passed) := ⟨rfl, rfl, rfl, by decide +kernel, rfl, by decide +kernel, by decide +kernel⟩
theorem ok_Line_passed (F : FnT K "passed" "Line.passed" s_Line_passed [] [] f fd) (T : Txt K mg C Dc) (G_need_deal : AneedDeal P w K mg base) : FnOk P w K mg base CX0 3 f fd ["self", "deal"] (spPassed C Dc D Z ds) := by
  refine F.ok sc_Line_passed (fun vs H Q E ⟨_, _, _, h, _⟩ => by rw [h]; rfl) (fun cdv A outer s H vs Q E hr ⟨L, S, d, hv, hL, hd, q⟩ => ⟨_, PSs.nox (pss_cons (ps_expr (pe_callG G_need_deal hr (by decide) (by rfl) (pa_cons (pv 1) pa_nil)))
    (pss_one (ps_ret (pe_dget2 (hu_of hr) (pe_fldK K rfl (pv 0) rfl) (pv 1) pe_int ⟨rfl, rfl, rfl, rfl⟩)))), ?_⟩)
  subst hv
  refine q_drop (ev_call (sp := spNeedDeal) (dvs := []) (E := E0) (ea_cons (ev_var rfl) ea_nil) (spv_need_deal hd)) fun H1 e1 => ?_
  have hL1 := hL.ex e1
  refine s_ret (ev_is (ev_daget2 (hL1.eskip T (ev_var (i := 0) (v := .ref L.ln) rfl)) (ev_var (i := 1) rfl) ev_c hL1.sk) ?_) fun H2 e2 => q H2 (e1.trans e2)
  unfold fN
  cases S.skips d <;> rfl
/-- waiting: a new list of the row's pairs -/
def spWaiting (C Dc : Addr) (D : TD Str) (Z : Hp) : Sp := fun vs H Q _ => ∃ (L : LA) (S : LS), vs = [.ref L.ln] ∧ LineAt C Dc D Z H L S ∧ ∀ p xs H', H p = none → Ex H H' → H' p = some (.lst xs) → kdE.L S.row xs H' → Q (.ref p) H'
theorem sc_Line_waiting : FnScope ["self"] ["self"] (defScope s_Line_waiting) := ⟨rfl, rfl, rfl, by decide +kernel, rfl, by decide +kernel, by decide +kernel⟩
theorem ok_Line_waiting (F : FnT K "waiting" "Line.waiting" s_Line_waiting [] [] f fd) (T : Txt K mg C Dc) : FnOk P w K mg base CX0 1 f fd ["self"] (spWaiting C Dc D Z) := by
  refine F.ok sc_Line_waiting (fun vs H Q E ⟨_, _, h, _⟩ => by rw [h]; rfl) (fun cdv A outer s H vs Q E hr ⟨L, S, hv, hL, q⟩ => ⟨_, PSs.nox (pss_one (ps_ret (pe_callTy (call_list_ofK K rfl) (by rfl) T.fList boot_list (pa_cons (pe_fldK K rfl (pv 0) rfl) pa_nil)))), ?_⟩)
  subst hv
  obtain ⟨xs, hr1, hr2⟩ := hL.row
  exact s_retL (el_list (hL.erow T (ev_var (i := 0) (v := .ref L.ln) rfl)) (SqL.of hr1)) fun p H1 hp e1 h1 => q p xs H1 hp e1 h1 (kdE.L_ex e1 hr2)
def spFits (C Dc : Addr) (D : TD Str) (Z : Hp) (ds : List Int) : Sp := fun vs H Q _ => ∃ (L : LA) (S : LS) (d : Int) (g : Str), vs = [.ref L.ln, .int d, .str g] ∧ LineAt C Dc D Z H L S ∧ LOk D ds S ∧ WFD D ∧ DsOk ds ∧ g ∈ D.order ∧ ∀ H', Ex H H' → Q (.bl (fitsB D ds S.keeps d g)) H'
def strOf : V → Str
  | .str z => z
  | _ => ""
theorem fits_dict {a : Addr} {keeps : Int → Option Str} {kvs : List (Key × V)} {d : Int} {p : Key × V → Bool} {q : Key × V → Bool} (h : DI H a (fK keeps) kvs) (hin : ∀ i g, keeps i = some g → i ∈ ds) (near : Str → Bool) (hp : ∀ i g, keeps i = some g → p (.inl i, .str g) = !decide (i = d)) (hq : ∀ i g, keeps i = some g → q (.inl i, .str g) = near g) :
    ((kvs.filter p).all q) = ds.all fun o => decide (o = d) || match keeps o with
      | none => true
      | some m => near m := by
  rw [Bool.eq_iff_iff, List.all_eq_true, List.all_eq_true]
  constructor
  · intro hh o ho
    cases e : keeps o with
    | none => simp
    | some m =>
      by_cases z : o = d
      · simp [z]
      · have := hh (.inl o, .str m) (List.mem_filter.mpr ⟨h.has (by unfold fK; rw [e]; rfl), by rw [hp o m e]; simp [z]⟩)
        rw [hq o m e] at this
        simp [this]
  · intro hh b hb
    obtain ⟨hb1, hb2⟩ := List.mem_filter.mp hb
    obtain ⟨i, hi, hf⟩ := h.mem hb1
    unfold fK at hf
    obtain ⟨g, hg, hv⟩ := Option.map_eq_some_iff.mp hf
    have eb : b = (.inl i, .str g) := by rw [← hi, hv]
    rw [eb] at hb2 ⊢
    rw [hp i g hg] at hb2
    have := hh i (hin i g hg)
    rw [hg] at this
    rw [hq i g hg]
    have hb2' : ¬ i = d := by simpa using hb2
    simpa [hb2'] using this
theorem sc_Line_fits : FnScope ["self", "deal", "goal", "other"] ["self", "deal", "goal"] (defScope s_Line_fits) := ⟨rfl, rfl, rfl, by decide +kernel, rfl, by decide +kernel, by decide +kernel⟩
theorem ok_Line_fits (F : FnT K "fits" "Line.fits" s_Line_fits [] [] f fd) (T : Txt K mg C Dc) (M_Table_beside : AMt2 P w K mg base C "beside" 3 ansBeside) : FnOk P w K mg base CX0 4 f fd ["self", "deal", "goal"] (spFits C Dc D Z ds) := by
  refine F.ok sc_Line_fits (fun vs H Q E ⟨_, _, _, _, h, _⟩ => by rw [h]; rfl) (fun cdv A outer s H vs Q E hr ⟨L, S, d, g, hv, hL, ok, wf, dok, hg, q⟩ => ⟨_, PSs.nox (pss_one (ps_ret (pe_callB (cr_allK K rfl rfl) (by rfl) T.fAll boot_all (pa_cons (pe_lock (pe_lc (own := [("other", 3)]) rfl sc_Line_fits.nd (pi_keys (pe_fldK K rfl (pv 0) rfl)) (blkOk_by (by rfl)) (fun _ _ _ _ _ => (pg_name (i := 3) sc_Line_fits.nd rfl (by first | exact Or.inl rfl | exact Or.inr rfl))) (fun _ _ _ _ _ => (pts_one (pt_cmpR op_ne (pv 3) (pv 1) (nomark _)))) (fun _ _ _ _ _ => (pe_methG M_Table_beside T.clC hr (by decide) (pe_fldK K rfl (pv 0) rfl) (pa_cons (pv 2) (pa_cons (pe_dget (hu_of hr) (pe_fldK K rfl (pv 0) rfl) (pv 3) (fun _ _ => rfl)) pa_nil)))))) pa_nil)))), ?_⟩)
  subst hv
  obtain ⟨kvs, hk⟩ := id hL.kp
  have hkl : kvs.length ≤ 50 := Nat.le_trans (hk.len (ds := ds) (fun i hi => by
    unfold fK at hi
    cases e : S.keeps i with
    | none => rw [e] at hi; cases hi
    | some m => exact (ok.kin i m e).1)) dok.few
  have nln : L.ln ≠ L.kd := fun z => by
    have := hL.nd
    simp only [LA.foot, List.nodup_cons, List.mem_cons] at this
    exact this.1 (.inl z)
  refine s_ret (v := .bl (fitsB D ds S.keeps d g)) (ev_is (ev_all (K := K) (el_boolL (ep_lcKE (kvs := kvs) (d := L.kd) (fun b => !decide (kV b.1 = .int d)) (fun b => D.near g (strOf b.2)) (kdV V.bl) hk.at_ (by omega) (fun H1 od e1 => ev_fld (ev_var (i := 0) (v := .ref L.ln) rfl) (by rw [upd_ne nln]; exact e1 _ _ hL.at_) T.clD T.nKeeps rfl) (fun H1 od b e1 hb H2 e2 => ?_)))) ?_) fun H1 e1 => q H1 e1
  · obtain ⟨i, hi, hf⟩ := hk.mem hb
    obtain ⟨m, hm, hv⟩ := Option.map_eq_some_iff.mp (show (S.keeps i).map V.str = some b.2 from hf)
    have hln2 := lock_ne e1 e2 hL.at_ nln
    obtain ⟨j, hj⟩ := hL.tab
    have hZ2 : Ex Z H2 := fun c o h => lock_ne e1 e2 (hL.z c o h) (fun z => by have := hL.zf L.kd (by simp); rw [z, this] at h; cases h)
    refine ⟨wipe_turn, et_test (ev_op (ev_var (i := 3) rfl) (ev_var (i := 1) rfl) (rv_ne (by rw [hi]; rfl))), fun _ => ep_ev ?_⟩
    refine ev_T2 (ans := ansBeside) (b := strOf b.2) (ev_fld (ev_var (i := 0) (v := .ref L.ln) rfl) hln2 T.clD T.nTable rfl) (ea_cons (ev_var (i := 2) rfl) (ea_cons (ev_dget (ev_fld (ev_var (i := 0) (v := .ref L.ln) rfl) hln2 T.clD T.nKeeps rfl) (ev_var (i := 3) rfl) ?_) ea_nil)) (hj.ex hZ2) wf hg (by rw [← hv]; exact (ok.kin i m hm).2) nl_beside
    have e0 : some (V.str (strOf b.2)) = valV kvs b.1 := by rw [hi, hk.va, hf, ← hv]; rfl
    rw [e0]
    exact dget_k (k := b.1) (.inr ⟨od, lock_at e2⟩)
  · rw [List.all_map]
    congr 1
    exact fits_dict hk (fun i m h => (ok.kin i m h).1) (fun m => D.near g m) (fun i m _ => by
      show (!decide (V.int i = V.int d)) = _
      by_cases z : i = d
      · simp [z]
      · simp [z]) (fun i m _ => rfl)
end
end HT
set_option Elab.async false
set_option linter.all false
set_option maxRecDepth 100000
set_option maxHeartbeats 4000000
/-! Line.holders, unwait -/
namespace HT
open PySem PySem.Spec PyProof.Rows L2 Evl LamX
section
variable {P : Program} {w : World} {K : PySem.W.Frag} {mg : Str → Option Value} {base : Heap} {C Dc : Addr} {f : Addr} {fd : FuncData} {Z H : Hp} {L : LA} {S : LS} {D : TD Str} {ds : List Int} {σ : L2.St} {ta tb : TE}
theorem DI.keys {a : Addr} {fn : FI} {kvs : List (Key × V)} (h : DI H a fn kvs) : ∃ ks : List Int, kvs.map (·.1) = ks.map Sum.inl ∧ ks.Nodup ∧ ∀ i, i ∈ ks ↔ (fn i).isSome = true := by
  have h1 : ∃ ks : List Int, kvs.map (·.1) = ks.map Sum.inl := by
    have := h.ik
    clear h
    induction kvs with
    | nil => exact ⟨[], rfl⟩
    | cons p l ih =>
      obtain ⟨i, hi⟩ := this p (by simp)
      obtain ⟨ks, hk⟩ := ih (fun q hq => this q (by simp [hq]))
      exact ⟨i :: ks, by rw [List.map_cons, List.map_cons, hi, hk]⟩
  obtain ⟨ks, hk⟩ := h1
  have hnd := h.nd
  rw [hk] at hnd
  refine ⟨ks, hk, (List.pairwise_map.mp hnd).imp fun h e => h (congrArg Sum.inl e), fun i => ?_⟩
  rw [← h.va i]
  constructor
  · intro hi
    have : (Sum.inl i : Key) ∈ kvs.map (·.1) := by rw [hk]; exact List.mem_map.mpr ⟨i, hi, rfl⟩
    obtain ⟨v, hv⟩ := valV_some this
    rw [hv]; rfl
  · intro hi
    by_cases q : (Sum.inl i : Key) ∈ kvs.map (·.1)
    · rw [hk] at q
      obtain ⟨j, hj, e⟩ := List.mem_map.mp q
      injection e with e
      rw [← e]; exact hj
    · rw [valV_none q] at hi
      cases hi
/-- a dict by its list of keys -/
theorem DI.ofKeys {a : Addr} {fn : FI} {ys : List Int} (nd : ys.Nodup) (hm : ∀ i, i ∈ ys ↔ (fn i).isSome = true) (h : H a = some (.dK (ys.map fun i => (Sum.inl i, (fn i).getD .non)))) : DI H a fn (ys.map fun i => (Sum.inl i, (fn i).getD .non)) := by
  have hnd : ((ys.map fun i => ((Sum.inl i : Key), (fn i).getD .non)).map (·.1)).Nodup := by
    rw [List.map_map]
    exact List.Pairwise.map _ (fun a b h z => h (by injection z)) nd
  refine ⟨h, hnd, fun p hp => ?_, fun i => ?_⟩
  · obtain ⟨i, hi, rfl⟩ := List.mem_map.mp hp
    exact ⟨i, rfl⟩
  · by_cases q : i ∈ ys
    · rw [val_nodup hnd (.inl i, (fn i).getD .non) (List.mem_map.mpr ⟨i, q, rfl⟩)]
      have := (hm i).mp q
      cases e : fn i with
      | none => rw [e] at this; cases this
      | some v => rfl
    · rw [valV_none (fun z => q (by
        rw [List.map_map] at z
        obtain ⟨j, hj, e⟩ := List.mem_map.mp z
        have : j = i := by injection e
        rw [← this]; exact hj))]
      cases e : fn i with
      | none => rfl
      | some v => exact absurd ((hm i).mpr (by rw [e]; rfl)) q
def spHolders (C Dc : Addr) (D : TD Str) (Z : Hp) (ds : List Int) : Sp := fun vs H Q _ => ∃ (L : LA) (S : LS), vs = [.ref L.ln] ∧ LineAt C Dc D Z H L S ∧ LOk D ds S ∧ DsOk ds ∧ ∀ p H', H p = none → Ex H H' → DA H' p (fK S.keeps) → Q (.ref p) H'
theorem fK_in {D : TD Str} (ok : LOk D ds S) : FIn (fK S.keeps) ds := fun i hi => by
  unfold fK at hi
  cases e : S.keeps i with
  | none => rw [e] at hi; cases hi
  | some m => exact (ok.kin i m e).1
theorem sc_Line_holders : FnScope ["self", "deal"] ["self"] (defScope s_Line_holders) := ⟨rfl, rfl, rfl, by decide +kernel, rfl, by decide +kernel, by decide +kernel⟩
theorem ok_Line_holders (F : FnT K "holders" "Line.holders" s_Line_holders [] [] f fd) (T : Txt K mg C Dc) : FnOk P w K mg base CX0 1 f fd ["self"] (spHolders C Dc D Z ds) := by
  refine F.ok sc_Line_holders (fun vs H Q E ⟨_, _, h, _⟩ => by rw [h]; rfl) (fun cdv A outer s H vs Q E hr ⟨L, S, hv, hL, ok, dok, q⟩ => ⟨_, PSs.nox (pss_one (ps_ret (pe_dc (own := [("deal", 1)]) rfl sc_Line_holders.nd (pi_listK K rfl (pe_callB (call_sortedDI rfl) (by rfl) T.fSorted boot_sorted (pa_cons (pe_fldK K rfl (pv 0) rfl) pa_nil))) (blkOk_by (by rfl)) (fun _ _ _ _ _ => (pg_name (i := 1) sc_Line_holders.nd rfl (by first | exact Or.inl rfl | exact Or.inr rfl))) (fun _ _ _ _ _ => pts_nil) (fun _ _ _ _ _ => (pv 1)) (fun _ _ _ _ _ => (pe_dget (hu_of hr) (pe_fldK K rfl (pv 0) rfl) (pv 1) (fun _ _ => rfl)))))), ?_⟩)
  subst hv
  obtain ⟨kvs, hk⟩ := id hL.kp
  have hkl : kvs.length ≤ 50 := Nat.le_trans (hk.len (fK_in ok)) dok.few
  obtain ⟨ks, hks, hknd, hkm⟩ := hk.keys
  have hksl : ks.length = kvs.length := by have := congrArg List.length hks; simpa using this.symm
  refine hL.ekeeps T (ev_var (i := 0) (v := .ref L.ln) rfl) H (Ex.refl _) _ fun H1 e1 => ⟨L.kd, kvs, ks, rfl, .inl (e1 _ _ hk.at_), hks, by omega, fun ys p hp _ hpn => ?_⟩
  have hpm : ∀ i, i ∈ ys ↔ (fK S.keeps i).isSome = true := fun i => by rw [hp.mem_iff]; exact hkm i
  have hynd : ys.Nodup := hp.nodup_iff.mpr hknd
  have e12 : Ex H (upd H1 p (.lst (ys.map V.int))) := e1.trans (Ex.new hpn)
  have hL2 := hL.ex e12
  have hD := ep_dcW (σ := start ["self", "deal"] [.ref L.ln]) (H := upd H1 p (.lst (ys.map V.int))) (wi := iList K (tC (.ref p))) (g := gName 1) (t := tYes) (tk := tVar 1) (tv := tDGet (tFld K (tVar 0) "keeps") (tVar 1)) (vs := [1]) (fun _ => true) (fun i : Int => Sum.inl i) (fun i => (fK S.keeps i).getD .non)
    (wk_list (K := K) (ka := kdV V.int) (ls_var (bs := ys) ev_c ⟨p, _, rfl, SqL.of upd_same, kdV_of⟩)) (by rw [hp.length_eq]; omega) (List.Pairwise.map _ (fun a b h z => h (by injection z)) hynd)
    (fun i x H3 hi e3 hx => by
      cases hx
      refine ⟨rfl, Ex.refl _, et_yes, fun _ => ⟨ev_var (i := 1) rfl, ?_⟩⟩
      have hs := (hpm i).mp hi
      refine ev_daget ((hL2.ex e3).ekeeps T (ev_var (i := 0) (v := .ref L.ln) rfl)) (ev_var (i := 1) rfl) (hL2.ex e3).kp ?_
      cases e : fK S.keeps i with
      | none => rw [e] at hs; cases hs
      | some v => rfl)
    gname_mono
  refine hD _ (Ex.refl _) _ fun v H3 e3 ⟨pd, hv, hpd, hd⟩ => ?_
  rw [filt_true] at hd
  rw [hv]
  exact q pd H3 (fresh_back e12 hpd) (e12.trans e3) ⟨_, DI.ofKeys hynd hpm hd⟩
end
end HT
set_option Elab.async false
set_option linter.all false
set_option maxRecDepth 100000
set_option maxHeartbeats 4000000
/-! Line.unwait, grant -/
namespace HT
open PySem PySem.Spec PyProof.Rows L2 Evl LamX
section
variable {P : Program} {w : World} {K : PySem.W.Frag} {mg : Str → Option Value} {base : Heap} {C Dc : Addr} {f : Addr} {fd : FuncData} {Z H : Hp} {L : LA} {S : LS} {D : TD Str} {ds : List Int} {σ : L2.St} {ta tb tk tv td : TE} {tt : TT}
theorem wk_keysL {kvs : List (Key × V)} {d : Addr} {od : Obj} (hd : H d = some (.frz od (.dK kvs))) (h : Ev td σ H (.ref d)) : WalkP (iKeys td) σ H kvs (fun b v _ => v = kV b.1) := fun H0 e0 R r => h H0 e0 _ fun H1 e1 => ⟨d, od, rfl, .inl ⟨kvs, (e0.trans e1) _ _ hd, by
  refine r _ H1 (fun H => H d = some (.frz od (.dK kvs))) (fun i H x H' => H' = H ∧ ∃ k v, kvs[i]? = some (k, v) ∧ x = kV k) e1 walk_keys (fun H2 e2 => e2 _ _ ((e0.trans e1) _ _ hd)) (fun i x H2 H3 e2 y => ?_)
  obtain ⟨rfl, k, v, hk, rfl⟩ := y
  exact ⟨(k, v), hk, Ex.refl _, rfl⟩⟩⟩
/-- {k: d[k] for k in d if ..}, d locked meanwhile -/
theorem ep_dcKE {kvs : List (Key × V)} (p : Key × V → Bool) {i : Nat} {vs : List Nat} {d : Addr} (hk : H d = some (.dK kvs)) (nd : (kvs.map (·.1)).Nodup) (hz : kvs.length ≤ 40000)
    (hd : ∀ H1 od, Ex H H1 → Ev td σ (upd H1 d (.frz od (.dK kvs))) (.ref d)) (hw : ∀ x, wipe ((wipe σ vs).set i (some x)) vs = wipe σ vs)
    (turn : ∀ (H1 : Hp) (od : Obj) (b : Key × V), Ex H H1 → b ∈ kvs → ∀ (H2 : Hp), Ex (upd H1 d (.frz od (.dK kvs))) H2 → EvT tt ((wipe σ vs).set i (some (kV b.1))) H2 (p b) ∧ (p b = true → Ev tk ((wipe σ vs).set i (some (kV b.1))) H2 (kV b.1) ∧ Ev tv ((wipe σ vs).set i (some (kV b.1))) H2 b.2)) :
    EvP (tLockE (tDc (iKeys td) (gName i) tt tk tv vs)) σ H (NewO (.dK (kvs.filter p))) := fun H1 e1 Q q => by
  refine ⟨d, _, e1 _ _ hk, trivial, fun od => ?_⟩
  refine ep_dcW (as := kvs) (RA := fun b v _ => v = kV b.1) p (fun b => b.1) (fun b => b.2) (wk_keysL upd_same (hd H1 od e1)) hz nd (fun b x H2 hb e2 hx => ?_) gname_mono _ (Ex.refl _) _ fun v H2 e2 ⟨pd, hv, hn, hp⟩ => ?_
  · subst hx
    obtain ⟨h1, h2⟩ := turn H1 od b e1 hb H2 e2
    exact ⟨hw _, Ex.refl _, h1, h2⟩
  · have hdp : d ≠ pd := fun z => by rw [← z, upd_same] at hn; cases hn
    have hn' : H1 pd = none := by rw [upd_ne hdp.symm] at hn; exact hn
    refine ⟨e2 _ _ upd_same, q v _ (ex_unlock (e1 _ _ hk) e2) ⟨pd, hv, hn', ?_⟩⟩
    rw [upd_ne hdp.symm]
    simpa using hp
theorem DI.filt {a r : Addr} {fn : FI} {kvs : List (Key × V)} (h : DI H a fn kvs) {H' : Hp} {d : Int} {p : Key × V → Bool} (hp : ∀ b ∈ kvs, p b = !decide (b.1 = Sum.inl d)) (hr : H' r = some (.dK (kvs.filter p))) : DA H' r (fput fn d none) := by
  have e : kvs.filter p = dropK kvs (.inl d) := by
    unfold dropK
    refine List.filter_congr fun b hb => ?_
    rw [hp b hb]
    simp
  rw [e] at hr
  have h2 := h.drop d
  exact ⟨_, hr, h2.nd, h2.ik, h2.va⟩
theorem aget_cons {κ β : Type} [DecidableEq κ] {p : κ × β} {l : List (κ × β)} {k : κ} : aget (p :: l) k = if p.1 = k then some p.2 else aget l k := rfl
theorem tkF_cons {e : Ent} {r : List Ent} {i : Int} : tkF (e :: r) i = if e.1 = i then some e.2.2 else tkF r i := rfl
theorem noW_cons {e : Ent} {r : List Ent} {d : Int} : noW (e :: r) d = if e.1 = d then noW r d else e :: noW r d := by
  unfold noW
  rw [List.filter_cons]
  by_cases h : e.1 = d <;> simp [h]
theorem tkF_noW0 {d i : Int} : ∀ {row : List Ent}, tkF (noW row d) i = if i = d then none else tkF row i
  | [] => by
    show none = if i = d then none else none
    split <;> rfl
  | e :: r => by
    rw [noW_cons]
    by_cases q : e.1 = d
    · rw [if_pos q, tkF_noW0, tkF_cons]
      by_cases h : i = d
      · rw [if_pos h, if_pos h]
      · rw [if_neg h, if_neg h, if_neg (fun z => h (by rw [← z]; exact q))]
    · rw [if_neg q, tkF_cons, tkF_cons, tkF_noW0]
      by_cases h : e.1 = i
      · rw [if_pos h, if_neg (fun z => q (by rw [h]; exact z)), if_pos h]
      · rw [if_neg h, if_neg h]
theorem tkF_noW {row : List Ent} {d : Int} : fN (tkF (noW row d)) = fput (fN (tkF row)) d none := by
  funext i
  unfold fN fput
  rw [tkF_noW0]
  by_cases h : i = d <;> simp [h]
theorem fN_in {ds : List Int} {g : Int → Option Int} (h : ∀ d, (g d).isSome = true → d ∈ ds) : FIn (fN g) ds := fun i hi => h i (by
  unfold fN at hi
  cases e : g i with
  | none => rw [e] at hi; cases hi
  | some m => rfl)
theorem tkF_some {row : List Ent} {d : Int} : (tkF row d).isSome = true ↔ d ∈ row.map (·.1) := by
  unfold tkF
  constructor
  · intro h
    cases e : aget (row.map fun e => (e.1, e.2.2)) d with
    | none => rw [e] at h; cases h
    | some v =>
      obtain ⟨x, hx, e2⟩ := List.mem_map.mp (aget_mem e)
      injection e2 with e3 e4
      exact List.mem_map.mpr ⟨x, hx, e3⟩
  · intro h
    obtain ⟨v, hv⟩ := aget_some (l := row.map fun e => (e.1, e.2.2)) (k := d) (by rw [List.map_map]; exact h)
    rw [hv]; rfl
theorem LOk.tkin (ok : LOk D ds S) : FIn (fN (tkF S.row)) ds := fN_in fun d hd => by
  obtain ⟨e, he, rfl⟩ := List.mem_map.mp (tkF_some.mp hd)
  exact (ok.rin e he).1
theorem LOk.skin (ok : LOk D ds S) : FIn (fN S.skips) ds := fN_in fun d hd => by
  obtain ⟨e, he, rfl⟩ := List.mem_map.mp ((ok.sk d).mp hd)
  exact (ok.rin e he).1
theorem LOk.rowlen (ok : LOk D ds S) : S.row.length ≤ ds.length := by
  have := nd_sub_len (m := ds) ok.nd fun a ha => by
    obtain ⟨e, he, rfl⟩ := List.mem_map.mp ha
    exact (ok.rin e he).1
  simpa using this
/-- a change's promise -/
def LPost (C Dc : Addr) (D : TD Str) (Z H : Hp) (L : LA) (S' : LS) (Q : Hp → Prop) : Prop := ∀ H' L', L'.ln = L.ln → LineAt C Dc D Z H' L' S' → Fr L.foot L'.foot H H' → Q H'
def spUnwait (C Dc : Addr) (D : TD Str) (Z : Hp) (ds : List Int) : Sp := fun vs H Q _ => ∃ (L : LA) (S : LS) (d : Int), vs = [.ref L.ln, .int d] ∧ LineAt C Dc D Z H L S ∧ LOk D ds S ∧ DsOk ds ∧ LPost C Dc D Z H L (S.unwait d) fun H' => Q .non H'
theorem DI.edrop {a : Addr} {fn : FI} {kvs : List (Key × V)} (h : DI H a fn kvs) {H1 H2 : Hp} {od : Obj} {b : Key × V} (e2 : Ex (upd H1 a (.frz od (.dK kvs))) H2) (hb : b ∈ kvs) {to ti : TE} (ho : Ev to σ H2 (.ref a)) (hi : Ev ti σ H2 (kV b.1)) : Ev (tDGet to ti) σ H2 b.2 := by
  refine ev_dget ho hi ?_
  rw [← val_nodup h.nd b hb]
  exact dget_k (k := b.1) (.inr ⟨od, lock_at e2⟩)
theorem sc_Line_unwait : FnScope ["self", "deal", "pair", "other"] ["self", "deal"] (defScope s_Line_unwait) := ⟨rfl, rfl, rfl, by decide +kernel, rfl, by decide +kernel, by decide +kernel⟩
theorem ok_Line_unwait (F : FnT K "unwait" "Line.unwait" s_Line_unwait [] [] f fd) (T : Txt K mg C Dc) : FnOk P w K mg base CX0 1 f fd ["self", "deal"] (spUnwait C Dc D Z ds) := by
  refine F.ok sc_Line_unwait (fun vs H Q E ⟨_, _, _, h, _⟩ => by rw [h]; rfl) (fun cdv A outer s H vs Q E hr ⟨L, S, d, hv, hL, ok, dok, q⟩ => ⟨_, PSs.nox (pss_cons (ps_fld (pv 0) (pe_lc (own := [("pair", 2)]) rfl sc_Line_unwait.nd (pi_listK K rfl (pe_fldK K rfl (pv 0) rfl)) (blkOk_by (by rfl)) (fun _ _ _ _ _ => (pg_name (i := 2) sc_Line_unwait.nd rfl (by first | exact Or.inl rfl | exact Or.inr rfl))) (fun _ _ _ _ _ => (pts_one (pt_cmpR op_ne (pe_ix (ix_tupK K rfl) (pv 2) pe_int (fun _ _ => rfl)) (pv 1) (nomark _)))) (fun _ _ _ _ _ => (pv 2))) rfl)
    (pss_cons (ps_fld (pv 0) (pe_lock (pe_dc (own := [("other", 3)]) rfl sc_Line_unwait.nd (pi_keys (pe_fldK K rfl (pv 0) rfl)) (blkOk_by (by rfl)) (fun _ _ _ _ _ => (pg_name (i := 3) sc_Line_unwait.nd rfl (by first | exact Or.inl rfl | exact Or.inr rfl))) (fun _ _ _ _ _ => (pts_one (pt_cmpR op_ne (pv 3) (pv 1) (nomark _)))) (fun _ _ _ _ _ => (pv 3)) (fun _ _ _ _ _ => (pe_dget (hu_of hr) (pe_fldK K rfl (pv 0) rfl) (pv 3) (fun _ _ => rfl))))) rfl)
    (pss_one (ps_fld (pv 0) (pe_lock (pe_dc (own := [("other", 3)]) rfl sc_Line_unwait.nd (pi_keys (pe_fldK K rfl (pv 0) rfl)) (blkOk_by (by rfl)) (fun _ _ _ _ _ => (pg_name (i := 3) sc_Line_unwait.nd rfl (by first | exact Or.inl rfl | exact Or.inr rfl))) (fun _ _ _ _ _ => (pts_one (pt_cmpR op_ne (pv 3) (pv 1) (nomark _)))) (fun _ _ _ _ _ => (pv 3)) (fun _ _ _ _ _ => (pe_dget (hu_of hr) (pe_fldK K rfl (pv 0) rfl) (pv 3) (fun _ _ => rfl))))) rfl)))), ?_⟩)
  subst hv
  obtain ⟨xs, hr1, hr2⟩ := hL.row
  have hrl := Nat.le_trans ok.rowlen dok.few
  refine q_fldP (P := NewL kdE (noW S.row d)) ?_ (ev_var (i := 0) (v := .ref L.ln) rfl) hL.at_ T.clD T.nRow (by show 6 < 1000; decide) fun v H1 H2 e1 e2 hv => ?_
  · have := ep_lcW (σ := start ["self", "deal", "pair", "other"] [.ref L.ln, .int d]) (H := H) (wi := iList K (tFld K (tVar 0) "row")) (g := gName 2) (t := tTest (tOp rNe (tOp (rIxT K) (tVar 2) (tC (.int 0))) (tVar 1))) (te := tVar 2) (vs := [2]) (fun e : Ent => decide (e.1 ≠ d)) (fun e => e) kdE (wk_list (K := K) (ka := kdE) (ls_var (bs := S.row) (hL.erow T (ev_var (i := 0) (v := .ref L.ln) rfl)) ⟨L.rw, xs, rfl, SqL.of hr1, hr2⟩)) (by omega)
      (fun e x H1 he e1 ⟨q, hx, hq⟩ => by
        subst hx
        refine ⟨rfl, Ex.refl _, et_is (et_test (ev_op (ev_pair0 (ev_var (i := 2) rfl) hq) (ev_var (i := 1) rfl) (rv_ne rfl))) ?_, fun _ => (ep_ev (ev_var (i := 2) (v := .ref q) rfl)).imp fun H3 v H4 e3 e4 hv => ⟨q, hv, (e3.trans e4) _ _ hq⟩⟩
        by_cases z : e.1 = d <;> simp [z])
      gname_mono
    rw [List.map_id'] at this
    exact this
  obtain ⟨r, ys, rfl, hrn, hry, hrk⟩ := hv
  obtain ⟨hL1, f1⟩ := hL.setRow (e1.trans e2) hrn (e2 _ _ hry) (kdE.L_ex e2 hrk)
  have f1' : Fr L.foot ({ L with rw := r } : LA).foot H (upd H2 L.ln (.ins Dc L.dx (putF "row" (.ref r) (lnF L S.turn)))) := f1
  have hL1' : LineR C Dc D Z (upd H2 L.ln (.ins Dc L.dx (putF "row" (.ref r) (lnF L S.turn)))) { L with rw := r } (fK S.keeps) (noW S.row d) (fN (tkF S.row)) (fN S.skips) S.turn := hL1
  generalize (upd H2 L.ln (.ins Dc L.dx (putF "row" (.ref r) (lnF L S.turn)))) = H3 at f1' hL1' ⊢
  clear hL1 f1
  -- tickets
  obtain ⟨kvt, hkt⟩ := id hL1'.tk
  have hktl := Nat.le_trans (hkt.len ok.tkin) dok.few
  have n3 := hL1'.nds
  refine q_fldP (ep_dcKE (td := tFld K (tVar 0) "tickets") (i := 3) (vs := [3]) (tt := tTest (tOp rNe (tVar 3) (tVar 1))) (tk := tVar 3) (tv := tDGet (tFld K (tVar 0) "tickets") (tVar 3)) (fun b => !decide (b.1 = Sum.inl d)) hkt.at_ hkt.nd (by omega) (fun H4 od e4 => ev_fld (ev_var (i := 0) (v := .ref L.ln) rfl) (by rw [upd_ne n3.2.2.1]; exact e4 _ _ hL1'.at_) T.clD T.nTickets rfl) (fun x => wipe_turn) (fun H4 od b e4 hb H5 e5 => ?_)) (ev_var (i := 0) (v := .ref L.ln) rfl) hL1'.at_ T.clD T.nTickets (by show 6 < 1000; decide) fun v H4 H5 e4 e5 hv => ?_
  · obtain ⟨i, hi, _⟩ := hkt.mem hb
    refine ⟨et_is (et_test (ev_op (ev_var (i := 3) rfl) (ev_var (i := 1) rfl) (rv_ne (by rw [hi]; rfl)))) ?_, fun _ => ⟨ev_var (i := 3) rfl, hkt.edrop e5 hb (ev_fld (ev_var (i := 0) (v := .ref L.ln) rfl) (lock_ne e4 e5 hL1'.at_ n3.2.2.1) T.clD T.nTickets rfl) (ev_var (i := 3) rfl)⟩⟩
    rw [hi]
    show (!decide (V.int i = V.int d)) = _
    by_cases z : i = d <;> simp [z]
  obtain ⟨r2, rfl, hr2n, hr2k⟩ := hv
  obtain ⟨hL2, f2⟩ := hL1'.setTk (e4.trans e5) hr2n (hkt.filt (H' := H5) (d := d) (fun b _ => rfl) (e5 _ _ hr2k))
  have f2' : Fr ({ L with rw := r } : LA).foot ({ L with rw := r, tk := r2 } : LA).foot H3 (upd H5 L.ln (.ins Dc L.dx (putF "tickets" (.ref r2) (lnF { L with rw := r } S.turn)))) := f2
  have hL2' : LineR C Dc D Z (upd H5 L.ln (.ins Dc L.dx (putF "tickets" (.ref r2) (lnF { L with rw := r } S.turn)))) { L with rw := r, tk := r2 } (fK S.keeps) (noW S.row d) (fput (fN (tkF S.row)) d none) (fN S.skips) S.turn := hL2
  generalize (upd H5 L.ln (.ins Dc L.dx (putF "tickets" (.ref r2) (lnF { L with rw := r } S.turn)))) = H6 at f2' hL2' ⊢
  clear hL2 f2
  -- skips
  obtain ⟨kvs, hks⟩ := id hL2'.sk
  have hksl := Nat.le_trans (hks.len ok.skin) dok.few
  have n6 := hL2'.nds
  refine s_fldP (ep_dcKE (td := tFld K (tVar 0) "skips") (i := 3) (vs := [3]) (tt := tTest (tOp rNe (tVar 3) (tVar 1))) (tk := tVar 3) (tv := tDGet (tFld K (tVar 0) "skips") (tVar 3)) (fun b => !decide (b.1 = Sum.inl d)) hks.at_ hks.nd (by omega) (fun H7 od e7 => ev_fld (ev_var (i := 0) (v := .ref L.ln) rfl) (by rw [upd_ne n6.2.2.2.1]; exact e7 _ _ hL2'.at_) T.clD T.nSkips rfl) (fun x => wipe_turn) (fun H7 od b e7 hb H8 e8 => ?_)) (ev_var (i := 0) (v := .ref L.ln) rfl) hL2'.at_ T.clD T.nSkips (by show 6 < 1000; decide) fun v H7 H8 e7 e8 hv => ?_
  · obtain ⟨i, hi, _⟩ := hks.mem hb
    refine ⟨et_is (et_test (ev_op (ev_var (i := 3) rfl) (ev_var (i := 1) rfl) (rv_ne (by rw [hi]; rfl)))) ?_, fun _ => ⟨ev_var (i := 3) rfl, hks.edrop e8 hb (ev_fld (ev_var (i := 0) (v := .ref L.ln) rfl) (lock_ne e7 e8 hL2'.at_ n6.2.2.2.1) T.clD T.nSkips rfl) (ev_var (i := 3) rfl)⟩⟩
    rw [hi]
    show (!decide (V.int i = V.int d)) = _
    by_cases z : i = d <;> simp [z]
  obtain ⟨r3, rfl, hr3n, hr3k⟩ := hv
  obtain ⟨hL3, f3⟩ := hL2'.setSk (e7.trans e8) hr3n (hks.filt (H' := H8) (d := d) (fun b _ => rfl) (e8 _ _ hr3k))
  refine q _ { L with rw := r, tk := r2, sk := r3 } rfl ?_ ((f1'.trans f2').trans f3)
  have e1 : fN (tkF (S.unwait d).row) = fput (fN (tkF S.row)) d none := tkF_noW
  have e2 : fN (S.unwait d).skips = fput (fN S.skips) d none := by show fN (put S.skips d none) = _; rw [fN_put]; rfl
  show LineR _ _ _ _ _ _ _ _ (fN (tkF (S.unwait d).row)) (fN (S.unwait d).skips) _
  rw [e1, e2]
  exact hL3
end
end HT
set_option Elab.async false
set_option linter.all false
set_option maxRecDepth 100000
set_option maxHeartbeats 4000000
/-! calls with keywords, instances made, by promises -/
namespace HT
open PySem PySem.Spec PyProof.Rows L2 Evl
section
variable {P : Program} {w : World} {K : PySem.W.Frag} {mg : Str → Option Value} {base : Heap}
structure MFK (P : Program) (w : World) (K : PySem.W.Frag) (mg : Str → Option Value) (base : Heap) (C : Addr) (m : Str) (ps : List Str) (n : Nat) (ks : List Str) (gV : List V → List V → List V) (k : Nat) (sp : Sp) : Prop where
  ex : ∃ f fd g, Meth K C m f ∧ KBn K fd ps n ks g gV ∧ FnOk P w K mg base CX0 k f fd ps sp
structure MKK (P : Program) (w : World) (K : PySem.W.Frag) (mg : Str → Option Value) (base : Heap) (C : Addr) (ps : List Str) (n : Nat) (ks : List Str) (gV : List V → List V → List V) (k : Nat) (sp : Sp) : Prop where
  ex : ∃ f fd g, Mk K C f ∧ KBn K fd ps (n + 1) ks g gV ∧ FnOk P w K mg base CX0 k f fd ps sp
structure MKG (P : Program) (w : World) (K : PySem.W.Frag) (mg : Str → Option Value) (base : Heap) (C : Addr) (ps : List Str) (k : Nat) (sp : Sp) : Prop where
  ex : ∃ f fd, Mk K C f ∧ Binds K fd ps [] ∧ FnOk P w K mg base CX0 k f fd ps sp
end
def tMethK (C : Addr) (m : Str) (n l : Nat) (sp : Sp) (gV : List V → List V → List V) (ta : TE) (t tk : TA) : TE := fun σ H Q => ta σ H fun x H1 => ∃ a dx fs, x = .ref a ∧ H1 a = some (.ins C dx fs) ∧ fs.lookup m = none ∧
  t σ H1 fun vs H2 => tk σ H2 fun zs H3 => vs.length + 1 = n ∧ zs.length = l ∧ sp (gV (x :: vs) zs) H3 Q E0
section
variable {X : Cx} {k j n : Nat} {C : Addr} {ps ks : List Str} {sp : Sp} {x m : Str} {p pos apos : Pos} {e o : Expr} {es : List Expr} {kws : List Keyword} {ta : TE} {t tk : TA} {gV : List V → List V → List V}
theorem pe_methKG {pl : Sem Bool} (G : MFK X.prog X.w X.K X.mg X.base C m ps n ks gV k sp) (c : Cls X.K C) (hr : Room j X.A) (hj : k ≤ j) (he : PE X o ta) (ha : PA X (e :: es) t) (hkw : PK X kws tk)
    (hall : (backToKw pos (keywordEach kws X.env)).all (·.1.isSome) = true := by rfl) (hks : (backToKw pos (keywordEach kws X.env)).filterMap (·.1) = ks := by rfl)
    (hst : starEach (e :: es) X.env = (false, eval e X.env) :: starEach es X.env := by rfl) (hpl : ((backTo pos (starEach (e :: es) X.env)).any (·.1) || (backToKw pos (keywordEach kws X.env)).any (·.1.isNone)) = false := by rfl)
    (ht : eval (.Call (.Attribute o m apos) (e :: es) kws pos) X.env = (do
      let ov ← eval o X.env
      standAt apos.atName
      let (f, first) ← holding [ov] (getMethod ov m pl)
      callWith pos f first (backTo pos (starEach (e :: es) X.env)) (backToKw pos (keywordEach kws X.env))) := by rfl) :
    PE X (.Call (.Attribute o m apos) (e :: es) kws pos) (tMethK C m n ks.length sp gV ta t tk) := by
  obtain ⟨f, fd, g, hm, hb, F⟩ := G.ex
  refine ⟨fun pins s σ H Q I h => ?_⟩
  refine PySem.W.methodCall_KW (pl := pl) (thn (he.run pins s σ H _ I h) fun u s1 ⟨x, H1, I1, rx, a, dx, fs, ex, ea, l, q⟩ => ?_) ht
  subst ex
  obtain rfl : u = Value.ref a := rx
  refine getmeth_ok I1 ea c hm l ?_
  refine PySem.W.callWith_KW (first := [.ref a]) (h₀ := X.base) I.ok.mod.kin hm.kp hall (thn (ha.run pos pins s1 σ H1 _ I1 q) fun us s2 ⟨vs, H2, I2, r, q2⟩ => ?_) hpl hst
  refine thn (hkw.run pos pins s2 σ H2 _ I2 q2) fun ws s3 ⟨zs, H3, I3, rz, l1, l2, q3⟩ => ⟨I3.kIn, ?_⟩
  rw [hks]
  exact run_fnN (us := .ref a :: us) (vs := .ref a :: vs) F (hr.mono hj) hb pass0 I3 (.cons rfl r) rz l1 l2 q3
theorem pe_makeKG (G : MKK X.prog X.w X.K X.mg X.base C ps n ks gV k sp) (hr : Room j X.A) (hj : k + 1 ≤ j) (hg : Gl X x) (hm : X.mg x = some (.ref C)) (ha : PA X (e :: es) t) (hkw : PK X kws tk)
    (hall : (backToKw pos (keywordEach kws X.env)).all (·.1.isSome) = true := by rfl) (hks : (backToKw pos (keywordEach kws X.env)).filterMap (·.1) = ks := by rfl) (hdb : (x == ("__debug__" : Str)) = false := by decide)
    (he : starEach (e :: es) X.env = (false, eval e X.env) :: starEach es X.env := by rfl) (hpl : ((backTo pos (starEach (e :: es) X.env)).any (·.1) || (backToKw pos (keywordEach kws X.env)).any (·.1.isNone)) = false := by rfl) :
    PE X (.Call (.Name x p) (e :: es) kws pos) (tMakeK C n ks.length sp gV E0 t tk) := by
  obtain ⟨f, fd, g, hM, hb, F⟩ := G.ex
  exact pe_makeK hM F (hr.mono hj) hg hm hb pass0 ha hkw hall hks hdb he hpl
theorem pe_makeG (G : MKG X.prog X.w X.K X.mg X.base C ps k sp) (hr : Room j X.A) (hj : k + 1 ≤ j) (hg : Gl X x) (hm : X.mg x = some (.ref C)) (ha : PA X (e :: es) t) (hdb : (x == ("__debug__" : Str)) = false := by decide)
    (he : starEach (e :: es) X.env = (false, eval e X.env) :: starEach es X.env := by rfl) (hpl : (backTo pos (starEach es X.env)).any (·.1) = false := by rfl) : PE X (.Call (.Name x p) (e :: es) [] pos) (tMake C sp [] E0 t) := by
  obtain ⟨f, fd, hM, hb, F⟩ := G.ex
  exact pe_make hM F (hr.mono hj) hg hm hb .nil pass0 ha hdb he hpl
end
end HT
set_option Elab.async false
set_option linter.all false
set_option maxRecDepth 100000
set_option maxHeartbeats 4000000
/-! Line.grant, granted_now -/
namespace HT
open PySem PySem.Spec PyProof.Rows L2 Evl LamX
theorem tkF_of {e : Ent} : ∀ {row : List Ent}, (row.map (·.1)).Nodup → e ∈ row → tkF row e.1 = some e.2.2
  | x :: r, nd, h => by
    rw [tkF_cons]
    have h2 := List.nodup_cons.mp (show (x.1 :: r.map (·.1)).Nodup from nd)
    rcases List.mem_cons.mp h with rfl | h
    · rw [if_pos rfl]
    · rw [if_neg (fun z => h2.1 (by rw [z]; exact List.mem_map.mpr ⟨e, h, rfl⟩))]
      exact tkF_of h2.2 h
theorem bump_snoc (row : List Ent) (e : Ent) (k : Int) (f : Int → Option Int) : bump (row ++ [e]) k f = if e.2.2 < k then put (bump row k f) e.1 (some ((bump row k f e.1).getD 0 + 1)) else bump row k f := by
  unfold bump
  rw [List.foldl_append]
  rfl
section
variable {P : Program} {w : World} {K : PySem.W.Frag} {mg : Str → Option Value} {base : Heap} {C Dc : Addr} {f : Addr} {fd : FuncData} {Z H : Hp} {L : LA} {S : LS} {D : TD Str} {ds : List Int} {σ : L2.St} {ta tb tk tv td to ty : TE} {tt : TT} {E : Ends} {tz : TS}
/-- d[y] = v of a dict of whole keys -/
theorem s_dputI {a : Addr} {fn : FI} {kvs : List (Key × V)} {i : Int} {v : V} (hv : Ev tv σ H v) (ho : Ev to σ H (.ref a)) (hy : Ev ty σ H (.int i)) (hk : DI H a fn kvs) (hl : kvs.length < 100000) (k : ∀ H1, Ex H H1 → DI H1 a fn kvs → E.nx σ (upd H1 a (.dK (putK kvs (.inl i) v)))) : sDPut to ty tv E σ H :=
  hv H (Ex.refl _) _ fun H1 e1 => ho H1 e1 _ fun H2 e2 => hy H2 (e1.trans e2) _ fun H3 e3 => ⟨a, _, rfl, DPut.k (k := Sum.inl i) (((e1.trans e2).trans e3) _ _ hk.at_) (sz_lt hl), k H3 ((e1.trans e2).trans e3) ⟨((e1.trans e2).trans e3) _ _ hk.at_, hk.nd, hk.ik, hk.va⟩⟩
theorem q_dputI {a : Addr} {fn : FI} {kvs : List (Key × V)} {i : Int} {v : V} (hv : Ev tv σ H v) (ho : Ev to σ H (.ref a)) (hy : Ev ty σ H (.int i)) (hk : DI H a fn kvs) (hl : kvs.length < 100000) (k : ∀ H1, Ex H H1 → DI H1 a fn kvs → tz E σ (upd H1 a (.dK (putK kvs (.inl i) v)))) : tSeq (sDPut to ty tv) tz E σ H :=
  s_dputI (E := { E with nx := tz E }) hv ho hy hk hl k
theorem LineR.ex_fr {kf tf sf kf' tf' sf' : FI} {rows rows' : List Ent} {turn turn' : Int} {H0 H1 H2 : Hp} {L' : LA} (f : Fr L.foot L'.foot H0 H1) (e : Ex H1 H2) : Fr L.foot L'.foot H0 H2 := f.ex e
def spGrant (C Dc : Addr) (D : TD Str) (Z : Hp) (ds : List Int) : Sp := fun vs H Q _ => ∃ (L : LA) (S : LS) (d : Int) (g : Str) (k : Int), vs = [.ref L.ln, .int d, .str g, .int k] ∧ LineAt C Dc D Z H L S ∧ LOk D ds S ∧ DsOk ds ∧ LPost C Dc D Z H L (S.grant d g k) fun H' => Q .non H'
theorem sc_Line_grant : FnScope ["self", "deal", "goal", "ticket", "other", "more"] ["self", "deal", "goal", "ticket"] (defScope s_Line_grant) := ⟨rfl, rfl, rfl, by decide +kernel, rfl, by decide +kernel, by decide +kernel⟩
theorem ok_Line_grant (F : FnT K "grant" "Line.grant" s_Line_grant [] [] f fd) (T : Txt K mg C Dc) : FnOk P w K mg base CX0 1 f fd ["self", "deal", "goal", "ticket"] (spGrant C Dc D Z ds) := by
  refine F.ok sc_Line_grant (fun vs H Q E ⟨_, _, _, _, _, h, _⟩ => by rw [h]; rfl) (fun cdv A outer s H vs Q E hr ⟨L, S, d, g, k, hv, hL, ok, dok, q⟩ => ⟨_, PSs.nox (pss_cons (ps_if (pt_cmp (pc_din (hu_of hr) (pv 1) (pe_fldK K rfl (pv 0) rfl))) (pss_one (ps_for PassesOwn.never rfl (pi_listK K rfl (pe_fldK K rfl (pv 0) rfl)) (pg_tupK (n := 2) K rfl rfl (pgs_cons (pg_name (i := 4) sc_Line_grant.nd rfl (by first | exact Or.inl rfl | exact Or.inr rfl)) (pgs_cons (pg_name (i := 5) sc_Line_grant.nd rfl (by first | exact Or.inl rfl | exact Or.inr rfl)) pgs_nil))) (pss_one (ps_if (pt_cmpR op_lt (pe_dget (hu_of hr) (pe_fldK K rfl (pv 0) rfl) (pv 4) (fun _ _ => rfl)) (pv 3) (nomark _)) (pss_one (ps_daug (hu_of hr) (pe_fldK K rfl (pv 0) rfl) (pv 4) pe_int in_add (fun _ _ _ => rfl))) pss_nil)))) pss_nil)
    (pss_one (ps_dput (hu_of hr) (pe_fldK K rfl (pv 0) rfl) (pv 1) (pv 2) rfl))), ?_⟩)
  subst hv
  have fin : ∀ (o4 o5 : Option V) (sf : FI) (H1 : Hp), LineR C Dc D Z H1 L (fK S.keeps) S.row (fN (tkF S.row)) sf S.turn → Fr L.foot L.foot H H1 → sf = fN (S.grant d g k).skips →
      sDPut (tFld K (tVar 0) "keeps") (tVar 1) (tVar 2) { nx := fun _ H' => Q .non H', rt := Q } ([some (.ref L.ln), some (.int d), some (.str g), some (.int k), o4, o5] : L2.St) H1 := by
    intro o4 o5 sf H1 h1 f1 e1
    obtain ⟨kvs, hk⟩ := id h1.kp
    have hkl := Nat.le_trans (hk.len (fK_in ok)) dok.few
    refine s_dputI (ev_var (i := 2) rfl) (h1.ekeeps T (ev_var (i := 0) (v := .ref L.ln) rfl)) (ev_var (i := 1) rfl) hk (by omega) fun H2 e2 hk2 => ?_
    obtain ⟨h3, f3⟩ := (h1.ex e2).putKd hk2 d (.str g)
    refine q _ L rfl ?_ ((f1.ex e2).trans f3)
    have e3 : fK (S.grant d g k).keeps = fput (fK S.keeps) d (some (.str g)) := by show fK (put S.keeps d (some g)) = _; rw [fK_put]; rfl
    show LineR _ _ _ _ _ _ (fK (S.grant d g k).keeps) S.row (fN (tkF S.row)) (fN (S.grant d g k).skips) S.turn
    rw [e3, ← e1]
    exact h3
  refine q_when (et_B (ev_dain (i := d) (ev_var (i := 1) rfl) (hL.ekeeps T (ev_var (i := 0) (v := .ref L.ln) rfl)) hL.kp)) (fun z H1 e1 => ?_) (fun z H1 e1 => ?_)
  · have hL1 := hL.ex e1
    obtain ⟨xs, hr1, hr2⟩ := hL1.row
    have hkd : (S.keeps d).isSome = true := by
      unfold fK at z
      cases e : S.keeps d with
      | none => rw [e] at z; cases z
      | some m => rfl
    refine s_forL (hL1.erow T (ev_var (i := 0) (v := .ref L.ln) rfl)) (SqL.of hr1) (fun i σ' H' => Keeps [4, 5] ([some (.ref L.ln), some (.int d), some (.str g), some (.int k), none, none] : L2.St) σ' ∧ LineR C Dc D Z H' L (fK S.keeps) S.row (fN (tkF S.row)) (fN (bump (S.row.take i) k S.skips)) S.turn ∧ Fr L.foot L.foot H H' ∧ H' L.rw = some (.lst xs) ∧ kdE.L S.row xs H')
      (fun H2 e2 => ⟨Keeps.refl, hL1.ex e2, (Fr.of e1).ex e2, e2 _ _ hr1, kdE.L_ex e2 hr2⟩) (fun i σ' H' hi w => SqL.of w.2.2.2.1) (fun i x σ' H' hx w => ?_) (fun σ' H' w => ?_)
    · obtain ⟨wk, wl, wf, wr, wx⟩ := w
      obtain ⟨o4, o5, rfl⟩ := wk.two
      obtain ⟨e, he, tq, rfl, htq⟩ := pair_get wx hx
      have hem := List.mem_of_getElem? he
      refine ⟨tq, _, rfl, SqT.of htq, rfl, _, _, rfl, _, _, rfl, rfl, ?_⟩
      show tIfS _ _ _ _ ([some (.ref L.ln), some (.int d), some (.str g), some (.int k), some (.int e.1), some (.str e.2.1)] : L2.St) H'
      have hst := take_succ_of he
      refine s_when (et_test (ev_op (ev_daget (v := .int e.2.2) (wl.etick T (ev_var (i := 0) (v := .ref L.ln) rfl)) (ev_var (i := 4) rfl) wl.tk (by unfold fN; rw [tkF_of ok.nd hem]; rfl)) (ev_var (i := 3) rfl) (rv_I0 (g := fun i j => .bl (decide (i < j)))))) (fun z2 H2 e2 => ?_) (fun z2 H2 e2 => ?_)
      · have hlt : e.2.2 < k := of_decide_eq_true z2
        have wl2 := wl.ex e2
        obtain ⟨kvs, hks⟩ := id wl2.sk
        have hsk : ∀ dd, (bump (S.row.take i) k S.skips dd).isSome = (S.skips dd).isSome := bump_some _ _ _ (fun e' he' => (ok.sk e'.1).mpr (List.mem_map.mpr ⟨e', List.mem_of_mem_take he', rfl⟩))
        have hkl : kvs.length ≤ 50 := Nat.le_trans (hks.len (fN_in fun dd hd => by
          rw [hsk] at hd
          obtain ⟨e', he', rfl⟩ := List.mem_map.mp ((ok.sk dd).mp hd)
          exact (ok.rin e' he').1)) dok.few
        have hso : (S.skips e.1).isSome = true := (ok.sk e.1).mpr (List.mem_map.mpr ⟨e, hem, rfl⟩)
        obtain ⟨n, hn⟩ := Option.isSome_iff_exists.mp (show (bump (S.row.take i) k S.skips e.1).isSome = true by rw [hsk]; exact hso)
        refine wl2.eskip T (ev_var (i := 0) (v := .ref L.ln) rfl) H2 (Ex.refl _) _ fun H3 e3 => ⟨_, rfl, L.sk, .int n, rfl, ?_, ?_⟩
        · have := (wl2.ex e3).sk.get e.1
          unfold fN at this
          rw [hn] at this
          exact this
        · have hk3 : DI H3 L.sk (fN (bump (S.row.take i) k S.skips)) kvs := ⟨e3 _ _ hks.at_, hks.nd, hks.ik, hks.va⟩
          refine ⟨_, _, rfl, rfl, _, DPut.k (k := Sum.inl e.1) hk3.at_ (sz_lt (by omega)), ?_⟩
          obtain ⟨h4, f4⟩ := (wl2.ex e3).putSk hk3 e.1 (.int (n + 1))
          refine ⟨(Keeps.refl.set (j := 4) (o := some (.int e.1)) (by decide)).set (j := 5) (o := some (.str e.2.1)) (by decide), ?_, ((wf.ex e2).ex e3).trans f4, ?_, ?_⟩
          · have e5 : fN (bump (S.row.take (i + 1)) k S.skips) = fput (fN (bump (S.row.take i) k S.skips)) e.1 (some (.int (n + 1))) := by
              rw [hst, bump_snoc, if_pos hlt, fN_put, hn]
              rfl
            rw [e5]
            exact h4
          · rw [upd_ne (wl2.nds.2.2.2.2.2.2.2.2.1)]
            exact e3 _ _ (e2 _ _ wr)
          · exact kdE.L_mono (ExL.upd hk3.at_ fun xs z => by cases z) (kdE.L_ex (e2.trans e3) wx)
      · have hlt : ¬ e.2.2 < k := of_decide_eq_false z2
        refine ⟨(Keeps.refl.set (j := 4) (o := some (.int e.1)) (by decide)).set (j := 5) (o := some (.str e.2.1)) (by decide), ?_, wf.ex e2, e2 _ _ wr, kdE.L_ex e2 wx⟩
        rw [hst, bump_snoc, if_neg hlt]
        exact wl.ex e2
    · obtain ⟨wk, wl, wf, wr, wx⟩ := w
      obtain ⟨o4, o5, rfl⟩ := wk.two
      refine fin o4 o5 _ H' wl wf ?_
      rw [← pair_len wx, List.take_length]
      show fN (bump S.row k S.skips) = fN (if (S.keeps d).isSome then bump S.row k S.skips else S.skips)
      rw [if_pos hkd]
  · refine fin none none _ H1 (hL.ex e1) (Fr.of e1) ?_
    have hkd : ¬ (S.keeps d).isSome = true := by
      unfold fK at z
      cases e : S.keeps d with
      | none => simp
      | some m => rw [e] at z; cases z
    show fN S.skips = fN (if (S.keeps d).isSome then bump S.row k S.skips else S.skips)
    rw [if_neg hkd]
end
end HT
set_option Elab.async false
set_option linter.all false
set_option maxRecDepth 100000
set_option maxHeartbeats 4000000
/-! Line.granted_now, go, cease, ease -/
namespace HT
open PySem PySem.Spec PyProof.Rows L2 Evl LamX
/-- the line's names that are no attributes of an instance -/
theorem nl_line {L : LA} {turn : Int} {m : Str} (h : (["table", "keeps", "row", "tickets", "skips", "turn"] : List Str).contains m = false) : (lnF L turn).lookup m = none := by
  simp only [List.contains_cons, Bool.or_eq_false_iff, List.contains_nil] at h
  unfold lnF
  simp only [List.lookup, h.1, h.2.1, h.2.2.1, h.2.2.2.1, h.2.2.2.2.1, h.2.2.2.2.2.1]
theorem Fr.mutNew {F F' : List Addr} {H H' : Hp} {l : Addr} {u o : HO} (f : Fr F F' H H') (hl : H l = none) (hl' : H' l = some u) (n : ∀ xs, u ≠ .tup xs) : Fr F F' H (L2.upd H' l o) :=
  ⟨fun b o' hb h => by rw [upd_ne (fun z => by rw [z, hl] at h; cases h)]; exact f.1 b o' hb h, f.2.1, f.2.2.trans (ExL.upd hl' n)⟩
section
variable {P : Program} {w : World} {K : PySem.W.Frag} {mg : Str → Option Value} {base : Heap} {C Dc : Addr} {f : Addr} {fd : FuncData} {Z H : Hp} {L : LA} {S : LS} {D : TD Str} {ds : List Int} {σ : L2.St} {ta tb tk tv td to ty : TE} {tA tB0 : TA} {tt : TT} {E : Ends} {tz : TS}
/-- xs != [], xs == [] -/
theorem rv_neNil {β : Type} {k : Kd β} {bs : List β} {x y : V} (enc : β → PyData) (dp : ∀ b v H, k.R b v H → Dp K H v (enc b)) (low : ∀ b ∈ bs, lowD (enc b) = true) (hx : LsP K k bs x H) {k2 : Kd β} (hy : LsP K k2 ([] : List β) y H) : RV (rNeD K) x y H (.bl (!decide (bs = []))) ∧ RV (rEqD K) x y H (.bl (decide (bs = []))) := by
  obtain ⟨p, xs, rfl, h2, h3⟩ := hx
  obtain ⟨q, ys, rfl, g2, g3⟩ := hy
  cases g3
  have all : ∀ {bs : List β} {xs : List V} {H : Hp}, k.L bs xs H → DpAll K H xs (bs.map enc) := fun {bs xs H} h => by
    induction h with
    | nil => exact .nil
    | cons h t ih => exact .cons (dp _ _ _ h) ih
  have hs : SeqAt.shaped (.list (bs.map enc)) = true := shaped_low fun d hd => by
    obtain ⟨a, ha, rfl⟩ := List.mem_map.mp hd
    exact low a ha
  have he : PyData.eqv (.list (bs.map enc)) (.list []) = decide (bs = []) := by
    rw [PyData.eqv]
    cases bs with
    | nil => rw [List.map_nil, PyData.eqvAll]; rfl
    | cons b bs => rw [List.map_cons, PyData.eqvAll]; rfl
  constructor
  · refine rv_val fun H1 e1 Q hq => ⟨.list (bs.map enc), .list [], .lst (ex_l e1 h2) (all (k.L_ex e1 h3)), .lst (ex_l e1 g2) .nil, hs, rfl, ?_⟩
    rw [he]; exact hq
  · refine rv_val fun H1 e1 Q hq => ⟨.list (bs.map enc), .list [], .lst (ex_l e1 h2) (all (k.L_ex e1 h3)), .lst (ex_l e1 g2) .nil, hs, rfl, ?_⟩
    rw [he]; exact hq
theorem ev_neNil {β : Type} {k : Kd β} {bs : List β} (enc : β → PyData) (dp : ∀ b v H, k.R b v H → Dp K H v (enc b)) (low : ∀ b ∈ bs, lowD (enc b) = true) (h : EvP ta σ H fun _ v H2 => LsP K k bs v H2) : Ev (tOp (rNeD K) ta (tLst tNil)) σ H (.bl (!decide (bs = []))) :=
  ev_opP (Pb := fun v H2 => LsP K k ([] : List β) v H2) h ls_nil (fun _ _ _ e q => q.ex e) fun _ _ _ _ hx hy => (rv_neNil enc dp low hx hy).1
theorem ev_eqNil {β : Type} {k : Kd β} {bs : List β} (enc : β → PyData) (dp : ∀ b v H, k.R b v H → Dp K H v (enc b)) (low : ∀ b ∈ bs, lowD (enc b) = true) (h : EvP ta σ H fun _ v H2 => LsP K k bs v H2) : Ev (tOp (rEqD K) ta (tLst tNil)) σ H (.bl (decide (bs = []))) :=
  ev_opP (Pb := fun v H2 => LsP K k ([] : List β) v H2) h ls_nil (fun _ _ _ e q => q.ex e) fun _ _ _ _ hx hy => (rv_neNil enc dp low hx hy).2
def encE (e : Ent) : PyData := .tuple [.int e.1, .str e.2.1]
theorem dpE (e : Ent) (v : V) (H : Hp) (h : kdE.R e v H) : Dp K H v (encE e) := by
  obtain ⟨p, rfl, h2⟩ := h
  exact .tup (SqT.of h2) (.cons (.int _) (.cons (.str _) .nil))
theorem lowE {e : Ent} (h : PyData.strOk e.2.1 = true) : lowD (encE e) = true := low_tup fun d hd => by
  simp only [List.mem_cons, List.not_mem_nil, or_false] at hd
  rcases hd with rfl | rfl
  · exact lay_int _
  · exact lay_str h
/-- a method called for what it does -/
theorem q_mut {m : Str} {sp : Sp} {a dx : Addr} {fs : List (Str × V)} {vs : List V} (h : Ev ta σ H (.ref a)) (hat : H a = some (.ins C dx fs)) (hl : fs.lookup m = none) (hA : EvA tA σ H vs) (k : ∀ H1, Ex H H1 → sp (.ref a :: (vs ++ [])) H1 (fun _ H2 => tz E σ H2) E0) : tSeq (tDrop (tMeth C m sp [] E0 ta tA)) tz E σ H :=
  h H (Ex.refl _) _ fun H1 e1 => ⟨a, dx, fs, rfl, e1 _ _ hat, hl, hA H1 e1 _ fun H2 e2 => k H2 (e1.trans e2)⟩
theorem q_mutK {m : Str} {sp : Sp} {a dx : Addr} {fs : List (Str × V)} {vs zs : List V} {n l : Nat} {gV : List V → List V → List V} (h : Ev ta σ H (.ref a)) (hat : H a = some (.ins C dx fs)) (hl : fs.lookup m = none) (hA : EvA tA σ H vs) (hB : EvA tB0 σ H zs) (hn : vs.length + 1 = n) (hm : zs.length = l) (k : ∀ H1, Ex H H1 → sp (gV (.ref a :: vs) zs) H1 (fun _ H2 => tz E σ H2) E0) : tSeq (tDrop (tMethK C m n l sp gV ta tA tB0)) tz E σ H :=
  h H (Ex.refl _) _ fun H1 e1 => ⟨a, dx, fs, rfl, e1 _ _ hat, hl, hA H1 e1 _ fun H2 e2 => hB H2 (e1.trans e2) _ fun H3 e3 => ⟨hn, hm, k H3 ((e1.trans e2).trans e3)⟩⟩
abbrev AMfits (P : Program) (w : World) (K : PySem.W.Frag) (mg : Str → Option Value) (base : Heap) (C Dc : Addr) (D : TD Str) (Z : Hp) (ds : List Int) := MF P w K mg base Dc "fits" ["self", "deal", "goal"] 4 (spFits C Dc D Z ds)
abbrev AMunwait (P : Program) (w : World) (K : PySem.W.Frag) (mg : Str → Option Value) (base : Heap) (C Dc : Addr) (D : TD Str) (Z : Hp) (ds : List Int) := MF P w K mg base Dc "unwait" ["self", "deal"] 1 (spUnwait C Dc D Z ds)
abbrev AMgrant (P : Program) (w : World) (K : PySem.W.Frag) (mg : Str → Option Value) (base : Heap) (C Dc : Addr) (D : TD Str) (Z : Hp) (ds : List Int) := MFK P w K mg base Dc "grant" ["self", "deal", "goal", "ticket"] 3 ["ticket"] (fun vs zs => vs ++ zs) 1 (spGrant C Dc D Z ds)
theorem ev_fits {d : Int} {g : Str} (hv : Ev ta σ H (.ref L.ln)) (hA : EvA tA σ H [.int d, .str g]) (hL : LineAt C Dc D Z H L S) (ok : LOk D ds S) (wf : WFD D) (dok : DsOk ds) (hg : g ∈ D.order) : Ev (tMeth Dc "fits" (spFits C Dc D Z ds) [] E0 ta tA) σ H (.bl (fitsB D ds S.keeps d g)) :=
  ev_meth hv hL.at_ rfl hA fun H1 e1 Q q E => ⟨L, S, d, g, rfl, hL.ex e1, ok, wf, dok, hg, q⟩
/-- what is told and done -/
def LTold (C Dc : Addr) (D : TD Str) (Z H : Hp) (L : LA) (r : LS × List Int) (Q : VK) : Prop := ∀ H' L' p, L'.ln = L.ln → LineAt C Dc D Z H' L' r.1 → Fr L.foot L'.foot H H' → (H p = none ∨ p ∈ L.foot) → p ∉ L'.foot → H' p = some (.lst (r.2.map V.int)) → Q (.ref p) H'
def spNow (C Dc : Addr) (D : TD Str) (Z : Hp) (ds : List Int) : Sp := fun vs H Q _ => ∃ (L : LA) (S : LS), vs = [.ref L.ln] ∧ LineAt C Dc D Z H L S ∧ LOk D ds S ∧ WFD D ∧ DsOk ds ∧ LTold C Dc D Z H L (S.scanAll D ds) Q
theorem noW_head {e : Ent} {r : List Ent} (nd : ((e :: r).map (·.1)).Nodup) : noW (e :: r) e.1 = r := by
  rw [noW_cons, if_pos rfl]
  unfold noW
  refine List.filter_eq_self.mpr fun x hx => ?_
  have := (List.nodup_cons.mp (show (e.1 :: r.map (·.1)).Nodup from nd)).1
  exact decide_eq_true fun z => this (by rw [← z]; exact List.mem_map.mpr ⟨x, hx, rfl⟩)
theorem sc_Line_granted_now : FnScope ["self", "found", "deal", "goal", "ticket"] ["self"] (defScope s_Line_granted_now) := ⟨rfl, rfl, rfl, by decide +kernel, rfl, by decide +kernel, by decide +kernel⟩
theorem ok_Line_granted_now (F : FnT K "granted_now" "Line.granted_now" s_Line_granted_now [] [] f fd) (T : Txt K mg C Dc) (M_Line_fits : AMfits P w K mg base C Dc D Z ds) (M_Line_unwait : AMunwait P w K mg base C Dc D Z ds) (M_Line_grant : AMgrant P w K mg base C Dc D Z ds) :
    FnOk P w K mg base CX0 5 f fd ["self"] (spNow C Dc D Z ds) := by
  refine F.ok sc_Line_granted_now (fun vs H Q E ⟨_, _, h, _⟩ => by rw [h]; rfl) (fun cdv A outer s H vs Q E hr ⟨L, S, hv, hL, ok, wf, dok, q⟩ => ⟨_, PSs.nox (pss_cons (ps_set (i := 1) sc_Line_granted_now.nd rfl (Or.inl rfl) (pe_lst pa_nil))
    (pss_cons (ps_while PassesOwn.never (PW.pt (pw_and (pt_cmpR (op_neDK K rfl hr.units) (pe_fldK K rfl (pv 0) rfl) (pe_lst pa_nil) (nomark _)) (pw_and1 (pt_val (pe_methG M_Line_fits T.clD hr (by decide) (pv 0) (pa_cons (pe_ix (ix_tupK K rfl) (pe_ix (ix_listK K rfl) (pe_fldK K rfl (pv 0) rfl) pe_int (fun _ _ => rfl)) pe_int (fun _ _ => rfl)) (pa_cons (pe_ix (ix_tupK K rfl) (pe_ix (ix_listK K rfl) (pe_fldK K rfl (pv 0) rfl) pe_int (fun _ _ => rfl)) pe_int (fun _ _ => rfl)) pa_nil))))))) (pss_cons (ps_asg (pe_ix (ix_listK K rfl) (pe_fldK K rfl (pv 0) rfl) pe_int (fun _ _ => rfl)) (pg_tupK (n := 2) K rfl rfl (pgs_cons (pg_name (i := 2) sc_Line_granted_now.nd rfl (by first | exact Or.inl rfl | exact Or.inr rfl)) (pgs_cons (pg_name (i := 3) sc_Line_granted_now.nd rfl (by first | exact Or.inl rfl | exact Or.inr rfl)) pgs_nil))))
      (pss_cons (ps_set (i := 4) sc_Line_granted_now.nd rfl (Or.inl rfl) (pe_dget (hu_of hr) (pe_fldK K rfl (pv 0) rfl) (pv 2) (fun _ _ => rfl)))
      (pss_cons (ps_expr (pe_methG M_Line_unwait T.clD hr (by decide) (pv 0) (pa_cons (pv 2) pa_nil)))
      (pss_cons (ps_expr (pe_methKG M_Line_grant T.clD hr (by decide) (pv 0) (pa_cons (pv 2) (pa_cons (pv 3) pa_nil)) (pk_cons (pv 4) pk_nil)))
      (pss_one (ps_expr (pe_bmK K rfl PySem.F.plainAttrs_list PySem.F.slot_list_append PySem.F.type_list_append mt_append (pv 1) (pa_cons (pv 2) pa_nil)))))))))
    (pss_one (ps_ret (pv 1))))), ?_⟩)
  subst hv
  refine q_asgL (el_lst ea_nil (by show 0 ≤ 100000; decide)) fun l H1 hln e1 h1 => ?_
  have hrl := Nat.le_trans ok.rowlen dok.few
  have hlf : l ∉ L.foot := (hL.new hln).1
  refine q_while (fun m σ' H' => ∃ (L' : LA) (S' : LS) (fs : List Int), Keeps [2, 3, 4] ([some (.ref L.ln), some (.ref l), none, none, none] : L2.St) σ' ∧ L'.ln = L.ln ∧ LineAt C Dc D Z H' L' S' ∧ LOk D ds S' ∧ m = S'.row.length ∧ Fr L.foot L'.foot H H' ∧ H' l = some (.lst (fs.map V.int)) ∧ l ∉ L'.foot ∧ fs.length + S'.row.length ≤ 50 ∧ S.scanAll D ds = ((S'.scan D ds m).1, fs ++ (S'.scan D ds m).2))
    S.row.length ⟨L, S, [], Keeps.refl, rfl, hL.ex e1, ok, rfl, Fr.of e1, h1, hlf, by simpa using hrl, rfl⟩ (fun m σ' H' w => ?_)
  obtain ⟨L', S', fs, wk, eln, wl, wok, rfl, wf', wlst, wlf, wn, wsc⟩ := w
  obtain ⟨o2, o3, o4, rfl⟩ := wk.three
  have wv : ∀ {σ : L2.St}, σ[0]? = some (some (.ref L.ln)) → Ev (tVar 0) σ H' (.ref L'.ln) := fun h => ev_var (by rw [h, eln])
  obtain ⟨xs, hr1, hr2⟩ := wl.row
  have hro : ∀ e ∈ S'.row, lowD (encE e) = true := fun e he => lowE (wf.ok _ (wok.rin e he).2)
  have hne := et_test (ev_neNil (K := K) encE dpE hro (ls_var (k := kdE) (bs := S'.row) (wl.erow T (wv (σ := ([some (.ref L.ln), some (.ref l), o2, o3, o4] : L2.St)) rfl)) ⟨L'.rw, xs, rfl, SqL.of hr1, hr2⟩))
  cases hrow : S'.row with
  | nil =>
    refine ⟨false, et_is (et_and (b := false) hne (fun z => by rw [hrow] at z; cases z)) (by rw [hrow]; rfl), (fun z => by cases z), fun _ H2 e2 => ?_⟩
    have hs : S.scanAll D ds = (S', fs) := by
      rw [wsc, hrow]
      show ((S'.scan D ds 0).1, fs ++ (S'.scan D ds 0).2) = _
      show (S', fs ++ []) = _
      rw [List.append_nil]
    refine s_ret (ev_var (i := 1) (v := .ref l) rfl) fun H3 e3 => q H3 L' l eln ?_ ((wf'.ex e2).ex e3) (.inl hln) wlf ?_
    · rw [hs]; exact (wl.ex e2).ex e3
    · rw [hs]; exact e3 _ _ (e2 _ _ wlst)
  | cons e r =>
    have hem : e ∈ S'.row := by rw [hrow]; simp
    have heg := (wok.rin e hem).2
    have hed := (wok.rin e hem).1
    rw [hrow] at hr2
    cases hr2 with
    | cons hx0 hxt =>
      rename_i x0 xt
      obtain ⟨tq, rfl, htq⟩ := hx0
      have hr00 : ∀ {H2 : Hp}, Ex H' H2 → Ev (tOp (rIxL K) (tFld K (tVar 0) "row") (tC (.int 0))) ([some (.ref L.ln), some (.ref l), o2, o3, o4] : L2.St) H2 (.ref tq) := fun {H2} e2 =>
        ev_op ((wl.ex e2).erow T ((wv (σ := ([some (.ref L.ln), some (.ref l), o2, o3, o4] : L2.St)) rfl).mono e2)) ev_c (rv_ixL (SqL.of (e2 _ _ hr1)) (atI_nat (j := 0) rfl))
      have hfit := ev_fits (ta := tVar 0) (tA := tCons (tOp (rIxT K) (tOp (rIxL K) (tFld K (tVar 0) "row") (tC (.int 0))) (tC (.int 0))) (tCons (tOp (rIxT K) (tOp (rIxL K) (tFld K (tVar 0) "row") (tC (.int 0))) (tC (.int 1))) tNil)) (σ := ([some (.ref L.ln), some (.ref l), o2, o3, o4] : L2.St)) (wv rfl) (ea_cons (ev_pair0 (hr00 (Ex.refl _)) htq) (ea_cons (ev_pair1 (hr00 (Ex.refl _)) htq) ea_nil)) wl wok wf dok heg
      refine ⟨fitsB D ds S'.keeps e.1 e.2.1, et_is (et_and hne (fun _ => et_B hfit)) (by rw [hrow]; rfl), fun hfb H2 e2 => ?_, fun hfb H2 e2 => ?_⟩
      · refine ⟨fun σ2 H3 => ∃ m', m' < (e :: r).length ∧ ∃ (L' : LA) (S' : LS) (fs : List Int), Keeps [2, 3, 4] ([some (.ref L.ln), some (.ref l), none, none, none] : L2.St) σ2 ∧ L'.ln = L.ln ∧ LineAt C Dc D Z H3 L' S' ∧ LOk D ds S' ∧ m' = S'.row.length ∧ Fr L.foot L'.foot H H3 ∧ H3 l = some (.lst (fs.map V.int)) ∧ l ∉ L'.foot ∧ fs.length + S'.row.length ≤ 50 ∧ S.scanAll D ds = ((S'.scan D ds m').1, fs ++ (S'.scan D ds m').2), fun σ2 H3 w => w, ?_⟩
        -- deal, goal = self.row[0]
        refine hr00 e2 H2 (Ex.refl _) _ fun H3 e3 => ⟨tq, _, rfl, SqT.of ((e2.trans e3) _ _ htq), rfl, _, _, rfl, _, _, rfl, rfl, ?_⟩
        show tSeq _ _ _ ([some (.ref L.ln), some (.ref l), some (.int e.1), some (.str e.2.1), o4] : L2.St) H3
        have wl3 := wl.ex (e2.trans e3)
        have wv3 : ∀ {σ : L2.St} {H3 : Hp}, σ[0]? = some (some (.ref L.ln)) → Ev (tVar 0) σ H3 (.ref L'.ln) := fun h => ev_var (by rw [h, eln])
        refine q_asg (v := .int e.2.2) (ev_daget (wl3.etick T (wv3 rfl)) (ev_var (i := 2) rfl) wl3.tk (by unfold fN; rw [tkF_of wok.nd hem]; rfl)) fun H4 e4 => ?_
        have wl4 := wl3.ex e4
        refine q_mut (m := "unwait") (sp := spUnwait C Dc D Z ds) (wv3 rfl) wl4.at_ rfl (ea_cons (ev_var (i := 2) rfl) ea_nil) fun H5 e5 => ⟨L', S', e.1, rfl, wl4.ex e5, wok, dok, fun H6 L6 eln6 wl6 f6 => ?_⟩
        have wok6 := wok.unwait e.1
        have eln6' : L6.ln = L.ln := eln6.trans eln
        have wv6 : ∀ {σ : L2.St} {H3 : Hp}, σ[0]? = some (some (.ref L.ln)) → Ev (tVar 0) σ H3 (.ref L6.ln) := fun h => ev_var (by rw [h, eln6'])
        refine q_mutK (m := "grant") (sp := spGrant C Dc D Z ds) (gV := fun vs zs => vs ++ zs) (wv6 rfl) wl6.at_ rfl (ea_cons (ev_var (i := 2) rfl) (ea_cons (ev_var (i := 3) rfl) ea_nil)) (ea_cons (ev_var (i := 4) rfl) ea_nil) rfl rfl fun H7 e7 => ⟨L6, S'.unwait e.1, e.1, e.2.1, e.2.2, rfl, wl6.ex e7, wok6, dok, fun H8 L8 eln8 wl8 f8 => ?_⟩
        have wok8 := wok6.grant (k := e.2.2) hed heg
        have fall : Fr L'.foot L8.foot H' H8 := (Fr.of ((e2.trans e3).trans (e4.trans e5))).trans (f6.trans ((Fr.of e7).trans f8))
        have hl8 : H8 l = some (.lst (fs.map V.int)) := fall.keep wlf wlst
        have hlf8 : l ∉ L8.foot := fall.apart (F2 := [l]) (fun b hb => by rw [List.mem_singleton.mp hb]; exact wlf) (fun b hb => by rw [List.mem_singleton.mp hb]; exact ⟨_, wlst⟩) l (by simp)
        have hfl : fs.length < 50 := by rw [hrow, List.length_cons] at wn; omega
        refine s_app hl8 (ev_var (i := 1) (v := .ref l) rfl) (ev_var (i := 2) (v := .int e.1) rfl) (by rw [List.length_map]; omega) fun H9 e9 => ?_
        have hrow8 : (((S'.unwait e.1).grant e.1 e.2.1 e.2.2).row) = r := by
          show noW S'.row e.1 = r
          rw [hrow]
          exact noW_head (by rw [← hrow]; exact wok.nd)
        refine ⟨r.length, by rw [List.length_cons]; omega, L8, (S'.unwait e.1).grant e.1 e.2.1 e.2.2, fs ++ [e.1], ((Keeps.refl.set (j := 2) (by decide)).set (j := 3) (by decide)).set (j := 4) (by decide), eln8.trans eln6', ?_, wok8, by rw [hrow8], ?_, by rw [upd_same, List.map_append]; rfl, hlf8, by rw [hrow8, List.length_append]; rw [hrow, List.length_cons] at wn; show fs.length + 1 + _ ≤ _; omega, ?_⟩
        · exact (wl8.ex e9).fr (F := [l]) (F' := [l]) (Fr.upd (by simp) (e9 _ _ hl8) fun xs z => by cases z) (fun b hb => by rw [List.mem_singleton.mp hb]; exact hlf8) (fun b hb => by
            rw [List.mem_singleton.mp hb]
            exact (hL.new hln).2)
        · exact (wf'.trans (fall.ex e9)).mutNew hln (e9 _ _ hl8) fun xs z => by cases z
        · rw [wsc, hrow]
          show ((S'.scan D ds (r.length + 1)).1, fs ++ (S'.scan D ds (r.length + 1)).2) = _
          have hsc : S'.scan D ds (r.length + 1) = (((((S'.unwait e.1).grant e.1 e.2.1 e.2.2).scan D ds r.length)).1, e.1 :: ((((S'.unwait e.1).grant e.1 e.2.1 e.2.2).scan D ds r.length)).2) := by
            show (match S'.row with
              | [] => (S', [])
              | e :: _ => if fitsB D ds S'.keeps e.1 e.2.1 then let r' := LS.scan D ds r.length ((S'.unwait e.1).grant e.1 e.2.1 e.2.2); (r'.1, e.1 :: r'.2) else (S', [])) = _
            rw [hrow]
            show (if fitsB D ds S'.keeps e.1 e.2.1 then _ else _) = _
            rw [if_pos hfb]
          rw [hsc, List.append_assoc]
          rfl
      · have hs : S.scanAll D ds = (S', fs) := by
          rw [wsc, hrow]
          show ((S'.scan D ds (r.length + 1)).1, fs ++ (S'.scan D ds (r.length + 1)).2) = _
          have hsc : S'.scan D ds (r.length + 1) = (S', []) := by
            show (match S'.row with
              | [] => (S', [])
              | e :: _ => if fitsB D ds S'.keeps e.1 e.2.1 then let r' := LS.scan D ds r.length ((S'.unwait e.1).grant e.1 e.2.1 e.2.2); (r'.1, e.1 :: r'.2) else (S', [])) = _
            rw [hrow]
            show (if fitsB D ds S'.keeps e.1 e.2.1 then _ else _) = _
            rw [if_neg (by rw [hfb]; decide)]
          rw [hsc, List.append_nil]
        refine s_ret (ev_var (i := 1) (v := .ref l) rfl) fun H3 e3 => q H3 L' l eln ?_ ((wf'.ex e2).ex e3) (.inl hln) wlf ?_
        · rw [hs]; exact (wl.ex e2).ex e3
        · rw [hs]; exact e3 _ _ (e2 _ _ wlst)
theorem LTold.pre {H1 : Hp} {L1 : LA} {r : LS × List Int} {Q : VK} (q : LTold C Dc D Z H L r Q) (f : Fr L.foot L1.foot H H1) (eln : L1.ln = L.ln) : LTold C Dc D Z H1 L1 r Q := fun H' L' p e' h' f' hp hn hl =>
  q H' L' p (e'.trans eln) h' (f.trans f') (by
    rcases hp with z | z
    · by_cases hf : p ∈ L.foot
      · exact .inr hf
      · left
        cases e : H p with
        | none => rfl
        | some o => rw [f.1 p o hf e] at z; cases z
    · exact (f.2.1 p z).symm) hn hl
abbrev AMnow (P : Program) (w : World) (K : PySem.W.Frag) (mg : Str → Option Value) (base : Heap) (C Dc : Addr) (D : TD Str) (Z : Hp) (ds : List Int) := MF P w K mg base Dc "granted_now" ["self"] 5 (spNow C Dc D Z ds)
theorem s_now {Q : VK} (hv : Ev ta σ H (.ref L.ln)) (hL : LineAt C Dc D Z H L S) (ok : LOk D ds S) (wf : WFD D) (dok : DsOk ds) (q : LTold C Dc D Z H L (S.scanAll D ds) Q) : tMeth Dc "granted_now" (spNow C Dc D Z ds) [] E0 ta tNil σ H Q :=
  hv H (Ex.refl _) _ fun H1 e1 => ⟨L.ln, _, _, rfl, (hL.ex e1).at_, rfl, L, S, rfl, hL.ex e1, ok, wf, dok, q.pre (Fr.of e1) rfl⟩
def spGo (C Dc : Addr) (D : TD Str) (Z : Hp) (ds : List Int) : Sp := fun vs H Q _ => ∃ (L : LA) (S : LS) (d : Int), vs = [.ref L.ln, .int d] ∧ LineAt C Dc D Z H L S ∧ LOk D ds S ∧ WFD D ∧ DsOk ds ∧ d ∈ ds ∧ ((S.keeps d).isSome = true ∨ d ∈ S.row.map (·.1)) ∧ LTold C Dc D Z H L (S.go D ds d) Q
theorem tk_in {d : Int} : (fN (tkF S.row) d).isSome = decide (d ∈ S.row.map (·.1)) := by
  unfold fN
  have := tkF_some (row := S.row) (d := d)
  cases e : tkF S.row d with
  | none =>
    rw [e] at this
    symm
    exact decide_eq_false fun z => by have := this.mpr z; cases this
  | some v =>
    rw [e] at this
    symm
    exact decide_eq_true (this.mp rfl)
theorem kp_in {d : Int} : (fK S.keeps d).isSome = (S.keeps d).isSome := by
  unfold fK; cases S.keeps d <;> rfl
theorem sc_Line_go : FnScope ["self", "deal", "other"] ["self", "deal"] (defScope s_Line_go) := ⟨rfl, rfl, rfl, by decide +kernel, rfl, by decide +kernel, by decide +kernel⟩
theorem ok_Line_go (F : FnT K "go" "Line.go" s_Line_go [] [] f fd) (T : Txt K mg C Dc) (G_need_deal : AneedDeal P w K mg base) (M_Line_unwait : AMunwait P w K mg base C Dc D Z ds) (M_Line_granted_now : AMnow P w K mg base C Dc D Z ds) :
    FnOk P w K mg base CX0 6 f fd ["self", "deal"] (spGo C Dc D Z ds) := by
  refine F.ok sc_Line_go (fun vs H Q E ⟨_, _, _, h, _⟩ => by rw [h]; rfl) (fun cdv A outer s H vs Q E hr ⟨L, S, d, hv, hL, ok, wf, dok, hd, hin, q⟩ => ⟨_, PSs.nox (pss_cons (ps_expr (pe_callG G_need_deal hr (by decide) (by rfl) (pa_cons (pv 1) pa_nil)))
    (pss_cons (ps_if (PW.pt (pw_and (pt_cmp (pc_dnotin (hu_of hr) (pv 1) (pe_fldK K rfl (pv 0) rfl))) (pw_and1 (pt_cmp (pc_dnotin (hu_of hr) (pv 1) (pe_fldK K rfl (pv 0) rfl)))))) (pss_one ps_never) pss_nil)
    (pss_cons (ps_fld (pv 0) (pe_lock (pe_dc (own := [("other", 2)]) rfl sc_Line_go.nd (pi_keys (pe_fldK K rfl (pv 0) rfl)) (blkOk_by (by rfl)) (fun _ _ _ _ _ => (pg_name (i := 2) sc_Line_go.nd rfl (by first | exact Or.inl rfl | exact Or.inr rfl))) (fun _ _ _ _ _ => (pts_one (pt_cmpR op_ne (pv 2) (pv 1) (nomark _)))) (fun _ _ _ _ _ => (pv 2)) (fun _ _ _ _ _ => (pe_dget (hu_of hr) (pe_fldK K rfl (pv 0) rfl) (pv 2) (fun _ _ => rfl))))) rfl)
    (pss_cons (ps_expr (pe_methG M_Line_unwait T.clD hr (by decide) (pv 0) (pa_cons (pv 1) pa_nil)))
    (pss_one (ps_ret (pe_methG0 M_Line_granted_now T.clD hr (by decide) (pv 0)))))))), ?_⟩)
  subst hv
  refine q_drop (ev_call (sp := spNeedDeal) (dvs := []) (E := E0) (ea_cons (ev_var rfl) ea_nil) (spv_need_deal (dok.pos d hd))) fun H1 e1 => ?_
  have hL1 := hL.ex e1
  refine q_when (b := false) (et_is (et_and (et_B (ev_danotin (i := d) (ev_var (i := 1) rfl) (hL1.ekeeps T (ev_var (i := 0) (v := .ref L.ln) rfl)) hL1.kp)) (fun _ => et_B (ev_danotin (i := d) (ev_var (i := 1) rfl) (hL1.etick T (ev_var (i := 0) (v := .ref L.ln) rfl)) hL1.tk))) ?_) (fun z => by cases z) (fun _ H2 e2 => ?_)
  · rw [tk_in, kp_in]
    rcases hin with h | h
    · rw [h]; rfl
    · rw [decide_eq_true h]; simp
  have hL2 := hL1.ex e2
  obtain ⟨kvt, hkt⟩ := id hL2.kp
  have hktl := Nat.le_trans (hkt.len (fK_in ok)) dok.few
  have n3 := hL2.nds
  refine q_fldP (ep_dcKE (td := tFld K (tVar 0) "keeps") (i := 2) (vs := [2]) (tt := tTest (tOp rNe (tVar 2) (tVar 1))) (tk := tVar 2) (tv := tDGet (tFld K (tVar 0) "keeps") (tVar 2)) (fun b => !decide (b.1 = Sum.inl d)) hkt.at_ hkt.nd (by omega) (fun H4 od e4 => ev_fld (ev_var (i := 0) (v := .ref L.ln) rfl) (by rw [upd_ne n3.1]; exact e4 _ _ hL2.at_) T.clD T.nKeeps rfl) (fun x => wipe_turn) (fun H4 od b e4 hb H5 e5 => ?_)) (ev_var (i := 0) (v := .ref L.ln) rfl) hL2.at_ T.clD T.nKeeps (by show 6 < 1000; decide) fun v H4 H5 e4 e5 hv => ?_
  · obtain ⟨i, hi, _⟩ := hkt.mem hb
    refine ⟨et_is (et_test (ev_op (ev_var (i := 2) rfl) (ev_var (i := 1) rfl) (rv_ne (by rw [hi]; rfl)))) ?_, fun _ => ⟨ev_var (i := 2) rfl, hkt.edrop e5 hb (ev_fld (ev_var (i := 0) (v := .ref L.ln) rfl) (lock_ne e4 e5 hL2.at_ n3.1) T.clD T.nKeeps rfl) (ev_var (i := 2) rfl)⟩⟩
    rw [hi]
    show (!decide (V.int i = V.int d)) = _
    by_cases z : i = d <;> simp [z]
  obtain ⟨r2, rfl, hr2n, hr2k⟩ := hv
  obtain ⟨hL3, f3⟩ := hL2.setKd (e4.trans e5) hr2n (hkt.filt (H' := H5) (d := d) (fun b _ => rfl) (e5 _ _ hr2k))
  have ek : fK (put S.keeps d none) = fput (fK S.keeps) d none := by rw [fK_put]; rfl
  have hL3' : LineAt C Dc D Z (upd H5 L.ln (.ins Dc L.dx (putF "keeps" (.ref r2) (lnF L S.turn)))) { L with kd := r2 } { S with keeps := put S.keeps d none } := by
    show LineR _ _ _ _ _ _ (fK (put S.keeps d none)) _ _ _ _
    rw [ek]
    exact hL3
  have f3' : Fr L.foot ({ L with kd := r2 } : LA).foot H2 (upd H5 L.ln (.ins Dc L.dx (putF "keeps" (.ref r2) (lnF L S.turn)))) := f3
  have ok3 : LOk D ds { S with keeps := put S.keeps d none } := ⟨fun i g h => by
    by_cases z : i = d
    · have h : put S.keeps d none i = some g := h
      rw [z, put_same] at h; cases h
    · have h : put S.keeps d none i = some g := h
      rw [put_ne z] at h; exact ok.kin i g h, ok.rin, ok.nd, ok.sk⟩
  generalize (upd H5 L.ln (.ins Dc L.dx (putF "keeps" (.ref r2) (lnF L S.turn)))) = H6 at hL3' f3' ⊢
  refine q_mut (m := "unwait") (sp := spUnwait C Dc D Z ds) (ev_var (i := 0) (v := .ref L.ln) rfl) hL3'.at_ rfl (ea_cons (ev_var (i := 1) rfl) ea_nil) fun H7 e7 => ⟨{ L with kd := r2 }, _, d, rfl, hL3'.ex e7, ok3, dok, fun H8 L8 eln8 wl8 f8 => ?_⟩
  have eln : L8.ln = L.ln := eln8
  exact s_now (ev_var (by rw [← eln]; rfl)) wl8 (ok3.unwait d) wf dok (q.pre (((Fr.of (e1.trans e2)).trans f3').trans ((Fr.of e7).trans f8)) eln)
def spCease (C Dc : Addr) (D : TD Str) (Z : Hp) (ds : List Int) : Sp := fun vs H Q _ => ∃ (L : LA) (S : LS) (d : Int), vs = [.ref L.ln, .int d] ∧ LineAt C Dc D Z H L S ∧ LOk D ds S ∧ WFD D ∧ DsOk ds ∧ d ∈ ds ∧ d ∈ S.row.map (·.1) ∧ LTold C Dc D Z H L (S.cease D ds d) Q
theorem sc_Line_cease : FnScope ["self", "deal"] ["self", "deal"] (defScope s_Line_cease) := ⟨rfl, rfl, rfl, by decide +kernel, rfl, by decide +kernel, by decide +kernel⟩
theorem ok_Line_cease (F : FnT K "cease" "Line.cease" s_Line_cease [] [] f fd) (T : Txt K mg C Dc) (G_need_deal : AneedDeal P w K mg base) (M_Line_unwait : AMunwait P w K mg base C Dc D Z ds) (M_Line_granted_now : AMnow P w K mg base C Dc D Z ds) :
    FnOk P w K mg base CX0 6 f fd ["self", "deal"] (spCease C Dc D Z ds) := by
  refine F.ok sc_Line_cease (fun vs H Q E ⟨_, _, _, h, _⟩ => by rw [h]; rfl) (fun cdv A outer s H vs Q E hr ⟨L, S, d, hv, hL, ok, wf, dok, hd, hin, q⟩ => ⟨_, PSs.nox (pss_cons (ps_expr (pe_callG G_need_deal hr (by decide) (by rfl) (pa_cons (pv 1) pa_nil)))
    (pss_cons (ps_if (pt_cmp (pc_dnotin (hu_of hr) (pv 1) (pe_fldK K rfl (pv 0) rfl))) (pss_one ps_never) pss_nil)
    (pss_cons (ps_expr (pe_methG M_Line_unwait T.clD hr (by decide) (pv 0) (pa_cons (pv 1) pa_nil)))
    (pss_one (ps_ret (pe_methG0 M_Line_granted_now T.clD hr (by decide) (pv 0))))))), ?_⟩)
  subst hv
  refine q_drop (ev_call (sp := spNeedDeal) (dvs := []) (E := E0) (ea_cons (ev_var rfl) ea_nil) (spv_need_deal (dok.pos d hd))) fun H1 e1 => ?_
  have hL1 := hL.ex e1
  refine q_when (b := false) (et_is (et_B (ev_danotin (i := d) (ev_var (i := 1) rfl) (hL1.etick T (ev_var (i := 0) (v := .ref L.ln) rfl)) hL1.tk)) (by rw [tk_in, decide_eq_true hin]; rfl)) (fun z => by cases z) (fun _ H2 e2 => ?_)
  have hL2 := hL1.ex e2
  refine q_mut (m := "unwait") (sp := spUnwait C Dc D Z ds) (ev_var (i := 0) (v := .ref L.ln) rfl) hL2.at_ rfl (ea_cons (ev_var (i := 1) rfl) ea_nil) fun H7 e7 => ⟨L, S, d, rfl, hL2.ex e7, ok, dok, fun H8 L8 eln8 wl8 f8 => ?_⟩
  exact s_now (ev_var (by rw [← eln8]; rfl)) wl8 (ok.unwait d) wf dok (q.pre ((Fr.of ((e1.trans e2).trans e7)).trans f8) eln8)
def spEase (C Dc : Addr) (D : TD Str) (Z : Hp) (ds : List Int) : Sp := fun vs H Q _ => ∃ (L : LA) (S : LS) (d : Int) (m h : Str), vs = [.ref L.ln, .int d, .str m] ∧ LineAt C Dc D Z H L S ∧ LOk D ds S ∧ WFD D ∧ DsOk ds ∧ d ∈ ds ∧ m ∈ D.order ∧ S.keeps d = some h ∧ d ∉ S.row.map (·.1) ∧ D.bears h m = true ∧ LTold C Dc D Z H L (S.ease D ds d m) Q
theorem sc_Line_ease : FnScope ["self", "deal", "mode"] ["self", "deal", "mode"] (defScope s_Line_ease) := ⟨rfl, rfl, rfl, by decide +kernel, rfl, by decide +kernel, by decide +kernel⟩
theorem ok_Line_ease (F : FnT K "ease" "Line.ease" s_Line_ease [] [] f fd) (T : Txt K mg C Dc) (G_need_deal : AneedDeal P w K mg base) (M_Table_need : AMneed P w K mg base C) (M_Table_bears : AMt2 P w K mg base C "bears" 3 ansBears) (M_Line_granted_now : AMnow P w K mg base C Dc D Z ds) :
    FnOk P w K mg base CX0 6 f fd ["self", "deal", "mode"] (spEase C Dc D Z ds) := by
  refine F.ok sc_Line_ease (fun vs H Q E ⟨_, _, _, _, _, h, _⟩ => by rw [h]; rfl) (fun cdv A outer s H vs Q E hr ⟨L, S, d, m, h0, hv, hL, ok, wf, dok, hd, hm, hh, hnr, hb, q⟩ => ⟨_, PSs.nox (pss_cons (ps_expr (pe_callG G_need_deal hr (by decide) (by rfl) (pa_cons (pv 1) pa_nil)))
    (pss_cons (ps_expr (pe_methG M_Table_need T.clC hr (by decide) (pe_fldK K rfl (pv 0) rfl) (pa_cons (pv 2) pa_nil)))
    (pss_cons (ps_if (pt_cmp (pc_dnotin (hu_of hr) (pv 1) (pe_fldK K rfl (pv 0) rfl))) (pss_one ps_never) pss_nil)
    (pss_cons (ps_if (pt_cmp (pc_din (hu_of hr) (pv 1) (pe_fldK K rfl (pv 0) rfl))) (pss_one ps_never) pss_nil)
    (pss_cons (ps_if (pt_not (pt_val (pe_methG M_Table_bears T.clC hr (by decide) (pe_fldK K rfl (pv 0) rfl) (pa_cons (pe_dget (hu_of hr) (pe_fldK K rfl (pv 0) rfl) (pv 1) (fun _ _ => rfl)) (pa_cons (pv 2) pa_nil))))) (pss_one ps_never) pss_nil)
    (pss_cons (ps_dput (hu_of hr) (pe_fldK K rfl (pv 0) rfl) (pv 1) (pv 2) rfl)
    (pss_one (ps_ret (pe_methG0 M_Line_granted_now T.clD hr (by decide) (pv 0)))))))))), ?_⟩)
  subst hv
  have hh0 := (ok.kin d h0 hh).2
  refine q_drop (ev_call (sp := spNeedDeal) (dvs := []) (E := E0) (ea_cons (ev_var rfl) ea_nil) (spv_need_deal (dok.pos d hd))) fun H1 e1 => ?_
  have hL1 := hL.ex e1
  obtain ⟨j1, hj1⟩ := hL1.tabH
  obtain ⟨dx1, o1, p1, w1, u1, ob1, kvp1, kvw1, kvu1, A1⟩ := id hj1
  refine q_drop (ev_meth (C := C) (m := "need") (dvs := []) (E := E0) (hL1.etab T (ev_var (i := 0) (v := .ref L.ln) rfl)) A1.at_ rfl (ea_cons (ev_var (i := 2) rfl) ea_nil) (spv_need hj1 hm)) fun H2 e2 => ?_
  have hL2 := hL1.ex e2
  refine q_when (b := false) (et_is (et_B (ev_danotin (i := d) (ev_var (i := 1) rfl) (hL2.ekeeps T (ev_var (i := 0) (v := .ref L.ln) rfl)) hL2.kp)) (by rw [kp_in, hh]; rfl)) (fun z => by cases z) (fun _ H3 e3 => ?_)
  have hL3 := hL2.ex e3
  refine q_when (b := false) (et_is (et_B (ev_dain (i := d) (ev_var (i := 1) rfl) (hL3.etick T (ev_var (i := 0) (v := .ref L.ln) rfl)) hL3.tk)) (by rw [tk_in, decide_eq_false hnr])) (fun z => by cases z) (fun _ H4 e4 => ?_)
  have hL4 := hL3.ex e4
  obtain ⟨j4, hj4⟩ := hL4.tabH
  refine q_when (b := false) (et_is (et_not (et_B (ev_T2 (ans := ansBears) (a := h0) (hL4.etab T (ev_var (i := 0) (v := .ref L.ln) rfl)) (ea_cons (ev_daget (hL4.ekeeps T (ev_var (i := 0) (v := .ref L.ln) rfl)) (ev_var (i := 1) rfl) hL4.kp (by unfold fK; rw [hh]; rfl)) (ea_cons (ev_var (i := 2) rfl) ea_nil)) hj4 wf hh0 hm nl_bears))) (by rw [hb]; rfl)) (fun z => by cases z) (fun _ H5 e5 => ?_)
  have hL5 := hL4.ex e5
  obtain ⟨kvs, hk⟩ := id hL5.kp
  have hkl := Nat.le_trans (hk.len (fK_in ok)) dok.few
  refine q_dputI (ev_var (i := 2) (v := .str m) rfl) (hL5.ekeeps T (ev_var (i := 0) (v := .ref L.ln) rfl)) (ev_var (i := 1) rfl) hk (by omega) fun H6 e6 hk6 => ?_
  obtain ⟨h7, f7⟩ := (hL5.ex e6).putKd hk6 d (.str m)
  have h7' : LineAt C Dc D Z (upd H6 L.kd (.dK (putK kvs (.inl d) (.str m)))) L { S with keeps := put S.keeps d (some m) } := by
    show LineR _ _ _ _ _ _ (fK (put S.keeps d (some m))) _ _ _ _
    rw [fK_put]
    exact h7
  have ok7 : LOk D ds { S with keeps := put S.keeps d (some m) } := ⟨fun i g h => by
    by_cases z : i = d
    · have h : put S.keeps d (some m) i = some g := h
      rw [z, put_same] at h; cases h; exact ⟨by rw [z]; exact hd, hm⟩
    · have h : put S.keeps d (some m) i = some g := h
      rw [put_ne z] at h; exact ok.kin i g h, ok.rin, ok.nd, ok.sk⟩
  exact s_now (ev_var rfl) h7' ok7 wf dok (q.pre ((Fr.of ((((e1.trans e2).trans e3).trans (e4.trans e5)).trans e6)).trans f7) rfl)
end
end HT
set_option Elab.async false
set_option linter.all false
set_option maxRecDepth 100000
set_option maxHeartbeats 4000000
/-! Line.ask -/
namespace HT
open PySem PySem.Spec PyProof.Rows L2 Evl LamX
theorem tkF_ins {row : List Ent} {e : Ent} {n : Nat} (h : e.1 ∉ row.map (·.1)) : fN (tkF (row.take n ++ [e] ++ row.drop n)) = fput (fN (tkF row)) e.1 (some (.int e.2.2)) := by
  have app : ∀ (a b : List Ent) (i : Int), tkF (a ++ b) i = (tkF a i).or (tkF b i) := fun a b i => by
    induction a with
    | nil => show tkF b i = (none).or (tkF b i); rfl
    | cons x a ih =>
      show tkF (x :: (a ++ b)) i = _
      rw [tkF_cons, tkF_cons]
      split
      · rfl
      · exact ih
  have no : ∀ (l : List Ent), (∀ x ∈ l, x.1 ≠ e.1) → tkF l e.1 = none := fun l hl => by
    cases q : tkF l e.1 with
    | none => rfl
    | some v =>
      obtain ⟨x, hx, hx2⟩ := List.mem_map.mp (tkF_some.mp (show (tkF l e.1).isSome = true by rw [q]; rfl))
      exact absurd hx2 (hl x hx)
  funext i
  unfold fN fput
  rw [app, app]
  by_cases z : i = e.1
  · subst z
    rw [if_pos rfl, no _ (fun x hx q => h (by rw [← q]; exact List.mem_map.mpr ⟨x, List.mem_of_mem_take hx, rfl⟩))]
    show ((tkF [e] e.1).or _).map V.int = _
    rw [tkF_cons, if_pos rfl]
    rfl
  · rw [if_neg z]
    have : tkF [e] i = none := by rw [tkF_cons, if_neg (fun q => z q.symm)]; rfl
    rw [this, Option.or_none, ← app, List.take_append_drop]
/-- ask, where the goal isn't what is held -/
def askRes (D : TD Str) (ds : List Int) (S : LS) (d : Int) (g : Str) : LS × Str :=
  if fitsB D ds S.keeps d g && ((S.keeps d).isSome || decide (S.row = [])) then (({ S with turn := S.turn + 1 } : LS).grant d g (S.turn + 1), "held") else (S.insAt (if (S.keeps d).isSome then S.rais.length else S.row.length) (d, g, S.turn + 1), "waits")
theorem ask_none {D : TD Str} {ds : List Int} {S : LS} {d : Int} {m : Str} (h : S.keeps d = none) : S.ask D ds d m = askRes D ds S d m := by
  unfold LS.ask askRes
  rw [h]
  simp
theorem ask_some {D : TD Str} {ds : List Int} {S : LS} {d : Int} {m h g : Str} (hk : S.keeps d = some h) (hj : D.joined h m = some g) : S.ask D ds d m = if g = h then ((S, "held") : LS × Str) else askRes D ds S d g := by
  unfold LS.ask askRes
  rw [hk]
  simp only [hj]
  simp
section
variable {P : Program} {w : World} {K : PySem.W.Frag} {mg : Str → Option Value} {base : Heap} {C Dc : Addr} {f : Addr} {fd : FuncData} {Z H : Hp} {L : LA} {S : LS} {D : TD Str} {ds : List Int} {σ : L2.St} {ta tb tk tv td to ty : TE} {tA tB0 : TA} {tt : TT} {E : Ends} {tz : TS}
theorem q_insN {l : Addr} {xs : List V} {n : Nat} {ti : TE} {U : Addr → Hp → Prop} (hl : H l = some (.lst xs)) (hz : xs.length < 100000) (hn : n ≤ 1000) (ha : Ev ta σ H (.ref l)) (hi : Ev ti σ H (.int n)) (hv : ∀ H', Ex H H' → ∀ Q : V → Hp → Prop, (∀ p H1, Ex H' H1 → U p H1 → Q (.ref p) H1) → tv σ H' Q)
    (k : ∀ p H1, Ex H H1 → U p H1 → tz E σ (upd H1 l (.lst (xs.take n ++ [.ref p] ++ xs.drop n)))) :
    tSeq (tDrop (tBM K "list" (fun x vs H Q => ∃ (l : Addr) (xs : List V) (i : Int) (y : V), x = .ref l ∧ vs = [.int i, y] ∧ H l = some (.lst xs) ∧ xs.length < sizeLine ∧ 0 ≤ i ∧ i < 2 ^ 63 ∧ Q .non (upd H l (.lst (xs.take i.toNat ++ [y] ++ xs.drop i.toNat)))) ta (tCons ti (tCons tv tNil)))) tz E σ H :=
  ha H (Ex.refl _) _ fun H1 e1 => ⟨.inl ⟨rfl, xs, SqL.of (e1 _ _ hl)⟩, hi H1 e1 _ fun H2 e2 => hv H2 (e1.trans e2) _ fun p H3 e3 u => ⟨l, xs, n, .ref p, rfl, rfl, ((e1.trans e2).trans e3) _ _ hl, sz_lt hz, Int.natCast_nonneg _, by omega, k p H3 ((e1.trans e2).trans e3) u⟩⟩
def spAsk (C Dc : Addr) (D : TD Str) (Z : Hp) (ds : List Int) : Sp := fun vs H Q _ => ∃ (L : LA) (S : LS) (d : Int) (m : Str), vs = [.ref L.ln, .int d, .str m] ∧ LineAt C Dc D Z H L S ∧ LOk D ds S ∧ WFD D ∧ DsOk ds ∧ d ∈ ds ∧ m ∈ D.order ∧ d ∉ S.row.map (·.1) ∧ (∀ a ∈ D.order, ∀ b ∈ D.order, ∃ j, D.joined a b = some j) ∧
  LPost C Dc D Z H L (S.ask D ds d m).1 fun H' => Q (.str (S.ask D ds d m).2) H'
theorem sc_Line_ask : FnScope ["self", "deal", "mode", "held", "goal", "raisings", "other", "more"] ["self", "deal", "mode"] (defScope s_Line_ask) := ⟨rfl, rfl, rfl, by decide +kernel, rfl, by decide +kernel, by decide +kernel⟩
theorem ok_Line_ask (F : FnT K "ask" "Line.ask" s_Line_ask [] [] f fd) (T : Txt K mg C Dc) (G_need_deal : AneedDeal P w K mg base) (M_Table_need : AMneed P w K mg base C) (M_Table_joined : AMt2 P w K mg base C "joined" 4 ansJoined) (M_Line_fits : AMfits P w K mg base C Dc D Z ds) (M_Line_grant : AMgrant P w K mg base C Dc D Z ds) :
    FnOk P w K mg base CX0 5 f fd ["self", "deal", "mode"] (spAsk C Dc D Z ds) := by
  refine F.ok sc_Line_ask (fun vs H Q E ⟨_, _, _, _, h, _⟩ => by rw [h]; rfl) (fun cdv A outer s H vs Q E hr ⟨L, S, d, m, hv, hL, ok, wf, dok, hd, hm, hnr, hjn, q⟩ => ⟨_, PSs.nox (pss_cons (ps_expr (pe_callG G_need_deal hr (by decide) (by rfl) (pa_cons (pv 1) pa_nil)))
    (pss_cons (ps_expr (pe_methG M_Table_need T.clC hr (by decide) (pe_fldK K rfl (pv 0) rfl) (pa_cons (pv 2) pa_nil)))
    (pss_cons (ps_if (pt_cmp (pc_din (hu_of hr) (pv 1) (pe_fldK K rfl (pv 0) rfl))) (pss_one ps_never) pss_nil)
    (pss_cons (ps_set (i := 3) sc_Line_ask.nd rfl (Or.inl rfl) (pe_dget1 (hu_of hr) (pe_fldK K rfl (pv 0) rfl) (pv 1) ⟨rfl, rfl, rfl, rfl⟩))
    (pss_cons (ps_set (i := 4) sc_Line_ask.nd rfl (Or.inl rfl) (pe_ifExp (pt_cmp (pc_isN (pv 3))) (pv 2) (pe_methG M_Table_joined T.clC hr (by decide) (pe_fldK K rfl (pv 0) rfl) (pa_cons (pv 3) (pa_cons (pv 2) pa_nil)))))
    (pss_cons (ps_if (pt_cmpR op_eq (pv 4) (pv 3) (nomark _)) (pss_one (ps_ret pe_str)) pss_nil)
    (pss_cons (ps_fldaug (pv 0) pe_int in_add)
    (pss_cons (ps_if (PW.pt (pw_and (pt_val (pe_methG M_Line_fits T.clD hr (by decide) (pv 0) (pa_cons (pv 1) (pa_cons (pv 4) pa_nil)))) (pw_and1 (PW.pt (pw_or (pt_cmp (pc_notN (pv 3))) (pw_or1 (pt_cmpR (op_eqDK K rfl hr.units) (pe_fldK K rfl (pv 0) rfl) (pe_lst pa_nil) (nomark _)))))))) (pss_cons (ps_expr (pe_methKG M_Line_grant T.clD hr (by decide) (pv 0) (pa_cons (pv 1) (pa_cons (pv 4) pa_nil)) (pk_cons (pe_fldK K rfl (pv 0) rfl) pk_nil)))
      (pss_one (ps_ret pe_str))) pss_nil)
    (pss_cons (ps_set (i := 5) sc_Line_ask.nd rfl (Or.inl rfl) (pe_callB (call_len_seqK K rfl) (by rfl) T.fLen boot_len (pa_cons (pe_lc (own := [("other", 6), ("more", 7)]) rfl sc_Line_ask.nd (pi_listK K rfl (pe_fldK K rfl (pv 0) rfl)) (blkOk_by (by rfl)) (fun _ _ _ _ _ => (pg_tupK (n := 2) K rfl rfl (pgs_cons (pg_name (i := 6) sc_Line_ask.nd rfl (by first | exact Or.inl rfl | exact Or.inr rfl)) (pgs_cons (pg_name (i := 7) sc_Line_ask.nd rfl (by first | exact Or.inl rfl | exact Or.inr rfl)) pgs_nil)))) (fun _ _ _ _ _ => (pts_one (pt_cmp (pc_din (hu_of hr) (pv 6) (pe_fldK K rfl (pv 0) rfl))))) (fun _ _ _ _ _ => (pv 6))) pa_nil)))
    (pss_cons (ps_expr (pe_bmK K rfl PySem.F.plainAttrs_list PySem.F.slot_list_insert PySem.F.type_list_insert mt_insert (pe_fldK K rfl (pv 0) rfl) (pa_cons (pe_ifExp (pt_cmp (pc_isN (pv 3))) (pe_callB (call_len_seqK K rfl) (by rfl) T.fLen boot_len (pa_cons (pe_fldK K rfl (pv 0) rfl) pa_nil)) (pv 5)) (pa_cons (pe_tup (pa_cons (pv 1) (pa_cons (pv 4) pa_nil))) pa_nil))))
    (pss_cons (ps_dput (hu_of hr) (pe_fldK K rfl (pv 0) rfl) (pv 1) (pe_fldK K rfl (pv 0) rfl) rfl)
    (pss_cons (ps_dput (hu_of hr) (pe_fldK K rfl (pv 0) rfl) (pv 1) pe_int rfl)
    (pss_one (ps_ret pe_str)))))))))))))), ?_⟩)
  subst hv
  refine q_drop (ev_call (sp := spNeedDeal) (dvs := []) (E := E0) (ea_cons (ev_var rfl) ea_nil) (spv_need_deal (dok.pos d hd))) fun H1 e1 => ?_
  have hL1 := hL.ex e1
  obtain ⟨j1, hj1⟩ := hL1.tabH
  obtain ⟨dx1, o1, p1, w1, u1, ob1, kvp1, kvw1, kvu1, A1⟩ := id hj1
  refine q_drop (ev_meth (C := C) (m := "need") (dvs := []) (E := E0) (hL1.etab T (ev_var (i := 0) (v := .ref L.ln) rfl)) A1.at_ rfl (ea_cons (ev_var (i := 2) rfl) ea_nil) (spv_need hj1 hm)) fun H2 e2 => ?_
  have hL2 := hL1.ex e2
  refine q_when (b := false) (et_is (et_B (ev_dain (i := d) (ev_var (i := 1) rfl) (hL2.etick T (ev_var (i := 0) (v := .ref L.ln) rfl)) hL2.tk)) (by rw [tk_in, decide_eq_false hnr])) (fun z => by cases z) (fun _ H3 e3 => ?_)
  have hL3 := hL2.ex e3
  refine q_asg (v := optS (S.keeps d)) (ev_is (ev_daget1 (hL3.ekeeps T (ev_var (i := 0) (v := .ref L.ln) rfl)) (ev_var (i := 1) rfl) hL3.kp) (by unfold fK optS; cases S.keeps d <;> rfl)) fun H4 e4 => ?_
  have hL4 := hL3.ex e4
  have e04 := (e1.trans e2).trans (e3.trans e4)
  -- what follows where the goal isn't held
  have core : ∀ (g : Str) (H5 : Hp), Ex H4 H5 → g ∈ D.order → (∀ H' L', L'.ln = L.ln → LineAt C Dc D Z H' L' (askRes D ds S d g).1 → Fr L.foot L'.foot H H' → Q (.str (askRes D ds S d g).2) H') →
      tSeq (sFldAug K (tVar 0) (tC (.int 1)) rAdd "turn") (tSeq (tIfS (tAnd (tB (tMeth Dc "fits" (spFits C Dc D Z ds) [] E0 (tVar 0) (tCons (tVar 1) (tCons (tVar 4) tNil)))) (tOr (tB (tNotN (tVar 3))) (tTest (tOp (rEqD K) (tFld K (tVar 0) "row") (tLst tNil))))) (tSeq (tDrop (tMethK Dc "grant" 3 1 (spGrant C Dc D Z ds) (fun vs zs => vs ++ zs) (tVar 0) (tCons (tVar 1) (tCons (tVar 4) tNil)) (tCons (tFld K (tVar 0) "turn") tNil))) (tRet (tC (.str "held")))) tNext)
        (tSeq (tAsg (tCB (rLenQ K) (tCons (tLc (iList K (tFld K (tVar 0) "row")) (gTup K 2 (gCons (gName 6) (gCons (gName 7) gNil))) (tB (tDIn (tVar 6) (tFld K (tVar 0) "keeps"))) (tVar 6) [6, 7]) tNil)) (gName 5))
        (tSeq (tDrop (tBM K "list" (fun x vs H Q => ∃ (l : Addr) (xs : List V) (i : Int) (y : V), x = .ref l ∧ vs = [.int i, y] ∧ H l = some (.lst xs) ∧ xs.length < sizeLine ∧ 0 ≤ i ∧ i < 2 ^ 63 ∧ Q .non (upd H l (.lst (xs.take i.toNat ++ [y] ++ xs.drop i.toNat)))) (tFld K (tVar 0) "row") (tCons (tIf (tB (tIsN (tVar 3))) (tCB (rLenQ K) (tCons (tFld K (tVar 0) "row") tNil)) (tVar 5)) (tCons (tTup (tCons (tVar 1) (tCons (tVar 4) tNil))) tNil))))
        (tSeq (sDPut (tFld K (tVar 0) "tickets") (tVar 1) (tFld K (tVar 0) "turn")) (tSeq (sDPut (tFld K (tVar 0) "skips") (tVar 1) (tC (.int 0))) (tRet (tC (.str "waits")))))))) { nx := fun _ H' => Q .non H', rt := Q } ([some (.ref L.ln), some (.int d), some (.str m), some (optS (S.keeps d)), some (.str g), none, none, none] : L2.St) H5 := by
    intro g H5 e5 hg qq
    have hL5 := hL4.ex e5
    refine ⟨_, rfl, L.ln, Dc, L.dx, _, _, rfl, hL5.at_, T.clD, T.nTurn, rfl, _, _, rfl, rfl, _, _, hL5.at_, (by show 6 < 1000; decide), ?_⟩
    obtain ⟨h6, f6⟩ := hL5.setTurn (H1 := H5) (turn' := S.turn + 1) (Ex.refl _)
    have h6' : LineAt C Dc D Z (upd H5 L.ln (.ins Dc L.dx (putF "turn" (.int (S.turn + 1)) (lnF L S.turn)))) L { S with turn := S.turn + 1 } := h6
    have f6' : Fr L.foot L.foot H (upd H5 L.ln (.ins Dc L.dx (putF "turn" (.int (S.turn + 1)) (lnF L S.turn)))) := (Fr.of (e04.trans e5)).trans f6
    have ok6 : LOk D ds { S with turn := S.turn + 1 } := ⟨ok.kin, ok.rin, ok.nd, ok.sk⟩
    show tSeq _ _ _ ([some (.ref L.ln), some (.int d), some (.str m), some (optS (S.keeps d)), some (.str g), none, none, none] : L2.St) (upd H5 L.ln (.ins Dc L.dx (putF "turn" (.int (S.turn + 1)) (lnF L S.turn))))
    generalize (upd H5 L.ln (.ins Dc L.dx (putF "turn" (.int (S.turn + 1)) (lnF L S.turn)))) = H6 at h6' f6' ⊢
    obtain ⟨xs, hr1, hr2⟩ := h6'.row
    have hr2' : kdE.L S.row xs H6 := hr2
    have hxl : xs.length = S.row.length := (pair_len hr2').symm
    have hrl := Nat.le_trans ok.rowlen dok.few
    have hkn : decide (optS (S.keeps d) = .non) = !(S.keeps d).isSome := by rw [optS_non]; cases S.keeps d <;> rfl
    have hro : ∀ e ∈ S.row, lowD (encE e) = true := fun e he => lowE (wf.ok _ (ok.rin e he).2)
    refine q_if (b := fitsB D ds S.keeps d g && ((S.keeps d).isSome || decide (S.row = []))) (et_and (et_B (ev_fits (S := { S with turn := S.turn + 1 }) (ev_var (i := 0) (v := .ref L.ln) rfl) (ea_cons (ev_var (i := 1) rfl) (ea_cons (ev_var (i := 4) rfl) ea_nil)) h6' ok6 wf dok hg)) (fun _ => et_or (et_is (et_B (ev_notN (ev_var (i := 3) rfl))) (by rw [hkn, Bool.not_not])) (fun _ => et_test (ev_eqNil (K := K) encE dpE hro (ls_var (k := kdE) (bs := S.row) (h6'.erow T (ev_var (i := 0) (v := .ref L.ln) rfl)) ⟨L.rw, xs, rfl, SqL.of hr1, hr2'⟩))))) (fun z H7 e7 => ?_) (fun z H7 e7 => ?_)
    · have hres : askRes D ds S d g = ((({ S with turn := S.turn + 1 } : LS).grant d g (S.turn + 1), "held") : LS × Str) := by unfold askRes; rw [if_pos z]
      rw [hres] at qq
      refine q_mutK (m := "grant") (sp := spGrant C Dc D Z ds) (gV := fun vs zs => vs ++ zs) (ev_var (i := 0) (v := .ref L.ln) rfl) (h6'.ex e7).at_ rfl (ea_cons (ev_var (i := 1) rfl) (ea_cons (ev_var (i := 4) rfl) ea_nil)) (ea_cons ((h6'.ex e7).eturn T (ev_var (i := 0) (v := .ref L.ln) rfl)) ea_nil) rfl rfl fun H8 e8 => ⟨L, { S with turn := S.turn + 1 }, d, g, S.turn + 1, rfl, (h6'.ex e7).ex e8, ok6, dok, fun H9 L9 eln9 wl9 f9 => ?_⟩
      refine s_ret ev_c fun H10 e10 => qq H10 L9 eln9 (wl9.ex e10) (((f6'.ex e7).ex e8).trans (f9.ex e10))
    · have hres : askRes D ds S d g = ((S.insAt (if (S.keeps d).isSome then S.rais.length else S.row.length) (d, g, S.turn + 1), "waits") : LS × Str) := by unfold askRes; rw [if_neg (by rw [z]; decide)]
      rw [hres] at qq
      have h7 := h6'.ex e7
      have hr17 := e7 _ _ hr1
      have hr27 := kdE.L_ex e7 hr2'
      show tSeq _ _ _ ([some (.ref L.ln), some (.int d), some (.str m), some (optS (S.keeps d)), some (.str g), none, none, none] : L2.St) H7
      -- raisings
      refine q_asg (v := .int S.rais.length) (ev_is (ev_lenNL (k := kdV V.int) (as := (S.row.filter fun e => (S.keeps e.1).isSome).map fun e => e.1) (ep_lcW (g := gTup K 2 (gCons (gName 6) (gCons (gName 7) gNil))) (vs := [6, 7]) (σ := ([some (.ref L.ln), some (.int d), some (.str m), some (optS (S.keeps d)), some (.str g), none, none, none] : L2.St)) (H := H7) (te := tVar 6) (t := tB (tDIn (tVar 6) (tFld K (tVar 0) "keeps"))) (fun e : Ent => (S.keeps e.1).isSome) (fun e => e.1) (kdV V.int) (wk_list (K := K) (ka := kdE) (ls_var (bs := S.row) (h7.erow T (ev_var (i := 0) (v := .ref L.ln) rfl)) ⟨L.rw, xs, rfl, SqL.of hr17, hr27⟩)) (by omega)
        (fun e x H8 he e8 hx => by
          obtain ⟨tq, rfl, htq⟩ := hx
          exact ⟨tq, _, rfl, SqT.of htq, rfl, _, _, rfl, _, _, rfl, rfl, wipe_turn2, Ex.refl _, et_is (et_B (ev_dain (i := e.1) (ev_var (i := 6) rfl) ((h7.ex e8).ekeeps T (ev_var (i := 0) (v := .ref L.ln) rfl)) (h7.ex e8).kp)) kp_in, fun _ => ep_ev (ev_var (i := 6) rfl)⟩)
        gt2_mono)) (by rw [List.length_map]; rfl)) fun H8 e8 => ?_
      have h8 := h7.ex e8
      have hr18 := e8 _ _ hr17
      have hr28 := kdE.L_ex e8 hr27
      show tSeq _ _ _ ([some (.ref L.ln), some (.int d), some (.str m), some (optS (S.keeps d)), some (.str g), some (.int S.rais.length), none, none] : L2.St) H8
      have hrl2 : S.rais.length ≤ S.row.length := List.length_filter_le _ _
      have hnb : (if (S.keeps d).isSome then S.rais.length else S.row.length) ≤ 50 := by split <;> omega
      refine q_insN (n := if (S.keeps d).isSome then S.rais.length else S.row.length) (l := L.rw) (xs := xs) (U := fun pt H' => H' pt = some (.tup [.int d, .str g])) hr18 (by omega) (by omega) (h8.erow T (ev_var (i := 0) (v := .ref L.ln) rfl)) ?_ (fun H' e' Q' q' => eu_tup (vs := [.int d, .str g]) (ea_cons (ev_var (i := 1) rfl) (ea_cons (ev_var (i := 4) rfl) ea_nil)) (by show 2 ≤ 100000; decide) H' e' _ fun pt H11 hptn e11 hpt => q' pt H11 e11 hpt) fun pt H11 e811 hpt => ?_
      · refine ev_if (b := !(S.keeps d).isSome) (et_is (et_B (ev_isN (ev_var (i := 3) rfl))) hkn) (fun z2 => ?_) (fun z2 => ?_)
        · have z3 : (S.keeps d).isSome = false := by simpa using z2
          rw [z3]
          exact ev_is (ev_lenL (h8.erow T (ev_var (i := 0) (v := .ref L.ln) rfl)) (SqL.of hr18)) (by rw [hxl]; rfl)
        · have z3 : (S.keeps d).isSome = true := by simpa using z2
          rw [z3]
          exact ev_var (i := 5) rfl
      have h11 := h8.ex e811
      have hk12 : kdE.L (S.row.take (if (S.keeps d).isSome then S.rais.length else S.row.length) ++ [(d, g, S.turn + 1)] ++ S.row.drop (if (S.keeps d).isSome then S.rais.length else S.row.length)) (xs.take (if (S.keeps d).isSome then S.rais.length else S.row.length) ++ [.ref pt] ++ xs.drop (if (S.keeps d).isSome then S.rais.length else S.row.length)) H11 :=
        pair_append (pair_append (pair_take _ (kdE.L_ex e811 hr28)) (.cons ⟨pt, rfl, hpt⟩ .nil)) (pair_drop _ (kdE.L_ex e811 hr28))
      obtain ⟨h12, f12⟩ := h11.putRow hk12
      have f012 := ((f6'.ex e7).ex (e8.trans e811)).trans f12
      generalize (upd H11 L.rw (.lst (xs.take (if (S.keeps d).isSome then S.rais.length else S.row.length) ++ [.ref pt] ++ xs.drop (if (S.keeps d).isSome then S.rais.length else S.row.length)))) = H12 at h12 f012 ⊢
      -- tickets
      obtain ⟨kvt, hkt⟩ := id h12.tk
      have hktl := Nat.le_trans (hkt.len ok.tkin) dok.few
      refine q_dputI (v := .int (S.turn + 1)) (h12.eturn T (ev_var (i := 0) (v := .ref L.ln) rfl)) (h12.etick T (ev_var (i := 0) (v := .ref L.ln) rfl)) (ev_var (i := 1) rfl) hkt (by omega) fun H13 e13 hk13 => ?_
      obtain ⟨h14, f14⟩ := (h12.ex e13).putTk hk13 d (.int (S.turn + 1))
      have f014 := (f012.ex e13).trans f14
      generalize (upd H13 L.tk (.dK (putK kvt (.inl d) (.int (S.turn + 1))))) = H14 at h14 f014 ⊢
      obtain ⟨kvs, hks⟩ := id h14.sk
      have hksl := Nat.le_trans (hks.len ok.skin) dok.few
      refine q_dputI (v := .int 0) ev_c (h14.eskip T (ev_var (i := 0) (v := .ref L.ln) rfl)) (ev_var (i := 1) rfl) hks (by omega) fun H15 e15 hk15 => ?_
      obtain ⟨h16, f16⟩ := (h14.ex e15).putSk hk15 d (.int 0)
      have f016 := (f014.ex e15).trans f16
      refine s_ret ev_c fun H17 e17 => qq H17 L rfl (LineR.ex ?_ e17) (f016.ex e17)
      have et := tkF_ins (n := if (S.keeps d).isSome then S.rais.length else S.row.length) (e := (d, g, S.turn + 1)) hnr
      have es : fN (put S.skips d (some 0)) = fput (fN S.skips) d (some (.int 0)) := by rw [fN_put]; rfl
      show LineR C Dc D Z _ L (fK S.keeps) (S.row.take (if (S.keeps d).isSome then S.rais.length else S.row.length) ++ [(d, g, S.turn + 1)] ++ S.row.drop (if (S.keeps d).isSome then S.rais.length else S.row.length)) (fN (tkF (S.row.take (if (S.keeps d).isSome then S.rais.length else S.row.length) ++ [(d, g, S.turn + 1)] ++ S.row.drop (if (S.keeps d).isSome then S.rais.length else S.row.length)))) (fN (put S.skips d (some 0))) (S.turn + 1)
      rw [et, es]
      exact h16
  cases hk : S.keeps d with
  | none =>
    rw [hk] at core
    refine q_asg (v := .str m) (ev_if (b := true) (et_is (et_B (ev_isN (ev_var (i := 3) rfl))) rfl) (fun _ => ev_var (i := 2) rfl) (fun z => by cases z)) fun H5 e5 => ?_
    refine q_when (b := false) (et_is (et_test (ev_op (ev_var (i := 4) (v := .str m) rfl) (ev_var (i := 3) rfl) (rv_eq rfl))) rfl) (fun z => by cases z) (fun _ H6 e6 => ?_)
    refine core m H6 (e5.trans e6) hm ?_
    rw [← ask_none hk]
    exact q
  | some h0 =>
    rw [hk] at core
    have hh0 := (ok.kin d h0 hk).2
    obtain ⟨g, hg⟩ := hjn h0 hh0 m hm
    have hgo := (TD.joined_in hg hh0 hm).1
    obtain ⟨j4, hj4⟩ := hL4.tabH
    refine q_asg (v := .str g) (ev_if (b := false) (et_is (et_B (ev_isN (ev_var (i := 3) rfl))) rfl) (fun z => by cases z) (fun _ => ev_is (ev_T2 (ans := ansJoined) (a := h0) (hL4.etab T (ev_var (i := 0) (v := .ref L.ln) rfl)) (ea_cons (ev_var (i := 3) rfl) (ea_cons (ev_var (i := 2) rfl) ea_nil)) hj4 wf hh0 hm nl_joined) (by show optS (D.joined h0 m) = _; rw [hg]; rfl))) fun H5 e5 => ?_
    rw [ask_some hk hg] at q
    refine q_when (b := decide (g = h0)) (et_is (et_test (ev_op (ev_var (i := 4) (v := .str g) rfl) (ev_var (i := 3) (v := .str h0) rfl) (rv_eq rfl))) (by by_cases z : g = h0 <;> simp [z])) (fun z H6 e6 => ?_) (fun z H6 e6 => ?_)
    · rw [if_pos (of_decide_eq_true z)] at q
      exact s_ret ev_c fun H7 e7 => q H7 L rfl (hL4.ex ((e5.trans e6).trans e7)) (Fr.of (e04.trans ((e5.trans e6).trans e7)))
    · rw [if_neg (of_decide_eq_false z)] at q
      exact core g H6 (e5.trans e6) hgo q
end
end HT
set_option Elab.async false
set_option linter.all false
set_option maxRecDepth 100000
set_option maxHeartbeats 4000000
/-! Line.__init__ -/
namespace HT
open PySem PySem.Spec PyProof.Rows L2 Evl LamX

theorem LineR.reZ {C Dc : Addr} {D : TD Str} {Z Z' H : Hp} {L : LA} {kf tf sf : FI} {rows : List Ent} {turn : Int} {j : V} (h : LineR C Dc D Z H L kf rows tf sf turn) (e : Ex Z' H) (zf : ∀ b ∈ L.foot, Z' b = none) (t : TabJ C Z' L.t D j) : LineR C Dc D Z' H L kf rows tf sf turn :=
  ⟨e, zf, ⟨j, t⟩, h.nd, h.at_, h.kp, h.row, h.tk, h.sk⟩
section
variable {P : Program} {w : World} {K : PySem.W.Frag} {mg : Str → Option Value} {base : Heap} {C Dc Pt : Addr} {f : Addr} {fd : FuncData}
theorem q_fldN {H : Hp} {σ : L2.St} {ta tv : TE} {tz : TS} {D : Ends} {a dx : Addr} {Co : Addr} {fs : List (Str × V)} {f : Str} {o : HO} (h : EvP tv σ H (NewO o)) (ho : Ev ta σ H (.ref a)) (hH : H a = some (.ins Co dx fs)) (hc : Cls K Co) (hn : NoAttr K Co f) (hl : fs.length < 1000)
    (k : ∀ p H', H p = none → (∀ b o, b ≠ a → H b = some o → H' b = some o) → H' p = some o → H' a = some (.ins Co dx (putF f (.ref p) fs)) → tz D σ H') : tSeq (sFld K ta tv f) tz D σ H := by
  refine q_fldP h ho hH hc hn hl fun v H1 H2 e1 e2 ⟨p, hv, hpn, hp⟩ => ?_
  subst hv
  have npa : p ≠ a := fun z => by rw [z, hH] at hpn; cases hpn
  exact k p _ hpn (fun b o n hb => by rw [upd_ne n]; exact e2 _ _ (e1 _ _ hb)) (by rw [upd_ne npa]; exact e2 _ _ hp) upd_same
theorem TabJ.but_ {D : TD Str} {H H' : Hp} {t ln d dx : Addr} {fs : List (Str × V)} {j : V} (h : TabJ C H t D j) (hl : H ln = some (.ins d dx fs)) (n : ln ≠ t) (k : ∀ b o, b ≠ ln → H b = some o → H' b = some o) : TabJ C H' t D j := by
  obtain ⟨dx', o, p, w, u, ob, kvp, kvw, kvu, A⟩ := h
  exact ⟨dx', o, p, w, u, ob, kvp, kvw, kvu, k _ _ (fun z => n z.symm) A.at_, k _ _ (ne_of A.ord hl (by intro z; cases z)) A.ord, A.oc, A.od, k _ _ (ne_of A.prs hl (by intro z; cases z)) A.prs, A.near, k _ _ (ne_of A.wor hl (by intro z; cases z)) A.wor, A.rank, k _ _ (ne_of A.upp hl (by intro z; cases z)) A.upp, A.up⟩
theorem Tabs.but {T : List (Addr × Str)} {H H' : Hp} {ln d dx : Addr} {fs : List (Str × V)} (h : Tabs T H) (hl : H ln = some (.ins d dx fs)) (k : ∀ b o, b ≠ ln → H b = some o → H' b = some o) : Tabs T H' := fun pq hpq => by
  obtain ⟨ps, h1, h2, h3⟩ := h pq hpq
  refine ⟨ps, k _ _ (ne_of h1 hl (by intro z; cases z)) h1, h2, fun pos cv hcv => ?_⟩
  obtain ⟨c0, e1, e2⟩ := h3 pos cv hcv
  exact ⟨c0, e1, k _ _ (ne_of e2 hl (by unfold CodeO; intro z; cases z)) e2⟩
def outZ (F : List Addr) (H : Hp) : Hp := fun b => if b ∈ F then none else H b
def spLInit (C Dc Pt : Addr) : Sp := fun vs H Q _ => ∃ (ln dx t : Addr) (D : TD Str), vs = [.ref ln, .ref t] ∧ H ln = some (.ins Dc dx []) ∧ ln ≠ t ∧ TabJ C H t D .non ∧ WFD D ∧ Tabs (TL Pt) H ∧ D.clean = true ∧
  ∀ H' L, L.ln = ln → L.t = t → LineAt C Dc D (outZ L.foot H') H' L LS.nil → Tabs (TL Pt) H' → (∀ b o, b ≠ ln → b ≠ t → H b = some o → (∀ ps, o ≠ .tbl ps) → H' b = some o ∧ b ∉ L.foot) → Q .non H'
theorem sc_Line_init : FnScope ["self", "table", "flaw"] ["self", "table"] (defScope s_Line_init) := ⟨rfl, rfl, rfl, by decide +kernel, rfl, by decide +kernel, by decide +kernel⟩
theorem ok_Line_init (F : FnT K "__init__" "Line.__init__" s_Line_init [] [] f fd) (T : Txt K mg C Dc) (G_need_table : GF P w K mg base "need_table" ["thing"] [] 1 (spNeedT C)) (M_Table_flaw : MF P w K mg base C "flaw" ["self"] 7 (spFlaw C Pt)) :
    FnOk P w K mg base CX0 8 f fd ["self", "table"] (spLInit C Dc Pt) := by
  refine F.ok sc_Line_init (fun vs H Q E ⟨_, _, _, _, h, _⟩ => by rw [h]; rfl) (fun cdv A outer s H vs Q E hr ⟨ln, dx, t, D, hv, hl, hlt, hJ, wf, hT, hcl, q⟩ => ⟨_, PSs.nox (pss_cons (ps_expr (pe_callG G_need_table hr (by decide) (by rfl) (pa_cons (pv 1) pa_nil)))
    (pss_cons (ps_set (i := 2) sc_Line_init.nd rfl (Or.inl rfl) (pe_methG0 M_Table_flaw T.clC hr (by decide) (pv 1)))
    (pss_cons (ps_if (pt_cmp (pc_notN (pv 2))) (pss_one ps_never) pss_nil)
    (pss_cons (ps_fld (pv 0) (pv 1) rfl)
    (pss_cons (ps_fld (pv 0) pe_dnewK rfl)
    (pss_cons (ps_fld (pv 0) (pe_lst pa_nil) rfl)
    (pss_cons (ps_fld (pv 0) pe_dnewK rfl)
    (pss_cons (ps_fld (pv 0) pe_dnewK rfl)
    (pss_one (ps_fld (pv 0) pe_int rfl)))))))))), ?_⟩)
  subst hv
  refine q_drop (ev_call (sp := spNeedT C) (dvs := []) (E := E0) (z := .non) (vs := [.ref t]) (ea_cons (ev_var rfl) ea_nil) (fun H1 e1 Q q E => ?_)) fun H1 e1 => ?_
  · obtain ⟨dx1, o1, p1, w1, u1, ob1, kvp1, kvw1, kvu1, A1⟩ := hJ.ex e1
    exact ⟨t, _, _, rfl, A1.at_, q⟩
  have hJ1 := hJ.ex e1
  obtain ⟨dx1, o1, p1, w1, u1, ob1, kvp1, kvw1, kvu1, A1⟩ := id hJ1
  refine ⟨_, rfl, t, dx1, _, rfl, A1.at_, rfl, t, D, rfl, hJ1, wf, hT.ext e1, fun H2 v k2 T2 J2 hv2 => ?_⟩
  have hv3 := hv2.mpr hcl
  subst hv3
  show tSeq _ _ _ ([some (.ref ln), some (.ref t), some .non] : L2.St) H2
  refine q_when (b := false) (et_is (et_B (ev_notN (ev_var (i := 2) rfl))) rfl) (fun z => by cases z) (fun _ H3 e3 => ?_)
  obtain ⟨j, hJ2⟩ := J2
  have hl3 := e3 _ _ (k2 _ _ hlt (e1 _ _ hl) (fun _ z => by cases z))
  have hJ3 := hJ2.ex e3
  have T3 := T2.ext e3
  have k3 : ∀ b o, b ≠ ln → b ≠ t → H b = some o → (∀ ps, o ≠ .tbl ps) → H3 b = some o := fun b o n1 n2 hb hn => e3 _ _ (k2 b o n2 (e1 _ _ hb) hn)
  clear hJ2 k2 T2 A1 hJ1 e1 e3 hv2
  -- table
  refine q_fld (v := .ref t) (ev_var (i := 1) rfl) (ev_var (i := 0) (v := .ref ln) rfl) hl3 T.clD T.nTable (by show 0 < 1000; decide) fun H4 e4 => ?_
  have k4 : ∀ b o, b ≠ ln → H3 b = some o → (upd H4 ln (.ins Dc dx (putF "table" (.ref t) []))) b = some o := fun b o n hb => by rw [upd_ne n]; exact e4 _ _ hb
  have hl5 : (upd H4 ln (.ins Dc dx (putF "table" (.ref t) []))) ln = some (.ins Dc dx [("table", .ref t)]) := upd_same
  generalize upd H4 ln (.ins Dc dx (putF "table" (.ref t) [])) = H5 at k4 hl5 ⊢
  have hJ5 := hJ3.but_ hl3 hlt k4
  have T5 := Tabs.but T3 hl3 k4
  have k5 : ∀ b o, b ≠ ln → b ≠ t → H b = some o → (∀ ps, o ≠ .tbl ps) → H5 b = some o := fun b o n1 n2 hb hn => k4 b o n1 (k3 b o n1 n2 hb hn)
  clear k4 k3 hJ3 T3 e4 hl3
  -- keeps
  refine q_fldN ep_dnewK (ev_var (i := 0) (v := .ref ln) rfl) hl5 T.clD T.nKeeps (by show 1 < 1000; decide) fun kd H6 n6 e6 h6 hl6 => ?_
  have nk : kd ≠ ln := fun z => by rw [z, hl5] at n6; cases n6
  have hJ6 := hJ5.but_ hl5 hlt e6
  have T6 := Tabs.but T5 hl5 e6
  -- row
  refine q_fldN (ep_newL (el_lst (vs := []) ea_nil (by show 0 ≤ 100000; decide))) (ev_var (i := 0) (v := .ref ln) rfl) hl6 T.clD T.nRow (by show 2 < 1000; decide) fun rw H7 n7 e7 h7 hl7 => ?_
  have nr : rw ≠ ln := fun z => by rw [z, hl6] at n7; cases n7
  have nrk : rw ≠ kd := fun z => by rw [z, h6] at n7; cases n7
  have hJ7 := hJ6.but_ hl6 hlt e7
  have T7 := Tabs.but T6 hl6 e7
  -- tickets
  refine q_fldN ep_dnewK (ev_var (i := 0) (v := .ref ln) rfl) hl7 T.clD T.nTickets (by show 3 < 1000; decide) fun tk H8 n8 e8 h8 hl8 => ?_
  have nt : tk ≠ ln := fun z => by rw [z, hl7] at n8; cases n8
  have ntr : tk ≠ rw := fun z => by rw [z, h7] at n8; cases n8
  have ntk : tk ≠ kd := fun z => by rw [z, e7 _ _ nk h6] at n8; cases n8
  have hJ8 := hJ7.but_ hl7 hlt e8
  have T8 := Tabs.but T7 hl7 e8
  -- skips
  refine q_fldN ep_dnewK (ev_var (i := 0) (v := .ref ln) rfl) hl8 T.clD T.nSkips (by show 4 < 1000; decide) fun sk H9 n9 e9 h9 hl9 => ?_
  have ns : sk ≠ ln := fun z => by rw [z, hl8] at n9; cases n9
  have nst : sk ≠ tk := fun z => by rw [z, h8] at n9; cases n9
  have nsr : sk ≠ rw := fun z => by rw [z, e8 _ _ nr h7] at n9; cases n9
  have nsk : sk ≠ kd := fun z => by rw [z, e8 _ _ nk (e7 _ _ nk h6)] at n9; cases n9
  have hJ9 := hJ8.but_ hl8 hlt e9
  have T9 := Tabs.but T8 hl8 e9
  -- turn
  refine s_fld (v := .int 0) ev_c (ev_var (i := 0) (v := .ref ln) rfl) hl9 T.clD T.nTurn (by show 5 < 1000; decide) fun H10 e10 => ?_
  have kk : ∀ b o, b ≠ ln → H9 b = some o → (upd H10 ln (.ins Dc dx (putF "turn" (.int 0) [("table", .ref t), ("keeps", .ref kd), ("row", .ref rw), ("tickets", .ref tk), ("skips", .ref sk)]))) b = some o := fun b o n hb => by rw [upd_ne n]; exact e10 _ _ hb
  have hl11 : (upd H10 ln (.ins Dc dx (putF "turn" (.int 0) [("table", .ref t), ("keeps", .ref kd), ("row", .ref rw), ("tickets", .ref tk), ("skips", .ref sk)]))) ln = some (.ins Dc dx (lnF ⟨ln, dx, t, kd, rw, tk, sk⟩ 0)) := upd_same
  show Q .non (upd H10 ln (.ins Dc dx (putF "turn" (.int 0) [("table", .ref t), ("keeps", .ref kd), ("row", .ref rw), ("tickets", .ref tk), ("skips", .ref sk)])))
  generalize upd H10 ln (.ins Dc dx (putF "turn" (.int 0) [("table", .ref t), ("keeps", .ref kd), ("row", .ref rw), ("tickets", .ref tk), ("skips", .ref sk)])) = H11 at kk hl11 ⊢
  have hJ11 := hJ9.but_ hl9 hlt kk
  have T11 := Tabs.but T9 hl9 kk
  have kd11 := kk _ _ nk (e9 _ _ nk (e8 _ _ nk (e7 _ _ nk h6)))
  have rw11 := kk _ _ nr (e9 _ _ nr (e8 _ _ nr h7))
  have tk11 := kk _ _ nt (e9 _ _ nt h8)
  have sk11 := kk _ _ ns h9
  have all : ∀ b o, b ≠ ln → H5 b = some o → H11 b = some o ∧ b ∉ (LA.foot ⟨ln, dx, t, kd, rw, tk, sk⟩) := fun b o n hb => by
    have b6 := e6 _ _ n hb
    have b7 := e7 _ _ n b6
    have b8 := e8 _ _ n b7
    refine ⟨kk _ _ n (e9 _ _ n b8), ?_⟩
    simp only [LA.foot, List.mem_cons, List.not_mem_nil, or_false, not_or]
    exact ⟨n, fun z => (by subst z; rw [hb] at n6; cases n6), fun z => (by subst z; rw [b6] at n7; cases n7), fun z => (by subst z; rw [b7] at n8; cases n8), fun z => (by subst z; rw [b8] at n9; cases n9)⟩
  refine q H11 ⟨ln, dx, t, kd, rw, tk, sk⟩ rfl rfl ⟨fun b o hb => ?_, fun b hb => by unfold outZ; rw [if_pos hb], ⟨j, ?_⟩, ?_, hl11, .nil kd11, ⟨[], rw11, .nil⟩, .nil tk11, .nil sk11⟩ T11 fun b o n1 n2 hb hn => all b o n1 (k5 b o n1 n2 hb hn)
  · unfold outZ at hb
    split at hb
    · cases hb
    · exact hb
  · obtain ⟨dx', o, p, w0, u, ob, kvp, kvw, kvu, A⟩ := hJ5
    have ou : ∀ b o, b ≠ ln → H5 b = some o → outZ (LA.foot ⟨ln, dx, t, kd, rw, tk, sk⟩) H11 b = some o := fun b o n hb => by
      have := all b o n hb
      unfold outZ
      rw [if_neg this.2]
      exact this.1
    exact ⟨dx', o, p, w0, u, ob, kvp, kvw, kvu, ou _ _ (fun z => hlt z.symm) A.at_, ou _ _ (ne_of A.ord hl5 (by intro z; cases z)) A.ord, A.oc, A.od, ou _ _ (ne_of A.prs hl5 (by intro z; cases z)) A.prs, A.near, ou _ _ (ne_of A.wor hl5 (by intro z; cases z)) A.wor, A.rank, ou _ _ (ne_of A.upp hl5 (by intro z; cases z)) A.upp, A.up⟩
  · simp only [LA.foot, List.nodup_cons, List.mem_cons, List.not_mem_nil, or_false, not_or]
    exact ⟨⟨nk.symm, nr.symm, nt.symm, ns.symm⟩, ⟨nrk.symm, ntk.symm, nsk.symm⟩, ⟨ntr.symm, nsr.symm⟩, nst.symm, fun z => z, List.nodup_nil⟩
end
end HT
set_option Elab.async false
set_option linter.all false
set_option maxRecDepth 100000
set_option maxHeartbeats 4000000
/-! the law's draws -/
namespace HT
open PySem PySem.Spec PyProof.Rows L2 Evl LamX
section
variable {P : Program} {w : World} {K : PySem.W.Frag} {mg : Str → Option Value} {base : Heap} {C Dc Pt : Addr} {f : Addr} {fd : FuncData} {Z H H' : Hp} {da : Addr}
abbrev drK (ca : Addr) (at_ : Nat) (rest turn : Int) : List (Key × V) := [(.inr "cells", .ref ca), (.inr "at", .int at_), (.inr "rest", .int rest), (.inr "turn", .int turn)]
structure DrawA (Z H : Hp) (da ca : Addr) (cs : List Int) (at_ : Nat) (rest turn : Int) : Prop where
  z : Ex Z H
  zf : Z da = none
  cl : Z ca = some (.lst (cs.map V.int))
  pos : ∀ c ∈ cs, 0 ≤ c
  few : cs.length ≤ 63
  at_ : H da = some (.dK (drK ca at_ rest turn))
  rp : 0 ≤ rest
  tp : 0 ≤ turn
def DrawR (Z H : Hp) (da : Addr) : Prop := ∃ ca cs at_ rest turn, DrawA Z H da ca cs at_ rest turn
theorem DrawA.ex {ca cs a r t} (h : DrawA Z H da ca cs a r t) (e : Ex H H') : DrawA Z H' da ca cs a r t := ⟨h.z.trans e, h.zf, h.cl, h.pos, h.few, e _ _ h.at_, h.rp, h.tp⟩
theorem DrawR.ex (h : DrawR Z H da) (e : Ex H H') : DrawR Z H' da := by
  obtain ⟨ca, cs, a, r, t, A⟩ := h
  exact ⟨ca, cs, a, r, t, A.ex e⟩
theorem DrawR.fr {F F' : List Addr} (h : DrawR Z H da) (f : Fr F F' H H') (a : da ∉ F) (zf : ∀ b ∈ F, Z b = none) : DrawR Z H' da := by
  obtain ⟨ca, cs, at_, r, t, A⟩ := h
  exact ⟨ca, cs, at_, r, t, (f.z A.z zf).1, A.zf, A.cl, A.pos, A.few, f.keep a A.at_, A.rp, A.tp⟩
theorem DrawA.put {ca cs a r t} (h : DrawA Z H da ca cs a r t) {a' : Nat} {r' t' : Int} (hr : 0 ≤ r') (ht : 0 ≤ t') : DrawA Z (upd H da (.dK (drK ca a' r' t'))) da ca cs a' r' t' ∧ Fr [da] [da] H (upd H da (.dK (drK ca a' r' t'))) := by
  have fr : Fr [da] [da] H (upd H da (.dK (drK ca a' r' t'))) := Fr.upd (by simp) h.at_ fun xs z => by cases z
  exact ⟨⟨(fr.z h.z (by simpa using h.zf)).1, h.zf, h.cl, h.pos, h.few, upd_same, hr, ht⟩, fr⟩
theorem dk_at {ca : Addr} {a : Nat} {r t : Int} {a' : Nat} : putK (drK ca a r t) (.inr "at") (.int a') = drK ca a' r t := rfl
theorem dk_rest {ca : Addr} {a : Nat} {r t r' : Int} : putK (drK ca a r t) (.inr "rest") (.int r') = drK ca a r' t := rfl
theorem dk_turn {ca : Addr} {a : Nat} {r t t' : Int} : putK (drK ca a r t) (.inr "turn") (.int t') = drK ca a r t' := rfl
theorem DrawA.eat {ca cs a r t} {ta : TE} {σ : L2.St} (A : DrawA Z H da ca cs a r t) (h : Ev ta σ H (.ref da)) : Ev (tDGet ta (tC (.str "at"))) σ H (.int a) := ev_dget h ev_c (dget_k (k := .inr "at") (.inl A.at_))
theorem DrawA.erest {ca cs a r t} {ta : TE} {σ : L2.St} (A : DrawA Z H da ca cs a r t) (h : Ev ta σ H (.ref da)) : Ev (tDGet ta (tC (.str "rest"))) σ H (.int r) := ev_dget h ev_c (dget_k (k := .inr "rest") (.inl A.at_))
theorem DrawA.eturn {ca cs a r t} {ta : TE} {σ : L2.St} (A : DrawA Z H da ca cs a r t) (h : Ev ta σ H (.ref da)) : Ev (tDGet ta (tC (.str "turn"))) σ H (.int t) := ev_dget h ev_c (dget_k (k := .inr "turn") (.inl A.at_))
theorem DrawA.ecells {ca cs a r t} {ta : TE} {σ : L2.St} (A : DrawA Z H da ca cs a r t) (h : Ev ta σ H (.ref da)) : Ev (tDGet ta (tC (.str "cells"))) σ H (.ref ca) := ev_dget h ev_c (dget_k (k := .inr "cells") (.inl A.at_))
theorem DrawA.sq {ca cs a r t} (A : DrawA Z H da ca cs a r t) : SqL K H ca (cs.map V.int) := SqL.of (A.z _ _ A.cl)
theorem s_dputS {E : Ends} {σ : L2.St} {tv to ty : TE} {a : Addr} {kvs : List (Key × V)} {i : Str} {v : V} (hv : Ev tv σ H v) (ho : Ev to σ H (.ref a)) (hy : Ev ty σ H (.str i)) (hk : H a = some (.dK kvs)) (hl : kvs.length < 100000) (k : ∀ H1, Ex H H1 → E.nx σ (upd H1 a (.dK (putK kvs (.inr i) v)))) : sDPut to ty tv E σ H :=
  hv H (Ex.refl _) _ fun H1 e1 => ho H1 e1 _ fun H2 e2 => hy H2 (e1.trans e2) _ fun H3 e3 => ⟨a, _, rfl, DPut.k (k := Sum.inr i) (((e1.trans e2).trans e3) _ _ hk) (sz_lt hl), k H3 ((e1.trans e2).trans e3)⟩
theorem q_dputS {E : Ends} {σ : L2.St} {tz : TS} {tv to ty : TE} {a : Addr} {kvs : List (Key × V)} {i : Str} {v : V} (hv : Ev tv σ H v) (ho : Ev to σ H (.ref a)) (hy : Ev ty σ H (.str i)) (hk : H a = some (.dK kvs)) (hl : kvs.length < 100000) (k : ∀ H1, Ex H H1 → tz E σ (upd H1 a (.dK (putK kvs (.inr i) v)))) : tSeq (sDPut to ty tv) tz E σ H :=
  s_dputS (E := { E with nx := tz E }) hv ho hy hk hl k
def LstAt (xs : List V) : V → Hp → Prop := fun v H => ∃ p, v = .ref p ∧ H p = some (.lst xs)
theorem la_var {σ : L2.St} {ta : TE} {a : Addr} {xs : List V} (h : Ev ta σ H (.ref a)) (hx : H a = some (.lst xs)) : EvP ta σ H fun _ v H2 => LstAt xs v H2 := fun H1 e1 Q q => h H1 e1 _ fun H2 e2 => q _ H2 e2 ⟨a, rfl, (e1.trans e2) _ _ hx⟩
theorem la_new {σ : L2.St} {ta : TE} {xs : List V} (h : EvL ta σ H xs) : EvP ta σ H fun _ v H2 => LstAt xs v H2 := fun H1 e1 Q q => h H1 e1 Q fun p H2 hn e2 hp => q _ H2 e2 ⟨p, rfl, hp⟩
theorem el_cat {σ : L2.St} {ta tb : TE} {xs ys : List V} (h1 : EvP ta σ H fun _ v H2 => LstAt xs v H2) (h2 : EvP tb σ H fun _ v H2 => LstAt ys v H2) (hz : xs.length + ys.length ≤ 100000) : EvL (tOp rCat ta tb) σ H (xs ++ ys) := fun H1 e1 Q q =>
  h1 H1 e1 _ fun x H2 e2 ⟨a, hx, ha⟩ => h2 H2 (e1.trans e2) _ fun y H3 e3 ⟨b, hy, hb⟩ => by
    subst hx; subst hy
    exact ⟨a, b, xs, ys, rfl, rfl, e3 _ _ ha, hb, sz_of hz, fun p hp => q p _ (fresh_back (e2.trans e3) hp) ((e2.trans e3).trans (Ex.new hp)) upd_same⟩
def spTake : Sp := fun vs H Q _ => ∃ (Z : Hp) (da : Addr) (k : Nat), vs = [.ref da, .int k] ∧ DrawR Z H da ∧ 0 < k ∧ k ≤ 1000 ∧ ∀ (i : Nat) H', i < k → DrawR Z H' da → Fr [da] [da] H H' → Q (.int i) H'
theorem sc_law_take : FnScope ["_law_draw", "_law_many", "_law_cells", "_law_found", "_law_turn", "_law_mixed"] ["_law_draw", "_law_many"] (defScope s_law_take) := ⟨rfl, rfl, rfl, by decide +kernel, rfl, by decide +kernel, by decide +kernel⟩
theorem ok_law_take (F : FnT K "_law_take" "_law_take" s_law_take [] [] f fd) (T : Txt K mg C Dc) : FnOk P w K mg base CX0 1 f fd ["_law_draw", "_law_many"] spTake := by
  refine F.ok sc_law_take (fun vs H Q E ⟨_, _, _, h, _⟩ => by rw [h]; rfl) (fun cdv A outer s H vs Q E hr ⟨Z, da, k, hv, hD, hk0, hk, q⟩ => ⟨_, PSs.nox (pss_cons (ps_set (i := 2) sc_law_take.nd rfl (Or.inl rfl) (pe_dget (hu_of hr) (pv 0) pe_str (fun _ _ => rfl)))
    (pss_cons (ps_while PassesOwn.never (PW.pt (pw_and (pt_cmpR op_lt (pe_dget (hu_of hr) (pv 0) pe_str (fun _ _ => rfl)) pe_int (nomark _)) (pw_and1 (pt_cmpR op_lt (pe_dget (hu_of hr) (pv 0) pe_str (fun _ _ => rfl)) (pe_callB (call_len_seqK K rfl) (by rfl) T.fLen boot_len (pa_cons (pv 2) pa_nil)) (nomark _))))) (pss_cons (ps_if (pt_cmpR op_ge (pe_ix (ix_listK K rfl) (pv 2) (pe_dget (hu_of hr) (pv 0) pe_str (fun _ _ => rfl)) (fun _ _ => rfl)) (pe_op op_pow pe_int pe_int) (nomark _)) (pss_one (ps_dput (hu_of hr) (pv 0) pe_str (pe_ix (ix_listK K rfl) (pv 2) (pe_dget (hu_of hr) (pv 0) pe_str (fun _ _ => rfl)) (fun _ _ => rfl)) rfl)) pss_nil)
      (pss_one (ps_dput (hu_of hr) (pv 0) pe_str (pe_op op_add (pe_dget (hu_of hr) (pv 0) pe_str (fun _ _ => rfl)) pe_int) rfl))))
    (pss_cons (ps_if (pt_cmpR op_gt (pe_dget (hu_of hr) (pv 0) pe_str (fun _ _ => rfl)) pe_int (nomark _)) (pss_cons (ps_set (i := 3) sc_law_take.nd rfl (Or.inl rfl) (pe_op op_mod (pe_dget (hu_of hr) (pv 0) pe_str (fun _ _ => rfl)) (pv 1)))
      (pss_cons (ps_dput (hu_of hr) (pv 0) pe_str (pe_op op_fdivN (pe_dget (hu_of hr) (pv 0) pe_str (fun _ _ => rfl)) (pv 1)) rfl)
      (pss_one (ps_ret (pv 3))))) pss_nil)
    (pss_cons (ps_set (i := 4) sc_law_take.nd rfl (Or.inl rfl) (pe_dget (hu_of hr) (pv 0) pe_str (fun _ _ => rfl)))
    (pss_cons (ps_dput (hu_of hr) (pv 0) pe_str (pe_op op_add (pv 4) pe_int) rfl)
    (pss_cons (ps_set (i := 5) sc_law_take.nd rfl (Or.inl rfl) (pe_op op_mod (pe_op op_add (pe_ix (ix_listK K rfl) (pe_op op_cat (pe_lst (pa_cons pe_int pa_nil)) (pv 2)) (pe_op op_mod (pe_op op_add (pv 4) pe_int) (pe_op op_add pe_int (pe_callB (call_len_seqK K rfl) (by rfl) T.fLen boot_len (pa_cons (pv 2) pa_nil)))) (fun _ _ => rfl)) (pe_op op_mul pe_int (pv 4))) pe_int))
    (pss_cons (ps_set (i := 5) sc_law_take.nd rfl (Or.inl rfl) (pe_op op_mod (pe_op op_add (pe_op op_pow (pv 5) pe_int) (pe_op op_mul pe_int (pv 4))) pe_int))
    (pss_one (ps_ret (pe_op op_mod (pe_op op_fdivN (pe_op op_mod (pe_op op_mul (pv 5) (pe_op op_add (pe_op op_add (pe_op op_mod (pv 5) pe_int) (pv 4)) pe_int)) pe_int) pe_int) (pv 1))))))))))), ?_⟩)
  subst hv
  obtain ⟨ca, cs, at0, r0, t0, A0⟩ := hD
  refine q_asg (v := .ref ca) (A0.ecells (ev_var (i := 0) rfl)) fun H1 e1 => ?_
  have A1 := A0.ex e1
  show tSeq _ _ _ ([some (.ref da), some (.int k), some (.ref ca), none, none, none] : L2.St) H1
  refine q_while (fun m σ' H' => σ' = ([some (.ref da), some (.int k), some (.ref ca), none, none, none] : L2.St) ∧ ∃ at_ r, DrawA Z H' da ca cs at_ r t0 ∧ m = cs.length - at_ ∧ Fr [da] [da] H H') (cs.length - at0) ⟨rfl, at0, r0, A1, rfl, Fr.of e1⟩ (fun m σ' H2 w => ?_)
  obtain ⟨rfl, at_, r, A2, rfl, f2⟩ := w
  refine ⟨_, et_and (et_test (ev_op (A2.erest (ev_var (i := 0) rfl)) ev_c rv_I0)) (fun _ => et_test (ev_op (A2.eat (ev_var (i := 0) rfl)) (ev_lenL (ev_var (i := 2) rfl) A2.sq) rv_I0)), fun hb H3 e3 => ?_, fun hb H3 e3 => ?_⟩
  · rw [Bool.and_eq_true] at hb
    have hlt : at_ < cs.length := by
      have := of_decide_eq_true hb.2
      rw [List.length_map] at this
      omega
    have A3 := A2.ex e3
    have hci : (cs.map V.int)[at_]? = some (.int cs[at_]) := by rw [List.getElem?_map, List.getElem?_eq_getElem hlt]; rfl
    have hcp : 0 ≤ cs[at_] := A3.pos _ (List.getElem_mem hlt)
    have hcell : ∀ {H4 : Hp}, Ex H3 H4 → Ev (tOp (rIxL K) (tVar 2) (tDGet (tVar 0) (tC (.str "at")))) ([some (.ref da), some (.int k), some (.ref ca), none, none, none] : L2.St) H4 (.int cs[at_]) := fun e4 => ev_op (ev_var (i := 2) rfl) ((A3.ex e4).eat (ev_var (i := 0) rfl)) (rv_ixL (A3.ex e4).sq (atI_nat hci))
    refine ⟨fun σ2 H2 => σ2 = ([some (.ref da), some (.int k), some (.ref ca), none, none, none] : L2.St) ∧ ∃ a' r', DrawA Z H2 da ca cs a' r' t0 ∧ a' = at_ + 1 ∧ Fr [da] [da] H H2, fun σ2 H2 w => ?_, ?_⟩
    · obtain ⟨rfl, a', r', A', rfl, f'⟩ := w
      exact ⟨cs.length - (at_ + 1), by omega, rfl, _, _, A', rfl, f'⟩
    · have fin : ∀ (H4 : Hp) (r' : Int), DrawA Z H4 da ca cs at_ r' t0 → Fr [da] [da] H H4 → sDPut (tVar 0) (tC (.str "at")) (tOp (rI0 fun i j => .int (i + j)) (tDGet (tVar 0) (tC (.str "at"))) (tC (.int 1))) { nx := fun σ2 H2 => σ2 = ([some (.ref da), some (.int k), some (.ref ca), none, none, none] : L2.St) ∧ ∃ a' r', DrawA Z H2 da ca cs a' r' t0 ∧ a' = at_ + 1 ∧ Fr [da] [da] H H2, rt := Q } ([some (.ref da), some (.int k), some (.ref ca), none, none, none] : L2.St) H4 := fun H4 r' A4 f4 => by
        refine s_dputS (ev_op (A4.eat (ev_var (i := 0) rfl)) ev_c rv_I0) (ev_var (i := 0) rfl) ev_c A4.at_ (by show 4 < 100000; decide) fun H5 e5 => ?_
        have := (A4.ex e5).put (a' := at_ + 1) A4.rp A4.tp
        exact ⟨rfl, at_ + 1, r', by exact_mod_cast this.1, rfl, (f4.ex e5).trans (by exact_mod_cast this.2)⟩
      refine q_when (et_test (ev_op (hcell (Ex.refl _)) (ev_op ev_c ev_c (rv_I ⟨by decide, by decide, by decide⟩)) rv_I0)) (fun _ H4 e4 => ?_) (fun _ H4 e4 => fin H4 r (A3.ex e4) ((f2.ex e3).ex e4))
      refine s_dputS (hcell e4) (ev_var (i := 0) rfl) ev_c (A3.ex e4).at_ (by show 4 < 100000; decide) fun H5 e5 => ?_
      have := ((A3.ex e4).ex e5).put (a' := at_) hcp A3.tp
      exact fin _ _ this.1 ((((f2.ex e3).ex e4).ex e5).trans this.2)
  · have A3 := A2.ex e3
    have hk0' : (0 : Int) < k := by exact_mod_cast hk0
    have hcm : CDivN r k := ⟨by omega, by omega⟩
    refine q_when (et_test (ev_op (A3.erest (ev_var (i := 0) rfl)) ev_c rv_I0)) (fun hr1 H4 e4 => ?_) (fun _ H4 e4 => ?_)
    · have A4 := A3.ex e4
      refine q_asg (ev_op (A4.erest (ev_var (i := 0) rfl)) (ev_var (i := 1) rfl) (rv_I hk0')) fun H5 e5 => ?_
      have A5 := A4.ex e5
      refine q_dputS (ev_op (A5.erest (ev_var (i := 0) rfl)) (ev_var (i := 1) rfl) (rv_I hcm)) (ev_var (i := 0) rfl) ev_c A5.at_ (by show 4 < 100000; decide) fun H6 e6 => ?_
      have rp : 0 ≤ r.fdiv k := Int.fdiv_nonneg A5.rp (by omega)
      have h6 := (A5.ex e6).put (a' := at_) rp A5.tp
      have hm0 := Int.emod_nonneg r (b := k) (by omega)
      have hm1 := Int.emod_lt_of_pos r hk0'
      refine s_ret (v := .int (r % k)) (ev_var (i := 3) rfl) fun H7 e7 => ?_
      rw [← Int.toNat_of_nonneg hm0]
      exact q _ H7 (by omega) ⟨_, _, _, _, _, h6.1.ex e7⟩ ((((f2.ex e3).ex (e4.trans (e5.trans e6))).trans h6.2).ex e7)
    · have A4 := A3.ex e4
      refine q_asg (A4.eturn (ev_var (i := 0) rfl)) fun H5 e5 => ?_
      have A5 := A4.ex e5
      refine q_dputS (ev_op (ev_var (i := 4) (v := .int t0) rfl) ev_c rv_I0) (ev_var (i := 0) rfl) ev_c A5.at_ (by show 4 < 100000; decide) fun H6 e6 => ?_
      have tp : 0 ≤ t0 + 1 := by have := A5.tp; omega
      have h6 := (A5.ex e6).put (a' := at_) A5.rp tp
      have f6 := (((f2.ex e3).ex (e4.trans (e5.trans e6))).trans h6.2)
      have A6 := h6.1
      show tSeq _ _ _ ([some (.ref da), some (.int k), some (.ref ca), none, some (.int t0), none] : L2.St) (upd H6 da (.dK (drK ca at_ r (t0 + 1))))
      generalize upd H6 da (.dK (drK ca at_ r (t0 + 1))) = H7 at A6 f6 ⊢
      clear h6
      have hj0 := Int.emod_nonneg (t0 + 1) (b := 1 + ((cs.map V.int).length : Int)) (by omega)
      have hj1 := Int.emod_lt_of_pos (t0 + 1) (b := 1 + ((cs.map V.int).length : Int)) (by omega)
      have hjl : ((t0 + 1) % (1 + ((cs.map V.int).length : Int))).toNat < ((7 : Int) :: cs).length := by
        rw [List.length_map] at hj1 hj0 ⊢
        rw [List.length_cons]
        omega
      have hix : atI ([V.int 7] ++ cs.map V.int) ((t0 + 1) % (1 + ((cs.map V.int).length : Int))) = some (.int (((7 : Int) :: cs)[((t0 + 1) % (1 + ((cs.map V.int).length : Int))).toNat])) := by
        have := atI_nat (xs := [V.int 7] ++ cs.map V.int) (j := ((t0 + 1) % (1 + ((cs.map V.int).length : Int))).toNat) (v := .int (((7 : Int) :: cs)[((t0 + 1) % (1 + ((cs.map V.int).length : Int))).toNat])) (by
          rw [show [V.int 7] ++ cs.map V.int = ((7 : Int) :: cs).map V.int from rfl, List.getElem?_map, List.getElem?_eq_getElem hjl]; rfl)
        rwa [Int.toNat_of_nonneg hj0] at this
      generalize ((7 : Int) :: cs)[((t0 + 1) % (1 + ((cs.map V.int).length : Int))).toNat] = cv at hix
      refine q_asg (ev_op (ev_op (ev_opL1 (el_cat (la_new (el_lst (vs := [.int 7]) (ea_cons ev_c ea_nil) (by show 1 ≤ 100000; decide))) (la_var (ev_var (i := 2) rfl) (A6.z _ _ A6.cl)) (by have := A6.few; rw [List.length_map]; show 1 + _ ≤ _; omega)) (fun H8 e8 => ev_op (ev_op (ev_var (i := 4) (v := .int t0) rfl) ev_c rv_I0) (ev_op ev_c (ev_lenL (ev_var (i := 2) rfl) (A6.ex e8).sq) rv_I0) (rv_I (by omega))) (fun p H8 hp e8 => rv_ixL (SqL.of hp) hix)) (ev_op ev_c (ev_var (i := 4) (v := .int t0) rfl) (rv_I (.inl ⟨by decide, by decide⟩))) rv_I0) ev_c (rv_I (by decide))) fun H8 e8 => ?_
      have m0 := Int.emod_nonneg (cv + 40961 * t0) (b := 2147483647) (by decide)
      have m1 := Int.emod_lt_of_pos (cv + 40961 * t0) (b := 2147483647) (by decide)
      generalize (cv + 40961 * t0) % 2147483647 = x at m0 m1 ⊢
      refine q_asg (ev_op (ev_op (ev_op (ev_var (i := 5) (v := .int x) rfl) ev_c (rv_I ⟨by decide, by decide, by omega⟩)) (ev_op ev_c (ev_var (i := 4) (v := .int t0) rfl) (rv_I (.inl ⟨by decide, by decide⟩))) rv_I0) ev_c (rv_I (by decide))) fun H9 e9 => ?_
      have n0 := Int.emod_nonneg (x ^ (5 : Int).toNat + 104729 * t0) (b := 2147483629) (by decide)
      have n1 := Int.emod_lt_of_pos (x ^ (5 : Int).toNat + 104729 * t0) (b := 2147483629) (by decide)
      generalize (x ^ (5 : Int).toNat + 104729 * t0) % 2147483629 = y at n0 n1 ⊢
      refine s_ret (ev_op (ev_op (ev_op (ev_op (ev_var (i := 5) (v := .int y) rfl) (ev_op (ev_op (ev_op (ev_var (i := 5) (v := .int y) rfl) ev_c (rv_I (by decide))) (ev_var (i := 4) (v := .int t0) rfl) rv_I0) ev_c rv_I0) (rv_I (.inl ⟨by omega, by omega⟩))) ev_c (rv_I (by decide))) ev_c (rv_I ⟨by decide, by decide⟩)) (ev_var (i := 1) rfl) (rv_I hk0')) fun H10 e10 => ?_
      generalize ((y * (y % 65537 + t0 + 1)) % 2147483587).fdiv 16 = u
      have hm0 := Int.emod_nonneg u (b := k) (by omega)
      have hm1 := Int.emod_lt_of_pos u hk0'
      rw [← Int.toNat_of_nonneg hm0]
      exact q _ H10 (by omega) ⟨_, _, _, _, _, A6.ex (e8.trans (e9.trans e10))⟩ (f6.ex (e8.trans (e9.trans e10)))
theorem s_retP {σ : L2.St} {te : TE} {D : Ends} {P : Hp → V → Hp → Prop} (h : EvP te σ H P) (k : ∀ v H1, Ex H H1 → P H v H1 → D.rt v H1) : tRet te D σ H := h H (Ex.refl H) _ k
/-- displays of dicts -/
def EvPs (trs : List (TE × TE)) (σ : L2.St) (H : Hp) (P : Hp → List (Key × V) → Hp → Prop) : Prop := ∀ H1, Ex H H1 → ∀ Q : List (V × V) → Hp → Prop, (∀ kvs H2, Ex H1 H2 → kvs.length = trs.length → P H1 kvs H2 → Q (kvs.map fun kv => (kV kv.1, kv.2)) H2) → tPairs trs σ H1 Q
theorem eps_nil {σ : L2.St} : EvPs [] σ H fun _ kvs _ => kvs = [] := fun H1 e1 Q q => q [] H1 (Ex.refl _) rfl rfl
theorem eps_cons {σ : L2.St} {tk tv : TE} {trs : List (TE × TE)} {k : Key} {R : Hp → V → Hp → Prop} {Pr : Hp → List (Key × V) → Hp → Prop} (hk : Ev tk σ H (kV k)) (hv : EvP tv σ H R) (hr : EvPs trs σ H Pr) :
    EvPs ((tk, tv) :: trs) σ H fun H1 kvs H3 => ∃ v r Ha Hb, kvs = (k, v) :: r ∧ Ex H1 Ha ∧ Ex Ha Hb ∧ Ex Hb H3 ∧ R Ha v Hb ∧ Pr Hb r H3 := fun H1 e1 Q q =>
  hk H1 e1 _ fun H2 e2 => hv H2 (e1.trans e2) _ fun v H3 e3 hv => hr H3 ((e1.trans e2).trans e3) _ fun r H4 e4 hl hr => q ((k, v) :: r) H4 ((e2.trans e3).trans e4) (by rw [List.length_cons, List.length_cons, hl]) ⟨v, r, H2, H3, rfl, e2, e3, e4, hv, hr⟩
theorem ep_disp {σ : L2.St} {trs : List (TE × TE)} {P : Hp → List (Key × V) → Hp → Prop} (h : EvPs trs σ H P) (hl : trs.length ≤ 15) :
    EvP (tDisp trs) σ H fun H1 v H2 => ∃ p kvs H', v = .ref p ∧ H1 p = none ∧ Ex (upd H1 p (.dK [])) H' ∧ P (upd H1 p (.dK [])) kvs H' ∧ H2 = upd H' p (.dK (mergeK [] kvs)) := fun H1 e1 Q q p hp =>
  h _ (e1.trans (Ex.new hp)) _ fun kvs H2 e2 hk hP => ⟨e2 _ _ upd_same, kvs, rfl, by omega, q (.ref p) _ (fun b o hb => by
    have : b ≠ p := fun z => by rw [z, hp] at hb; cases hb
    rw [upd_ne this]
    exact e2 _ _ (Ex.new hp _ _ hb)) ⟨p, kvs, H2, rfl, hp, e2, hP, rfl⟩⟩
theorem disp_ne {H1 H' : Hp} {p : Addr} {o : HO} (e : Ex (upd H1 p (.dK [])) H') {b : Addr} (h : H' b = some o) (n : o ≠ .dK []) : b ≠ p := fun z => by
  rw [z, e _ _ upd_same] at h
  exact n (Option.some.inj h).symm
def spBegun (K : PySem.W.Frag) : Sp := fun vs H Q _ => ∃ (s : Addr) (xs : List Int), vs = [.ref s] ∧ SqL K H s (xs.map V.int) ∧ xs.length ≤ 63 ∧ ∀ H' da, Ex H H' → H da = none → DrawR (outZ [da] H') H' da → Q (.ref da) H'
theorem sc_law_begun : FnScope ["_law_script", "_law_cell"] ["_law_script"] (defScope s_law_begun) := ⟨rfl, rfl, rfl, by decide +kernel, rfl, by decide +kernel, by decide +kernel⟩
theorem ok_law_begun (F : FnT K "_law_begun" "_law_begun" s_law_begun [] [] f fd) (T : Txt K mg C Dc) : FnOk P w K mg base CX0 1 f fd ["_law_script"] (spBegun K) := by
  refine F.ok sc_law_begun (fun vs H Q E ⟨_, _, h, _⟩ => by rw [h]; rfl) (fun cdv A outer s H vs Q E hr ⟨sc, xs, hv, hs, hl, q⟩ => ⟨_, PSs.nox (pss_one (ps_ret (pe_disp (pps_cons pe_str (pe_lc (own := [("_law_cell", 1)]) rfl sc_law_begun.nd (pi_listK K rfl (pv 0)) (blkOk_by (by rfl)) (fun _ _ _ _ _ => (pg_name (i := 1) sc_law_begun.nd rfl (by first | exact Or.inl rfl | exact Or.inr rfl))) (fun _ _ _ _ _ => pts_nil) (fun _ _ _ _ _ => (pe_callB call_abs (by rfl) T.fAbs boot_abs (pa_cons (pv 1) pa_nil)))) (pps_cons pe_str pe_int (pps_cons pe_str pe_int (pps_cons pe_str pe_int pps_nil)))) (by rfl) (by rfl) (by simp) (by decide)))), ?_⟩)
  subst hv
  have hX := ep_lcW (σ := ([some (.ref sc), none] : L2.St)) (H := H) (te := tCB (fun xs H Q => ∃ i, xs = [V.int i] ∧ Q (V.int (if i < 0 then -i else i)) H) (tCons (tVar 1) tNil)) (g := gName 1) (vs := [1]) (t := tYes) (fun _ : Int => true) (fun i : Int => if i < 0 then -i else i) (kdV V.int)
    (wk_list (K := K) (ka := kdV V.int) (ls_var (bs := xs) (ev_var (i := 0) (v := .ref sc) rfl) ⟨sc, _, rfl, hs, kdV_of⟩)) (by omega)
    (fun i x H8 hi e8 hx => by
      have hx2 : x = V.int i := hx
      subst hx2
      exact ⟨rfl, Ex.refl _, et_yes, fun _ => fun H9 e9 Q q => (ev_var (i := 1) (v := .int i) rfl) H9 e9 _ fun H10 e10 => ⟨i, rfl, q _ H10 e10 rfl⟩⟩)
    gname_mono
  have hf : (xs.filter fun _ => true) = xs := List.filter_eq_self.mpr fun _ _ => rfl
  rw [hf] at hX
  refine s_retP (ep_disp (eps_cons (k := .inr "cells") ev_c hX (eps_cons (k := .inr "at") ev_c (ep_ev (v := .int 0) ev_c) (eps_cons (k := .inr "rest") ev_c (ep_ev (v := .int 0) ev_c) (eps_cons (k := .inr "turn") ev_c (ep_ev (v := .int 0) ev_c) eps_nil)))) (by simp)) fun v H1 e1 hv => ?_
  obtain ⟨p, kvs, H', rfl, hpn, e', hP, rfl⟩ := hv
  obtain ⟨v1, r1, Ha1, Hb1, rfl, ea1, eb1, ec1, hR1, hP⟩ := hP
  obtain ⟨v2, r2, Ha2, Hb2, rfl, ea2, eb2, ec2, hR2, hP⟩ := hP
  obtain ⟨v3, r3, Ha3, Hb3, rfl, ea3, eb3, ec3, hR3, hP⟩ := hP
  obtain ⟨v4, r4, Ha4, Hb4, rfl, ea4, eb4, ec4, hR4, rfl⟩ := hP
  obtain ⟨ca, ys, rfl, hcn, hc, hk⟩ := hR1
  subst hR2; subst hR3; subst hR4
  have hc' := ec1 _ _ hc
  rw [kdV_L hk] at hc'
  have hcp := disp_ne e' hc' (by intro z; cases z)
  refine q _ p e1 hpn ⟨ca, xs.map fun i => if i < 0 then -i else i, 0, 0, 0, ⟨fun b o hb => ?_, by unfold outZ; rw [if_pos (by simp)], ?_, ?_, ?_, upd_same, Int.le_refl _, Int.le_refl _⟩⟩
  · unfold outZ at hb
    split at hb
    · cases hb
    · exact hb
  · unfold outZ
    rw [if_neg (by simpa using hcp), upd_ne hcp]
    exact hc'
  · intro c hc
    obtain ⟨i, hi, rfl⟩ := List.mem_map.mp hc
    show 0 ≤ if i < 0 then -i else i
    split <;> omega
  · rw [List.length_map]; exact hl
end
end HT
set_option Elab.async false
set_option linter.all false
set_option maxRecDepth 100000
set_option maxHeartbeats 4000000
/-! the law's picks and words -/
namespace HT
open PySem PySem.Spec PyProof.Rows L2 Evl LamX
section
variable {P : Program} {w : World} {K : PySem.W.Frag} {mg : Str → Option Value} {base : Heap} {C Dc Pt : Addr} {f : Addr} {fd : FuncData} {Z H H' : Hp} {da : Addr} {σ : L2.St} {ta tb te tc : TE} {D : Ends} {tz tu tw : TS}
/-- what an expression gives here -/
def At (te : TE) (σ : L2.St) (H : Hp) (R : V → Hp → Prop) : Prop := ∀ Q : VK, (∀ v H2, R v H2 → Q v H2) → te σ H Q
theorem At.of {v : V} (h : Ev te σ H v) : At te σ H fun x H2 => x = v ∧ Ex H H2 := fun Q q => h H (Ex.refl _) _ fun H2 e2 => q v H2 ⟨rfl, e2⟩
theorem At.ofP {Pp : Hp → V → Hp → Prop} (h : EvP te σ H Pp) : At te σ H fun x H2 => Pp H x H2 ∧ Ex H H2 := fun Q q => h H (Ex.refl _) _ fun v H2 e2 p => q v H2 ⟨p, e2⟩
theorem At.imp {R R' : V → Hp → Prop} (h : At te σ H R) (i : ∀ v H2, R v H2 → R' v H2) : At te σ H R' := fun Q q => h Q fun v H2 r => q v H2 (i v H2 r)
theorem q_asgA {R : V → Hp → Prop} {i : Nat} (h : At te σ H R) (k : ∀ v H1, R v H1 → tz D (σ.set i (some v)) H1) : tSeq (tAsg te (gName i)) tz D σ H := h _ k
theorem s_retA {R : V → Hp → Prop} (h : At te σ H R) (k : ∀ v H1, R v H1 → D.rt v H1) : tRet te D σ H := h _ k
theorem tt_eqA {R : Int → Hp → Prop} {c : Int} (h : At te σ H fun v H2 => ∃ i : Int, v = .int i ∧ R i H2) {Q : Bool → Hp → Prop} (k : ∀ i H1, R i H1 → Q (decide (i = c)) H1) : tTest (tOp rEq te (tC (.int c))) σ H Q :=
  h _ fun v H2 ⟨i, hv, r⟩ => by
    subst hv
    have e : decide (V.int i = V.int c) = decide (i = c) := by by_cases z : i = c <;> simp [z]
    exact ⟨rfl, _, rfl, by rw [e]; exact k i H2 r⟩
def spPick : Sp := fun vs H Q _ => ∃ (Z : Hp) (da l : Addr) (xs : List V), vs = [.ref da, .ref l] ∧ DrawR Z H da ∧ H l = some (.lst xs) ∧ xs ≠ [] ∧ xs.length ≤ 1000 ∧ ∀ v H', v ∈ xs → DrawR Z H' da → Fr [da] [da] H H' → Q v H'
abbrev Atake (P : Program) (w : World) (K : PySem.W.Frag) (mg : Str → Option Value) (base : Heap) := GF P w K mg base "_law_take" ["_law_draw", "_law_many"] [] 1 spTake
abbrev Apick (P : Program) (w : World) (K : PySem.W.Frag) (mg : Str → Option Value) (base : Heap) := GF P w K mg base "_law_pick" ["_law_draw", "_law_some"] [] 2 spPick
theorem at_take {k : Nat} {E : XK} (ha : Ev ta σ H (.ref da)) (hb : ∀ H1, Ex H H1 → Ev tb σ H1 (.int k)) (hD : DrawR Z H da) (h0 : 0 < k) (h1 : k ≤ 1000) : At (tCall spTake [] E (tCons ta (tCons tb tNil))) σ H fun v H2 => ∃ i : Nat, v = .int i ∧ i < k ∧ DrawR Z H2 da ∧ Fr [da] [da] H H2 := fun Q q =>
  ha H (Ex.refl _) _ fun H1 e1 => hb H1 e1 H1 (Ex.refl _) _ fun H2 e2 => ⟨Z, da, k, rfl, hD.ex (e1.trans e2), h0, h1, fun i H3 hi hD3 f3 => q _ H3 ⟨i, rfl, hi, hD3, Fr.pre (e1.trans e2) f3⟩⟩
theorem at_pick {l : Addr} {xs : List V} {E : XK} (ha : Ev ta σ H (.ref da)) (hb : ∀ H1, Ex H H1 → Ev tb σ H1 (.ref l)) (hD : DrawR Z H da) (hl : H l = some (.lst xs)) (h0 : xs ≠ []) (h1 : xs.length ≤ 1000) : At (tCall spPick [] E (tCons ta (tCons tb tNil))) σ H fun v H2 => v ∈ xs ∧ DrawR Z H2 da ∧ Fr [da] [da] H H2 := fun Q q =>
  ha H (Ex.refl _) _ fun H1 e1 => hb H1 e1 H1 (Ex.refl _) _ fun H2 e2 => ⟨Z, da, l, xs, rfl, hD.ex (e1.trans e2), (e1.trans e2) _ _ hl, h0, h1, fun v H3 hv hD3 f3 => q _ H3 ⟨hv, hD3, Fr.pre (e1.trans e2) f3⟩⟩
theorem at_pickL {xs : List V} {E : XK} (ha : Ev ta σ H (.ref da)) (hb : EvL tb σ H xs) (hD : DrawR Z H da) (h0 : xs ≠ []) (h1 : xs.length ≤ 1000) : At (tCall spPick [] E (tCons ta (tCons tb tNil))) σ H fun v H2 => v ∈ xs ∧ DrawR Z H2 da ∧ Fr [da] [da] H H2 := fun Q q =>
  ha H (Ex.refl _) _ fun H1 e1 => hb H1 e1 _ fun p H2 hn e2 hp => ⟨Z, da, p, xs, rfl, hD.ex (e1.trans e2), hp, h0, h1, fun v H3 hv hD3 f3 => q _ H3 ⟨hv, hD3, Fr.pre (e1.trans e2) f3⟩⟩
theorem sc_law_pick : FnScope ["_law_draw", "_law_some"] ["_law_draw", "_law_some"] (defScope s_law_pick) := ⟨rfl, rfl, rfl, by decide +kernel, rfl, by decide +kernel, by decide +kernel⟩
theorem ok_law_pick (F : FnT K "_law_pick" "_law_pick" s_law_pick [] [] f fd) (T : Txt K mg C Dc) (G_law_take : Atake P w K mg base) : FnOk P w K mg base CX0 2 f fd ["_law_draw", "_law_some"] spPick := by
  refine F.ok sc_law_pick (fun vs H Q E ⟨_, _, _, _, h, _⟩ => by rw [h]; rfl) (fun cdv A outer s H vs Q E hr ⟨Z, da, l, xs, hv, hD, hl, hx, hz, q⟩ => ⟨_, PSs.nox (pss_one (ps_ret (pe_ix (ix_listK K rfl) (pv 1) (pe_callG G_law_take hr (by decide) (by rfl) (pa_cons (pv 0) (pa_cons (pe_callB (call_len_seqK K rfl) (by rfl) T.fLen boot_len (pa_cons (pv 1) pa_nil)) pa_nil))) (fun _ _ => rfl)))), ?_⟩)
  subst hv
  have hda : l ≠ da := fun z => by
    obtain ⟨_, _, _, _, _, A⟩ := hD
    rw [z, A.at_] at hl; cases hl
  have hpos : 0 < xs.length := List.length_pos_iff.mpr hx
  refine ⟨.ref l, rfl, ?_⟩
  refine at_take (σ := ([some (.ref da), some (.ref l)] : L2.St)) (Z := Z) (k := xs.length) (ev_var (i := 0) (v := .ref da) rfl) (fun H2 e2 => ev_lenL (ev_var (i := 1) rfl) (SqL.of (e2 _ _ hl))) hD hpos hz _ fun v H2 ⟨i, hv, hi, hD2, f2⟩ => ?_
  subst hv
  exact ⟨l, xs, i, xs[i], rfl, rfl, SqL.of (f2.keep (by simpa using hda) hl), atI_nat (List.getElem?_eq_getElem hi), q _ H2 (List.getElem_mem hi) hD2 f2⟩
end
end HT
set_option Elab.async false
set_option linter.all false
set_option maxRecDepth 100000
set_option maxHeartbeats 4000000
/-! the law's words -/
namespace HT
open PySem PySem.Spec PyProof.Rows L2 Evl LamX
def ownL : List Str := ["see", "change", "look", "work", "ask", "end", "held", "waits", "no", "go", "let", "over", "line", "mark"]
theorem ownL_ok : ∀ m ∈ ownL ++ ownL, NameOk m := fun m hm => by
  have h : ∀ m ∈ ownL ++ ownL, 1 ≤ m.length ∧ m.length ≤ 8 ∧ ∀ c ∈ m.cps.toList, c ∈ letS.cps.toList := by decide +kernel
  exact ⟨(h m hm).1, (h m hm).2.1, (h m hm).2.2⟩
theorem ownL_nd : ∀ (a : Fin 14) (n : Fin 7), (((ownL ++ ownL).drop a.val).take n.val).Nodup := by decide +kernel
theorem cut_nat {xs : List V} {a b : Nat} (h : a + b ≤ xs.length) : cutV xs (some (a : Int)) (some ((a + b : Nat) : Int)) = (xs.drop a).take b := by
  unfold cutV
  rw [sIx_nat, sIx_nat, show min a xs.length = a by omega, show min (a + b) xs.length = a + b by omega, show a + b - a = b by omega]
def hd (s : Str) : Option Nat := s.cps.toList.head?
def hds (lead i : Nat) : List (Option Nat) := (List.range i).map fun k => letS.cps.toList[(lead + 5 * k) % 26]?
theorem hds_nd {lead i : Nat} (hl : lead < 26) (hi : i ≤ 6) : (hds lead i).Nodup := by
  have h : ∀ (l : Fin 26) (i : Fin 7), (hds l.val i.val).Nodup := by decide +kernel
  exact h ⟨lead, hl⟩ ⟨i, by omega⟩
theorem hds_succ (lead i : Nat) : hds lead (i + 1) = hds lead i ++ [letS.cps.toList[(lead + 5 * i) % 26]?] := by
  unfold hds
  rw [List.range_succ, List.map_append]
  rfl
theorem let_at {i : Nat} (h : i < 26) : ∃ c, letS.cps.toList[i]? = some c ∧ c ∈ letS.cps.toList := by
  have hl : letS.cps.toList.length = 26 := by decide +kernel
  exact ⟨_, List.getElem?_eq_getElem (by omega), List.getElem_mem _⟩
theorem name_one {c : Nat} (h : c ∈ letS.cps.toList) : NameOk ⟨#[c]⟩ := ⟨by show 1 ≤ 1; decide, by show 1 ≤ 8; decide, fun d hd => by
  rw [show (⟨#[c]⟩ : Str).cps.toList = [c] from rfl, List.mem_singleton] at hd
  rw [hd]; exact h⟩
theorem toList_app (a b : Str) : (a ++ b).cps.toList = a.cps.toList ++ b.cps.toList := by
  show (a.cps ++ b.cps).toList = _
  rw [Array.toList_append]
theorem name_app {z : Str} {c : Nat} (h : NameOk z) (hc : c ∈ letS.cps.toList) (hl : z.length < 8) : NameOk (z ++ ⟨#[c]⟩) ∧ hd (z ++ ⟨#[c]⟩) = hd z ∧ (z ++ ⟨#[c]⟩).length = z.length + 1 := by
  have e : (z ++ ⟨#[c]⟩).length = z.length + 1 := by rw [Str.length_append]; rfl
  refine ⟨⟨by omega, by omega, fun d hd => ?_⟩, ?_, e⟩
  · rw [toList_app] at hd
    rcases List.mem_append.mp hd with hd | hd
    · exact h.let_ d hd
    · rw [show (⟨#[c]⟩ : Str).cps.toList = [c] from rfl, List.mem_singleton] at hd
      rw [hd]; exact hc
  · unfold hd
    rw [toList_app]
    have : z.cps.toList ≠ [] := fun q => by
      have h1 := h.lo
      have : z.length = z.cps.toList.length := by show z.cps.size = _; rw [Array.length_toList]
      rw [this, q] at h1
      exact absurd h1 (by decide)
    cases hz : z.cps.toList with
    | nil => exact absurd hz this
    | cons x xs => rfl
theorem nodup_of_map {α β : Type} {f : α → β} {l : List α} (h : (l.map f).Nodup) : l.Nodup := by
  rw [List.nodup_iff_pairwise_ne, List.pairwise_map] at h
  exact h.imp fun hab e => hab (by rw [e])
section
variable {P : Program} {w : World} {K : PySem.W.Frag} {mg : Str → Option Value} {base : Heap} {C Dc Pt : Addr} {f : Addr} {fd : FuncData} {Z H H' : Hp} {da : Addr} {σ : L2.St} {ta tb te tc : TE} {D : Ends} {tz tu tw : TS}
theorem DrawR.upd_ {a : Addr} {o : HO} (h : DrawR Z H da) (n : a ≠ da) (z : Z a = none) : DrawR Z (upd H a o) da := by
  obtain ⟨ca, cs, at_, r, t, A⟩ := h
  refine ⟨ca, cs, at_, r, t, fun b o hb => ?_, A.zf, A.cl, A.pos, A.few, by rw [upd_ne (fun q => n q.symm)]; exact A.at_, A.rp, A.tp⟩
  rw [upd_ne (fun q => by rw [q, z] at hb; cases hb)]
  exact A.z _ _ hb
theorem DrawR.live (h : DrawR Z H da) : ∃ kvs, H da = some (.dK kvs) := by
  obtain ⟨ca, cs, at_, r, t, A⟩ := h
  exact ⟨_, A.at_⟩
theorem DrawR.ne (h : DrawR Z H da) {a : Addr} (n : H a = none) : a ≠ da ∧ Z a = none := by
  obtain ⟨ca, cs, at_, r, t, A⟩ := h
  refine ⟨fun z => (by rw [z, A.at_] at n; cases n), ?_⟩
  cases e : Z a with
  | none => rfl
  | some o => rw [A.z _ _ e] at n; cases n
theorem el_slN {xs : List V} {tl th : TO} {lo hi : Option Int} (h : EvL te σ H xs) (h1 : ∀ H1, Ex H H1 → EvO tl σ H1 lo) (h2 : ∀ H1, Ex H H1 → EvO th σ H1 hi) : EvL (tSl (rSlL K) te tl th) σ H (cutV xs lo hi) := fun H1 e1 Q q =>
  h H1 e1 _ fun p H2 hn e2 hp => h1 H2 (e1.trans e2) H2 (Ex.refl _) _ fun H3 e3 => h2 H3 ((e1.trans e2).trans e3) H3 (Ex.refl _) _ fun H4 e4 => by
    have := el_sl (K := K) (te := tC (.ref p)) (tl := fun σ H Q => Q lo H) (th := fun σ H Q => Q hi H) (σ := σ) (H := H4) (lo := lo) (hi := hi) (a := p) (xs := xs) ev_c (fun _ _ _ q => q _ (Ex.refl _)) (fun _ _ _ q => q _ (Ex.refl _)) (SqL.of (e4 _ _ (e3 _ _ hp))) H4 (Ex.refl _) Q fun p2 H5 n5 e5 h5 => q p2 H5 (fresh_back ((e2.trans e3).trans e4) n5) (((e2.trans e3).trans e4).trans e5) h5
    exact this
theorem q_forRX {j : Nat} {R : V → Hp → Prop} (h : At te σ H R) (k : ∀ v H1, R v H1 → ∃ (n : Nat) (Pv : Nat → L2.St → Hp → Prop), v = .int n ∧ n ≤ 100000 ∧ Pv 0 σ H1 ∧ (∀ (i : Nat) σ' H', i < n → Pv i σ' H' → tu { D with nx := Pv (i + 1), ct := Pv (i + 1), bk := tz D } (σ'.set j (some (.int (i : Int)))) H') ∧ (∀ σ' H', Pv n σ' H' → tz D σ' H')) :
    tSeq (tFor (iRng1 (tCons te tNil)) (gName j) tu) tz D σ H :=
  h _ fun v H1 r => by
    obtain ⟨n, Pv, hv, hn, p0, hs, hd⟩ := k v H1 r
    subst hv
    refine ⟨n, rfl, by omega, by omega, for_range (D := { D with nx := tz D }) (lo := 0) (n := (n : Int).toNat) Pv p0 (fun i σ' H' hi p => ?_) (fun σ' H' p => hd σ' H' (by rwa [Int.toNat_natCast] at p))⟩
    have e0 : (0 : Int) + (i : Int) = (i : Int) := Int.zero_add _
    show tu { D with nx := Pv (i + 1), ct := Pv (i + 1), bk := tz D } (σ'.set j (some (.int ((0 : Int) + (i : Int))))) H'
    rw [e0]
    exact hs i σ' H' (by rwa [Int.toNat_natCast] at hi) p
theorem DrawR.fback {p : Addr} (h : DrawR Z H' da) (f : Fr [da] [da] H H') (n : H' p = none) : H p = none := by
  cases e : H p with
  | none => rfl
  | some u =>
    by_cases z : p = da
    · subst z
      obtain ⟨kvs, hk⟩ := h.live
      rw [n] at hk; cases hk
    · have := f.keep (by simpa using z) e
      rw [n] at this; cases this
def spWords : Sp := fun vs H Q _ => ∃ (Z : Hp) (da : Addr) (n : Nat), vs = [.ref da, .int n] ∧ DrawR Z H da ∧ n ≤ 6 ∧ ∀ p (ns : List Str) H', H p = none → H' p = some (.lst (ns.map V.str)) → ns.length = n → ns.Nodup → (∀ m ∈ ns, NameOk m) → DrawR Z H' da → Fr [da] [da] H H' → Q (.ref p) H'
theorem sc_law_words : FnScope ["_law_draw", "_law_many", "_law_own", "_law_at", "_law_letters", "_law_lead", "_law_found", "_law_k", "_law_name", "_law_j"] ["_law_draw", "_law_many"] (defScope s_law_words) := ⟨rfl, rfl, rfl, by decide +kernel, rfl, by decide +kernel, by decide +kernel⟩
theorem ok_law_words (F : FnT K "_law_words" "_law_words" s_law_words [] [] f fd) (T : Txt K mg C Dc) (G_law_take : Atake P w K mg base) (G_law_pick : Apick P w K mg base) : FnOk P w K mg base CX0 3 f fd ["_law_draw", "_law_many"] spWords := by
  refine F.ok sc_law_words (fun vs H Q E ⟨_, _, _, h, _⟩ => by rw [h]; rfl) (fun cdv A outer s H vs Q E hr ⟨Z, da, n, hv, hD, hn, q⟩ => ⟨_, PSs.nox (pss_cons (ps_set (i := 2) sc_law_words.nd rfl (Or.inl rfl) (pe_lst (pa_cons pe_str (pa_cons pe_str (pa_cons pe_str (pa_cons pe_str (pa_cons pe_str (pa_cons pe_str (pa_cons pe_str (pa_cons pe_str (pa_cons pe_str (pa_cons pe_str (pa_cons pe_str (pa_cons pe_str (pa_cons pe_str (pa_cons pe_str pa_nil))))))))))))))))
    (pss_cons (ps_set (i := 3) sc_law_words.nd rfl (Or.inl rfl) (pe_callG G_law_take hr (by decide) (by rfl) (pa_cons (pv 0) (pa_cons pe_int pa_nil))))
    (pss_cons (ps_if (pt_cmpR op_eq (pe_callG G_law_take hr (by decide) (by rfl) (pa_cons (pv 0) (pa_cons pe_int pa_nil))) pe_int (nomark _)) (pss_one (ps_ret (pe_slice (sl_listK K rfl) (pe_op op_cat (pv 2) (pv 2)) (po_some (pv 3)) (po_some (pe_op op_add (pv 3) (pv 1)))))) pss_nil)
    (pss_cons (ps_set (i := 4) sc_law_words.nd rfl (Or.inl rfl) pe_str)
    (pss_cons (ps_set (i := 5) sc_law_words.nd rfl (Or.inl rfl) (pe_callG G_law_take hr (by decide) (by rfl) (pa_cons (pv 0) (pa_cons pe_int pa_nil))))
    (pss_cons (ps_set (i := 6) sc_law_words.nd rfl (Or.inl rfl) (pe_lst pa_nil))
    (pss_cons (ps_for PassesOwn.never rfl (pi_range1 (by rfl) T.fRange (pa_cons (pv 1) pa_nil)) (pg_name (i := 7) sc_law_words.nd rfl (by first | exact Or.inl rfl | exact Or.inr rfl)) (pss_cons (ps_set (i := 8) sc_law_words.nd rfl (Or.inl rfl) (pe_ix ix_str (pv 4) (pe_op op_mod (pe_op op_add (pv 5) (pe_op op_mul pe_int (pv 7))) pe_int) (fun _ _ => rfl)))
      (pss_cons (ps_for PassesOwn.never rfl (pi_range1 (by rfl) T.fRange (pa_cons (pe_callG G_law_pick hr (by decide) (by rfl) (pa_cons (pv 0) (pa_cons (pe_lst (pa_cons pe_int (pa_cons pe_int (pa_cons pe_int (pa_cons pe_int (pa_cons pe_int (pa_cons pe_int pa_nil))))))) pa_nil))) pa_nil)) (pg_name (i := 9) sc_law_words.nd rfl (by first | exact Or.inl rfl | exact Or.inr rfl)) (pss_one (ps_set (i := 8) sc_law_words.nd rfl (Or.inl rfl) (pe_op op_add_str (pv 8) (pe_ix ix_str (pv 4) (pe_callG G_law_take hr (by decide) (by rfl) (pa_cons (pv 0) (pa_cons pe_int pa_nil))) (fun _ _ => rfl))))))
      (pss_one (ps_expr (pe_bmK K rfl PySem.F.plainAttrs_list PySem.F.slot_list_append PySem.F.type_list_append mt_append (pv 6) (pa_cons (pv 8) pa_nil)))))))
    (pss_one (ps_ret (pv 6)))))))))), ?_⟩)
  subst hv
  refine q_asgL (el_lst (vs := ownL.map V.str) (ea_cons ev_c (ea_cons ev_c (ea_cons ev_c (ea_cons ev_c (ea_cons ev_c (ea_cons ev_c (ea_cons ev_c (ea_cons ev_c (ea_cons ev_c (ea_cons ev_c (ea_cons ev_c (ea_cons ev_c (ea_cons ev_c (ea_cons ev_c ea_nil)))))))))))))) (by decide)) fun o H1 hon e1 ho => ?_
  have hD1 := hD.ex e1
  have oda := (hD.ne hon).1
  refine q_asgA (at_take (k := 14) (ev_var (i := 0) (v := .ref da) rfl) (fun _ _ => ev_c) hD1 (by decide) (by decide)) fun v H2 ⟨a, hv, ha, hD2, f2⟩ => ?_
  subst hv
  have ho2 := f2.keep (by simpa using oda) ho
  show tSeq _ _ _ ([some (.ref da), some (.int n), some (.ref o), some (.int a), none, none, none, none, none, none] : L2.St) H2
  refine tt_eqA (R := fun i H3 => DrawR Z H3 da ∧ Fr [da] [da] H2 H3) (at_take (k := 3) (ev_var (i := 0) (v := .ref da) rfl) (fun _ _ => ev_c) hD2 (by decide) (by decide) |>.imp fun v H2 ⟨i, h1, h2⟩ => ⟨(i : Int), h1, h2.2⟩) fun i H3 ⟨hD3, f3⟩ => ?_
  have ho3 := f3.keep (by simpa using oda) ho2
  have f13 := (Fr.of e1 : Fr [da] [da] H H1).trans (f2.trans f3)
  cases decide (i = 0) with
  | true =>
    rw [if_pos rfl]
    refine s_retL (el_slN (el_cat (la_var (ev_var (i := 2) rfl) ho3) (la_var (ev_var (i := 2) rfl) ho3) (by decide)) (fun _ _ => eo_some (ev_var (i := 3) rfl)) (fun _ _ => eo_some (ev_op (ev_var (i := 3) rfl) (ev_var (i := 1) rfl) rv_I0))) fun p H4 hpn e4 hp => ?_
    have hlen : ((ownL ++ ownL).map V.str).length = 28 := by decide
    rw [← List.map_append, show ((a : Int) + (n : Int)) = ((a + n : Nat) : Int) by omega, cut_nat (by omega), ← List.map_drop, ← List.map_take] at hp
    have hl2 : (ownL ++ ownL).length = 28 := by decide
    refine q p _ H4 (hD3.fback f13 hpn) hp ?_ ?_ ?_ (hD3.ex e4) (f13.ex e4)
    · rw [List.length_take, List.length_drop]; omega
    · exact ownL_nd ⟨a, ha⟩ ⟨n, by omega⟩
    · exact fun m hm => ownL_ok m (List.mem_of_mem_drop (List.mem_of_mem_take hm))
  | false =>
    rw [if_neg (by decide)]
    show tSeq _ _ _ ([some (.ref da), some (.int n), some (.ref o), some (.int a), none, none, none, none, none, none] : L2.St) H3
    refine q_asg (v := .str letS) ev_c fun H4 e4 => ?_
    refine q_asgA (at_take (k := 26) (ev_var (i := 0) (v := .ref da) rfl) (fun _ _ => ev_c) (hD3.ex e4) (by decide) (by decide)) fun v H5 ⟨lead, hv, hlead, hD5, f5⟩ => ?_
    subst hv
    refine q_asgL (el_lst ea_nil (by show 0 ≤ 100000; decide)) fun l H6 hln e6 hl6 => ?_
    have hD6 := hD5.ex e6
    have f16 := ((f13.ex e4).trans f5).ex e6
    have lnH : H l = none := by
      cases e : H l with
      | none => rfl
      | some u => 
        have : l ≠ da := (hD5.ne hln).1
        have := ((f13.ex e4).trans f5).keep (by simpa using this) e
        rw [hln] at this; cases this
    have lda := (hD.ne lnH).1
    have lZ := (hD.ne lnH).2
    have hLen : letS.length ≤ 100000 := by decide +kernel
    show tSeq _ _ _ ([some (.ref da), some (.int n), some (.ref o), some (.int a), some (.str letS), some (.int lead), some (.ref l), none, none, none] : L2.St) H6
    refine q_forR1 (n := n) (ea_cons (ev_var (i := 1) rfl) ea_nil) (by omega) (fun i σ' H' => ∃ o7 o8 o9 ns, σ' = ([some (.ref da), some (.int n), some (.ref o), some (.int a), some (.str letS), some (.int lead), some (.ref l), o7, o8, o9] : L2.St) ∧ DrawR Z H' da ∧ Fr [da] [da] H H' ∧ H' l = some (.lst (ns.map V.str)) ∧ ns.map hd = hds lead i ∧ (∀ m ∈ ns, NameOk m))
      (fun H7 e7 => ⟨none, none, none, [], rfl, hD6.ex e7, f16.ex e7, e7 _ _ hl6, rfl, fun m hm => by cases hm⟩) (fun i σ' H7 hi w => ?_) (fun σ' H7 w => ?_)
    · obtain ⟨o7, o8, o9, ns, rfl, hD7, f7, hl7, hns, hok⟩ := w
      have hi' : i < n := by omega
      obtain ⟨c, hc1, hc2⟩ := let_at (i := (lead + 5 * i) % 26) (Nat.mod_lt _ (by decide))
      have hnl : ns.length = i := by
        have := congrArg List.length hns
        rw [List.length_map] at this
        unfold hds at this
        rw [List.length_map, List.length_range] at this
        exact this
      show tSeq _ _ _ ([some (.ref da), some (.int n), some (.ref o), some (.int a), some (.str letS), some (.int lead), some (.ref l), some (.int i), o8, o9] : L2.St) H7
      refine q_asg (v := .str ⟨#[c]⟩) (ev_op (ev_var (i := 4) rfl) (ev_op (ev_op (ev_var (i := 5) rfl) (ev_op ev_c (ev_var (i := 7) rfl) (rv_I (.inl ⟨by decide, by decide⟩))) rv_I0) ev_c (rv_I (by decide))) (rv_ixS hLen (by
        rw [show ((lead : Int) + 5 * (i : Int)) % 26 = (((lead + 5 * i) % 26 : Nat) : Int) by omega]
        exact atI_nat hc1))) fun H8 e8 => ?_
      show tSeq _ _ _ ([some (.ref da), some (.int n), some (.ref o), some (.int a), some (.str letS), some (.int lead), some (.ref l), some (.int i), some (.str ⟨#[c]⟩), o9] : L2.St) H8
      have hD8 := hD7.ex e8
      have hl8 := e8 _ _ hl7
      refine q_forRX (at_pickL (xs := [.int 0, .int 0, .int 1, .int 2, .int 4, .int 7]) (ev_var (i := 0) (v := .ref da) rfl) (el_lst (ea_cons ev_c (ea_cons ev_c (ea_cons ev_c (ea_cons ev_c (ea_cons ev_c (ea_cons ev_c ea_nil)))))) (by decide)) hD8 (by decide) (by decide)) fun v H9 ⟨hv, hD9, f9⟩ => ?_
      have hm : ∃ m : Nat, v = .int m ∧ m ≤ 7 := by
        simp only [List.mem_cons, List.not_mem_nil, or_false] at hv
        rcases hv with h | h | h | h | h | h
        · exact ⟨0, h, by decide⟩
        · exact ⟨0, h, by decide⟩
        · exact ⟨1, h, by decide⟩
        · exact ⟨2, h, by decide⟩
        · exact ⟨4, h, by decide⟩
        · exact ⟨7, h, by decide⟩
      obtain ⟨m, rfl, hm⟩ := hm
      have hl9 := f9.keep (by simpa using lda) hl8
      refine ⟨m, fun j σ' H' => ∃ z o9, σ' = ([some (.ref da), some (.int n), some (.ref o), some (.int a), some (.str letS), some (.int lead), some (.ref l), some (.int i), some (.str z), o9] : L2.St) ∧ DrawR Z H' da ∧ Fr [da] [da] H H' ∧ H' l = some (.lst (ns.map V.str)) ∧ NameOk z ∧ hd z = some c ∧ z.length = j + 1, rfl, by omega, ⟨⟨#[c]⟩, o9, rfl, hD9, (f7.ex e8).trans f9, hl9, name_one hc2, rfl, rfl⟩, fun j σ' H10 hj w => ?_, fun σ' H10 w => ?_⟩
      · obtain ⟨z, p9, rfl, hD10, f10, hl10, hz, hhd, hzl⟩ := w
        show tAsg _ _ _ ([some (.ref da), some (.int n), some (.ref o), some (.int a), some (.str letS), some (.int lead), some (.ref l), some (.int i), some (.str z), some (.int j)] : L2.St) H10
        refine ⟨.str z, rfl, .str letS, rfl, ?_⟩
        refine at_take (σ := ([some (.ref da), some (.int n), some (.ref o), some (.int a), some (.str letS), some (.int lead), some (.ref l), some (.int i), some (.str z), some (.int j)] : L2.St)) (k := 26) (ev_var (i := 0) (v := .ref da) rfl) (fun _ _ => ev_c) hD10 (by decide) (by decide) _ fun v H11 ⟨k, hv, hk, hD11, f11⟩ => ?_
        subst hv
        obtain ⟨d, hd1, hd2⟩ := let_at hk
        have hap := name_app hz hd2 (by omega)
        exact ⟨letS, k, d, rfl, rfl, sz_of hLen, atI_nat hd1, z, ⟨#[d]⟩, rfl, rfl, sz_of (by show z.length + 1 ≤ _; omega), z ++ ⟨#[d]⟩, _, rfl, hD11, f10.trans f11, f11.keep (by simpa using lda) hl10, hap.1, by rw [hap.2.1, hhd], by rw [hap.2.2, hzl]⟩
      · obtain ⟨z, p9, rfl, hD10, f10, hl10, hz, hhd, hzl⟩ := w
        refine s_app hl10 (ev_var (i := 6) rfl) (ev_var (i := 8) (v := .str z) rfl) (by rw [List.length_map]; omega) fun H11 e11 => ?_
        have hl11 := e11 _ _ hl10
        refine ⟨_, _, _, ns ++ [z], rfl, (hD10.ex e11).upd_ lda lZ, (f10.ex e11).mutNew lnH hl11 (fun _ q => by cases q), by rw [List.map_append]; exact upd_same, ?_, ?_⟩
        · rw [List.map_append, hns, hds_succ, hc1]
          show _ ++ [hd z] = _
          rw [hhd]
        · intro x hx
          rcases List.mem_append.mp hx with hx | hx
          · exact hok x hx
          · rw [List.mem_singleton.mp hx]; exact hz
    · obtain ⟨o7, o8, o9, ns, rfl, hD7, f7, hl7, hns, hok⟩ := w
      rw [Int.toNat_natCast] at hns
      refine s_ret (ev_var (i := 6) (v := .ref l) rfl) fun H8 e8 => q l ns H8 lnH (e8 _ _ hl7) ?_ ?_ hok (hD7.ex e8) (f7.ex e8)
      · have := congrArg List.length hns
        rw [List.length_map] at this
        unfold hds at this
        rw [List.length_map, List.length_range] at this
        exact this
      · exact nodup_of_map (f := hd) (by rw [hns]; exact hds_nd hlead hn)
end
end HT
set_option Elab.async false
set_option linter.all false
set_option maxRecDepth 100000
set_option maxHeartbeats 4000000
/-! the law's tables: data -/
namespace HT
open PySem PySem.Spec PyProof.Rows L2 Evl LamX
section
variable {P : Program} {w : World} {K : PySem.W.Frag} {mg : Str → Option Value} {base : Heap} {C Dc Pt : Addr} {f : Addr} {fd : FuncData} {Z H H' : Hp} {da : Addr} {σ : L2.St} {ta tb te tc : TE} {D : Ends} {tz tu tw : TS}
structure DataA (H : Hp) (ga : Addr) (D : TD Str) (a b g u : Addr) (xs : List V) : Prop where
  at_ : H ga = some (.dK [(.inr "order", .ref a), (.inr "pairs", .ref b), (.inr "gives", .ref g), (.inr "above", .ref u)])
  dat : DatA H D a b g u xs
def DataR (H : Hp) (da ga : Addr) (D : TD Str) : Prop := ∃ a b g u xs, DataA H ga D a b g u xs ∧ ga ≠ da ∧ g ≠ da ∧ u ≠ da
def spData (cl : Bool) : Sp := fun vs H Q _ => ∃ (Z : Hp) (da : Addr), vs = [.ref da] ∧ DrawR Z H da ∧ ∀ ga D H', DataR H' da ga D → DatOk D → (cl = true → D.clean = true) → DrawR Z H' da → Fr [da] [da] H H' → Q (.ref ga) H'
abbrev Awords (P : Program) (w : World) (K : PySem.W.Frag) (mg : Str → Option Value) (base : Heap) := GF P w K mg base "_law_words" ["_law_draw", "_law_many"] [] 3 spWords
/-- lists of things, made by parts -/
def EvAK {β : Type} (k : Kd β) (tA : TA) (σ : L2.St) (H : Hp) (bs : List β) : Prop := ∀ H1, Ex H H1 → ∀ Q : List V → Hp → Prop, (∀ vs H2, Ex H1 H2 → k.L bs vs H2 → Q vs H2) → tA σ H1 Q
theorem eak_nil {β : Type} {k : Kd β} : EvAK k tNil σ H [] := fun H1 e1 Q q => q [] H1 (Ex.refl _) .nil
theorem eak_cons {β : Type} {k : Kd β} {b : β} {bs : List β} {tA : TA} (h : EvP te σ H fun _ v H2 => k.R b v H2) (ht : EvAK k tA σ H bs) : EvAK k (tCons te tA) σ H (b :: bs) := fun H1 e1 Q q =>
  h H1 e1 _ fun v H2 e2 hv => ht H2 (e1.trans e2) _ fun vs H3 e3 hvs => q (v :: vs) H3 (e2.trans e3) (.cons (k.ex e3 hv) hvs)
theorem ep_lstK {β : Type} {k : Kd β} {bs : List β} {tA : TA} (h : EvAK k tA σ H bs) (hl : bs.length ≤ 100000) : EvP (tLst tA) σ H (NewL k bs) := fun H1 e1 Q q =>
  h H1 e1 _ fun vs H2 e2 hv => ⟨by rw [← pair_len hv]; exact sz_of hl, fun p hp => q (.ref p) _ (e2.trans (Ex.new hp)) ⟨p, vs, rfl, fresh_back e2 hp, upd_same, k.L_ex (Ex.new hp) hv⟩⟩
theorem ep_pair {a b : Str} (ha : Ev ta σ H (.str a)) (hb : Ev tb σ H (.str b)) : EvP (tTup (tCons ta (tCons tb tNil))) σ H fun _ v H2 => kdP.R (a, b) v H2 :=
  ep_tupR (ρ := fun p : Str × Str => [.str p.1, .str p.2]) (b := (a, b)) (eu_tup (ea_cons ha (ea_cons hb ea_nil)) (by show 2 ≤ 100000; decide))
def LstK {β : Type} (k : Kd β) (bs : List β) (v : V) (H : Hp) : Prop := ∃ p ys, v = .ref p ∧ H p = some (.lst ys) ∧ k.L bs ys H
theorem LstK.ex {β : Type} {k : Kd β} {bs : List β} {v : V} (h : LstK k bs v H) (e : Ex H H') : LstK k bs v H' := by
  obtain ⟨p, ys, h1, h2, h3⟩ := h
  exact ⟨p, ys, h1, e _ _ h2, k.L_ex e h3⟩
theorem lk_new {β : Type} {k : Kd β} {bs : List β} (h : EvP te σ H (NewL k bs)) : EvP te σ H fun _ v H2 => LstK k bs v H2 := h.imp fun _ _ _ _ _ ⟨p, ys, h1, _, h3, h4⟩ => ⟨p, ys, h1, h3, h4⟩
theorem lk_var {β : Type} {k : Kd β} {bs : List β} {v : V} (h : Ev te σ H v) (hv : LstK k bs v H) : EvP te σ H fun _ v H2 => LstK k bs v H2 := fun H1 e1 Q q => h H1 e1 _ fun H2 e2 => q _ H2 e2 (hv.ex (e1.trans e2))
theorem ep_catK {β : Type} {k : Kd β} {as bs : List β} (h1 : EvP ta σ H fun _ v H2 => LstK k as v H2) (h2 : EvP tb σ H fun _ v H2 => LstK k bs v H2) (hz : as.length + bs.length ≤ 100000) : EvP (tOp rCat ta tb) σ H (NewL k (as ++ bs)) := fun H1 e1 Q q =>
  h1 H1 e1 _ fun x H2 e2 ⟨a, xs, hx, ha, ka⟩ => h2 H2 (e1.trans e2) _ fun y H3 e3 ⟨b, ys, hy, hb, kb⟩ => by
    subst hx; subst hy
    exact ⟨a, b, xs, ys, rfl, rfl, e3 _ _ ha, hb, by rw [← pair_len ka, ← pair_len kb]; exact sz_of hz, fun p hp => q _ _ ((e2.trans e3).trans (Ex.new hp)) ⟨p, xs ++ ys, rfl, fresh_back (e2.trans e3) hp, upd_same, pair_append (k.L_ex (e3.trans (Ex.new hp)) ka) (k.L_ex (Ex.new hp) kb)⟩⟩
theorem LstK.strs {ns : List Str} {v : V} (h : LstK (kdV V.str) ns v H) : ∃ p, v = .ref p ∧ H p = some (.lst (ns.map V.str)) := by
  obtain ⟨p, ys, h1, h2, h3⟩ := h
  exact ⟨p, h1, by rw [← kdV_L h3]; exact h2⟩
/-- xs[i:] + xs[:i] -/
theorem el_rot {α : Type} {ρ : α → V} {ns : List α} {p : Addr} {i : Nat} (h : ∀ H1, Ex H H1 → Ev ta σ H1 (.ref p)) (hp : H p = some (.lst (ns.map ρ))) (hi : ∀ H1, Ex H H1 → Ev tb σ H1 (.int i)) (hl : i ≤ ns.length) (hz : ns.length ≤ 1000) :
    EvL (tOp rCat (tSl (rSlL K) ta (tPart tb) tNoPart) (tSl (rSlL K) ta tNoPart (tPart tb))) σ H ((rot i ns).map ρ) := by
  have e1 : cutV (ns.map ρ) (some (i : Int)) none = (ns.drop i).map ρ := by
    unfold cutV
    rw [sIx_nat, sIx_none, List.length_map, show min i ns.length = i by omega, List.take_of_length_le (by rw [List.length_drop, List.length_map]; omega), List.map_drop]
  have e2 : cutV (ns.map ρ) none (some (i : Int)) = (ns.take i).map ρ := by
    unfold cutV
    rw [sIx_nat, sIx_none, List.length_map, show min i ns.length = i by omega, List.drop_zero, Nat.sub_zero, List.map_take]
  have e3 : (rot i ns).map ρ = (ns.drop i).map ρ ++ (ns.take i).map ρ := by unfold rot; rw [List.map_append]
  rw [e3, ← e1, ← e2]
  refine el_cat (la_new (el_sl (h H (Ex.refl _)) (eo_some (hi H (Ex.refl _))) eo_none (SqL.of hp))) (la_new (el_sl (h H (Ex.refl _)) eo_none (eo_some (hi H (Ex.refl _))) (SqL.of hp))) ?_
  rw [e1, e2, List.length_map, List.length_map, List.length_drop, List.length_take]
  omega
/-- displays of dicts, values plain -/
def EvPE (trs : List (TE × TE)) (σ : L2.St) (H : Hp) (kvs : List (Key × V)) : Prop := kvs.length = trs.length ∧ EvPs trs σ H fun _ k _ => k = kvs
theorem epe_nil : EvPE [] σ H [] := ⟨rfl, fun H1 e1 Q q => q [] H1 (Ex.refl _) rfl rfl⟩
theorem epe_cons {tk tv : TE} {trs : List (TE × TE)} {k : Key} {v : V} {kvs : List (Key × V)} (hk : Ev tk σ H (kV k)) (hv : Ev tv σ H v) (hr : EvPE trs σ H kvs) : EvPE ((tk, tv) :: trs) σ H ((k, v) :: kvs) :=
  ⟨by rw [List.length_cons, List.length_cons, hr.1], fun H1 e1 Q q => eps_cons hk (ep_ev hv) hr.2 H1 e1 Q fun kvs' H2 e2 hl ⟨v', r, Ha, Hb, h1, _, _, _, h2, h3⟩ => q kvs' H2 e2 hl (by rw [h1, h2, h3])⟩
theorem mergeK_nd : ∀ {more kvs : List (Key × V)}, ((kvs ++ more).map (·.1)).Nodup → mergeK kvs more = kvs ++ more
  | [], kvs, _ => by show kvs = _; rw [List.append_nil]
  | p :: r, kvs, h => by
    have hn : p.1 ∉ kvs.map (·.1) := by
      rw [List.map_append, List.nodup_append] at h
      exact fun z => h.2.2 _ z _ (by simp) rfl
    show mergeK (putK kvs p.1 p.2) r = _
    rw [putK_new hn, mergeK_nd (by rw [List.append_assoc]; exact h), List.append_assoc]
    rfl
theorem ep_dispK {trs : List (TE × TE)} {kvs : List (Key × V)} (h : EvPE trs σ H kvs) (hl : kvs.length ≤ 15) (nd : (kvs.map (·.1)).Nodup) : EvP (tDisp trs) σ H (NewO (.dK kvs)) := fun H1 e1 Q q =>
  ep_disp h.2 (by rw [← h.1]; exact hl) H1 e1 Q fun v H2 e2 ⟨p, k, H', hv, hp, e', hk, h2⟩ => q v H2 e2 ⟨p, hv, hp, by rw [h2, hk, mergeK_nd (by exact nd)]; exact upd_same⟩
/-- data by numbers -/
structure DatN (D : TD (Fin 6)) : Prop where
  nd : D.order.Nodup
  lo : 1 ≤ D.order.length
  hi : D.order.length ≤ 8
  few : D.pairs.length ≤ 64
  pin : ∀ p ∈ D.pairs, p.1 ∈ D.order ∧ p.2 ∈ D.order
  gnd : (D.gives.map (·.1)).Nodup
  gfew : D.gives.length ≤ 8
  gin : ∀ p ∈ D.gives, p.1 ∈ D.order ∧ (p.2 = 1 ∨ p.2 = 2)
  und : (D.above.map (·.1)).Nodup
  ufew : D.above.length ≤ 8
  uin : ∀ p ∈ D.above, p.1 ∈ D.order ∧ p.2 ∈ D.order
theorem nodup_map_inj {α β : Type} {f : α → β} (inj : ∀ a b, f a = f b → a = b) {l : List α} (h : l.Nodup) : (l.map f).Nodup := by
  rw [List.nodup_iff_pairwise_ne, List.pairwise_map]
  rw [List.nodup_iff_pairwise_ne] at h
  exact h.imp fun hab e => hab (inj _ _ e)
theorem DatN.ok {D : TD (Fin 6)} (h : DatN D) {f : Fin 6 → Str} (inj : ∀ a b, f a = f b → a = b) (hf : ∀ i, NameOk (f i)) : DatOk (D.map f) where
  modes := ⟨nodup_map_inj inj h.nd, by show 1 ≤ (D.order.map f).length; rw [List.length_map]; exact h.lo, by show (D.order.map f).length ≤ 8; rw [List.length_map]; exact h.hi, fun m hm => by
    obtain ⟨i, _, rfl⟩ := List.mem_map.mp hm
    exact hf i⟩
  few := by show (D.pairs.map _).length ≤ 64; rw [List.length_map]; exact h.few
  pin := fun p hp => by
    obtain ⟨q, hq, rfl⟩ := List.mem_map.mp hp
    exact ⟨List.mem_map_of_mem (h.pin q hq).1, List.mem_map_of_mem (h.pin q hq).2⟩
  gnd := by
    have : ((D.map f).gives.map (·.1)) = (D.gives.map (·.1)).map f := by
      show (D.gives.map _).map _ = _
      rw [List.map_map, List.map_map]; rfl
    rw [this]; exact nodup_map_inj inj h.gnd
  gfew := by show (D.gives.map _).length ≤ 100; rw [List.length_map]; exact Nat.le_trans h.gfew (by decide)
  gin := fun p hp => by
    obtain ⟨q, hq, rfl⟩ := List.mem_map.mp hp
    exact ⟨List.mem_map_of_mem (h.gin q hq).1, (h.gin q hq).2⟩
  und := by
    have : ((D.map f).above.map (·.1)) = (D.above.map (·.1)).map f := by
      show (D.above.map _).map _ = _
      rw [List.map_map, List.map_map]; rfl
    rw [this]; exact nodup_map_inj inj h.und
  ufew := by show (D.above.map _).length ≤ 100; rw [List.length_map]; exact Nat.le_trans h.ufew (by decide)
  uin := fun p hp => by
    obtain ⟨q, hq, rfl⟩ := List.mem_map.mp hp
    exact ⟨List.mem_map_of_mem (h.uin q hq).1, List.mem_map_of_mem (h.uin q hq).2⟩
instance (D : TD (Fin 6)) : Decidable (DatN D) :=
  decidable_of_iff (D.order.Nodup ∧ 1 ≤ D.order.length ∧ D.order.length ≤ 8 ∧ D.pairs.length ≤ 64 ∧ (∀ p ∈ D.pairs, p.1 ∈ D.order ∧ p.2 ∈ D.order) ∧ (D.gives.map (·.1)).Nodup ∧ D.gives.length ≤ 8 ∧ (∀ p ∈ D.gives, p.1 ∈ D.order ∧ (p.2 = 1 ∨ p.2 = 2)) ∧ (D.above.map (·.1)).Nodup ∧ D.above.length ≤ 8 ∧ (∀ p ∈ D.above, p.1 ∈ D.order ∧ p.2 ∈ D.order))
    ⟨fun ⟨a, b, c, d, e, f, g, h, i, j, k⟩ => ⟨a, b, c, d, e, f, g, h, i, j, k⟩, fun ⟨a, b, c, d, e, f, g, h, i, j, k⟩ => ⟨a, b, c, d, e, f, g, h, i, j, k⟩⟩
theorem usualN_dat : ∀ (b : Bool) (n : Fin 6), DatN (usualN b n.val) := by decide +kernel
theorem stairN_dat4 : ∀ (n : Fin 4), DatN (stairN true n.val) := by decide +kernel
theorem stairN_dat6 : ∀ (n : Fin 6), DatN (stairN false n.val) := by decide +kernel
/-- six names -/
def six (n0 n1 n2 n3 n4 n5 : Str) (i : Fin 6) : Str := [n0, n1, n2, n3, n4, n5][i.val]
theorem six_inj {n0 n1 n2 n3 n4 n5 : Str} (h : [n0, n1, n2, n3, n4, n5].Nodup) (a b : Fin 6) (e : six n0 n1 n2 n3 n4 n5 a = six n0 n1 n2 n3 n4 n5 b) : a = b := by
  unfold six at e
  exact Fin.ext ((List.getElem_inj h).mp e)
theorem six_ok {n0 n1 n2 n3 n4 n5 : Str} (h : ∀ m ∈ [n0, n1, n2, n3, n4, n5], NameOk m) (i : Fin 6) : NameOk (six n0 n1 n2 n3 n4 n5 i) := h _ (List.getElem_mem _)
theorem six_of {ns : List Str} (h : ns.length = 6) : ∃ n0 n1 n2 n3 n4 n5, ns = [n0, n1, n2, n3, n4, n5] := by
  match ns, h with
  | [n0, n1, n2, n3, n4, n5], _ => exact ⟨n0, n1, n2, n3, n4, n5, rfl⟩
/-- the data's dict, made -/
theorem data_disp {td_o td_p td_g td_u : TE} {a : List Str} {ps : List (Str × Str)} {b g u : Addr} {ys : List V} {gv uv : List (Key × V)} (ho : EvP td_o σ H fun _ v H2 => LstK (kdV V.str) a v H2) (hp : Ev td_p σ H (.ref b)) (hg : Ev td_g σ H (.ref g)) (hu : Ev td_u σ H (.ref u))
    (hb : H b = some (.lst ys)) (kb : kdP.L ps ys H) (hgv : H g = some (.dK gv)) (huv : H u = some (.dK uv)) (hD : DrawR Z H da) (ng : g ≠ da) (nu : u ≠ da) {D : TD Str} (e1 : D.order = a) (e2 : D.pairs = ps) (e3 : kvS (givW D) = gv) (e4 : kvS D.above = uv) :
    EvP (tDisp [(tC (.str "order"), td_o), (tC (.str "pairs"), td_p), (tC (.str "gives"), td_g), (tC (.str "above"), td_u)]) σ H fun _ v H2 => ∃ ga, v = .ref ga ∧ DataR H2 da ga D := fun H1 ex1 Q q =>
  ep_disp (eps_cons (k := .inr "order") ev_c ho (eps_cons (k := .inr "pairs") ev_c (ep_ev hp) (eps_cons (k := .inr "gives") ev_c (ep_ev hg) (eps_cons (k := .inr "above") ev_c (ep_ev hu) eps_nil)))) (by simp) H1 ex1 Q fun v H2 ex2 hv => by
    obtain ⟨p, kvs, H', rfl, hpn, e', hP, rfl⟩ := hv
    obtain ⟨v1, r1, Ha1, Hb1, rfl, ea1, eb1, ec1, hR1, hP⟩ := hP
    obtain ⟨v2, r2, Ha2, Hb2, rfl, ea2, eb2, ec2, hR2, hP⟩ := hP
    obtain ⟨v3, r3, Ha3, Hb3, rfl, ea3, eb3, ec3, hR3, hP⟩ := hP
    obtain ⟨v4, r4, Ha4, Hb4, rfl, ea4, eb4, ec4, hR4, rfl⟩ := hP
    obtain ⟨ca, zs, rfl, hc, hk⟩ := hR1
    subst hR2; subst hR3; subst hR4
    have nx : ∀ c o, H c = some o → c ≠ p := fun c o h z => by rw [z] at h; rw [ex1 _ _ h] at hpn; cases hpn
    have kk : ∀ c o, H c = some o → H' c = some o := fun c o h => e' _ _ (by rw [upd_ne (nx c o h)]; exact ex1 _ _ h)
    have hc' := ec1 _ _ hc
    rw [kdV_L hk] at hc'
    have hcp := disp_ne e' hc' (by intro z; cases z)
    have pda : p ≠ da := fun z => by
      obtain ⟨kvs, hl⟩ := (hD.ex ex1).live
      rw [z, hl] at hpn; cases hpn
    refine q _ _ ex2 ⟨p, rfl, ca, b, g, u, ys, ⟨?_, ?_, ?_, ?_, ?_, ?_⟩, pda, ng, nu⟩
    · exact upd_same
    · rw [upd_ne hcp, e1]; exact hc'
    · rw [upd_ne (nx _ _ hb)]; exact kk _ _ hb
    · rw [e2]
      exact kdP.L_mono (fun c xs hc => by rw [upd_ne (nx _ _ hc)]; exact kk _ _ hc) kb
    · rw [upd_ne (nx _ _ hgv), e3]; exact kk _ _ hgv
    · rw [upd_ne (nx _ _ huv), e4]; exact kk _ _ huv
end
end HT
set_option Elab.async false
set_option linter.all false
set_option maxRecDepth 100000
set_option maxHeartbeats 4000000
/-! the law's tables: stair, usual -/
namespace HT
open PySem PySem.Spec PyProof.Rows L2 Evl LamX
theorem rot_map {α β : Type} (f : α → β) (i : Nat) (l : List α) : (rot i l).map f = rot i (l.map f) := by
  unfold rot
  rw [List.map_append, List.map_drop, List.map_take]
section
variable {P : Program} {w : World} {K : PySem.W.Frag} {mg : Str → Option Value} {base : Heap} {C Dc Pt : Addr} {f : Addr} {fd : FuncData} {Z H H' : Hp} {da : Addr} {σ : L2.St} {ta tb te tc : TE} {D : Ends} {tz tu tw : TS}
theorem at_words {k : Nat} {E : XK} (ha : Ev ta σ H (.ref da)) (hb : ∀ H1, Ex H H1 → Ev tb σ H1 (.int k)) (hD : DrawR Z H da) (h1 : k ≤ 6) : At (tCall spWords [] E (tCons ta (tCons tb tNil))) σ H fun v H2 => ∃ p, ∃ ns : List Str, v = .ref p ∧ H p = none ∧ H2 p = some (.lst (ns.map V.str)) ∧ ns.length = k ∧ ns.Nodup ∧ (∀ m ∈ ns, NameOk m) ∧ DrawR Z H2 da ∧ Fr [da] [da] H H2 := fun Q q =>
  ha H (Ex.refl _) _ fun H1 e1 => hb H1 e1 H1 (Ex.refl _) _ fun H2 e2 => ⟨Z, da, k, rfl, hD.ex (e1.trans e2), h1, fun p ns H3 hpn hp hl nd ok hD3 f3 => q _ H3 ⟨p, ns, rfl, fresh_back (e1.trans e2) hpn, hp, hl, nd, ok, hD3, Fr.pre (e1.trans e2) f3⟩⟩
theorem el_new {α : Type} {ρ : α → V} {as : List α} (h : EvL te σ H (as.map ρ)) : EvP te σ H (NewL (kdV ρ) as) := fun H1 e1 Q q => h H1 e1 Q fun p H2 hn e2 hp => q _ H2 e2 ⟨p, _, rfl, hn, hp, kdV_of⟩
theorem ep_withN {n0 : Str} {l : Addr} {ns : List Str} {x0 x2 x3 x4 x5 x6 x8 x9 x10 x11 : Option V} (hl : H l = some (.lst (ns.map V.str))) (hz : ns.length ≤ 100) :
    EvP (tLc (iList K (tVar 7)) (gName 12) tYes (tTup (tCons (tVar 1) (tCons (tVar 12) tNil))) [12]) ([x0, some (.str n0), x2, x3, x4, x5, x6, some (.ref l), x8, x9, x10, x11, none] : L2.St) H (NewL kdP (ns.map fun m => (n0, m))) := by
  have hX := ep_lcW (σ := ([x0, some (.str n0), x2, x3, x4, x5, x6, some (.ref l), x8, x9, x10, x11, none] : L2.St)) (H := H) (te := tTup (tCons (tVar 1) (tCons (tVar 12) tNil))) (g := gName 12) (vs := [12]) (t := tYes) (fun _ : Str => true) (fun m : Str => (n0, m)) kdP
    (wk_list (K := K) (ka := kdV V.str) (ls_var (bs := ns) (ev_var (i := 7) (v := .ref l) rfl) ⟨l, _, rfl, SqL.of hl, kdV_of⟩)) (by omega)
    (fun m x H8 hi e8 hx => by
      have hx2 : x = V.str m := hx
      subst hx2
      exact ⟨rfl, Ex.refl _, et_yes, fun _ => ep_pair (ev_var (i := 1) rfl) (ev_var (i := 12) rfl)⟩)
    gname_mono
  rw [filt_true] at hX
  exact hX
theorem s_parP {i j : Nat} {P1 P2 : Hp → V → Hp → Prop} (h1 : EvP ta σ H P1) (h2 : ∀ v H1, Ex H H1 → P1 H v H1 → EvP tb σ H1 P2) (k : ∀ v w H1 H2, Ex H H1 → Ex H1 H2 → P1 H v H1 → P2 H1 w H2 → D.nx ((σ.set i (some v)).set j (some w)) H2) : tPar i j (tCons ta (tCons tb tNil)) D σ H :=
  h1 H (Ex.refl _) _ fun v H1 e1 p1 => h2 v H1 e1 p1 H1 (Ex.refl _) _ fun w H2 e2 p2 => ⟨v, w, rfl, k v w H1 H2 e1 e2 p1 p2⟩
theorem q_parP {i j : Nat} {P1 P2 : Hp → V → Hp → Prop} (h1 : EvP ta σ H P1) (h2 : ∀ v H1, Ex H H1 → P1 H v H1 → EvP tb σ H1 P2) (k : ∀ v w H1 H2, Ex H H1 → Ex H1 H2 → P1 H v H1 → P2 H1 w H2 → tz D ((σ.set i (some v)).set j (some w)) H2) : tSeq (tPar i j (tCons ta (tCons tb tNil))) tz D σ H :=
  s_parP (D := { D with nx := tz D }) h1 h2 k
theorem sc_law_stair : FnScope ["_law_draw", "_law_none", "_law_look", "_law_sees", "_law_full", "_law_more", "_law_last", "_law_some", "_law_pairs", "_law_worths", "_law_uppers", "_law_lead", "_law_one"] ["_law_draw"] (defScope s_law_stair) := ⟨rfl, rfl, rfl, by decide +kernel, rfl, by decide +kernel, by decide +kernel⟩
theorem ok_law_stair (F : FnT K "_law_stair" "_law_stair" s_law_stair [] [] f fd) (T : Txt K mg C Dc) (G_law_take : Atake P w K mg base) (G_law_words : Awords P w K mg base) : FnOk P w K mg base CX0 4 f fd ["_law_draw"] (spData true) := by
  refine F.ok sc_law_stair (fun vs H Q E ⟨_, _, h, _⟩ => by rw [h]; rfl) (fun cdv A outer s H vs Q E hr ⟨Z, da, hv, hD, q⟩ => ⟨_, PSs.nox (pss_cons (ps_asg (pe_callG G_law_words hr (by decide) (by rfl) (pa_cons (pv 0) (pa_cons pe_int pa_nil))) (pg_lstK (n := 6) K rfl rfl (pgs_cons (pg_name (i := 1) sc_law_stair.nd rfl (by first | exact Or.inl rfl | exact Or.inr rfl)) (pgs_cons (pg_name (i := 2) sc_law_stair.nd rfl (by first | exact Or.inl rfl | exact Or.inr rfl)) (pgs_cons (pg_name (i := 3) sc_law_stair.nd rfl (by first | exact Or.inl rfl | exact Or.inr rfl)) (pgs_cons (pg_name (i := 4) sc_law_stair.nd rfl (by first | exact Or.inl rfl | exact Or.inr rfl)) (pgs_cons (pg_name (i := 5) sc_law_stair.nd rfl (by first | exact Or.inl rfl | exact Or.inr rfl)) (pgs_cons (pg_name (i := 6) sc_law_stair.nd rfl (by first | exact Or.inl rfl | exact Or.inr rfl)) pgs_nil))))))))
    (pss_cons (ps_if (pt_cmpR op_eq (pe_callG G_law_take hr (by decide) (by rfl) (pa_cons (pv 0) (pa_cons pe_int pa_nil))) pe_int (nomark _)) (pss_cons (ps_set (i := 7) sc_law_stair.nd rfl (Or.inl rfl) (pe_lst (pa_cons (pv 1) (pa_cons (pv 2) (pa_cons (pv 3) (pa_cons (pv 4) pa_nil))))))
      (pss_cons (ps_set (i := 8) sc_law_stair.nd rfl (Or.inl rfl) (pe_op op_cat (pe_lc (own := [("_law_one", 12)]) rfl sc_law_stair.nd (pi_listK K rfl (pv 7)) (blkOk_by (by rfl)) (fun _ _ _ _ _ => (pg_name (i := 12) sc_law_stair.nd rfl (by first | exact Or.inl rfl | exact Or.inr rfl))) (fun _ _ _ _ _ => pts_nil) (fun _ _ _ _ _ => (pe_tup (pa_cons (pv 1) (pa_cons (pv 12) pa_nil))))) (pe_lst (pa_cons (pe_tup (pa_cons (pv 2) (pa_cons (pv 2) pa_nil))) (pa_cons (pe_tup (pa_cons (pv 2) (pa_cons (pv 3) pa_nil))) (pa_cons (pe_tup (pa_cons (pv 3) (pa_cons (pv 3) pa_nil))) pa_nil))))))
      (pss_one (ps_par (i := 9) (j := 10) rfl sc_law_stair.nd rfl rfl (by decide) rfl rfl (pa_cons (pe_disp (pps_cons (pv 3) pe_str (pps_cons (pv 4) pe_str pps_nil)) (by rfl) (by rfl) (by simp) (by decide)) (pa_cons (pe_disp (pps_cons (pv 2) (pv 1) (pps_cons (pv 3) (pv 2) pps_nil)) (by rfl) (by rfl) (by simp) (by decide)) pa_nil)) (by rfl))))) (pss_cons (ps_set (i := 7) sc_law_stair.nd rfl (Or.inl rfl) (pe_lst (pa_cons (pv 1) (pa_cons (pv 2) (pa_cons (pv 3) (pa_cons (pv 4) (pa_cons (pv 5) (pa_cons (pv 6) pa_nil))))))))
      (pss_cons (ps_set (i := 8) sc_law_stair.nd rfl (Or.inl rfl) (pe_op op_cat (pe_lc (own := [("_law_one", 12)]) rfl sc_law_stair.nd (pi_listK K rfl (pv 7)) (blkOk_by (by rfl)) (fun _ _ _ _ _ => (pg_name (i := 12) sc_law_stair.nd rfl (by first | exact Or.inl rfl | exact Or.inr rfl))) (fun _ _ _ _ _ => pts_nil) (fun _ _ _ _ _ => (pe_tup (pa_cons (pv 1) (pa_cons (pv 12) pa_nil))))) (pe_lst (pa_cons (pe_tup (pa_cons (pv 2) (pa_cons (pv 2) pa_nil))) (pa_cons (pe_tup (pa_cons (pv 2) (pa_cons (pv 4) pa_nil))) (pa_cons (pe_tup (pa_cons (pv 4) (pa_cons (pv 4) pa_nil))) pa_nil))))))
      (pss_cons (ps_set (i := 8) sc_law_stair.nd rfl (Or.inl rfl) (pe_op op_cat (pv 8) (pe_lst (pa_cons (pe_tup (pa_cons (pv 3) (pa_cons (pv 3) pa_nil))) (pa_cons (pe_tup (pa_cons (pv 3) (pa_cons (pv 5) pa_nil))) (pa_cons (pe_tup (pa_cons (pv 5) (pa_cons (pv 5) pa_nil))) pa_nil))))))
      (pss_one (ps_par (i := 9) (j := 10) rfl sc_law_stair.nd rfl rfl (by decide) rfl rfl (pa_cons (pe_disp (pps_cons (pv 4) pe_str (pps_cons (pv 5) pe_str (pps_cons (pv 6) pe_str pps_nil))) (by rfl) (by rfl) (by simp) (by decide)) (pa_cons (pe_disp (pps_cons (pv 4) (pv 2) (pps_cons (pv 5) (pv 3) (pps_cons (pv 6) (pv 1) pps_nil))) (by rfl) (by rfl) (by simp) (by decide)) pa_nil)) (by rfl)))))))
    (pss_cons (ps_set (i := 11) sc_law_stair.nd rfl (Or.inl rfl) (pe_callG G_law_take hr (by decide) (by rfl) (pa_cons (pv 0) (pa_cons (pe_callB (call_len_seqK K rfl) (by rfl) T.fLen boot_len (pa_cons (pv 7) pa_nil)) pa_nil))))
    (pss_one (ps_ret (pe_disp (pps_cons pe_str (pe_op op_cat (pe_slice (sl_listK K rfl) (pv 7) (po_some (pv 11)) po_none) (pe_slice (sl_listK K rfl) (pv 7) po_none (po_some (pv 11)))) (pps_cons pe_str (pv 8) (pps_cons pe_str (pv 9) (pps_cons pe_str (pv 10) pps_nil)))) (by rfl) (by rfl) (by simp) (by decide))))))), ?_⟩)
  subst hv
  refine at_words (σ := start ["_law_draw", "_law_none", "_law_look", "_law_sees", "_law_full", "_law_more", "_law_last", "_law_some", "_law_pairs", "_law_worths", "_law_uppers", "_law_lead", "_law_one"] [.ref da]) (k := 6) (ev_var (i := 0) (v := .ref da) rfl) (fun _ _ => ev_c) hD (by decide) _ fun v H1 ⟨p, ns, hv, hpn, hp, hlen, hnd, hok, hD1, f1⟩ => ?_
  subst hv
  obtain ⟨n0, n1, n2, n3, n4, n5, rfl⟩ := six_of hlen
  refine ⟨p, _, rfl, SqL.of hp, rfl, _, _, rfl, _, _, rfl, _, _, rfl, _, _, rfl, _, _, rfl, _, _, rfl, rfl, ?_⟩
  show tSeq _ _ _ ([some (.ref da), some (.str n0), some (.str n1), some (.str n2), some (.str n3), some (.str n4), some (.str n5), none, none, none, none, none, none] : L2.St) H1
  have inj := six_inj hnd
  have six := six_ok hok
  have nd2 : ∀ (a b : Fin 6), a ≠ b → HT.six n0 n1 n2 n3 n4 n5 a ≠ HT.six n0 n1 n2 n3 n4 n5 b := fun a b n e => n (inj a b e)
  have core : ∀ (Dl : Nat → TD Str) (some7 : List Str) (ps : List (Str × Str)) (gv uv : List (Key × V)) (l b g u : Addr) (H5 : Hp), some7.length ≤ 6 → 0 < some7.length → (∀ i, i < some7.length → (Dl i).order = rot i some7 ∧ (Dl i).pairs = ps ∧ kvS (givW (Dl i)) = gv ∧ kvS (Dl i).above = uv ∧ DatOk (Dl i) ∧ (Dl i).clean = true) →
      H5 l = some (.lst (some7.map V.str)) → LstK kdP ps (.ref b) H5 → H5 g = some (.dK gv) → H5 u = some (.dK uv) → g ≠ da → u ≠ da → DrawR Z H5 da → Fr [da] [da] H H5 →
      tSeq (tAsg (tCall spTake [] E0 (tCons (tVar 0) (tCons (tCB (rLenQ K) (tCons (tVar 7) tNil)) tNil))) (gName 11))
        (tRet (tDisp [(tC (.str "order"), tOp rCat (tSl (rSlL K) (tVar 7) (tPart (tVar 11)) tNoPart) (tSl (rSlL K) (tVar 7) tNoPart (tPart (tVar 11)))), (tC (.str "pairs"), tVar 8), (tC (.str "gives"), tVar 9), (tC (.str "above"), tVar 10)]))
        { nx := fun _ H' => Q .non H', rt := Q } ([some (.ref da), some (.str n0), some (.str n1), some (.str n2), some (.str n3), some (.str n4), some (.str n5), some (.ref l), some (.ref b), some (.ref g), some (.ref u), none, none] : L2.St) H5 := by
    intro Dl some7 ps gv uv l b g u H5 h6 h0 hDl hl hb hg hu ng nu hD5 f5
    refine q_asgA (at_take (k := some7.length) (ev_var (i := 0) (v := .ref da) rfl) (fun H6 e6 => ev_is (ev_lenL (ev_var (i := 7) rfl) (SqL.of (e6 _ _ hl))) (by rw [List.length_map])) hD5 h0 (by omega)) fun v H6 ⟨i, hv, hi, hD6, f6⟩ => ?_
    subst hv
    obtain ⟨d1, d2, d3, d4, d5, d6⟩ := hDl i hi
    obtain ⟨b', ys, hbe, hb1, hb2⟩ := hb
    cases hbe
    obtain ⟨kvs, hdl⟩ := hD5.live
    have ne : ∀ {c : Addr} {xs : List V}, H5 c = some (.lst xs) → c ∉ [da] := fun h z => by
      rw [List.mem_singleton.mp z, hdl] at h; cases h
    have hg6 := f6.keep (by simpa using ng) hg
    have hu6 := f6.keep (by simpa using nu) hu
    have hl6 := f6.keep (ne hl) hl
    have hb6 := f6.keep (ne hb1) hb1
    have kb6 := kdP.L_mono f6.2.2 hb2
    refine s_retP (data_disp (D := Dl i) (da := da) (Z := Z) (a := rot i some7) (lk_new (el_new (el_rot (ns := some7) (ρ := V.str) (i := i) (p := l) (fun _ _ => ev_var (i := 7) rfl) hl6 (fun _ _ => ev_var (i := 11) rfl) (by omega) (by omega)))) (ev_var (i := 8) rfl) (ev_var (i := 9) rfl) (ev_var (i := 10) rfl) hb6 kb6 hg6 hu6 hD6 ng nu d1 d2 d3 d4) fun v H7 e7 ⟨ga, hv, hR⟩ => ?_
    subst hv
    exact q ga (Dl i) H7 hR d5 (fun _ => d6) (hD6.ex e7) ((f5.trans f6).ex e7)
  refine tt_eqA (R := fun i H3 => DrawR Z H3 da ∧ Fr [da] [da] H1 H3) (at_take (k := 2) (ev_var (i := 0) (v := .ref da) rfl) (fun _ _ => ev_c) hD1 (by decide) (by decide) |>.imp fun v H2 ⟨i, h1, h2⟩ => ⟨(i : Int), h1, h2.2⟩) fun i H2 ⟨hD2, f2⟩ => ?_
  cases decide (i = 0) with
  | true =>
    rw [if_pos rfl]
    refine q_asgL (el_lst (vs := [n0, n1, n2, n3].map V.str) (ea_cons (ev_var (i := 1) rfl) (ea_cons (ev_var (i := 2) rfl) (ea_cons (ev_var (i := 3) rfl) (ea_cons (ev_var (i := 4) rfl) ea_nil)))) (by show 4 ≤ 100000; decide)) fun l H3 hln e3 hl => ?_
    show tSeq _ _ _ ([some (.ref da), some (.str n0), some (.str n1), some (.str n2), some (.str n3), some (.str n4), some (.str n5), some (.ref l), none, none, none, none, none] : L2.St) H3
    have hD3 := hD2.ex e3
    refine q_asgN (ep_catK (k := kdP) (lk_new (ep_withN (K := K) hl (by show 4 ≤ 100; decide))) (lk_new (ep_lstK (k := kdP) (bs := [(n1, n1), (n1, n2), (n2, n2)]) (eak_cons (ep_pair (ev_var (i := 2) rfl) (ev_var (i := 2) rfl)) (eak_cons (ep_pair (ev_var (i := 2) rfl) (ev_var (i := 3) rfl)) (eak_cons (ep_pair (ev_var (i := 3) rfl) (ev_var (i := 3) rfl)) eak_nil))) (by show 3 ≤ 100000; decide))) (by show 4 + 3 ≤ 100000; decide)) fun b ys H4 hbn e4 hb kb => ?_
    show tPar _ _ _ _ ([some (.ref da), some (.str n0), some (.str n1), some (.str n2), some (.str n3), some (.str n4), some (.str n5), some (.ref l), some (.ref b), none, none, none, none] : L2.St) H4
    have hD4 := hD3.ex e4
    refine s_parP (ep_dispK (kvs := [(.inr n2, .str "see"), (.inr n3, .str "change")]) (epe_cons (k := .inr n2) (ev_var (i := 3) rfl) ev_c (epe_cons (k := .inr n3) (ev_var (i := 4) rfl) ev_c epe_nil)) (by show 2 ≤ 15; decide) (by simp at hnd; simp [hnd]))
      (fun _ _ _ _ => ep_dispK (kvs := [(.inr n1, .str n0), (.inr n2, .str n1)]) (epe_cons (k := .inr n1) (ev_var (i := 2) rfl) (ev_var (i := 1) rfl) (epe_cons (k := .inr n2) (ev_var (i := 3) rfl) (ev_var (i := 2) rfl) epe_nil)) (by show 2 ≤ 15; decide) (by simp at hnd; simp [hnd])) fun v v2 H5 H6 e5 e6 ⟨g, hv, hgn, hg⟩ ⟨u, hv2, hun, hu⟩ => ?_
    subst hv; subst hv2
    refine core (fun i => (stairN true i).map (HT.six n0 n1 n2 n3 n4 n5)) [n0, n1, n2, n3] ([(n0, n0), (n0, n1), (n0, n2), (n0, n3)] ++ [(n1, n1), (n1, n2), (n2, n2)]) _ _ l b g u H6 (by simp) (by simp) (fun i hi => ⟨rot_map _ i [0, 1, 2, 3], rfl, rfl, rfl, (stairN_dat4 ⟨i, hi⟩).ok inj six, ?_⟩) ((e4.trans (e5.trans e6)) _ _ hl) ⟨b, ys, rfl, (e5.trans e6) _ _ hb, kdP.L_ex (e5.trans e6) kb⟩ (e6 _ _ hg) hu (hD4.ne hgn).1 ((hD4.ex e5).ne hun).1 (hD4.ex (e5.trans e6)) ((((f1.trans f2).ex e3).ex e4).ex (e5.trans e6))
    rw [TD.clean_map inj]
    exact stairN_clean4 ⟨i, hi⟩
  | false =>
    rw [if_neg (by decide)]
    refine q_asgL (el_lst (vs := [n0, n1, n2, n3, n4, n5].map V.str) (ea_cons (ev_var (i := 1) rfl) (ea_cons (ev_var (i := 2) rfl) (ea_cons (ev_var (i := 3) rfl) (ea_cons (ev_var (i := 4) rfl) (ea_cons (ev_var (i := 5) rfl) (ea_cons (ev_var (i := 6) rfl) ea_nil)))))) (by show 6 ≤ 100000; decide)) fun l H3 hln e3 hl => ?_
    show tSeq _ _ _ ([some (.ref da), some (.str n0), some (.str n1), some (.str n2), some (.str n3), some (.str n4), some (.str n5), some (.ref l), none, none, none, none, none] : L2.St) H3
    have hD3 := hD2.ex e3
    refine q_asgN (ep_catK (k := kdP) (lk_new (ep_withN (K := K) hl (by show 6 ≤ 100; decide))) (lk_new (ep_lstK (k := kdP) (bs := [(n1, n1), (n1, n3), (n3, n3)]) (eak_cons (ep_pair (ev_var (i := 2) rfl) (ev_var (i := 2) rfl)) (eak_cons (ep_pair (ev_var (i := 2) rfl) (ev_var (i := 4) rfl)) (eak_cons (ep_pair (ev_var (i := 4) rfl) (ev_var (i := 4) rfl)) eak_nil))) (by show 3 ≤ 100000; decide))) (by show 6 + 3 ≤ 100000; decide)) fun b0 ys0 H4 hbn0 e4 hb0 kb0 => ?_
    show tSeq _ _ _ ([some (.ref da), some (.str n0), some (.str n1), some (.str n2), some (.str n3), some (.str n4), some (.str n5), some (.ref l), some (.ref b0), none, none, none, none] : L2.St) H4
    have hD4 := hD3.ex e4
    refine q_asgN (ep_catK (k := kdP) (lk_var (ev_var (i := 8) rfl) ⟨b0, ys0, rfl, hb0, kb0⟩) (lk_new (ep_lstK (k := kdP) (bs := [(n2, n2), (n2, n4), (n4, n4)]) (eak_cons (ep_pair (ev_var (i := 3) rfl) (ev_var (i := 3) rfl)) (eak_cons (ep_pair (ev_var (i := 3) rfl) (ev_var (i := 5) rfl)) (eak_cons (ep_pair (ev_var (i := 5) rfl) (ev_var (i := 5) rfl)) eak_nil))) (by show 3 ≤ 100000; decide))) (by show 9 + 3 ≤ 100000; decide)) fun b ys H7 hbn e7 hb kb => ?_
    show tPar _ _ _ _ ([some (.ref da), some (.str n0), some (.str n1), some (.str n2), some (.str n3), some (.str n4), some (.str n5), some (.ref l), some (.ref b), none, none, none, none] : L2.St) H7
    have hD7 := hD4.ex e7
    refine s_parP (ep_dispK (kvs := [(.inr n3, .str "see"), (.inr n4, .str "see"), (.inr n5, .str "see")]) (epe_cons (k := .inr n3) (ev_var (i := 4) rfl) ev_c (epe_cons (k := .inr n4) (ev_var (i := 5) rfl) ev_c (epe_cons (k := .inr n5) (ev_var (i := 6) rfl) ev_c epe_nil))) (by show 3 ≤ 15; decide) (by simp at hnd; simp [hnd]))
      (fun _ _ _ _ => ep_dispK (kvs := [(.inr n3, .str n1), (.inr n4, .str n2), (.inr n5, .str n0)]) (epe_cons (k := .inr n3) (ev_var (i := 4) rfl) (ev_var (i := 2) rfl) (epe_cons (k := .inr n4) (ev_var (i := 5) rfl) (ev_var (i := 3) rfl) (epe_cons (k := .inr n5) (ev_var (i := 6) rfl) (ev_var (i := 1) rfl) epe_nil))) (by show 3 ≤ 15; decide) (by simp at hnd; simp [hnd])) fun v v2 H5 H6 e5 e6 ⟨g, hv, hgn, hg⟩ ⟨u, hv2, hun, hu⟩ => ?_
    subst hv; subst hv2
    refine core (fun i => (stairN false i).map (HT.six n0 n1 n2 n3 n4 n5)) [n0, n1, n2, n3, n4, n5] _ _ _ l b g u H6 (by simp) (by simp) (fun i hi => ⟨rot_map _ i [0, 1, 2, 3, 4, 5], rfl, rfl, rfl, (stairN_dat6 ⟨i, hi⟩).ok inj six, ?_⟩) ((e4.trans (e7.trans (e5.trans e6))) _ _ hl) ⟨b, ys, rfl, (e5.trans e6) _ _ hb, kdP.L_ex (e5.trans e6) kb⟩ (e6 _ _ hg) hu (hD7.ne hgn).1 ((hD7.ex e5).ne hun).1 (hD7.ex (e5.trans e6)) (((((f1.trans f2).ex e3).ex e4).ex e7).ex (e5.trans e6))
    rw [TD.clean_map inj]
    exact stairN_clean6 ⟨i, hi⟩
theorem g_putS {to ti : TE} {p : Addr} {k : Str} {kvs : List (Key × V)} {v : V} {Q : L2.St → Hp → Prop} (ho : Ev to σ H (.ref p)) (hi : Ev ti σ H (.str k)) (hp : H p = some (.dK kvs)) (hl : kvs.length < 100000) (kk : ∀ H1, Ex H H1 → Q σ (upd H1 p (.dK (putK kvs (.inr k) v)))) : gSub to ti rSetD v σ H Q :=
  ho H (Ex.refl _) _ fun H1 e1 => hi H1 e1 _ fun H2 e2 => ⟨p, _, rfl, DPut.k (k := Sum.inr k) ((e1.trans e2) _ _ hp) (sz_lt hl), kk H2 (e1.trans e2)⟩
theorem sc_law_usual_like : FnScope ["_law_draw", "_law_names", "_law_look", "_law_work", "_law_sees", "_law_both", "_law_changes", "_law_more", "_law_pairs", "_law_worths", "_law_uppers", "_law_row_of", "_law_lead"] ["_law_draw"] (defScope s_law_usual_like) := ⟨rfl, rfl, rfl, by decide +kernel, rfl, by decide +kernel, by decide +kernel⟩
theorem ok_law_usual (F : FnT K "_law_usual_like" "_law_usual_like" s_law_usual_like [] [] f fd) (T : Txt K mg C Dc) (G_law_take : Atake P w K mg base) (G_law_words : Awords P w K mg base) (G_law_stair : GF P w K mg base "_law_stair" ["_law_draw"] [] 4 (spData true)) : FnOk P w K mg base CX0 5 f fd ["_law_draw"] (spData true) := by
  refine F.ok sc_law_usual_like (fun vs H Q E ⟨_, _, h, _⟩ => by rw [h]; rfl) (fun cdv A outer s H vs Q E hr ⟨Z, da, hv, hD, q⟩ => ⟨_, PSs.nox (pss_cons (ps_if (pt_cmpR op_eq (pe_callG G_law_take hr (by decide) (by rfl) (pa_cons (pv 0) (pa_cons pe_int pa_nil))) pe_int (nomark _)) (pss_one (ps_ret (pe_callG G_law_stair hr (by decide) (by rfl) (pa_cons (pv 0) pa_nil)))) pss_nil)
    (pss_cons (ps_set (i := 1) sc_law_usual_like.nd rfl (Or.inl rfl) (pe_callG G_law_words hr (by decide) (by rfl) (pa_cons (pv 0) (pa_cons pe_int pa_nil))))
    (pss_cons (ps_asg (pv 1) (pg_lstK (n := 6) K rfl rfl (pgs_cons (pg_name (i := 2) sc_law_usual_like.nd rfl (by first | exact Or.inl rfl | exact Or.inr rfl)) (pgs_cons (pg_name (i := 3) sc_law_usual_like.nd rfl (by first | exact Or.inl rfl | exact Or.inr rfl)) (pgs_cons (pg_name (i := 4) sc_law_usual_like.nd rfl (by first | exact Or.inl rfl | exact Or.inr rfl)) (pgs_cons (pg_name (i := 5) sc_law_usual_like.nd rfl (by first | exact Or.inl rfl | exact Or.inr rfl)) (pgs_cons (pg_name (i := 6) sc_law_usual_like.nd rfl (by first | exact Or.inl rfl | exact Or.inr rfl)) (pgs_cons (pg_name (i := 7) sc_law_usual_like.nd rfl (by first | exact Or.inl rfl | exact Or.inr rfl)) pgs_nil))))))))
    (pss_cons (ps_set (i := 8) sc_law_usual_like.nd rfl (Or.inl rfl) (pe_lst (pa_cons (pe_tup (pa_cons (pv 2) (pa_cons (pv 2) pa_nil))) (pa_cons (pe_tup (pa_cons (pv 2) (pa_cons (pv 3) pa_nil))) (pa_cons (pe_tup (pa_cons (pv 2) (pa_cons (pv 4) pa_nil))) (pa_cons (pe_tup (pa_cons (pv 2) (pa_cons (pv 5) pa_nil))) (pa_cons (pe_tup (pa_cons (pv 3) (pa_cons (pv 3) pa_nil))) (pa_cons (pe_tup (pa_cons (pv 4) (pa_cons (pv 4) pa_nil))) pa_nil))))))))
    (pss_cons (ps_set (i := 9) sc_law_usual_like.nd rfl (Or.inl rfl) (pe_disp (pps_cons (pv 4) pe_str (pps_cons (pv 5) pe_str (pps_cons (pv 6) pe_str pps_nil))) (by rfl) (by rfl) (by simp) (by decide)))
    (pss_cons (ps_set (i := 10) sc_law_usual_like.nd rfl (Or.inl rfl) (pe_disp (pps_cons (pv 4) (pv 2) (pps_cons (pv 5) (pv 3) (pps_cons (pv 6) (pv 3) pps_nil))) (by rfl) (by rfl) (by simp) (by decide)))
    (pss_cons (ps_set (i := 11) sc_law_usual_like.nd rfl (Or.inl rfl) (pe_slice (sl_listK K rfl) (pv 1) po_none (po_some pe_int)))
    (pss_cons (ps_if (pt_cmpR op_eq (pe_callG G_law_take hr (by decide) (by rfl) (pa_cons (pv 0) (pa_cons pe_int pa_nil))) pe_int (nomark _)) (pss_cons (ps_par (i := 8) (j := 11) rfl sc_law_usual_like.nd rfl rfl (by decide) rfl rfl (pa_cons (pe_op op_cat (pv 8) (pe_lst (pa_cons (pe_tup (pa_cons (pv 7) (pa_cons (pv 2) pa_nil))) (pa_cons (pe_tup (pa_cons (pv 4) (pa_cons (pv 7) pa_nil))) pa_nil)))) (pa_cons (pe_op op_cat (pv 11) (pe_lst (pa_cons (pv 7) pa_nil))) pa_nil)) (by rfl))
      (pss_one (ps_asg (pe_tup (pa_cons pe_str (pa_cons (pv 2) pa_nil))) (pg_tupK (n := 2) K rfl rfl (pgs_cons (pg_sub (pv 9) (pv 7) (set_dict (hu_of hr))) (pgs_cons (pg_sub (pv 10) (pv 7) (set_dict (hu_of hr))) pgs_nil)))))) pss_nil)
    (pss_cons (ps_set (i := 12) sc_law_usual_like.nd rfl (Or.inl rfl) (pe_callG G_law_take hr (by decide) (by rfl) (pa_cons (pv 0) (pa_cons pe_int pa_nil))))
    (pss_cons (ps_set (i := 11) sc_law_usual_like.nd rfl (Or.inl rfl) (pe_op op_cat (pe_slice (sl_listK K rfl) (pv 11) (po_some (pv 12)) po_none) (pe_slice (sl_listK K rfl) (pv 11) po_none (po_some (pv 12)))))
    (pss_one (ps_ret (pe_disp (pps_cons pe_str (pv 11) (pps_cons pe_str (pv 8) (pps_cons pe_str (pv 9) (pps_cons pe_str (pv 10) pps_nil)))) (by rfl) (by rfl) (by simp) (by decide)))))))))))))), ?_⟩)
  subst hv
  refine tt_eqA (R := fun i H3 => DrawR Z H3 da ∧ Fr [da] [da] H H3) (at_take (σ := start ["_law_draw", "_law_names", "_law_look", "_law_work", "_law_sees", "_law_both", "_law_changes", "_law_more", "_law_pairs", "_law_worths", "_law_uppers", "_law_row_of", "_law_lead"] [.ref da]) (k := 5) (ev_var (i := 0) (v := .ref da) rfl) (fun _ _ => ev_c) hD (by decide) (by decide) |>.imp fun v H2 ⟨i, h1, h2⟩ => ⟨(i : Int), h1, h2.2⟩) fun i H0 ⟨hD0, f0⟩ => ?_
  cases decide (i = 0) with
  | true =>
    rw [if_pos rfl]
    exact ⟨.ref da, rfl, Z, da, rfl, hD0, fun ga D H' h1 h2 h3 h4 h5 => q ga D H' h1 h2 h3 h4 (f0.trans h5)⟩
  | false =>
    rw [if_neg (by decide)]
    refine q_asgA (at_words (σ := start ["_law_draw", "_law_names", "_law_look", "_law_work", "_law_sees", "_law_both", "_law_changes", "_law_more", "_law_pairs", "_law_worths", "_law_uppers", "_law_row_of", "_law_lead"] [.ref da]) (k := 6) (ev_var (i := 0) (v := .ref da) rfl) (fun _ _ => ev_c) hD0 (by decide)) fun v H1 ⟨p, ns, hv, hpn, hp, hlen, hnd, hok, hD1, f1⟩ => ?_
    subst hv
    obtain ⟨n0, n1, n2, n3, n4, n5, rfl⟩ := six_of hlen
    refine ⟨.ref p, rfl, p, _, rfl, SqL.of hp, rfl, _, _, rfl, _, _, rfl, _, _, rfl, _, _, rfl, _, _, rfl, _, _, rfl, rfl, ?_⟩
    show tSeq _ _ _ ([some (.ref da), some (.ref p), some (.str n0), some (.str n1), some (.str n2), some (.str n3), some (.str n4), some (.str n5), none, none, none, none, none] : L2.St) H1
    have inj := six_inj hnd
    have six := six_ok hok
    have f01 := f0.trans f1
    have core : ∀ (more : Bool) (row : List Str) (ps : List (Str × Str)) (gv uv : List (Key × V)) (l b g u : Addr) (H5 : Hp), row.length ≤ 6 → 5 ≤ row.length → (∀ i, i < 6 → ((usualN more i).map (HT.six n0 n1 n2 n3 n4 n5)).order = rot i row ∧ ((usualN more i).map (HT.six n0 n1 n2 n3 n4 n5)).pairs = ps ∧ kvS (givW ((usualN more i).map (HT.six n0 n1 n2 n3 n4 n5))) = gv ∧ kvS ((usualN more i).map (HT.six n0 n1 n2 n3 n4 n5)).above = uv) →
        H5 l = some (.lst (row.map V.str)) → LstK kdP ps (.ref b) H5 → H5 g = some (.dK gv) → H5 u = some (.dK uv) → g ≠ da → u ≠ da → DrawR Z H5 da → Fr [da] [da] H H5 →
        tSeq (tAsg (tCall spTake [] E0 (tCons (tVar 0) (tCons (tC (.int 6)) tNil))) (gName 12))
          (tSeq (tAsg (tOp rCat (tSl (rSlL K) (tVar 11) (tPart (tVar 12)) tNoPart) (tSl (rSlL K) (tVar 11) tNoPart (tPart (tVar 12)))) (gName 11))
          (tRet (tDisp [(tC (.str "order"), tVar 11), (tC (.str "pairs"), tVar 8), (tC (.str "gives"), tVar 9), (tC (.str "above"), tVar 10)])))
          { nx := fun _ H' => Q .non H', rt := Q } ([some (.ref da), some (.ref p), some (.str n0), some (.str n1), some (.str n2), some (.str n3), some (.str n4), some (.str n5), some (.ref b), some (.ref g), some (.ref u), some (.ref l), none] : L2.St) H5 := by
      intro more row ps gv uv l b g u H5 h6 h0 hDl hl hb hg hu ng nu hD5 f5
      refine q_asgA (at_take (k := 6) (ev_var (i := 0) (v := .ref da) rfl) (fun _ _ => ev_c) hD5 (by decide) (by decide)) fun v H6 ⟨i, hv, hi, hD6, f6⟩ => ?_
      subst hv
      obtain ⟨d1, d2, d3, d4⟩ := hDl i hi
      obtain ⟨b', ys, hbe, hb1, hb2⟩ := hb
      cases hbe
      obtain ⟨kvs, hdl⟩ := hD5.live
      have ne : ∀ {c : Addr} {xs : List V}, H5 c = some (.lst xs) → c ∉ [da] := fun h z => by
        rw [List.mem_singleton.mp z, hdl] at h; cases h
      have hg6 := f6.keep (by simpa using ng) hg
      have hu6 := f6.keep (by simpa using nu) hu
      have hl6 := f6.keep (ne hl) hl
      have hb6 := f6.keep (ne hb1) hb1
      have kb6 := kdP.L_mono f6.2.2 hb2
      refine q_asgL (el_rot (ns := row) (ρ := V.str) (i := i) (p := l) (fun _ _ => ev_var (i := 11) rfl) hl6 (fun _ _ => ev_var (i := 12) rfl) (by omega) (by omega)) fun l2 H7 hln e7 hl7 => ?_
      refine s_retP (data_disp (D := (usualN more i).map (HT.six n0 n1 n2 n3 n4 n5)) (da := da) (Z := Z) (a := rot i row) (lk_var (ev_var (i := 11) (v := .ref l2) rfl) ⟨l2, _, rfl, hl7, kdV_of⟩) (ev_var (i := 8) rfl) (ev_var (i := 9) rfl) (ev_var (i := 10) rfl) (e7 _ _ hb6) (kdP.L_ex e7 kb6) (e7 _ _ hg6) (e7 _ _ hu6) (hD6.ex e7) ng nu d1 d2 d3 d4) fun v H8 e8 ⟨ga, hv, hR⟩ => ?_
      subst hv
      exact q ga _ H8 hR ((usualN_dat more ⟨i, hi⟩).ok inj six) (fun _ => by rw [TD.clean_map inj]; exact usualN_clean more ⟨i, hi⟩) (hD6.ex (e7.trans e8)) ((f5.trans f6).ex (e7.trans e8))
    refine q_asgN (ep_lstK (k := kdP) (bs := [(n0, n0), (n0, n1), (n0, n2), (n0, n3), (n1, n1), (n2, n2)]) (eak_cons (ep_pair (ev_var (i := 2) rfl) (ev_var (i := 2) rfl)) (eak_cons (ep_pair (ev_var (i := 2) rfl) (ev_var (i := 3) rfl)) (eak_cons (ep_pair (ev_var (i := 2) rfl) (ev_var (i := 4) rfl)) (eak_cons (ep_pair (ev_var (i := 2) rfl) (ev_var (i := 5) rfl)) (eak_cons (ep_pair (ev_var (i := 3) rfl) (ev_var (i := 3) rfl)) (eak_cons (ep_pair (ev_var (i := 4) rfl) (ev_var (i := 4) rfl)) eak_nil)))))) (by show 6 ≤ 100000; decide)) fun b ys H2 hbn e2 hb kb => ?_
    have hD2 := hD1.ex e2
    refine q_asgA (At.ofP (ep_dispK (kvs := [(.inr n2, .str "see"), (.inr n3, .str "see"), (.inr n4, .str "change")]) (epe_cons (k := .inr n2) (ev_var (i := 4) rfl) ev_c (epe_cons (k := .inr n3) (ev_var (i := 5) rfl) ev_c (epe_cons (k := .inr n4) (ev_var (i := 6) rfl) ev_c epe_nil))) (by show 3 ≤ 15; decide) (by simp at hnd; simp [hnd]))) fun v H3 ⟨⟨g, hv, hgn, hg⟩, e3⟩ => ?_
    subst hv
    have hD3 := hD2.ex e3
    refine q_asgA (At.ofP (ep_dispK (kvs := [(.inr n2, .str n0), (.inr n3, .str n1), (.inr n4, .str n1)]) (epe_cons (k := .inr n2) (ev_var (i := 4) rfl) (ev_var (i := 2) rfl) (epe_cons (k := .inr n3) (ev_var (i := 5) rfl) (ev_var (i := 3) rfl) (epe_cons (k := .inr n4) (ev_var (i := 6) rfl) (ev_var (i := 3) rfl) epe_nil))) (by show 3 ≤ 15; decide) (by simp at hnd; simp [hnd]))) fun v H4 ⟨⟨u, hv, hun, hu⟩, e4⟩ => ?_
    subst hv
    have hD4 := hD3.ex e4
    have ng := (hD2.ne hgn).1
    have nu := (hD3.ne hun).1
    show tSeq _ _ _ ([some (.ref da), some (.ref p), some (.str n0), some (.str n1), some (.str n2), some (.str n3), some (.str n4), some (.str n5), some (.ref b), some (.ref g), some (.ref u), none, none] : L2.St) H4
    have e14 := (e2.trans e3).trans e4
    refine q_asgL (el_sl (a := p) (xs := [n0, n1, n2, n3, n4, n5].map V.str) (lo := none) (hi := some 5) (ev_var (i := 1) rfl) eo_none (eo_some ev_c) (SqL.of (e14 _ _ hp))) fun l H5 hln e5 hl => ?_
    have hl' : H5 l = some (.lst ([n0, n1, n2, n3, n4].map V.str)) := hl
    have hD5 := hD4.ex e5
    show tSeq _ _ _ ([some (.ref da), some (.ref p), some (.str n0), some (.str n1), some (.str n2), some (.str n3), some (.str n4), some (.str n5), some (.ref b), some (.ref g), some (.ref u), some (.ref l), none] : L2.St) H5
    refine tt_eqA (R := fun i H3 => DrawR Z H3 da ∧ Fr [da] [da] H5 H3) (at_take (k := 2) (ev_var (i := 0) (v := .ref da) rfl) (fun _ _ => ev_c) hD5 (by decide) (by decide) |>.imp fun v H2 ⟨i, h1, h2⟩ => ⟨(i : Int), h1, h2.2⟩) fun i H6 ⟨hD6, f6⟩ => ?_
    obtain ⟨kvs, hdl⟩ := hD5.live
    have ne : ∀ {c : Addr} {xs : List V}, H5 c = some (.lst xs) → c ∉ [da] := fun h z => by
      rw [List.mem_singleton.mp z, hdl] at h; cases h
    have hg6 := f6.keep (by simpa using ng) ((e4.trans e5) _ _ hg)
    have hu6 := f6.keep (by simpa using nu) (e5 _ _ hu)
    have hl6 := f6.keep (ne hl') hl'
    have hb5 := ((e3.trans e4).trans e5) _ _ hb
    have hb6 := f6.keep (ne hb5) hb5
    have kb6 := kdP.L_mono f6.2.2 (kdP.L_ex ((e3.trans e4).trans e5) kb)
    have f06 := (f01.ex (e14.trans e5)).trans f6
    cases decide (i = 0) with
    | false =>
      rw [if_neg (by decide)]
      exact core false [n0, n1, n2, n3, n4] _ _ _ l b g u H6 (by simp) (by simp) (fun i hi => ⟨rot_map _ i [0, 1, 2, 3, 4], rfl, rfl, rfl⟩) hl6 ⟨b, ys, rfl, hb6, kb6⟩ hg6 hu6 ng nu hD6 f06
    | true =>
      rw [if_pos rfl]
      refine q_parP (ep_catK (k := kdP) (lk_var (ev_var (i := 8) rfl) ⟨b, ys, rfl, hb6, kb6⟩) (lk_new (ep_lstK (k := kdP) (bs := [(n5, n0), (n2, n5)]) (eak_cons (ep_pair (ev_var (i := 7) rfl) (ev_var (i := 2) rfl)) (eak_cons (ep_pair (ev_var (i := 4) rfl) (ev_var (i := 7) rfl)) eak_nil)) (by show 2 ≤ 100000; decide))) (by show 6 + 2 ≤ 100000; decide))
        (fun _ H7 e7 _ => ep_catK (k := kdV V.str) (as := [n0, n1, n2, n3, n4]) (bs := [n5]) (lk_var (ev_var (i := 11) rfl) ⟨l, _, rfl, e7 _ _ hl6, kdV_of⟩) (lk_new (el_new (el_lst (vs := [V.str n5]) (ea_cons (ev_var (i := 7) rfl) ea_nil) (by show 1 ≤ 100000; decide)))) (by show 5 + 1 ≤ 100000; decide)) fun v v2 H7 H8 e7 e8 ⟨b2, ys2, hv, hb2n, hb2, kb2⟩ ⟨l2, zs, hv2, hl2n, hl2, kl2⟩ => ?_
      subst hv; subst hv2
      rw [kdV_L kl2] at hl2
      show tAsg _ _ _ ([some (.ref da), some (.ref p), some (.str n0), some (.str n1), some (.str n2), some (.str n3), some (.str n4), some (.str n5), some (.ref b2), some (.ref g), some (.ref u), some (.ref l2), none] : L2.St) H8
      have e68 := e7.trans e8
      refine eu_tup (σ := ([some (.ref da), some (.ref p), some (.str n0), some (.str n1), some (.str n2), some (.str n3), some (.str n4), some (.str n5), some (.ref b2), some (.ref g), some (.ref u), some (.ref l2), none] : L2.St)) (vs := [.str "see", .str n0]) (ea_cons ev_c (ea_cons (ev_var (i := 2) rfl) ea_nil)) (by show 2 ≤ 100000; decide) H8 (Ex.refl _) _ fun t H9 htn e9 ht => ?_
      have e69 := e68.trans e9
      refine ⟨t, _, rfl, SqT.of ht, rfl, _, _, rfl, ?_⟩
      have hg9 := e69 _ _ hg6
      have hu9 := e69 _ _ hu6
      have hn5 : ¬n5 = n2 ∧ ¬n5 = n3 ∧ ¬n5 = n4 := ⟨fun z => by subst z; simp at hnd, fun z => by subst z; simp at hnd, fun z => by subst z; simp at hnd⟩
      have gu : g ≠ u := fun z => by rw [← z, hg] at hun; cases hun
      refine g_putS (kvs := _) (ev_var (i := 9) rfl) (ev_var (i := 7) rfl) hg9 (by show 3 < 100000; decide) fun H10 e10 => ?_
      have hu11 : (upd H10 g (.dK (putK [(.inr n2, .str "see"), (.inr n3, .str "see"), (.inr n4, .str "change")] (.inr n5) (.str "see")))) u = some (.dK [(.inr n2, .str n0), (.inr n3, .str n1), (.inr n4, .str n1)]) := by rw [upd_ne (fun z => gu z.symm)]; exact e10 _ _ hu9
      refine ⟨_, _, rfl, ?_⟩
      refine g_putS (kvs := _) (ev_var (i := 10) rfl) (ev_var (i := 7) rfl) hu11 (by show 3 < 100000; decide) fun H12 e12 => ?_
      refine ⟨rfl, ?_⟩
      have gn0 : H g = none := hD1.fback f01 (fresh_back e2 hgn)
      have un0 : H u = none := hD1.fback f01 (fresh_back (e2.trans e3) hun)
      have gZ := (hD.ne gn0).2
      have uZ := (hD.ne un0).2
      have hg10 := e10 _ _ hg9
      have f10 := ((f06.ex e69).ex e10).mutNew (o := .dK (putK [(.inr n2, .str "see"), (.inr n3, .str "see"), (.inr n4, .str "change")] (.inr n5) (.str "see"))) gn0 hg10 (fun _ q => by cases q)
      have hu12 := e12 _ _ hu11
      have f12 := (f10.ex e12).mutNew (o := .dK (putK [(.inr n2, .str n0), (.inr n3, .str n1), (.inr n4, .str n1)] (.inr n5) (.str n0))) un0 hu12 (fun _ q => by cases q)
      have hD12 := (((((hD6.ex e69).ex e10).upd_ (a := g) (o := .dK (putK [(.inr n2, .str "see"), (.inr n3, .str "see"), (.inr n4, .str "change")] (.inr n5) (.str "see"))) ng gZ).ex e12).upd_ (a := u) (o := .dK (putK [(.inr n2, .str n0), (.inr n3, .str n1), (.inr n4, .str n1)] (.inr n5) (.str n0))) nu uZ)
      have keepL : ∀ c xs, H8 c = some (.lst xs) → (upd H12 u (.dK (putK [(.inr n2, .str n0), (.inr n3, .str n1), (.inr n4, .str n1)] (.inr n5) (.str n0)))) c = some (.lst xs) := fun c xs h => by
        rw [upd_ne (fun z => by rw [z, e68 _ _ hu6] at h; cases h)]
        refine e12 _ _ ?_
        rw [upd_ne (fun z => by rw [z, e68 _ _ hg6] at h; cases h)]
        exact e10 _ _ (e9 _ _ h)
      have eL : ExL H8 (upd H12 u (.dK (putK [(.inr n2, .str n0), (.inr n3, .str n1), (.inr n4, .str n1)] (.inr n5) (.str n0)))) := fun c xs h => by
        rw [upd_ne (fun z => by rw [z, e68 _ _ hu6] at h; cases h)]
        refine e12 _ _ ?_
        rw [upd_ne (fun z => by rw [z, e68 _ _ hg6] at h; cases h)]
        exact e10 _ _ (e9 _ _ h)
      refine core true [n0, n1, n2, n3, n4, n5] ([(n0, n0), (n0, n1), (n0, n2), (n0, n3), (n1, n1), (n2, n2)] ++ [(n5, n0), (n2, n5)]) ([(.inr n2, .str "see"), (.inr n3, .str "see"), (.inr n4, .str "change")] ++ [(.inr n5, .str "see")]) ([(.inr n2, .str n0), (.inr n3, .str n1), (.inr n4, .str n1)] ++ [(.inr n5, .str n0)]) l2 b2 g u _ (by simp) (by simp) (fun i hi => ⟨rot_map _ i [0, 1, 2, 3, 4, 5], rfl, rfl, rfl⟩) (keepL _ _ hl2) ⟨b2, ys2, rfl, keepL _ _ (e8 _ _ hb2), kdP.L_mono eL (kdP.L_ex e8 kb2)⟩ ?_ ?_ ng nu hD12 f12
      · rw [upd_ne gu, ← putK_new (by simpa using hn5)]
        exact e12 _ _ upd_same
      · rw [← putK_new (by simpa using hn5)]
        exact upd_same
end
end HT
set_option Elab.async false
set_option linter.all false
set_option maxRecDepth 100000
set_option maxHeartbeats 4000000
/-! the law's tables: any; made; table -/
namespace HT
open PySem PySem.Spec PyProof.Rows L2 Evl LamX
section
variable {P : Program} {w : World} {K : PySem.W.Frag} {mg : Str → Option Value} {base : Heap} {C Dc Pt : Addr} {f : Addr} {fd : FuncData} {Z H H' : Hp} {da : Addr} {σ : L2.St} {ta tb te tc : TE} {D : Ends} {tz tu tw : TS}
structure AnyS (Z H0 H : Hp) (da l b g u : Addr) (ns : List Str) (i j : Nat) (n : Nat) (ps : List (Str × Str)) (ys : List V) (G : List (Str × Nat)) (U : List (Str × Str)) : Prop where
  dr : DrawR Z H da
  fr : Fr [da] [da] H0 H
  zn : Z b = none ∧ Z g = none ∧ Z u = none
  hn : H0 b = none ∧ H0 g = none ∧ H0 u = none
  ne : b ≠ da ∧ g ≠ da ∧ u ≠ da ∧ g ≠ u ∧ l ≠ b
  hl : H l = some (.lst (ns.map V.str))
  hb : H b = some (.lst ys)
  kb : kdP.L ps ys H
  pl : ps.length ≤ n
  pin : ∀ p ∈ ps, p.1 ∈ ns ∧ p.2 ∈ ns
  hg : H g = some (.dK (kvS (G.map fun p => (p.1, rankW p.2))))
  gk : ∀ p ∈ G, p.1 ∈ ns.take i
  gnd : (G.map (·.1)).Nodup
  gl : G.length ≤ i
  gv : ∀ p ∈ G, p.2 = 1 ∨ p.2 = 2
  hu : H u = some (.dK (kvS U))
  uk : ∀ p ∈ U, p.1 ∈ ns.take j
  uv : ∀ p ∈ U, p.2 ∈ ns
  und : (U.map (·.1)).Nodup
  ul : U.length ≤ j
section
variable {H0 H1 : Hp} {l b g u : Addr} {ns : List Str} {i j n : Nat} {ps : List (Str × Str)} {ys : List V} {G : List (Str × Nat)} {U : List (Str × Str)}
theorem AnyS.draw (h : AnyS Z H0 H da l b g u ns i j n ps ys G U) (f : Fr [da] [da] H H1) (d : DrawR Z H1 da) : AnyS Z H0 H1 da l b g u ns i j n ps ys G U := by
  obtain ⟨kvs, hdl⟩ := h.dr.live
  have ne : ∀ {c : Addr} {xs : List V}, H c = some (.lst xs) → c ∉ [da] := fun h z => by
    rw [List.mem_singleton.mp z, hdl] at h; cases h
  exact { h with dr := d, fr := h.fr.trans f, hl := f.keep (ne h.hl) h.hl, hb := f.keep (ne h.hb) h.hb, kb := kdP.L_mono f.2.2 h.kb, hg := f.keep (by simpa using h.ne.2.1) h.hg, hu := f.keep (by simpa using h.ne.2.2.1) h.hu }
theorem AnyS.ex (h : AnyS Z H0 H da l b g u ns i j n ps ys G U) (e : Ex H H1) : AnyS Z H0 H1 da l b g u ns i j n ps ys G U := h.draw (Fr.of e) (h.dr.ex e)
theorem AnyS.app (h : AnyS Z H0 H da l b g u ns i j n ps ys G U) {p : Str × Str} {v : V} (hp : p.1 ∈ ns ∧ p.2 ∈ ns) (hv : kdP.R p v H) : AnyS Z H0 (upd H b (.lst (ys ++ [v]))) da l b g u ns i j (n + 1) (ps ++ [p]) (ys ++ [v]) G U := by
  have eL : ExL H (upd H b (.lst (ys ++ [v]))) := ExL.upd h.hb (fun _ z => by cases z)
  refine { h with dr := h.dr.upd_ h.ne.1 h.zn.1, fr := h.fr.mutNew h.hn.1 h.hb (fun _ z => by cases z), hl := by rw [upd_ne h.ne.2.2.2.2]; exact h.hl, hb := upd_same, kb := pair_append (kdP.L_mono eL h.kb) (.cons (kdP.mono _ _ _ _ eL hv) .nil), pl := by rw [List.length_append]; have := h.pl; simp; omega, pin := fun q hq => ?_, hg := by rw [upd_ne (fun z => by have := h.hb; rw [← z, h.hg] at this; cases this)]; exact h.hg, hu := by rw [upd_ne (fun z => by have := h.hb; rw [← z, h.hu] at this; cases this)]; exact h.hu }
  rcases List.mem_append.mp hq with hq | hq
  · exact h.pin q hq
  · rw [List.mem_singleton.mp hq]; exact hp
theorem AnyS.more (h : AnyS Z H0 H da l b g u ns i j n ps ys G U) {m : Nat} (hm : n ≤ m) : AnyS Z H0 H da l b g u ns i j m ps ys G U := { h with pl := Nat.le_trans h.pl hm }
theorem take_sub {α : Type} {xs : List α} {i : Nat} {x : α} (h : x ∈ xs.take i) : x ∈ xs.take (i + 1) := by
  rw [List.take_succ]
  exact List.mem_append_left _ h
theorem take_new {α : Type} {xs : List α} {i : Nat} {x : α} (h : xs[i]? = some x) : x ∈ xs.take (i + 1) := by
  rw [List.take_succ, h]
  exact List.mem_append_right _ (by simp)
theorem take_not {α : Type} {xs : List α} {i : Nat} {x : α} (nd : xs.Nodup) (h : xs[i]? = some x) : x ∉ xs.take i := fun q => by
  obtain ⟨j, hj, e⟩ := List.mem_take_iff_getElem.mp q
  obtain ⟨hi, e2⟩ := List.getElem?_eq_some_iff.mp h
  have : j = i := (List.getElem_inj nd).mp (e.trans e2.symm)
  omega
theorem AnyS.putG (h : AnyS Z H0 H da l b g u ns i j n ps ys G U) (nd : ns.Nodup) {m : Str} {k : Nat} (hm : ns[i]? = some m) (hk : k = 1 ∨ k = 2) : AnyS Z H0 (upd H g (.dK (putK (kvS (G.map fun p => (p.1, rankW p.2))) (.inr m) (.str (rankW k))))) da l b g u ns (i + 1) j n ps ys (G ++ [(m, k)]) U := by
  have hnew : m ∉ G.map (·.1) := fun z => by
    obtain ⟨p, hp, e⟩ := List.mem_map.mp z
    exact take_not nd hm (by rw [← e]; exact h.gk p hp)
  have hnk : (Sum.inr m : Key) ∉ (kvS (G.map fun p => (p.1, rankW p.2))).map (·.1) := fun z => by
    unfold kvS at z
    rw [List.map_map, List.map_map] at z
    obtain ⟨p, hp, e⟩ := List.mem_map.mp z
    have e2 : p.1 = m := Sum.inr.inj e
    exact hnew (List.mem_map.mpr ⟨p, hp, e2⟩)
  have eL : ExL H (upd H g (.dK (putK (kvS (G.map fun p => (p.1, rankW p.2))) (.inr m) (.str (rankW k))))) := ExL.upd h.hg (fun _ z => by cases z)
  refine { h with dr := h.dr.upd_ h.ne.2.1 h.zn.2.1, fr := h.fr.mutNew h.hn.2.1 h.hg (fun _ z => by cases z), hl := by rw [upd_ne (fun z => by have := h.hg; rw [← z, h.hl] at this; cases this)]; exact h.hl, hb := by rw [upd_ne (fun z => by have := h.hg; rw [← z, h.hb] at this; cases this)]; exact h.hb, kb := kdP.L_mono eL h.kb, hg := ?_, gk := fun q hq => ?_, gnd := ?_, gl := by rw [List.length_append]; have := h.gl; simp; omega, gv := fun q hq => ?_, hu := by rw [upd_ne (fun z => h.ne.2.2.2.1 z.symm)]; exact h.hu }
  · rw [upd_same, putK_new hnk]
    unfold kvS
    rw [List.map_append, List.map_append]
    rfl
  · rcases List.mem_append.mp hq with hq | hq
    · exact take_sub (h.gk q hq)
    · rw [List.mem_singleton.mp hq]; exact take_new hm
  · rw [List.map_append, List.nodup_append]
    exact ⟨h.gnd, by simp, fun a ha b hb e => by
      rw [List.map_cons, List.map_nil, List.mem_singleton] at hb
      have hb2 : b = m := hb
      subst hb2; subst e
      exact hnew ha⟩
  · rcases List.mem_append.mp hq with hq | hq
    · exact h.gv q hq
    · rw [List.mem_singleton.mp hq]; exact hk
theorem AnyS.putU (h : AnyS Z H0 H da l b g u ns i j n ps ys G U) (nd : ns.Nodup) {m k : Str} (hm : ns[j]? = some m) (hk : k ∈ ns) : AnyS Z H0 (upd H u (.dK (putK (kvS U) (.inr m) (.str k)))) da l b g u ns i (j + 1) n ps ys G (U ++ [(m, k)]) := by
  have hnew : m ∉ U.map (·.1) := fun z => by
    obtain ⟨p, hp, e⟩ := List.mem_map.mp z
    exact take_not nd hm (by rw [← e]; exact h.uk p hp)
  have hnk : (Sum.inr m : Key) ∉ (kvS U).map (·.1) := fun z => by
    unfold kvS at z
    rw [List.map_map] at z
    obtain ⟨p, hp, e⟩ := List.mem_map.mp z
    have e2 : p.1 = m := Sum.inr.inj e
    exact hnew (List.mem_map.mpr ⟨p, hp, e2⟩)
  have eL : ExL H (upd H u (.dK (putK (kvS U) (.inr m) (.str k)))) := ExL.upd h.hu (fun _ z => by cases z)
  refine { h with dr := h.dr.upd_ h.ne.2.2.1 h.zn.2.2, fr := h.fr.mutNew h.hn.2.2 h.hu (fun _ z => by cases z), hl := by rw [upd_ne (fun z => by have := h.hu; rw [← z, h.hl] at this; cases this)]; exact h.hl, hb := by rw [upd_ne (fun z => by have := h.hu; rw [← z, h.hb] at this; cases this)]; exact h.hb, kb := kdP.L_mono eL h.kb, hu := ?_, uk := fun q hq => ?_, und := ?_, ul := by rw [List.length_append]; have := h.ul; simp; omega, uv := fun q hq => ?_, hg := by rw [upd_ne h.ne.2.2.2.1]; exact h.hg }
  · rw [upd_same, putK_new hnk]
    unfold kvS
    rw [List.map_append]
    rfl
  · rcases List.mem_append.mp hq with hq | hq
    · exact take_sub (h.uk q hq)
    · rw [List.mem_singleton.mp hq]; exact take_new hm
  · rcases List.mem_append.mp hq with hq | hq
    · exact h.uv q hq
    · rw [List.mem_singleton.mp hq]; exact hk
  · rw [List.map_append, List.nodup_append]
    exact ⟨h.und, by simp, fun a ha b hb e => by
      rw [List.map_cons, List.map_nil, List.mem_singleton] at hb
      have hb2 : b = m := hb
      subst hb2; subst e
      exact hnew ha⟩
theorem AnyS.skip (h : AnyS Z H0 H da l b g u ns i j n ps ys G U) {i' j' : Nat} (hi : i ≤ i') (hj : j ≤ j') : AnyS Z H0 H da l b g u ns i' j' n ps ys G U := by
  have sub : ∀ {a c : Nat} {x : Str}, a ≤ c → x ∈ ns.take a → x ∈ ns.take c := fun hac hx => by
    obtain ⟨k, hk, e⟩ := List.mem_take_iff_getElem.mp hx
    exact List.mem_take_iff_getElem.mpr ⟨k, by omega, e⟩
  exact { h with gk := fun p hp => sub hi (h.gk p hp), gl := Nat.le_trans h.gl hi, uk := fun p hp => sub hj (h.uk p hp), ul := Nat.le_trans h.ul hj }
theorem AnyS.ok (h : AnyS Z H0 H da l b g u ns i j n ps ys G U) (nd : ns.Nodup) (h1 : 1 ≤ ns.length) (h8 : ns.length ≤ 8) (hi : i ≤ 8) (hj : j ≤ 8) (hn : n ≤ 64) (hok : ∀ m ∈ ns, NameOk m) : DatOk ⟨ns, ps, G, U⟩ :=
  ⟨⟨nd, h1, h8, hok⟩, Nat.le_trans h.pl hn, h.pin, h.gnd, by have := h.gl; show G.length ≤ 100; omega, fun p hp => ⟨List.mem_of_mem_take (h.gk p hp), h.gv p hp⟩, h.und, by have := h.ul; show U.length ≤ 100; omega, fun p hp => ⟨List.mem_of_mem_take (h.uk p hp), h.uv p hp⟩⟩
end
theorem sc_law_any_table : FnScope ["_law_draw", "_law_row_of", "_law_pairs", "_law_worths", "_law_uppers", "_law_at", "_law_one", "_law_other", "_law_worth"] ["_law_draw"] (defScope s_law_any_table) := ⟨rfl, rfl, rfl, by decide +kernel, rfl, by decide +kernel, by decide +kernel⟩
theorem ok_law_any (F : FnT K "_law_any_table" "_law_any_table" s_law_any_table [] [] f fd) (T : Txt K mg C Dc) (G_law_take : Atake P w K mg base) (G_law_words : Awords P w K mg base) (G_law_pick : Apick P w K mg base) : FnOk P w K mg base CX0 4 f fd ["_law_draw"] (spData false) := by
  refine F.ok sc_law_any_table (fun vs H Q E ⟨_, _, h, _⟩ => by rw [h]; rfl) (fun cdv A outer s H vs Q E hr ⟨Z, da, hv, hD, q⟩ => ⟨_, PSs.nox (pss_cons (ps_set (i := 1) sc_law_any_table.nd rfl (Or.inl rfl) (pe_callG G_law_words hr (by decide) (by rfl) (pa_cons (pv 0) (pa_cons (pe_op op_add pe_int (pe_callG G_law_take hr (by decide) (by rfl) (pa_cons (pv 0) (pa_cons pe_int pa_nil)))) pa_nil))))
    (pss_cons (ps_set (i := 2) sc_law_any_table.nd rfl (Or.inl rfl) (pe_lst pa_nil))
    (pss_cons (ps_par (i := 3) (j := 4) rfl sc_law_any_table.nd rfl rfl (by decide) rfl rfl (pa_cons pe_dnewK (pa_cons pe_dnewK pa_nil)) (by rfl))
    (pss_cons (ps_for PassesOwn.never rfl (pi_enum (by rfl) T.fEnum (pa_cons (pv 1) pa_nil)) (pg_tupK (n := 2) K rfl rfl (pgs_cons (pg_name (i := 5) sc_law_any_table.nd rfl (by first | exact Or.inl rfl | exact Or.inr rfl)) (pgs_cons (pg_name (i := 6) sc_law_any_table.nd rfl (by first | exact Or.inl rfl | exact Or.inr rfl)) pgs_nil))) (pss_cons (ps_for PassesOwn.never rfl (pi_listK K rfl (pe_slice (sl_listK K rfl) (pv 1) (po_some (pv 5)) po_none)) (pg_name (i := 7) sc_law_any_table.nd rfl (by first | exact Or.inl rfl | exact Or.inr rfl)) (pss_one (ps_if (pt_cmpR op_eq (pe_callG G_law_take hr (by decide) (by rfl) (pa_cons (pv 0) (pa_cons pe_int pa_nil))) pe_int (nomark _)) (pss_one (ps_expr (pe_bmK K rfl PySem.F.plainAttrs_list PySem.F.slot_list_append PySem.F.type_list_append mt_append (pv 2) (pa_cons (pe_tup (pa_cons (pv 6) (pa_cons (pv 7) pa_nil))) pa_nil)))) pss_nil)))
      (pss_cons (ps_set (i := 8) sc_law_any_table.nd rfl (Or.inl rfl) (pe_callG G_law_pick hr (by decide) (by rfl) (pa_cons (pv 0) (pa_cons (pe_lst (pa_cons pe_str (pa_cons pe_str (pa_cons pe_str (pa_cons pe_str pa_nil))))) pa_nil))))
      (pss_cons (ps_if (pt_cmpR op_ne (pv 8) pe_str (nomark _)) (pss_one (ps_dput (hu_of hr) (pv 3) (pv 6) (pv 8) rfl)) pss_nil)
      (pss_one (ps_if (pt_cmpR op_eq (pe_callG G_law_take hr (by decide) (by rfl) (pa_cons (pv 0) (pa_cons pe_int pa_nil))) pe_int (nomark _)) (pss_one (ps_dput (hu_of hr) (pv 4) (pv 6) (pe_callG G_law_pick hr (by decide) (by rfl) (pa_cons (pv 0) (pa_cons (pv 1) pa_nil))) rfl)) pss_nil))))))
    (pss_one (ps_ret (pe_disp (pps_cons pe_str (pv 1) (pps_cons pe_str (pv 2) (pps_cons pe_str (pv 3) (pps_cons pe_str (pv 4) pps_nil)))) (by rfl) (by rfl) (by simp) (by decide)))))))), ?_⟩)
  subst hv
  refine q_asgA (R := fun v H1 => ∃ p, ∃ ns : List Str, v = .ref p ∧ H p = none ∧ H1 p = some (.lst (ns.map V.str)) ∧ (1 ≤ ns.length ∧ ns.length ≤ 4) ∧ ns.Nodup ∧ (∀ m ∈ ns, NameOk m) ∧ DrawR Z H1 da ∧ Fr [da] [da] H H1) (fun Q q => ?_) fun v H1 ⟨l, ns, hv, hln, hl, hlen, hnd, hok, hD1, f1⟩ => ?_
  · refine ⟨.ref da, rfl, ?_⟩
    refine at_take (σ := start ["_law_draw", "_law_row_of", "_law_pairs", "_law_worths", "_law_uppers", "_law_at", "_law_one", "_law_other", "_law_worth"] [.ref da]) (k := 4) (ev_var (i := 0) (v := .ref da) rfl) (fun _ _ => ev_c) hD (by decide) (by decide) _ fun v H1 ⟨k, hv, hk, hD1, f1⟩ => ?_
    subst hv
    refine ⟨1, k, rfl, rfl, ?_⟩
    refine ⟨Z, da, 1 + k, by rw [show ((1 + k : Nat) : Int) = (1 : Int) + (k : Int) by omega]; rfl, hD1, by omega, fun p ns H2 hpn hp hl nd ok hD2 f2 => q _ H2 ⟨p, ns, rfl, hD1.fback f1 hpn, hp, ⟨by omega, by omega⟩, nd, ok, hD2, f1.trans f2⟩⟩
  subst hv
  refine q_asgL (el_lst (vs := []) ea_nil (by show 0 ≤ 100000; decide)) fun b H2 hbn e2 hb => ?_
  have hD2 := hD1.ex e2
  refine q_parP ep_dnewK (fun _ _ _ _ => ep_dnewK) fun v v2 H3 H4 e3 e4 ⟨g, hv, hgn, hg⟩ ⟨u, hv2, hun, hu⟩ => ?_
  subst hv; subst hv2
  show tSeq _ _ _ ([some (.ref da), some (.ref l), some (.ref b), some (.ref g), some (.ref u), none, none, none, none] : L2.St) H4
  have hD3 := hD2.ex e3
  have b0 : H b = none := hD1.fback f1 hbn
  have g0 : H g = none := hD1.fback f1 (fresh_back e2 hgn)
  have u0 : H u = none := hD1.fback f1 (fresh_back (e2.trans e3) hun)
  have A4 : AnyS Z H H4 da l b g u ns 0 0 0 [] [] [] [] :=
    ⟨hD3.ex e4, f1.ex (e2.trans (e3.trans e4)), ⟨(hD.ne b0).2, (hD.ne g0).2, (hD.ne u0).2⟩, ⟨b0, g0, u0⟩, ⟨(hD.ne b0).1, (hD.ne g0).1, (hD.ne u0).1, fun z => (by rw [← z, hg] at hun; cases hun), fun z => (by rw [← z, hl] at hbn; cases hbn)⟩,
      (e2.trans (e3.trans e4)) _ _ hl, (e3.trans e4) _ _ hb, .nil, Nat.le_refl _, fun _ h => (by cases h), e4 _ _ hg, fun _ h => (by cases h), List.nodup_nil, Nat.le_refl _, fun _ h => (by cases h), hu, fun _ h => (by cases h), fun _ h => (by cases h), List.nodup_nil, Nat.le_refl _⟩
  refine ⟨.ref l, rfl, l, _, rfl, SqL.of A4.hl, ?_⟩
  refine for_it (walk_enum (xs := ns.map V.str)) (fun i σ' H' => ∃ o5 o6 o7 o8 ps ys G U, σ' = ([some (.ref da), some (.ref l), some (.ref b), some (.ref g), some (.ref u), o5, o6, o7, o8] : L2.St) ∧ AnyS Z H H' da l b g u ns i i (4 * i) ps ys G U)
    ⟨_, _, _, _, _, _, _, _, rfl, A4⟩ (fun i σ' H' hi ⟨_, _, _, _, _, _, _, _, _, A⟩ => SqL.of A.hl) (fun i x σ' H5 H6 hi w y => ?_) (fun σ' H5 w => ?_)
  · obtain ⟨o5, o6, o7, o8, ps, ys, G, U, rfl, A5⟩ := w
    obtain ⟨t, x1, x2, rfl, htn, rfl, h1, h2⟩ := y
    cases h1
    rw [List.length_map] at hi
    have h3 : (ns.map V.str)[i]? = some x2 := h2
    rw [List.getElem?_map, List.getElem?_eq_getElem hi] at h3
    cases h3
    clear h2
    have hone : ns[i]? = some ns[i] := List.getElem?_eq_getElem hi
    generalize ns[i] = one at hone ⊢
    have honem : one ∈ ns := List.mem_of_getElem? hone
    have A6 := A5.ex (Ex.new (o := .tup [.int (i : Nat), .str one]) htn)
    refine ⟨t, _, rfl, SqT.of upd_same, rfl, _, _, rfl, _, _, rfl, rfl, ?_⟩
    show tSeq _ _ _ ([some (.ref da), some (.ref l), some (.ref b), some (.ref g), some (.ref u), some (.int i), some (.str one), o7, o8] : L2.St) _
    generalize upd H5 t (.tup [.int (i : Nat), .str one]) = H7 at A6 ⊢
    clear A5 htn
    have hcut : cutV (ns.map V.str) (some (i : Int)) none = (ns.drop i).map V.str := by
      unfold cutV
      rw [sIx_nat, sIx_none, List.length_map, show min i ns.length = i by omega, List.take_of_length_le (by rw [List.length_drop, List.length_map]; omega), List.map_drop]
    have hsl := el_sl (K := K) (te := tVar 1) (tl := tPart (tVar 5)) (th := tNoPart) (σ := ([some (.ref da), some (.ref l), some (.ref b), some (.ref g), some (.ref u), some (.int i), some (.str one), o7, o8] : L2.St)) (H := H7) (ev_var (i := 1) (v := .ref l) rfl) (eo_some (ev_var (i := 5) (v := .int i) rfl)) eo_none (SqL.of A6.hl)
    rw [hcut] at hsl
    refine q_forNLn (j := 7) hsl (fun p j σ' H' => ∃ o7 ps ys, σ' = ([some (.ref da), some (.ref l), some (.ref b), some (.ref g), some (.ref u), some (.int i), some (.str one), o7, o8] : L2.St) ∧ AnyS Z H H' da l b g u ns i i (4 * i + j) ps ys G U ∧ H' p = some (.lst ((ns.drop i).map V.str)) ∧ p ≠ b)
      (fun p H8 hpn e8 hp => ⟨_, _, _, rfl, A6.ex e8, hp, fun z => by rw [z, A6.hb] at hpn; cases hpn⟩) (fun p j σ' H' hj ⟨_, _, _, _, _, hp, _⟩ => SqL.of hp) (fun p j x σ' H8 hx w => ?_) (fun p σ' H8 w => ?_)
    · obtain ⟨o7, ps, ys, rfl, A8, hp, npb⟩ := w
      rw [List.getElem?_map] at hx
      obtain ⟨other, hoth, rfl⟩ : ∃ y, (ns.drop i)[j]? = some y ∧ V.str y = x := by
        cases e : (ns.drop i)[j]? with
        | none => rw [e] at hx; cases hx
        | some y => rw [e] at hx; exact ⟨y, rfl, Option.some.inj hx⟩
      have homem : other ∈ ns := List.mem_of_mem_drop (List.mem_of_getElem? hoth)
      show tIfS _ _ _ _ ([some (.ref da), some (.ref l), some (.ref b), some (.ref g), some (.ref u), some (.int i), some (.str one), some (.str other), o8] : L2.St) H8
      refine tt_eqA (R := fun i H3 => DrawR Z H3 da ∧ Fr [da] [da] H8 H3) (at_take (k := 2) (ev_var (i := 0) (v := .ref da) rfl) (fun _ _ => ev_c) A8.dr (by decide) (by decide) |>.imp fun v H2 ⟨i, h1, h2⟩ => ⟨(i : Int), h1, h2.2⟩) fun k H9 ⟨hD9, f9⟩ => ?_
      have A9 := A8.draw f9 hD9
      obtain ⟨kvs, hdl⟩ := A8.dr.live
      have hp9 := f9.keep (fun z => by rw [List.mem_singleton.mp z, hdl] at hp; cases hp) hp
      cases decide (k = 0) with
      | false =>
        rw [if_neg (by decide)]
        exact ⟨_, ps, ys, rfl, A9.more (by omega), hp9, npb⟩
      | true =>
        rw [if_pos rfl]
        have hyl : ys.length < 100000 := by
          have h1 := A9.pl
          have h2 := pair_len A9.kb
          have h3 : (ns.drop i).length ≤ 4 := by rw [List.length_drop]; omega
          have h4 := (List.getElem?_eq_some_iff.mp hoth).1
          omega
        refine s_appU (σ := ([some (.ref da), some (.ref l), some (.ref b), some (.ref g), some (.ref u), some (.int i), some (.str one), some (.str other), o8] : L2.St)) A9.hb (ev_var (i := 2) rfl) (eu_tup (vs := [.str one, .str other]) (ea_cons (ev_var (i := 6) rfl) (ea_cons (ev_var (i := 7) rfl) ea_nil)) (by show 2 ≤ 100000; decide)) hyl fun t2 H10 htn2 e10 ht2 => ?_
        exact ⟨_, ps ++ [(one, other)], ys ++ [.ref t2], rfl, (A9.ex e10).app ⟨honem, homem⟩ ⟨t2, rfl, ht2⟩, by rw [upd_ne npb]; exact e10 _ _ hp9, npb⟩
    · obtain ⟨o7, ps, ys, rfl, A8, hp, npb⟩ := w
      have hle : ((ns.drop i).map V.str).length ≤ 4 := by rw [List.length_map, List.length_drop]; omega
      have A9 := A8.more (m := 4 * (i + 1)) (by omega)
      clear A8 hp
      show tSeq _ _ _ ([some (.ref da), some (.ref l), some (.ref b), some (.ref g), some (.ref u), some (.int i), some (.str one), o7, o8] : L2.St) H8
      refine q_asgA (at_pickL (xs := [.str "", .str "see", .str "change", .str ""]) (ev_var (i := 0) (v := .ref da) rfl) (el_lst (ea_cons ev_c (ea_cons ev_c (ea_cons ev_c (ea_cons ev_c ea_nil)))) (by decide)) A9.dr (by decide) (by decide)) fun v H9 ⟨hv, hD9, f9⟩ => ?_
      have A10 := A9.draw f9 hD9
      have hrk : ∃ k : Nat, v = .str (rankW k) ∧ k ≤ 2 := by
        simp only [List.mem_cons, List.not_mem_nil, or_false] at hv
        rcases hv with h | h | h | h
        · exact ⟨0, h, by decide⟩
        · exact ⟨1, h, by decide⟩
        · exact ⟨2, h, by decide⟩
        · exact ⟨0, h, by decide⟩
      obtain ⟨k, rfl, hk⟩ := hrk
      show tSeq _ _ _ ([some (.ref da), some (.ref l), some (.ref b), some (.ref g), some (.ref u), some (.int i), some (.str one), o7, some (.str (rankW k))] : L2.St) H9
      have last : ∀ (G : List (Str × Nat)) (H11 : Hp), AnyS Z H H11 da l b g u ns (i + 1) i (4 * (i + 1)) ps ys G U → tIfS (tTest (tOp rEq (tCall spTake [] E0 (tCons (tVar 0) (tCons (tC (.int 2)) tNil))) (tC (.int 0)))) (sDPut (tVar 4) (tVar 6) (tCall spPick [] E0 (tCons (tVar 0) (tCons (tVar 1) tNil)))) tNext
          { nx := fun σ' H' => ∃ o5 o6 o7 o8 ps ys G U, σ' = ([some (.ref da), some (.ref l), some (.ref b), some (.ref g), some (.ref u), o5, o6, o7, o8] : L2.St) ∧ AnyS Z H H' da l b g u ns (i + 1) (i + 1) (4 * (i + 1)) ps ys G U, rt := Q } ([some (.ref da), some (.ref l), some (.ref b), some (.ref g), some (.ref u), some (.int i), some (.str one), o7, some (.str (rankW k))] : L2.St) H11 := by
        intro G H11 A11
        refine tt_eqA (R := fun i H3 => DrawR Z H3 da ∧ Fr [da] [da] H11 H3) (at_take (k := 2) (ev_var (i := 0) (v := .ref da) rfl) (fun _ _ => ev_c) A11.dr (by decide) (by decide) |>.imp fun v H2 ⟨i, h1, h2⟩ => ⟨(i : Int), h1, h2.2⟩) fun k2 H12 ⟨hD12, f12⟩ => ?_
        have A12 := A11.draw f12 hD12
        cases decide (k2 = 0) with
        | false =>
          rw [if_neg (by decide)]
          exact ⟨_, _, _, _, _, _, _, _, rfl, A12.skip (Nat.le_refl _) (by omega)⟩
        | true =>
          rw [if_pos rfl]
          refine at_pick (xs := ns.map V.str) (l := l) (ev_var (i := 0) (v := .ref da) rfl) (fun _ _ => ev_var (i := 1) rfl) A12.dr A12.hl (fun z => by have := hlen.1; rw [List.map_eq_nil_iff.mp z] at this; exact absurd this (by decide)) (by rw [List.length_map]; omega) _ fun v H13 ⟨hv, hD13, f13⟩ => ?_
          obtain ⟨m, hm, rfl⟩ := List.mem_map.mp hv
          have A13 := A12.draw f13 hD13
          refine ⟨.ref u, rfl, .str one, rfl, u, _, rfl, DPut.k (k := Sum.inr one) A13.hu (sz_lt (by unfold kvS; rw [List.length_map]; have := A13.ul; omega)), ?_⟩
          exact ⟨_, _, _, _, _, _, _, _, rfl, A13.putU hnd hone hm⟩
      refine q_when (et_test (ev_op (ev_var (i := 8) (v := .str (rankW k)) rfl) (ev_c (v := .str "")) (rv_ne rfl))) (fun hb H10 e10 => ?_) (fun hb H10 e10 => ?_)
      · have A11 := A10.ex e10
        refine s_dputS (i := one) (ev_var (i := 8) (v := .str (rankW k)) rfl) (ev_var (i := 3) rfl) (ev_var (i := 6) rfl) A11.hg (by unfold kvS; rw [List.length_map, List.length_map]; have := A11.gl; omega) fun H12 e12 => ?_
        refine last _ _ ((A11.ex e12).putG hnd hone ?_)
        have : k ≠ 0 := fun z => by subst z; exact absurd hb (by decide)
        omega
      · exact last _ _ ((A10.ex e10).skip (by omega) (Nat.le_refl _))
  · obtain ⟨o5, o6, o7, o8, ps, ys, G, U, rfl, A5⟩ := w
    rw [List.length_map] at A5
    refine s_retP (data_disp (D := ⟨ns, ps, G, U⟩) (da := da) (Z := Z) (a := ns) (lk_var (ev_var (i := 1) (v := .ref l) rfl) ⟨l, _, rfl, A5.hl, kdV_of⟩) (ev_var (i := 2) rfl) (ev_var (i := 3) rfl) (ev_var (i := 4) rfl) A5.hb A5.kb A5.hg A5.hu A5.dr A5.ne.2.1 A5.ne.2.2.1 rfl rfl rfl rfl) fun v H6 e6 ⟨ga, hv, hR⟩ => ?_
    subst hv
    exact q ga _ H6 hR (A5.ok hnd hlen.1 (by omega) (by omega) (by omega) (by omega) hok) (fun z => by cases z) (A5.dr.ex e6) (A5.fr.ex e6)
end
end HT
set_option Elab.async false
set_option linter.all false
set_option maxRecDepth 100000
set_option maxHeartbeats 4000000
/-! the law's tables: made; table -/
namespace HT
open PySem PySem.Spec PyProof.Rows L2 Evl LamX
section
variable {P : Program} {w : World} {K : PySem.W.Frag} {mg : Str → Option Value} {base : Heap} {C Dc Pt : Addr} {f : Addr} {fd : FuncData} {Z H H' : Hp} {da : Addr} {σ : L2.St} {ta tb te tc : TE} {D : Ends} {tz tu tw : TS}
theorem if_t {A B : Prop} (h : A) : if true = true then A else B := by rw [if_pos rfl]; exact h
theorem if_f {A B : Prop} (h : B) : if false = true then A else B := by rw [if_neg (by decide)]; exact h
abbrev MTinit (P : Program) (w : World) (K : PySem.W.Frag) (mg : Str → Option Value) (base : Heap) (C : Addr) := MKK P w K mg base C ["self", "modes", "beside", "gives", "above"] 1 ["beside", "gives", "above"] (fun vs zs => vs ++ zs) 3 (spTInit C)
def spMade (C : Addr) : Sp := fun vs H Q _ => ∃ (da ga : Addr) (D : TD Str), vs = [.ref ga] ∧ DataR H da ga D ∧ DatOk D ∧ ∀ t H', Ex H H' → H t = none → TabJ C H' t D .non → Q (.ref t) H'
theorem DataA.ex {ga a b g u : Addr} {D : TD Str} {xs : List V} (h : DataA H ga D a b g u xs) (e : Ex H H') : DataA H' ga D a b g u xs := ⟨e _ _ h.at_, h.dat.ex e⟩
theorem DataR.ex {ga : Addr} {D : TD Str} (h : DataR H da ga D) (e : Ex H H') : DataR H' da ga D := by
  obtain ⟨a, b, g, u, xs, A, n⟩ := h
  exact ⟨a, b, g, u, xs, A.ex e, n⟩
theorem at_makeK {Cc : Addr} {n m : Nat} {sp : Sp} {gV : List V → List V → List V} {E : XK} {t tk : TA} {vs zs : List V} {R : V → Hp → Prop} (ha : EvA t σ H vs) (hk : ∀ H1, Ex H H1 → EvA tk σ H1 zs) (l1 : vs.length = n) (l2 : zs.length = m)
    (h : ∀ H2 x dx, Ex H H2 → H2 x = none → Ex H2 (upd (upd H2 dx (.own x)) x (.ins Cc dx [])) → ∀ Q : VK, (∀ H3, R (.ref x) H3 → Q .non H3) → sp (gV (.ref x :: vs) zs) (upd (upd H2 dx (.own x)) x (.ins Cc dx [])) Q E) : At (tMakeK Cc n m sp gV E t tk) σ H R := fun Q q =>
  ha H (Ex.refl _) _ fun H1 e1 => hk H1 e1 H1 (Ex.refl _) _ fun H2 e2 => ⟨l1, l2, fun x dx hx hdx hne => h H2 x dx (e1.trans e2) hx ((Ex.new hdx).trans (Ex.new (by rw [upd_ne (fun z => hne z.symm)]; exact hx))) _ fun H3 r => ⟨rfl, q _ H3 r⟩⟩
theorem sc_law_made : FnScope ["_law_data"] ["_law_data"] (defScope s_law_made) := ⟨rfl, rfl, rfl, by decide +kernel, rfl, by decide +kernel, by decide +kernel⟩
theorem ok_law_made (F : FnT K "_law_made" "_law_made" s_law_made [] [] f fd) (T : Txt K mg C Dc) (M_Table_init : MTinit P w K mg base C) : FnOk P w K mg base CX0 5 f fd ["_law_data"] (spMade C) := by
  refine F.ok sc_law_made (fun vs H Q E ⟨_, _, _, h, _⟩ => by rw [h]; rfl) (fun cdv A outer s H vs Q E hr ⟨da, ga, D, hv, hR, ok, q⟩ => ⟨_, PSs.nox (pss_one (ps_ret (pe_makeKG M_Table_init hr (by decide) (by rfl) T.mgC (pa_cons (pe_dget (hu_of hr) (pv 0) pe_str (fun _ _ => rfl)) pa_nil) (pk_cons (pe_dget (hu_of hr) (pv 0) pe_str (fun _ _ => rfl)) (pk_cons (pe_dget (hu_of hr) (pv 0) pe_str (fun _ _ => rfl)) (pk_cons (pe_dget (hu_of hr) (pv 0) pe_str (fun _ _ => rfl)) pk_nil)))))), ?_⟩)
  subst hv
  obtain ⟨a, b, g, u, xs, A, n1, n2, n3⟩ := hR
  have g1 : Ev (tDGet (tVar 0) (tC (.str "order"))) ([some (.ref ga)] : L2.St) H (.ref a) := ev_dget (ev_var rfl) ev_c (dget_k (k := .inr "order") (.inl A.at_))
  have g2 : Ev (tDGet (tVar 0) (tC (.str "pairs"))) ([some (.ref ga)] : L2.St) H (.ref b) := ev_dget (ev_var rfl) ev_c (dget_k (k := .inr "pairs") (.inl A.at_))
  have g3 : Ev (tDGet (tVar 0) (tC (.str "gives"))) ([some (.ref ga)] : L2.St) H (.ref g) := ev_dget (ev_var rfl) ev_c (dget_k (k := .inr "gives") (.inl A.at_))
  have g4 : Ev (tDGet (tVar 0) (tC (.str "above"))) ([some (.ref ga)] : L2.St) H (.ref u) := ev_dget (ev_var rfl) ev_c (dget_k (k := .inr "above") (.inl A.at_))
  refine s_retA (R := fun v H3 => ∃ t, v = .ref t ∧ H t = none ∧ Ex H H3 ∧ TabJ C H3 t D .non) (at_makeK (vs := [.ref a]) (zs := [.ref b, .ref g, .ref u]) (ea_cons g1 ea_nil) (fun H1 e1 => (ea_cons (fun H2 e2 => g2 H2 (e1.trans e2)) (ea_cons (fun H2 e2 => g3 H2 (e1.trans e2)) (ea_cons (fun H2 e2 => g4 H2 (e1.trans e2)) ea_nil)))) rfl rfl fun H2 t dx e2 ht e23 Q' q' => ?_) fun v H3 ⟨t, hv, ht, e3, hJ⟩ => ?_
  · refine ⟨t, dx, a, b, g, u, D, xs, rfl, upd_same, (A.ex e2).dat.ex e23, ok, fun H3 k3 hJ => q' H3 ⟨t, rfl, fresh_back e2 ht, fun c o h => ?_, hJ⟩⟩
    have h2 := e2 _ _ h
    have nt : c ≠ t := fun z => by rw [z, ht] at h2; cases h2
    exact k3 c o nt (e23 _ _ h2)
  · subst hv
    exact q t H3 e3 ht hJ
/-- draws, with nothing else told -/
def oneZ (ca : Addr) (o : HO) : Hp := fun b => if b = ca then some o else none
def DrawS (H : Hp) (da : Addr) : Prop := ∃ ca cs at_ r t, DrawA (oneZ ca (.lst (cs.map V.int))) H da ca cs at_ r t
theorem DrawA.s {ca : Addr} {cs : List Int} {a : Nat} {r t : Int} (A : DrawA Z H da ca cs a r t) : DrawA (oneZ ca (.lst (cs.map V.int))) H da ca cs a r t := by
  have nc : da ≠ ca := fun z => by have := A.z _ _ A.cl; rw [← z, A.at_] at this; cases this
  refine ⟨fun b o hb => ?_, by unfold oneZ; rw [if_neg nc], by unfold oneZ; rw [if_pos rfl], A.pos, A.few, A.at_, A.rp, A.tp⟩
  unfold oneZ at hb
  split at hb
  · next h => subst h; cases hb; exact A.z _ _ A.cl
  · cases hb
theorem DrawR.s (h : DrawR Z H da) : DrawS H da := by
  obtain ⟨ca, cs, a, r, t, A⟩ := h
  exact ⟨ca, cs, a, r, t, A.s⟩
theorem DrawS.r (h : DrawS H da) : ∃ Z, DrawR Z H da := by
  obtain ⟨ca, cs, a, r, t, A⟩ := h
  exact ⟨_, ca, cs, a, r, t, A⟩
theorem DrawS.ex (h : DrawS H da) (e : Ex H H') : DrawS H' da := by
  obtain ⟨ca, cs, a, r, t, A⟩ := h
  exact ⟨ca, cs, a, r, t, A.ex e⟩
theorem DrawS.live (h : DrawS H da) : ∃ kvs, H da = some (.dK kvs) := by
  obtain ⟨ca, cs, a, r, t, A⟩ := h
  exact ⟨_, A.at_⟩
/-- where all but one instance and the code's tables stands -/
theorem DrawS.but {t : Addr} (h : DrawS H da) (nt : ∀ o, H t = some o → ∃ C dx fs, o = .ins C dx fs) (k : ∀ b o, b ≠ t → H b = some o → (∀ ps, o ≠ .tbl ps) → H' b = some o) : DrawS H' da := by
  obtain ⟨ca, cs, a, r, tn, A⟩ := h
  have hc := A.z _ _ A.cl
  have n1 : ca ≠ t := fun z => by subst z; obtain ⟨_, _, _, q⟩ := nt _ hc; cases q
  have n2 : da ≠ t := fun z => by subst z; obtain ⟨_, _, _, q⟩ := nt _ A.at_; cases q
  refine ⟨ca, cs, a, r, tn, fun b o hb => ?_, A.zf, A.cl, A.pos, A.few, k _ _ n2 A.at_ (fun _ z => by cases z), A.rp, A.tp⟩
  unfold oneZ at hb
  split at hb
  · next h => subst h; cases hb; exact k _ _ n1 hc (fun _ z => by cases z)
  · cases hb
theorem Tabs.fr {T : List (Addr × Str)} {kvs : List (Key × V)} (h : Tabs T H) (hd : H da = some (.dK kvs)) (f : Fr [da] [da] H H') : Tabs T H' := fun pq hpq => by
  have k : ∀ b o, b ≠ da → H b = some o → H' b = some o := fun b o n hb => f.keep (by simpa using n) hb
  obtain ⟨ps, h1, h2, h3⟩ := h pq hpq
  refine ⟨ps, k _ _ (ne_of h1 hd (by intro z; cases z)) h1, h2, fun pos cv hcv => ?_⟩
  obtain ⟨c0, e1, e2⟩ := h3 pos cv hcv
  exact ⟨c0, e1, k _ _ (ne_of e2 hd (by unfold CodeO; intro z; cases z)) e2⟩
def spTable (C Pt : Addr) : Sp := fun vs H Q _ => ∃ (da : Addr), vs = [.ref da] ∧ DrawS H da ∧ Tabs (TL Pt) H ∧
  ∀ tp t ga D H', H' tp = some (.tup [.ref t, .ref ga]) → DataR H' da ga D → DatOk D → D.clean = true → TabJ C H' t D .non → DrawS H' da → Tabs (TL Pt) H' → (∀ b o, b ≠ da → H b = some o → (∀ ps, o ≠ .tbl ps) → H' b = some o) → Q (.ref tp) H'
theorem sc_law_table : FnScope ["_law_draw", "_law_way", "_law_data"] ["_law_draw"] (defScope s_law_table) := ⟨rfl, rfl, rfl, by decide +kernel, rfl, by decide +kernel, by decide +kernel⟩
theorem ok_law_table (F : FnT K "_law_table" "_law_table" s_law_table [] [] f fd) (T : Txt K mg C Dc) (G_law_take : Atake P w K mg base) (G_law_usual_like : GF P w K mg base "_law_usual_like" ["_law_draw"] [] 5 (spData true)) (G_law_any_table : GF P w K mg base "_law_any_table" ["_law_draw"] [] 4 (spData false)) (G_law_made : GF P w K mg base "_law_made" ["_law_data"] [] 5 (spMade C)) (M_Table_flaw : MF P w K mg base C "flaw" ["self"] 7 (spFlaw C Pt)) :
    FnOk P w K mg base CX0 8 f fd ["_law_draw"] (spTable C Pt) := by
  refine F.ok sc_law_table (fun vs H Q E ⟨_, h, _⟩ => by rw [h]; rfl) (fun cdv A outer s H vs Q E hr ⟨da, hv, hS, hT, q⟩ => ⟨_, PSs.nox (pss_cons (ps_set (i := 1) sc_law_table.nd rfl (Or.inl rfl) (pe_callG G_law_take hr (by decide) (by rfl) (pa_cons (pv 0) (pa_cons pe_int pa_nil))))
    (pss_cons (ps_set (i := 2) sc_law_table.nd rfl (Or.inl rfl) (pe_ifExp (pt_cmpR op_lt (pv 1) pe_int (nomark _)) (pe_callG G_law_usual_like hr (by decide) (by rfl) (pa_cons (pv 0) pa_nil)) (pe_callG G_law_any_table hr (by decide) (by rfl) (pa_cons (pv 0) pa_nil))))
    (pss_cons (ps_if (PW.pt (pw_and (pt_cmpR op_eq (pv 1) pe_int (nomark _)) (pw_and1 (pt_cmp (pc_notN (pe_methG0 M_Table_flaw T.clC hr (by decide) (pe_callG G_law_made hr (by decide) (by rfl) (pa_cons (pv 2) pa_nil)))))))) (pss_one (ps_set (i := 2) sc_law_table.nd rfl (Or.inl rfl) (pe_callG G_law_usual_like hr (by decide) (by rfl) (pa_cons (pv 0) pa_nil)))) pss_nil)
    (pss_one (ps_ret (pe_tup (pa_cons (pe_callG G_law_made hr (by decide) (by rfl) (pa_cons (pv 2) pa_nil)) (pa_cons (pv 2) pa_nil)))))))), ?_⟩)
  subst hv
  obtain ⟨Z, hD⟩ := hS.r
  refine q_asgA (at_take (k := 4) (ev_var (i := 0) (v := .ref da) rfl) (fun _ _ => ev_c) hD (by decide) (by decide)) fun v H1 ⟨way, hv, hway, hD1, f1⟩ => ?_
  subst hv
  obtain ⟨kvs0, hdl0⟩ := hD.live
  have T1 := Tabs.fr hT hdl0 f1
  -- what ends it
  have fin : ∀ (ga : Addr) (D : TD Str) (H5 : Hp), DataR H5 da ga D → DatOk D → D.clean = true → DrawS H5 da → Tabs (TL Pt) H5 → (∀ b o, b ≠ da → H b = some o → (∀ ps, o ≠ .tbl ps) → H5 b = some o) →
      tRet (tTup (tCons (tCall (spMade C) [] E0 (tCons (tVar 2) tNil)) (tCons (tVar 2) tNil))) { nx := fun _ H' => Q .non H', rt := Q } ([some (.ref da), some (.int way), some (.ref ga)] : L2.St) H5 := by
    intro ga D H5 hR ok cl hS5 hT5 k5
    refine ⟨.ref ga, rfl, da, ga, D, rfl, hR, ok, fun t H6 e6 ht hJ => ?_⟩
    refine ⟨.ref ga, rfl, sz_of (by show 2 ≤ 100000; decide), fun tp htp => ?_⟩
    have e7 := Ex.new (o := .tup [.ref t, .ref ga]) htp
    exact q tp t ga D _ upd_same (hR.ex (e6.trans e7)) ok cl (hJ.ex e7) (hS5.ex (e6.trans e7)) (hT5.ext (e6.trans e7)) fun b o n1 hb n2 => (e6.trans e7) _ _ (k5 b o n1 hb n2)
  have k1 : ∀ {H5 : Hp}, Fr [da] [da] H H5 → ∀ b o, b ≠ da → H b = some o → (∀ ps, o ≠ .tbl ps) → H5 b = some o := fun f b o n hb _ => f.keep (by simpa using n) hb
  obtain ⟨kvs1, hdl1⟩ := hD1.live
  refine q_asgA (R := fun v H2 => ∃ ga D, v = .ref ga ∧ DataR H2 da ga D ∧ DatOk D ∧ (way ≠ 3 → D.clean = true) ∧ DrawR Z H2 da ∧ Fr [da] [da] H1 H2) (fun Q q => ?_) fun v H2 ⟨ga, D, hv, hR, ok, hcl, hD2, f2⟩ => ?_
  · refine ⟨.int way, rfl, way, 3, rfl, rfl, _, rfl, ?_⟩
    by_cases hw : (way : Int) < 3
    · rw [decide_eq_true hw]
      refine if_t ?_
      exact ⟨.ref da, rfl, Z, da, rfl, hD1, fun ga D H2 hR ok hcl hD2 f2 => q _ H2 ⟨ga, D, rfl, hR, ok, fun _ => hcl rfl, hD2, f2⟩⟩
    · rw [decide_eq_false hw]
      refine if_f ?_
      exact ⟨.ref da, rfl, Z, da, rfl, hD1, fun ga D H2 hR ok hcl hD2 f2 => q _ H2 ⟨ga, D, rfl, hR, ok, fun h => absurd (by omega) h, hD2, f2⟩⟩
  subst hv
  have T2 := Tabs.fr T1 hdl1 f2
  have f02 := f1.trans f2
  show tSeq _ _ _ ([some (.ref da), some (.int way), some (.ref ga)] : L2.St) H2
  by_cases hw : way = 3
  · subst hw
    refine ⟨.int 3, rfl, rfl, true, rfl, ?_⟩
    refine if_t ?_
    refine ⟨.ref ga, rfl, da, ga, D, rfl, hR, ok, fun t H3 e3 ht hJ => ?_⟩
    obtain ⟨dx, o, p, w0, u, ob, kvp, kvw, kvu, A3⟩ := id hJ
    refine ⟨t, dx, _, rfl, A3.at_, rfl, t, D, rfl, hJ, ok.wf, T2.ext e3, fun H4 v k4 T4 J4 hv => ?_⟩
    have ntd : ∀ b o, H2 b = some o → b ≠ t := fun b o hb z => by rw [z, ht] at hb; cases hb
    have k24 : ∀ b o, H2 b = some o → (∀ ps, o ≠ .tbl ps) → H4 b = some o := fun b o hb n => k4 b o (ntd b o hb) (e3 _ _ hb) n
    have S4 : DrawS H4 da := hD2.s.but (t := t) (fun o h => by rw [ht] at h; cases h) fun b o _ hb n => k24 b o hb n
    have R4 : DataR H4 da ga D := by
      obtain ⟨a, b, g, u, xs, A, n⟩ := hR
      exact ⟨a, b, g, u, xs, ⟨k24 _ _ A.at_ (fun _ z => by cases z), k24 _ _ A.dat.ord (fun _ z => by cases z), k24 _ _ A.dat.prs (fun _ z => by cases z), kdP.L_mono (fun c xs hc => k24 _ _ hc (fun _ z => by cases z)) A.dat.prk, k24 _ _ A.dat.giv (fun _ z => by cases z), k24 _ _ A.dat.abv (fun _ z => by cases z)⟩, n⟩
    have k04 : ∀ b o, b ≠ da → H b = some o → (∀ ps, o ≠ .tbl ps) → H4 b = some o := fun b o n1 hb n2 => k24 b o (k1 f02 b o n1 hb n2) n2
    refine ⟨!decide (v = .non), rfl, ?_⟩
    by_cases hn : v = .non
    · subst hn
      refine if_f ?_
      exact fin ga D H4 R4 ok (hv.mp rfl) S4 T4 k04
    · rw [decide_eq_false hn]
      refine if_t ?_
      obtain ⟨Z4, hD4⟩ := S4.r
      obtain ⟨kvs4, hdl4⟩ := hD4.live
      refine ⟨.ref da, rfl, Z4, da, rfl, hD4, fun ga2 D2 H5 hR5 ok5 hcl5 hD5 f5 => ?_⟩
      exact fin ga2 D2 H5 hR5 ok5 (hcl5 rfl) hD5.s (Tabs.fr T4 hdl4 f5) fun b o n1 hb n2 => f5.keep (by simpa using n1) (k04 b o n1 hb n2)
  · refine ⟨.int way, rfl, rfl, false, by simp; omega, ?_⟩
    refine if_f ?_
    refine if_f ?_
    exact fin ga D H2 hR ok (hcl hw) hD2.s T2 (k1 f02)
end
end HT
set_option Elab.async false
set_option linter.all false
set_option maxRecDepth 100000
set_option maxHeartbeats 4000000
/-! the law's plain answers over the data: near, bears, joined -/
namespace HT
open PySem PySem.Spec PyProof.Rows L2 Evl LamX
section
variable {P : Program} {w : World} {K : PySem.W.Frag} {mg : Str → Option Value} {base : Heap} {C Dc Pt : Addr} {f : Addr} {fd : FuncData} {Z H H' : Hp} {da : Addr} {σ : L2.St} {ta tb te tc : TE} {D : Ends} {tz tu tw : TS}
def cmpP : Cmp K kdP := ⟨fun p => .tuple [.str p.1, .str p.2], fun a b => by
    rw [PyData.eqv, show [PyData.str a.1, PyData.str a.2] = [a.1, a.2].map PyData.str from rfl, show [PyData.str b.1, PyData.str b.2] = [b.1, b.2].map PyData.str from rfl]
    refine (eqvAll_map (K := K) cmpS (as := [a.1, a.2]) (bs := [b.1, b.2])).trans ?_
    refine decide_eq_decide.mpr ⟨fun h => Prod.ext (by injection h) (by injection h with _ h; injection h), fun h => by rw [h]⟩, fun b v H ⟨p, h1, h2⟩ => by
    rw [h1]
    exact .tup (SqT.of h2) (.cons (.str _) (.cons (.str _) .nil))⟩
theorem lowP {p : Str × Str} (h1 : PyData.strOk p.1 = true) (h2 : PyData.strOk p.2 = true) : lowD (.tuple [.str p.1, .str p.2]) = true := low_tup fun d hd => by
  simp only [List.mem_cons, List.not_mem_nil, or_false] at hd
  rcases hd with rfl | rfl
  · exact lay_str h1
  · exact lay_str h2
theorem shaped_lowD {d : PyData} (h : lowD d = true) : SeqAt.shaped d = true := by
  unfold lowD at h
  simp only [Bool.and_eq_true, decide_eq_true_eq] at h
  unfold SeqAt.shaped
  rw [h.1, Bool.true_and]
  exact decide_eq_true (by omega)
theorem ev_inL2 {β : Type} [DecidableEq β] {k : Kd β} (c : Cmp K k) {a : β} {bs : List β} (h1 : EvP ta σ H fun _ v H2 => k.R a v H2) (h2 : EvP tb σ H fun _ v H2 => LsP K k bs v H2) (la : lowD (c.enc a) = true) (lb : ∀ b ∈ bs, lowD (c.enc b) = true) : Ev (tOp (rInD K) ta tb) σ H (.bl (decide (a ∈ bs))) :=
  ev_opP (Pa := fun v H => k.R a v H) h1 h2 (fun _ _ _ e q => k.ex e q) fun x y H1 e1 hx ⟨p, xs, hy, h3, h4⟩ => rv_val fun H2 e2 Q hq => by
    subst hy
    refine ⟨c.enc a, bs.map c.enc, c.dp _ _ _ (k.ex e2 hx), .lst (ex_l e2 h3) (c.all (k.L_ex e2 h4)), shaped_lowD la, shaped_low (fun d hd => ?_), ?_⟩
    · obtain ⟨b, hb, rfl⟩ := List.mem_map.mp hd
      exact lb b hb
    · have : ((bs.map c.enc).any fun z => PyData.eqv z (c.enc a)) = decide (a ∈ bs) := by
        rw [List.any_map]
        refine Bool.eq_iff_iff.mpr ?_
        rw [List.any_eq_true, decide_eq_true_eq]
        constructor
        · rintro ⟨b, hb, e⟩
          have e2 : PyData.eqv (c.enc b) (c.enc a) = true := e
          rw [c.eqv, decide_eq_true_eq] at e2
          rw [← e2]; exact hb
        · intro h
          exact ⟨a, h, by show PyData.eqv (c.enc a) (c.enc a) = true; rw [c.eqv]; simp⟩
      rw [this]
      exact hq
def spLNear : Sp := fun vs H Q _ => ∃ (da ga : Addr) (D : TD Str) (a b : Str), vs = [.ref ga, .str a, .str b] ∧ DataR H da ga D ∧ DatOk D ∧ a ∈ D.order ∧ b ∈ D.order ∧ ∀ H', Ex H H' → Q (.bl (D.near a b)) H'
theorem sc_law_near : FnScope ["_law_data", "_law_one", "_law_other"] ["_law_data", "_law_one", "_law_other"] (defScope s_law_near) := ⟨rfl, rfl, rfl, by decide +kernel, rfl, by decide +kernel, by decide +kernel⟩
theorem ok_law_near (F : FnT K "_law_near" "_law_near" s_law_near [] [] f fd) (T : Txt K mg C Dc) : FnOk P w K mg base CX0 2 f fd ["_law_data", "_law_one", "_law_other"] spLNear := by
  refine F.ok sc_law_near (fun vs H Q E ⟨_, _, _, _, _, h, _⟩ => by rw [h]; rfl) (fun cdv A outer s H vs Q E hr ⟨da, ga, D, a, b, hv, hR, ok, ha, hb, q⟩ => ⟨_, PSs.nox (pss_one (ps_ret (pe_or (pe_cmpR (op_inDK K rfl (hu65 hr)) (pe_tup (pa_cons (pv 1) (pa_cons (pv 2) pa_nil))) (pe_dget (hu_of hr) (pv 0) pe_str (fun _ _ => rfl)) (by rfl)) (pe_one (pe_cmpR (op_inDK K rfl (hu65 hr)) (pe_tup (pa_cons (pv 2) (pa_cons (pv 1) pa_nil))) (pe_dget (hu_of hr) (pv 0) pe_str (fun _ _ => rfl)) (by rfl)))))), ?_⟩)
  subst hv
  obtain ⟨oa, ob, og, ou, xs, A, n⟩ := hR
  have gp : Ev (tDGet (tVar 0) (tC (.str "pairs"))) ([some (.ref ga), some (.str a), some (.str b)] : L2.St) H (.ref ob) := ev_dget (ev_var rfl) ev_c (dget_k (k := .inr "pairs") (.inl A.at_))
  have lp : ∀ p ∈ D.pairs, lowD ((cmpP (K := K)).enc p) = true := fun p hp => lowP (ok.wf.ok _ (ok.pin p hp).1) (ok.wf.ok _ (ok.pin p hp).2)
  have key : ∀ x y : Nat, ∀ p q : Str, Ev (tVar x) ([some (.ref ga), some (.str a), some (.str b)] : L2.St) H (.str p) → Ev (tVar y) ([some (.ref ga), some (.str a), some (.str b)] : L2.St) H (.str q) → p ∈ D.order → q ∈ D.order →
      Ev (tOp (rInD K) (tTup (tCons (tVar x) (tCons (tVar y) tNil))) (tDGet (tVar 0) (tC (.str "pairs")))) ([some (.ref ga), some (.str a), some (.str b)] : L2.St) H (.bl (decide ((p, q) ∈ D.pairs))) := fun x y p q hx hy hp hq =>
    ev_is (ev_inL2 cmpP (ep_pair hx hy) (ls_var gp ⟨ob, xs, rfl, SqL.of A.dat.prs, A.dat.prk⟩) (lowP (ok.wf.ok _ hp) (ok.wf.ok _ hq)) lp) (congrArg V.bl (decide_eq_decide.mpr Iff.rfl))
  refine s_ret (ev_orV (key 1 2 a b (ev_var (i := 1) rfl) (ev_var (i := 2) rfl) ha hb) (fun _ => key 2 1 b a (ev_var (i := 2) rfl) (ev_var (i := 1) rfl) hb ha)) fun H2 e2 => ?_
  refine q H2 e2
abbrev AlNear (P : Program) (w : World) (K : PySem.W.Frag) (mg : Str → Option Value) (base : Heap) := GF P w K mg base "_law_near" ["_law_data", "_law_one", "_law_other"] [] 2 spLNear
def spLBears : Sp := fun vs H Q _ => ∃ (da ga : Addr) (D : TD Str) (a b : Str), vs = [.ref ga, .str a, .str b] ∧ DataR H da ga D ∧ DatOk D ∧ a ∈ D.order ∧ b ∈ D.order ∧ ∀ H', Ex H H' → Q (.bl (D.bears a b)) H'
theorem sc_law_bears : FnScope ["_law_data", "_law_one", "_law_other", "_law_rank", "_law_near_here", "_law_mode"] ["_law_data", "_law_one", "_law_other"] (defScope s_law_bears) := ⟨rfl, rfl, rfl, by decide +kernel, rfl, by decide +kernel, by decide +kernel⟩
theorem ok_law_bears (F : FnT K "_law_bears" "_law_bears" s_law_bears [] [] f fd) (T : Txt K mg C Dc) (G_law_near : AlNear P w K mg base) : FnOk P w K mg base CX0 3 f fd ["_law_data", "_law_one", "_law_other"] spLBears := by
  refine F.ok sc_law_bears (fun vs H Q E ⟨_, _, _, _, _, h, _⟩ => by rw [h]; rfl) (fun cdv A outer s H vs Q E hr ⟨da, ga, D, a, b, hv, hR, ok, ha, hb', q⟩ => ⟨_, PSs.nox (pss_cons (ps_set (i := 3) sc_law_bears.nd rfl (Or.inl rfl) (pe_lst (pa_cons pe_str (pa_cons pe_str (pa_cons pe_str pa_nil)))))
    (pss_cons (ps_if (pt_cmpR op_lt (pe_bmK K rfl PySem.F.plainAttrs_list PySem.F.slot_list_index PySem.F.type_list_index (mt_indexK K rfl) (pv 3) (pa_cons (pe_dget2 (hu_of hr) (pe_dget (hu_of hr) (pv 0) pe_str (fun _ _ => rfl)) (pv 1) pe_str ⟨rfl, rfl, rfl, rfl⟩) pa_nil)) (pe_bmK K rfl PySem.F.plainAttrs_list PySem.F.slot_list_index PySem.F.type_list_index (mt_indexK K rfl) (pv 3) (pa_cons (pe_dget2 (hu_of hr) (pe_dget (hu_of hr) (pv 0) pe_str (fun _ _ => rfl)) (pv 2) pe_str ⟨rfl, rfl, rfl, rfl⟩) pa_nil)) (nomark _)) (pss_one (ps_ret pe_bl)) pss_nil)
    (pss_cons (ps_setLc (i := 4) (own := [("_law_mode", 5)]) rfl sc_law_bears.nd rfl rfl (sw_true rfl rfl rfl (by rfl)) (pi_listK K rfl (pe_dget (hu_of hr) (pv 0) pe_str (fun _ _ => rfl))) (blkOk_by (by rfl)) (fun _ _ _ _ _ => (pg_name (i := 5) sc_law_bears.nd rfl (by first | exact Or.inl rfl | exact Or.inr rfl))) (fun _ _ _ _ _ => (pts_one (pt_val (pe_callG G_law_near hr (by decide) (by rfl) (pa_cons (pv 0) (pa_cons (pv 1) (pa_cons (pv 5) pa_nil))))))) (fun _ _ _ _ _ => (pv 5)))
    (pss_one (ps_ret (pe_cmpR (op_eqDK K rfl hr.units) (pe_lc (own := [("_law_mode", 5)]) rfl sc_law_bears.nd (pi_listK K rfl (pv 4)) (blkOk_by (by rfl)) (fun _ _ _ _ _ => (pg_name (i := 5) sc_law_bears.nd rfl (by first | exact Or.inl rfl | exact Or.inr rfl))) (fun _ _ _ _ _ => (pts_one (pt_not (pt_val (pe_callG G_law_near hr (by decide) (by rfl) (pa_cons (pv 0) (pa_cons (pv 2) (pa_cons (pv 5) pa_nil)))))))) (fun _ _ _ _ _ => (pv 5))) (pe_lst pa_nil) (nomark _))))))), ?_⟩)
  subst hv
  obtain ⟨oa, ob, og, ou, xs, A, n⟩ := hR
  have hR2 : DataR H da ga D := ⟨oa, ob, og, ou, xs, A, n⟩
  refine q_asgL (el_lst (vs := ([("" : Str), "see", "change"].map V.str)) (ea_cons ev_c (ea_cons ev_c (ea_cons ev_c ea_nil))) (by decide)) fun l H1 hln e1 hl => ?_
  show tSeq _ _ _ ([some (.ref ga), some (.str a), some (.str b), some (.ref l), none, none] : L2.St) H1
  have A1 := A.ex e1
  have hR1 := hR2.ex e1
  have rk : ∀ (i : Nat) (m : Str), Ev (tVar i) ([some (.ref ga), some (.str a), some (.str b), some (.ref l), none, none] : L2.St) H1 (.str m) → Ev (tBM K "list" (rIndex K) (tVar 3) (tCons (tDGet2 (tDGet (tVar 0) (tC (.str "gives"))) (tVar i) (tC (.str ""))) tNil)) ([some (.ref ga), some (.str a), some (.str b), some (.ref l), none, none] : L2.St) H1 (.int (D.rank m)) := fun i m hm => by
    have g1 : Ev (tDGet2 (tDGet (tVar 0) (tC (.str "gives"))) (tVar i) (tC (.str ""))) ([some (.ref ga), some (.str a), some (.str b), some (.ref l), none, none] : L2.St) H1 (.str (rankW (D.rank m))) := by
      refine ev_is (ev_dget2 (a := og) (o := valV (kvS (givW D)) (.inr m)) (z := .str "") (ev_dget (ev_var rfl) ev_c (dget_k (k := .inr "gives") (.inl A1.at_))) hm ev_c (dget_k (k := .inr m) (.inl A1.dat.giv))) ?_
      rw [kvS_get, ← givW_get]
      cases aget (givW D) m <;> rfl
    intro H2 e2 Q' q'
    refine (ev_var (i := 3) (v := .ref l) rfl) H2 e2 _ fun H3 e3 => ⟨.inl ⟨rfl, _, SqL.of ((e2.trans e3) _ _ hl)⟩, g1 H3 (e2.trans e3) _ fun H4 e4 => ?_⟩
    have hs : SqL K H4 l (([("" : Str), "see", "change"].map V.str)) := SqL.of (((e2.trans e3).trans e4) _ _ hl)
    have r2 := ok.wf.rk m
    have q4 := q' H4 (e3.trans e4)
    generalize D.rank m = r at r2 q4 ⊢
    match r, r2 with
    | 0, _ => exact ⟨l, _, _, 0, .str "", rfl, rfl, hs, rfl, by decide, rfl, by decide, fun k z' hk => by omega, q4⟩
    | 1, _ => exact ⟨l, _, _, 1, .str "see", rfl, rfl, hs, rfl, by decide, rfl, by decide, fun k z' hk hz => by
        obtain rfl : k = 0 := by omega
        cases hz; decide, q4⟩
    | 2, _ => exact ⟨l, _, _, 2, .str "change", rfl, rfl, hs, rfl, by decide, rfl, by decide, fun k z' hk hz => by
        match k, hk with
        | 0, _ => cases hz; decide
        | 1, _ => cases hz; decide, q4⟩
  refine q_when (et_test (ev_op (rk 1 a (ev_var (i := 1) rfl)) (rk 2 b (ev_var (i := 2) rfl)) rv_I0)) (fun hb H2 e2 => ?_) (fun hb H2 e2 => ?_)
  · refine s_ret ev_c fun H3 e3 => ?_
    have : D.bears a b = false := by
      unfold TD.bears
      have h := of_decide_eq_true hb
      rw [show decide (D.rank a < D.rank b) = true from decide_eq_true (by omega)]
      rfl
    rw [← this]
    exact q H3 (e1.trans (e2.trans e3))
  · have A2 := A1.ex e2
    have hR3 := hR1.ex e2
    have near : ∀ (i : Nat) (m : Str) (σ : L2.St) (H4 : Hp), Ex H2 H4 → σ[0]? = some (some (.ref ga)) → Ev (tVar i) σ H4 (.str m) → m ∈ D.order → ∀ x, x ∈ D.order → ∀ k, Ev (tVar k) σ H4 (.str x) → Ev (tCall spLNear [] E0 (tCons (tVar 0) (tCons (tVar i) (tCons (tVar k) tNil)))) σ H4 (.bl (D.near m x)) := fun i m σ H4 e4 h0 hi hm x hx k hk =>
      ev_call (vs := [.ref ga, .str m, .str x]) (ea_cons (ev_var h0) (ea_cons hi (ea_cons hk ea_nil))) fun H5 e5 Q q E => ⟨da, ga, D, m, x, rfl, hR3.ex (e4.trans e5), ok, hm, hx, q⟩
    have hX := ep_lcW (σ := ([some (.ref ga), some (.str a), some (.str b), some (.ref l), none, none] : L2.St)) (H := H2) (te := tVar 5) (g := gName 5) (vs := [5]) (t := tB (tCall spLNear [] E0 (tCons (tVar 0) (tCons (tVar 1) (tCons (tVar 5) tNil))))) (fun m : Str => D.near a m) (fun m : Str => m) (kdV V.str)
      (wk_list (K := K) (ka := kdV V.str) (ls_var (bs := D.order) (ev_dget (ev_var (i := 0) rfl) ev_c (dget_k (k := .inr "order") (.inl A2.at_))) ⟨oa, _, rfl, SqL.of A2.dat.ord, kdV_of⟩)) (by have := ok.modes.hi; omega)
      (fun m x H8 hi e8 hx => by
        have hx2 : x = V.str m := hx
        subst hx2
        exact ⟨rfl, Ex.refl _, et_B (near 1 a _ H8 e8 rfl (ev_var (i := 1) rfl) ha m hi 5 (ev_var (i := 5) rfl)), fun _ => ep_ev (ev_var (i := 5) rfl)⟩)
      gname_mono
    rw [List.map_id'] at hX
    refine q_asgN hX fun p ys H3 hpn e3 hp kp => ?_
    rw [kdV_L kp] at hp
    show tRet _ _ ([some (.ref ga), some (.str a), some (.str b), some (.ref l), some (.ref p), none] : L2.St) H3
    have hY := ep_lcW (σ := ([some (.ref ga), some (.str a), some (.str b), some (.ref l), some (.ref p), none] : L2.St)) (H := H3) (te := tVar 5) (g := gName 5) (vs := [5]) (t := tNot (tB (tCall spLNear [] E0 (tCons (tVar 0) (tCons (tVar 2) (tCons (tVar 5) tNil)))))) (fun m : Str => !D.near b m) (fun m : Str => m) (kdV V.str)
      (wk_list (K := K) (ka := kdV V.str) (ls_var (bs := D.order.filter fun m => D.near a m) (ev_var (i := 4) (v := .ref p) rfl) ⟨p, _, rfl, SqL.of hp, kdV_of⟩)) (by have := ok.modes.hi; have := List.length_filter_le (fun m => D.near a m) D.order; omega)
      (fun m x H8 hi e8 hx => by
        have hx2 : x = V.str m := hx
        subst hx2
        exact ⟨rfl, Ex.refl _, et_not (et_B (near 2 b _ H8 (e3.trans e8) rfl (ev_var (i := 2) rfl) hb' m (List.mem_filter.mp hi).1 5 (ev_var (i := 5) rfl))), fun _ => ep_ev (ev_var (i := 5) rfl)⟩)
      gname_mono
    rw [List.map_id'] at hY
    refine s_ret (ev_eqL cmpS (ls_new hY) ls_nil (fun m hm => low_str (ok.wf.ok _ (List.mem_filter.mp (List.mem_filter.mp hm).1).1)) (by simp)) fun H4 e4 => ?_
    have e : D.bears a b = decide (((D.order.filter fun m => D.near a m).filter fun m => !D.near b m) = []) := by
      unfold TD.bears
      have h := of_decide_eq_false hb
      rw [show decide (D.rank a < D.rank b) = false from decide_eq_false (by omega)]
      refine Bool.eq_iff_iff.mpr ?_
      rw [decide_eq_true_eq, List.filter_eq_nil_iff]
      simp only [Bool.not_false, Bool.true_and, List.all_eq_true, List.mem_filter, Bool.or_eq_true, Bool.not_eq_true', Bool.not_eq_true, Bool.not_eq_false']
      constructor
      · intro h1 m ⟨hm, hn⟩
        rcases h1 m hm with h2 | h2
        · rw [hn] at h2; cases h2
        · simpa using h2
      · intro h1 m hm
        cases hn : D.near a m with
        | false => exact .inl rfl
        | true => exact .inr (by simpa using h1 m ⟨hm, hn⟩)
    rw [← e]
    exact q H4 (e1.trans (e2.trans (e3.trans e4)))
abbrev AlBears (P : Program) (w : World) (K : PySem.W.Frag) (mg : Str → Option Value) (base : Heap) := GF P w K mg base "_law_bears" ["_law_data", "_law_one", "_law_other"] [] 3 spLBears
def spLJoined : Sp := fun vs H Q _ => ∃ (da ga : Addr) (D : TD Str) (a b : Str), vs = [.ref ga, .str a, .str b] ∧ DataR H da ga D ∧ DatOk D ∧ a ∈ D.order ∧ b ∈ D.order ∧ ∀ H', Ex H H' → Q (optS (D.joined a b)) H'
theorem sc_law_joined : FnScope ["_law_data", "_law_one", "_law_other", "_law_both", "_law_mode", "_law_more"] ["_law_data", "_law_one", "_law_other"] (defScope s_law_joined) := ⟨rfl, rfl, rfl, by decide +kernel, rfl, by decide +kernel, by decide +kernel⟩
theorem ok_law_joined (F : FnT K "_law_joined" "_law_joined" s_law_joined [] [] f fd) (T : Txt K mg C Dc) (G_law_bears : AlBears P w K mg base) : FnOk P w K mg base CX0 4 f fd ["_law_data", "_law_one", "_law_other"] spLJoined := by
  refine F.ok sc_law_joined (fun vs H Q E ⟨_, _, _, _, _, h, _⟩ => by rw [h]; rfl) (fun cdv A outer s H vs Q E hr ⟨da, ga, D, a, b, hv, hR, ok, ha, hb, q⟩ => ⟨_, PSs.nox (pss_cons (ps_if (PW.pt (pw_or (pt_val (pe_callG G_law_bears hr (by decide) (by rfl) (pa_cons (pv 0) (pa_cons (pv 1) (pa_cons (pv 2) pa_nil))))) (pw_or1 (pt_val (pe_callG G_law_bears hr (by decide) (by rfl) (pa_cons (pv 0) (pa_cons (pv 2) (pa_cons (pv 1) pa_nil)))))))) (pss_one (ps_ret (pe_ifExp (pt_val (pe_callG G_law_bears hr (by decide) (by rfl) (pa_cons (pv 0) (pa_cons (pv 1) (pa_cons (pv 2) pa_nil))))) (pv 1) (pv 2)))) pss_nil)
    (pss_cons (ps_setLc (i := 3) (own := [("_law_mode", 4)]) rfl sc_law_joined.nd rfl rfl (sw_true rfl rfl rfl (by rfl)) (pi_listK K rfl (pe_dget (hu_of hr) (pv 0) pe_str (fun _ _ => rfl))) (blkOk_by (by rfl)) (fun _ _ _ _ _ => (pg_name (i := 4) sc_law_joined.nd rfl (by first | exact Or.inl rfl | exact Or.inr rfl))) (fun _ _ _ _ _ => (pts_one (PW.pt (pw_and (pt_val (pe_callG G_law_bears hr (by decide) (by rfl) (pa_cons (pv 0) (pa_cons (pv 4) (pa_cons (pv 1) pa_nil))))) (pw_and1 (pt_val (pe_callG G_law_bears hr (by decide) (by rfl) (pa_cons (pv 0) (pa_cons (pv 4) (pa_cons (pv 2) pa_nil)))))))))) (fun _ _ _ _ _ => (pv 4)))
    (pss_cons (ps_for PassesOwn.never rfl (pi_listK K rfl (pv 3)) (pg_name (i := 4) sc_law_joined.nd rfl (by first | exact Or.inl rfl | exact Or.inr rfl)) (pss_one (ps_if (pt_cmpR (op_eqDK K rfl hr.units) (pe_lc (own := [("_law_more", 5)]) rfl sc_law_joined.nd (pi_listK K rfl (pv 3)) (blkOk_by (by rfl)) (fun _ _ _ _ _ => (pg_name (i := 5) sc_law_joined.nd rfl (by first | exact Or.inl rfl | exact Or.inr rfl))) (fun _ _ _ _ _ => (pts_one (pt_not (pt_val (pe_callG G_law_bears hr (by decide) (by rfl) (pa_cons (pv 0) (pa_cons (pv 5) (pa_cons (pv 4) pa_nil)))))))) (fun _ _ _ _ _ => (pv 5))) (pe_lst pa_nil) (nomark _)) (pss_one (ps_ret (pv 4))) pss_nil)))
    (pss_one (ps_ret pe_non))))), ?_⟩)
  subst hv
  have bears : ∀ (i k : Nat) (x y : Str) (σ : L2.St) (H4 : Hp), Ex H H4 → σ[0]? = some (some (.ref ga)) → Ev (tVar i) σ H4 (.str x) → Ev (tVar k) σ H4 (.str y) → x ∈ D.order → y ∈ D.order → Ev (tCall spLBears [] E0 (tCons (tVar 0) (tCons (tVar i) (tCons (tVar k) tNil)))) σ H4 (.bl (D.bears x y)) := fun i k x y σ H4 e4 h0 hi hk hx hy =>
    ev_call (vs := [.ref ga, .str x, .str y]) (ea_cons (ev_var h0) (ea_cons hi (ea_cons hk ea_nil))) fun H5 e5 Q q E => ⟨da, ga, D, x, y, rfl, hR.ex (e4.trans e5), ok, hx, hy, q⟩
  refine q_when (b := D.bears a b || D.bears b a) (et_or (et_B (bears 1 2 a b _ H (Ex.refl _) rfl (ev_var (i := 1) rfl) (ev_var (i := 2) rfl) ha hb)) (fun _ => et_B (bears 2 1 b a _ H (Ex.refl _) rfl (ev_var (i := 2) rfl) (ev_var (i := 1) rfl) hb ha))) (fun z H1 e1 => ?_) (fun z H1 e1 => ?_)
  · refine s_ret (v := optS (D.joined a b)) (ev_if (et_B (bears 1 2 a b _ H1 e1 rfl (ev_var (i := 1) rfl) (ev_var (i := 2) rfl) ha hb)) (fun z2 => ?_) (fun z2 => ?_)) fun H2 e2 => q H2 (e1.trans e2)
    · have : D.joined a b = some a := by unfold TD.joined; rw [if_pos z2]
      rw [this]; exact ev_var (i := 1) rfl
    · have : D.joined a b = some b := by
        rw [z2, Bool.false_or] at z
        unfold TD.joined; rw [if_neg (by rw [z2]; decide), if_pos z]
      rw [this]; exact ev_var (i := 2) rfl
  · rw [Bool.or_eq_false_iff] at z
    have hj : D.joined a b = (D.least a b).head? := by unfold TD.joined; rw [if_neg (by rw [z.1]; decide), if_neg (by rw [z.2]; decide)]
    rw [hj] at q
    obtain ⟨oa, ob, og, ou, xs, A, n⟩ := hR.ex e1
    have hX := ep_lcW (σ := ([some (.ref ga), some (.str a), some (.str b), none, none, none] : L2.St)) (H := H1) (te := tVar 4) (g := gName 4) (vs := [4]) (t := tAnd (tB (tCall spLBears [] E0 (tCons (tVar 0) (tCons (tVar 4) (tCons (tVar 1) tNil))))) (tB (tCall spLBears [] E0 (tCons (tVar 0) (tCons (tVar 4) (tCons (tVar 2) tNil)))))) (fun m : Str => D.bears m a && D.bears m b) (fun m : Str => m) (kdV V.str)
      (wk_list (K := K) (ka := kdV V.str) (ls_var (bs := D.order) (ev_dget (ev_var (i := 0) rfl) ev_c (dget_k (k := .inr "order") (.inl A.at_))) ⟨oa, _, rfl, SqL.of A.dat.ord, kdV_of⟩)) (by have := ok.modes.hi; omega)
      (fun m x H8 hi e8 hx => by
        have hx2 : x = V.str m := hx
        subst hx2
        exact ⟨rfl, Ex.refl _, et_and (et_B (bears 4 1 m a _ H8 (e1.trans e8) rfl (ev_var (i := 4) rfl) (ev_var (i := 1) rfl) hi ha)) (fun _ => et_B (bears 4 2 m b _ H8 (e1.trans e8) rfl (ev_var (i := 4) rfl) (ev_var (i := 2) rfl) hi hb)), fun _ => ep_ev (ev_var (i := 4) rfl)⟩)
      gname_mono
    rw [List.map_id'] at hX
    refine q_asgN hX fun p ys H3 hpn e3 hp kp => ?_
    rw [kdV_L kp] at hp
    have hB : (D.order.filter fun m => D.bears m a && D.bears m b) = D.both a b := rfl
    rw [hB] at hp
    have hlen : (D.both a b).length ≤ 8 := Nat.le_trans (List.length_filter_le _ _) ok.modes.hi
    have hin : ∀ m ∈ D.both a b, m ∈ D.order := fun m hm => (List.mem_filter.mp hm).1
    show tSeq _ _ _ ([some (.ref ga), some (.str a), some (.str b), some (.ref p), none, none] : L2.St) H3
    refine q_forLn (j := 4) (ev_var (i := 3) (v := .ref p) rfl) (SqL.of hp) (fun i σ' H' => ∃ o4 o5, σ' = ([some (.ref ga), some (.str a), some (.str b), some (.ref p), o4, o5] : L2.St) ∧ Ex H3 H' ∧ ∀ m ∈ (D.both a b).take i, ((D.both a b).all fun k => D.bears k m) = false)
      (fun H4 e4 => ⟨none, none, rfl, e4, fun m hm => by rw [List.take_zero] at hm; cases hm⟩) (fun i σ' H4 hi ⟨_, _, _, e4, _⟩ => SqL.of (e4 _ _ hp)) (fun i x σ' H4 hx w => ?_) (fun σ' H4 w => ?_)
    · obtain ⟨o4, o5, rfl, e4, hno⟩ := w
      rw [List.getElem?_map] at hx
      obtain ⟨m, hm, rfl⟩ : ∃ y, (D.both a b)[i]? = some y ∧ V.str y = x := by
        cases e : (D.both a b)[i]? with
        | none => rw [e] at hx; cases hx
        | some y => rw [e] at hx; exact ⟨y, rfl, Option.some.inj hx⟩
      have hmb := List.mem_of_getElem? hm
      show tIfS _ _ _ _ ([some (.ref ga), some (.str a), some (.str b), some (.ref p), some (.str m), o5] : L2.St) H4
      have e14 := e1.trans (e3.trans e4)
      have hY := ep_lcW (σ := ([some (.ref ga), some (.str a), some (.str b), some (.ref p), some (.str m), o5] : L2.St)) (H := H4) (te := tVar 5) (g := gName 5) (vs := [5]) (t := tNot (tB (tCall spLBears [] E0 (tCons (tVar 0) (tCons (tVar 5) (tCons (tVar 4) tNil)))))) (fun k : Str => !D.bears k m) (fun m : Str => m) (kdV V.str)
        (wk_list (K := K) (ka := kdV V.str) (ls_var (bs := D.both a b) (ev_var (i := 3) (v := .ref p) rfl) ⟨p, _, rfl, SqL.of (e4 _ _ hp), kdV_of⟩)) (by omega)
        (fun k x H8 hi e8 hx => by
          have hx2 : x = V.str k := hx
          subst hx2
          exact ⟨rfl, Ex.refl _, et_not (et_B (bears 5 4 k m _ H8 (e14.trans e8) rfl (ev_var (i := 5) rfl) (ev_var (i := 4) rfl) (hin k hi) (hin m hmb))), fun _ => ep_ev (ev_var (i := 5) rfl)⟩)
        gname_mono
      rw [List.map_id'] at hY
      have hall : decide (((D.both a b).filter fun k => !D.bears k m) = []) = (D.both a b).all fun k => D.bears k m := by
        refine Bool.eq_iff_iff.mpr ?_
        rw [decide_eq_true_eq, List.filter_eq_nil_iff, List.all_eq_true]
        simp
      refine s_when (b := (D.both a b).all fun k => D.bears k m) (et_is (et_test (ev_eqL cmpS (ls_new hY) ls_nil (fun k hk => low_str (ok.wf.ok _ (hin k (List.mem_filter.mp hk).1))) (by simp))) hall) (fun hb2 H5 e5 => ?_) (fun hb2 H5 e5 => ?_)
      · refine s_ret (v := .str m) (ev_var (i := 4) rfl) fun H6 e6 => ?_
        have hh : (D.least a b).head? = some m := by
          unfold TD.least
          have hsplit : D.both a b = (D.both a b).take i ++ m :: (D.both a b).drop (i + 1) := by
            obtain ⟨hi2, e⟩ := List.getElem?_eq_some_iff.mp hm
            rw [← e, List.getElem_cons_drop, List.take_append_drop]
          have hf : ∀ (f : Str → Bool), (∀ x ∈ (D.both a b).take i, f x = false) → f m = true → ((D.both a b).filter f).head? = some m := fun f h1 h2 => by
            rw [hsplit, List.filter_append, List.filter_eq_nil_iff.mpr (fun x hx => by rw [h1 x hx]; decide), List.nil_append, List.filter_cons_of_pos h2]
            rfl
          exact hf _ hno hb2
        rw [hh] at q
        exact q H6 (e14.trans (e5.trans e6))
      · refine ⟨_, _, rfl, e4.trans e5, fun k hk => ?_⟩
        rw [List.take_succ, hm] at hk
        rcases List.mem_append.mp hk with hk | hk
        · exact hno k hk
        · simp at hk; subst hk; exact hb2
    · obtain ⟨o4, o5, rfl, e4, hno⟩ := w
      refine s_ret ev_c fun H5 e5 => ?_
      have hh : (D.least a b).head? = none := by
        unfold TD.least
        rw [List.filter_eq_nil_iff.mpr (fun x hx => by rw [hno x (by rw [List.length_map, List.take_length]; exact hx)]; decide)]
        rfl
      rw [hh] at q
      exact q H5 (e1.trans (e3.trans (e4.trans e5)))
end
end HT
set_option Elab.async false
set_option linter.all false
set_option maxRecDepth 100000
set_option maxHeartbeats 4000000
/-! the law's model in the heap -/
namespace HT
open PySem PySem.Spec PyProof.Rows L2 Evl LamX
structure MA where
  (mm hd rw pd : Addr)
abbrev MA.foot (M : MA) : List Addr := [M.mm, M.hd, M.rw, M.pd]
abbrev mdK (M : MA) (turn : Int) : List (Key × V) := [(.inr "holds", .ref M.hd), (.inr "row", .ref M.rw), (.inr "turn", .int turn), (.inr "passed", .ref M.pd)]
structure ModR (Z H : Hp) (M : MA) (kf : FI) (rows : List Ent) (sf : FI) (turn : Int) : Prop where
  z : Ex Z H
  zf : ∀ b ∈ M.foot, Z b = none
  nd : M.foot.Nodup
  at_ : H M.mm = some (.dK (mdK M turn))
  kp : DA H M.hd kf
  row : ∃ xs, H M.rw = some (.lst xs) ∧ kdM.L rows xs H
  sk : DA H M.pd sf
abbrev ModAt (Z H : Hp) (M : MA) (S : LS) : Prop := ModR Z H M (fK S.keeps) S.row (fN S.skips) S.turn
section
variable {Z H H' : Hp} {M : MA} {kf sf : FI} {rows : List Ent} {turn : Int}
theorem ModR.ex (h : ModR Z H M kf rows sf turn) (e : Ex H H') : ModR Z H' M kf rows sf turn := by
  obtain ⟨xs, h1, h2⟩ := h.row
  exact ⟨h.z.trans e, h.zf, h.nd, e _ _ h.at_, h.kp.ex e, ⟨xs, e _ _ h1, kdM.L_ex e h2⟩, h.sk.ex e⟩
theorem ModR.fr {F F' : List Addr} (h : ModR Z H M kf rows sf turn) (f : Fr F F' H H') (a : ∀ b ∈ F, b ∉ M.foot) (zf : ∀ b ∈ F, Z b = none) : ModR Z H' M kf rows sf turn := by
  have n : ∀ b ∈ M.foot, b ∉ F := fun b hb q => a b q hb
  obtain ⟨xs, h1, h2⟩ := h.row
  exact ⟨(f.z h.z zf).1, h.zf, h.nd, f.keep (n _ (by simp)) h.at_, h.kp.of_eq fun o => f.keep (n _ (by simp)), ⟨xs, f.keep (n _ (by simp)) h1, kdM.L_mono f.2.2 h2⟩, h.sk.of_eq fun o => f.keep (n _ (by simp))⟩
theorem ModR.live (h : ModR Z H M kf rows sf turn) : ∀ b ∈ M.foot, ∃ o, H b = some o ∧ ∀ xs, o ≠ .tup xs := fun b hb => by
  obtain ⟨xs, h1, _⟩ := h.row
  obtain ⟨k1, hk⟩ := h.kp
  obtain ⟨k3, hs⟩ := h.sk
  simp only [MA.foot, List.mem_cons, List.not_mem_nil, or_false] at hb
  rcases hb with rfl | rfl | rfl | rfl
  · exact ⟨_, h.at_, fun xs z => by cases z⟩
  · exact ⟨_, hk.at_, fun xs z => by cases z⟩
  · exact ⟨_, h1, fun xs z => by cases z⟩
  · exact ⟨_, hs.at_, fun xs z => by cases z⟩
theorem ModR.new (h : ModR Z H M kf rows sf turn) {r : Addr} (hn : H r = none) : r ∉ M.foot ∧ Z r = none := by
  refine ⟨fun q => ?_, ?_⟩
  · obtain ⟨o, ho, _⟩ := h.live r q
    rw [hn] at ho; cases ho
  · cases e : Z r with
    | none => rfl
    | some o => have := h.z r o e; rw [hn] at this; cases this
theorem ModR.nds (h : ModR Z H M kf rows sf turn) : M.mm ≠ M.hd ∧ M.mm ≠ M.rw ∧ M.mm ≠ M.pd ∧ M.hd ≠ M.rw ∧ M.hd ≠ M.pd ∧ M.rw ≠ M.pd := by
  have := h.nd
  simp only [MA.foot, List.nodup_cons, List.mem_cons, List.not_mem_nil, or_false, not_or] at this
  exact ⟨this.1.1, this.1.2.1, this.1.2.2, this.2.1.1, this.2.1.2, this.2.2.1⟩
/-- model["row"] = a new list -/
theorem ModR.setRow (h : ModR Z H M kf rows sf turn) {H1 : Hp} {r : Addr} {xs : List V} {rows' : List Ent} (e : Ex H H1) (hn : H r = none) (hr : H1 r = some (.lst xs)) (hx : kdM.L rows' xs H1) :
    ModR Z (upd H1 M.mm (.dK (mdK { M with rw := r } turn))) { M with rw := r } kf rows' sf turn ∧ Fr M.foot ({ M with rw := r } : MA).foot H (upd H1 M.mm (.dK (mdK { M with rw := r } turn))) := by
  have nf := (h.new hn).1
  simp only [MA.foot, List.mem_cons, List.not_mem_nil, or_false, not_or] at nf
  obtain ⟨n1, n2, n3, n4, n5, n6⟩ := h.nds
  have fr : Fr M.foot ({ M with rw := r } : MA).foot H (upd H1 M.mm (.dK (mdK { M with rw := r } turn))) := (Fr.pre e (Fr.upd (F := M.foot) (by simp) (e _ _ h.at_) fun xs z => by cases z)).sub fun b hb => by
    simp only [MA.foot, List.mem_cons, List.not_mem_nil, or_false] at hb ⊢
    rcases hb with q | q | q | q <;> simp [q, hn]
  have fz := fr.z h.z h.zf
  have eL : ExL H1 (upd H1 M.mm (.dK (mdK { M with rw := r } turn))) := ExL.upd (e _ _ h.at_) fun xs z => by cases z
  exact ⟨⟨fz.1, fz.2, by simp only [MA.foot, List.nodup_cons, List.mem_cons, List.not_mem_nil, or_false, not_or, List.nodup_nil, and_true, not_false_eq_true]; exact ⟨⟨n1, fun z => nf.1 z.symm, n3⟩, ⟨fun z => nf.2.1 z.symm, n5⟩, nf.2.2.2⟩, upd_same, da_ne (h.kp.ex e) n1.symm, ⟨xs, by rw [upd_ne nf.1]; exact hr, kdM.L_mono eL hx⟩, da_ne (h.sk.ex e) n3.symm⟩, fr⟩
theorem ModR.setTurn (h : ModR Z H M kf rows sf turn) {H1 : Hp} {turn' : Int} (e : Ex H H1) :
    ModR Z (upd H1 M.mm (.dK (mdK M turn'))) M kf rows sf turn' ∧ Fr M.foot M.foot H (upd H1 M.mm (.dK (mdK M turn'))) := by
  obtain ⟨n1, n2, n3, n4, n5, n6⟩ := h.nds
  obtain ⟨xs, h1, h2⟩ := h.row
  have fr : Fr M.foot M.foot H (upd H1 M.mm (.dK (mdK M turn'))) := Fr.pre e (Fr.upd (F := M.foot) (by simp) (e _ _ h.at_) fun xs z => by cases z)
  have fz := fr.z h.z h.zf
  have eL : ExL H1 (upd H1 M.mm (.dK (mdK M turn'))) := ExL.upd (e _ _ h.at_) fun xs z => by cases z
  exact ⟨⟨fz.1, fz.2, h.nd, upd_same, da_ne (h.kp.ex e) n1.symm, ⟨xs, by rw [upd_ne n2.symm]; exact e _ _ h1, kdM.L_mono eL (kdM.L_ex e h2)⟩, da_ne (h.sk.ex e) n3.symm⟩, fr⟩
theorem ModR.upd_ (h : ModR Z H M kf rows sf turn) {a : Addr} {o : HO} {kf' sf' : FI} {rows' : List Ent} (ha : a ∈ M.foot) (n : a ≠ M.mm) (k1 : DA (upd H a o) M.hd kf') (k2 : ∃ xs, (upd H a o) M.rw = some (.lst xs) ∧ kdM.L rows' xs H) (k4 : DA (upd H a o) M.pd sf') :
    ModR Z (upd H a o) M kf' rows' sf' turn ∧ Fr M.foot M.foot H (upd H a o) := by
  obtain ⟨u, hu, hnt⟩ := h.live a ha
  have fr : Fr M.foot M.foot H (upd H a o) := Fr.upd ha hu hnt
  have fz := fr.z h.z h.zf
  obtain ⟨xs, h1, h2⟩ := k2
  exact ⟨⟨fz.1, fz.2, h.nd, by rw [upd_ne n.symm]; exact h.at_, k1, ⟨xs, h1, kdM.L_mono (ExL.upd hu hnt) h2⟩, k4⟩, fr⟩
theorem ModR.putPd (h : ModR Z H M kf rows sf turn) {kvs : List (Key × V)} (hk : DI H M.pd sf kvs) (k : Int) (v : V) : ModR Z (upd H M.pd (.dK (putK kvs (.inl k) v))) M kf rows (fput sf k (some v)) turn ∧ Fr M.foot M.foot H (upd H M.pd (.dK (putK kvs (.inl k) v))) := by
  obtain ⟨n1, n2, n3, n4, n5, n6⟩ := h.nds
  obtain ⟨xs, h1, h2⟩ := h.row
  exact h.upd_ (by simp) n3.symm (da_ne h.kp n5) ⟨xs, by rw [upd_ne n6]; exact h1, h2⟩ ⟨_, hk.put k v⟩
theorem ModR.putHd (h : ModR Z H M kf rows sf turn) {kvs : List (Key × V)} (hk : DI H M.hd kf kvs) (k : Int) (v : V) : ModR Z (upd H M.hd (.dK (putK kvs (.inl k) v))) M (fput kf k (some v)) rows sf turn ∧ Fr M.foot M.foot H (upd H M.hd (.dK (putK kvs (.inl k) v))) := by
  obtain ⟨n1, n2, n3, n4, n5, n6⟩ := h.nds
  obtain ⟨xs, h1, h2⟩ := h.row
  exact h.upd_ (by simp) n1.symm ⟨_, hk.put k v⟩ ⟨xs, by rw [upd_ne n4.symm]; exact h1, h2⟩ (da_ne h.sk n5.symm)
theorem ModR.dropPd (h : ModR Z H M kf rows sf turn) {kvs : List (Key × V)} (hk : DI H M.pd sf kvs) (k : Int) : ModR Z (upd H M.pd (.dK (dropK kvs (.inl k)))) M kf rows (fput sf k none) turn ∧ Fr M.foot M.foot H (upd H M.pd (.dK (dropK kvs (.inl k)))) := by
  obtain ⟨n1, n2, n3, n4, n5, n6⟩ := h.nds
  obtain ⟨xs, h1, h2⟩ := h.row
  exact h.upd_ (by simp) n3.symm (da_ne h.kp n5) ⟨xs, by rw [upd_ne n6]; exact h1, h2⟩ ⟨_, hk.drop k⟩
theorem ModR.dropHd (h : ModR Z H M kf rows sf turn) {kvs : List (Key × V)} (hk : DI H M.hd kf kvs) (k : Int) : ModR Z (upd H M.hd (.dK (dropK kvs (.inl k)))) M (fput kf k none) rows sf turn ∧ Fr M.foot M.foot H (upd H M.hd (.dK (dropK kvs (.inl k)))) := by
  obtain ⟨n1, n2, n3, n4, n5, n6⟩ := h.nds
  obtain ⟨xs, h1, h2⟩ := h.row
  exact h.upd_ (by simp) n1.symm ⟨_, hk.drop k⟩ ⟨xs, by rw [upd_ne n4.symm]; exact h1, h2⟩ (da_ne h.sk n5.symm)
theorem ModR.putRow (h : ModR Z H M kf rows sf turn) {xs : List V} {rows' : List Ent} (hx : kdM.L rows' xs H) : ModR Z (upd H M.rw (.lst xs)) M kf rows' sf turn ∧ Fr M.foot M.foot H (upd H M.rw (.lst xs)) := by
  obtain ⟨n1, n2, n3, n4, n5, n6⟩ := h.nds
  exact h.upd_ (by simp) n2.symm (da_ne h.kp n4) ⟨xs, upd_same, hx⟩ (da_ne h.sk n6.symm)
end
section
variable {P : Program} {w : World} {K : PySem.W.Frag} {mg : Str → Option Value} {base : Heap} {C Dc Pt : Addr} {f : Addr} {fd : FuncData} {Z H H' : Hp} {M : MA} {kf sf : FI} {rows : List Ent} {turn : Int} {σ : L2.St} {ta tb te tc : TE} {E : Ends} {tz tu tw : TS} {D : TD Str} {ds : List Int} {S : LS}
theorem ModR.eholds (h : ModR Z H M kf rows sf turn) (hv : Ev ta σ H (.ref M.mm)) : Ev (tDGet ta (tC (.str "holds"))) σ H (.ref M.hd) := ev_dget hv ev_c (dget_k (k := .inr "holds") (.inl h.at_))
theorem ModR.erow (h : ModR Z H M kf rows sf turn) (hv : Ev ta σ H (.ref M.mm)) : Ev (tDGet ta (tC (.str "row"))) σ H (.ref M.rw) := ev_dget hv ev_c (dget_k (k := .inr "row") (.inl h.at_))
theorem ModR.eturn (h : ModR Z H M kf rows sf turn) (hv : Ev ta σ H (.ref M.mm)) : Ev (tDGet ta (tC (.str "turn"))) σ H (.int turn) := ev_dget hv ev_c (dget_k (k := .inr "turn") (.inl h.at_))
theorem ModR.epassed (h : ModR Z H M kf rows sf turn) (hv : Ev ta σ H (.ref M.mm)) : Ev (tDGet ta (tC (.str "passed"))) σ H (.ref M.pd) := ev_dget hv ev_c (dget_k (k := .inr "passed") (.inl h.at_))
theorem md_row {M : MA} {r : Addr} : putK (mdK M turn) (.inr "row") (.ref r) = mdK { M with rw := r } turn := rfl
theorem md_turn {M : MA} {t' : Int} : putK (mdK M turn) (.inr "turn") (.int t') = mdK M t' := rfl
def spEmpty : Sp := fun vs H Q _ => vs = [] ∧ ∀ M H', Ex H H' → (∀ b ∈ M.foot, H b = none) → ModAt (outZ M.foot H') H' M LS.nil → Q (.ref M.mm) H'
theorem sc_law_empty : FnScope [] [] (defScope s_law_empty) := ⟨rfl, rfl, rfl, by decide +kernel, rfl, by decide +kernel, by decide +kernel⟩
theorem ok_law_empty (F : FnT K "_law_empty" "_law_empty" s_law_empty [] [] f fd) (T : Txt K mg C Dc) : FnOk P w K mg base CX0 1 f fd [] spEmpty := by
  refine F.ok sc_law_empty (fun vs H Q E ⟨h, _⟩ => by rw [h]; rfl) (fun cdv A outer s H vs Q E hr ⟨hv, q⟩ => ⟨_, PSs.nox (pss_one (ps_ret (pe_disp (pps_cons pe_str pe_dnewK (pps_cons pe_str (pe_lst pa_nil) (pps_cons pe_str pe_int (pps_cons pe_str pe_dnewK pps_nil)))) (by rfl) (by rfl) (by simp) (by decide)))), ?_⟩)
  subst hv
  refine s_retP (ep_disp (eps_cons (k := .inr "holds") ev_c ep_dnewK (eps_cons (k := .inr "row") ev_c (ep_newL (el_lst ea_nil (by show 0 ≤ 100000; decide))) (eps_cons (k := .inr "turn") ev_c (ep_ev (v := .int 0) ev_c) (eps_cons (k := .inr "passed") ev_c ep_dnewK eps_nil)))) (by simp)) fun v H1 e1 hv => ?_
  obtain ⟨p, kvs, H', rfl, hpn, e', hP, rfl⟩ := hv
  obtain ⟨v1, r1, Ha1, Hb1, rfl, ea1, eb1, ec1, hR1, hP⟩ := hP
  obtain ⟨v2, r2, Ha2, Hb2, rfl, ea2, eb2, ec2, hR2, hP⟩ := hP
  obtain ⟨v3, r3, Ha3, Hb3, rfl, ea3, eb3, ec3, hR3, hP⟩ := hP
  obtain ⟨v4, r4, Ha4, Hb4, rfl, ea4, eb4, ec4, hR4, rfl⟩ := hP
  obtain ⟨hd, rfl, hdn, hd1⟩ := hR1
  obtain ⟨rw_, rfl, rwn, rw1⟩ := hR2
  obtain ⟨pd, rfl, pdn, pd1⟩ := hR4
  subst hR3
  have pa : ∀ {Hx : Hp}, Ex (upd H p (.dK [])) Hx → Hx p = some (.dK []) := fun e => e _ _ upd_same
  have x1 := ea1
  have x2 := x1.trans (eb1.trans ea2)
  have x4 := x2.trans (eb2.trans (ea3.trans (eb3.trans ea4)))
  have hp1 : hd ≠ p := fun z => by rw [z, pa x1] at hdn; cases hdn
  have hp2 : rw_ ≠ p := fun z => by rw [z, pa x2] at rwn; cases rwn
  have hp4 : pd ≠ p := fun z => by rw [z, pa x4] at pdn; cases pdn
  have n1 : rw_ ≠ hd := fun z => by rw [z, ea2 _ _ hd1] at rwn; cases rwn
  have n2 : pd ≠ hd := fun z => by rw [z, (ea2.trans (eb2.trans (ea3.trans (eb3.trans ea4)))) _ _ hd1] at pdn; cases pdn
  have n3 : pd ≠ rw_ := fun z => by rw [z, (ea3.trans (eb3.trans ea4)) _ _ rw1] at pdn; cases pdn
  have f0 : ∀ {b : Addr} {Hx : Hp}, b ≠ p → Ex (upd H p (.dK [])) Hx → Hx b = none → H b = none := fun n e h => by
    have := fresh_back e h
    rwa [upd_ne n] at this
  have hd9 := ec1 _ _ hd1
  have rw9 := ec2 _ _ rw1
  have pd9 := ec4 _ _ pd1
  refine q ⟨p, hd, rw_, pd⟩ _ e1 (fun b hb => ?_) ⟨fun b o hb => ?_, fun b hb => by unfold outZ; rw [if_pos hb], ?_, upd_same, .nil (by rw [upd_ne hp1]; exact hd9), ⟨[], by rw [upd_ne hp2]; exact rw9, .nil⟩, .nil (by rw [upd_ne hp4]; exact pd9)⟩
  · simp only [MA.foot, List.mem_cons, List.not_mem_nil, or_false] at hb
    rcases hb with rfl | rfl | rfl | rfl
    · exact hpn
    · exact f0 hp1 x1 hdn
    · exact f0 hp2 x2 rwn
    · exact f0 hp4 x4 pdn
  · unfold outZ at hb
    split at hb
    · cases hb
    · exact hb
  · simp only [MA.foot, List.nodup_cons, List.mem_cons, List.not_mem_nil, or_false, not_or, List.nodup_nil, and_true, not_false_eq_true]
    exact ⟨⟨hp1.symm, hp2.symm, hp4.symm⟩, ⟨n1.symm, n2.symm⟩, n3.symm⟩
end
end HT
set_option Elab.async false
set_option linter.all false
set_option maxRecDepth 100000
set_option maxHeartbeats 4000000
/-! the law's model: fits, grant, out -/
namespace HT
open PySem PySem.Spec PyProof.Rows L2 Evl LamX
section
variable {P : Program} {w : World} {K : PySem.W.Frag} {mg : Str → Option Value} {base : Heap} {C Dc Pt : Addr} {f : Addr} {fd : FuncData} {Z H H' : Hp} {M : MA} {kf sf : FI} {rows : List Ent} {turn : Int} {σ : L2.St} {ta tb te tc : TE} {E : Ends} {tz tu tw : TS} {D : TD Str} {ds : List Int} {S : LS}
def spLFits (ds : List Int) : Sp := fun vs H Q _ => ∃ (Z : Hp) (da ga : Addr) (D : TD Str) (M : MA) (S : LS) (d : Int) (g : Str), vs = [.ref ga, .ref M.mm, .int d, .str g] ∧ DataR Z da ga D ∧ DatOk D ∧ ModAt Z H M S ∧ LOk D ds S ∧ DsOk ds ∧ g ∈ D.order ∧ ∀ H', Ex H H' → Q (.bl (fitsB D ds S.keeps d g)) H'
abbrev AlJoined (P : Program) (w : World) (K : PySem.W.Frag) (mg : Str → Option Value) (base : Heap) := GF P w K mg base "_law_joined" ["_law_data", "_law_one", "_law_other"] [] 4 spLJoined
theorem sc_law_fits : FnScope ["_law_data", "_law_model", "_law_deal", "_law_goal", "_law_holds", "_law_other"] ["_law_data", "_law_model", "_law_deal", "_law_goal"] (defScope s_law_fits) := ⟨rfl, rfl, rfl, by decide +kernel, rfl, by decide +kernel, by decide +kernel⟩
theorem ok_law_fits (F : FnT K "_law_fits" "_law_fits" s_law_fits [] [] f fd) (T : Txt K mg C Dc) (G_law_near : AlNear P w K mg base) : FnOk P w K mg base CX0 3 f fd ["_law_data", "_law_model", "_law_deal", "_law_goal"] (spLFits ds) := by
  refine F.ok sc_law_fits (fun vs H Q E ⟨_, _, _, _, _, _, _, _, h, _⟩ => by rw [h]; rfl) (fun cdv A outer s H vs Q E hr ⟨Z, da, ga, D, M, S, d, g, hv, hR, dok, hM, ok, hds, hg, q⟩ => ⟨_, PSs.nox (pss_cons (ps_set (i := 4) sc_law_fits.nd rfl (Or.inr rfl) (pe_dget (hu_of hr) (pv 1) pe_str (fun _ _ => rfl)))
    (pss_one (ps_ret (pe_cmpR (op_eqDK K rfl hr.units) (pe_lock (pe_lc (own := [("_law_other", 5)]) rfl sc_law_fits.nd (pi_keys (pv 4)) (blkOk_by (by rfl)) (fun _ _ _ _ _ => (pg_name (i := 5) sc_law_fits.nd rfl (by first | exact Or.inl rfl | exact Or.inr rfl))) (fun _ _ _ _ _ => (pts_one (PW.pt (pw_and (pt_cmpR op_ne (pv 5) (pv 2) (nomark _)) (pw_and1 (pt_not (pt_val (pe_callG G_law_near hr (by decide) (by rfl) (pa_cons (pv 0) (pa_cons (pv 3) (pa_cons (pe_dget (hu_of hr) (pv 4) (pv 5) (fun _ _ => rfl)) pa_nil))))))))))) (fun _ _ _ _ _ => (pv 5)))) (pe_lst pa_nil) (nomark _))))), ?_⟩)
  subst hv
  refine q_asg (v := .ref M.hd) (hM.eholds (ev_var (i := 1) (v := .ref M.mm) rfl)) fun H0 e0 => ?_
  have hM0 := hM.ex e0
  show tRet _ _ ([some (.ref ga), some (.ref M.mm), some (.int d), some (.str g), some (.ref M.hd), none] : L2.St) H0
  obtain ⟨kvs, hk⟩ := id hM0.kp
  have hkl : kvs.length ≤ 50 := Nat.le_trans (hk.len (fK_in ok)) hds.few
  have hX := ep_lcKE (σ := ([some (.ref ga), some (.ref M.mm), some (.int d), some (.str g), some (.ref M.hd), none] : L2.St)) (H := H0) (td := tVar 4) (i := 5) (vs := [5]) (tt := tAnd (tTest (tOp rNe (tVar 5) (tVar 2))) (tNot (tB (tCall spLNear [] E0 (tCons (tVar 0) (tCons (tVar 3) (tCons (tDGet (tVar 4) (tVar 5)) tNil))))))) (te := tVar 5) (kvs := kvs) (d := M.hd)
    (fun b => !decide (kV b.1 = .int d) && !D.near g (strOf b.2)) (fun b => b.1.elim id (fun _ => (0 : Int))) (kdV V.int) hk.at_ (by omega) (fun H1 od e1 => ev_var (i := 4) rfl) (fun H1 od b e1 hb H2 e2 => ?_)
  · refine s_ret (ev_is (ev_eqNil (K := K) (k := kdV V.int) PyData.int (fun b v H h => by cases h; exact .int _) (fun b _ => low_int b) (ls_new hX)) (congrArg V.bl ?_)) fun H1 e1 => q H1 (e0.trans e1)
    have e := fits_dict (ds := ds) (d := d) (p := fun b => !decide (kV b.1 = .int d)) (q := fun b => D.near g (strOf b.2)) hk (fun i m h => (ok.kin i m h).1) (fun m => D.near g m) (fun i m _ => by
      show (!decide (V.int i = V.int d)) = _
      by_cases z : i = d
      · simp [z]
      · simp [z]) (fun i m _ => rfl)
    have e2 : fitsB D ds S.keeps d g = (kvs.filter fun b => !decide (kV b.1 = .int d)).all fun b => D.near g (strOf b.2) := e.symm
    rw [e2]
    refine Bool.eq_iff_iff.mpr ?_
    rw [decide_eq_true_eq, List.map_eq_nil_iff, List.filter_eq_nil_iff, List.all_eq_true]
    constructor
    · intro h b hb
      rw [List.mem_filter] at hb
      have := h b hb.1
      rw [hb.2] at this
      simpa using this
    · intro h b hb z
      rw [Bool.and_eq_true] at z
      have := h b (List.mem_filter.mpr ⟨hb, z.1⟩)
      rw [this] at z
      exact absurd z.2 (by decide)
  · obtain ⟨i, hi, hf⟩ := hk.mem hb
    obtain ⟨m, hm, hv⟩ := Option.map_eq_some_iff.mp (show (S.keeps i).map V.str = some b.2 from hf)
    have hZ2 : Ex Z H2 := fun c o h => lock_ne e1 e2 (hM0.z c o h) (fun z => by have := hM0.zf M.hd (by simp); rw [z, this] at h; cases h)
    refine ⟨wipe_turn, et_and (et_test (ev_op (ev_var (i := 5) rfl) (ev_var (i := 2) rfl) (rv_ne (by rw [hi]; rfl)))) (fun _ => et_not (et_B (ev_call (vs := [.ref ga, .str g, .str (strOf b.2)]) (ea_cons (ev_var (i := 0) rfl) (ea_cons (ev_var (i := 3) rfl) (ea_cons (ev_dget (ev_var (i := 4) rfl) (ev_var (i := 5) rfl) ?_) ea_nil))) fun H5 e5 Q q E => ⟨da, ga, D, g, strOf b.2, rfl, hR.ex (hZ2.trans e5), dok, hg, by rw [← hv]; exact (ok.kin i m hm).2, q⟩))), fun _ => ep_ev ?_⟩
    · have e0 : some (V.str (strOf b.2)) = valV kvs b.1 := by rw [hi, hk.va, hf, ← hv]; rfl
      rw [e0]
      exact dget_k (k := b.1) (.inr ⟨od, lock_at e2⟩)
    · rw [hi]
      exact ev_var (i := 5) rfl
def MPost (Z H : Hp) (M : MA) (S' : LS) (Q : Hp → Prop) : Prop := ∀ H' M', M'.mm = M.mm → ModAt Z H' M' S' → Fr M.foot M'.foot H H' → Q H'
def spLGrant (ds : List Int) : Sp := fun vs H Q _ => ∃ (Z : Hp) (D : TD Str) (M : MA) (S : LS) (d : Int) (g : Str) (k : Int), vs = [.ref M.mm, .int d, .str g, .int k] ∧ ModAt Z H M S ∧ LOk D ds S ∧ DsOk ds ∧ MPost Z H M (S.grant d g k) fun H' => Q .non H'
theorem sc_law_grant : FnScope ["_law_model", "_law_deal", "_law_goal", "_law_ticket", "_law_other", "_law_more", "_law_turn"] ["_law_model", "_law_deal", "_law_goal", "_law_ticket"] (defScope s_law_grant) := ⟨rfl, rfl, rfl, by decide +kernel, rfl, by decide +kernel, by decide +kernel⟩
theorem ok_law_grant (F : FnT K "_law_grant" "_law_grant" s_law_grant [] [] f fd) (T : Txt K mg C Dc) : FnOk P w K mg base CX0 1 f fd ["_law_model", "_law_deal", "_law_goal", "_law_ticket"] (spLGrant ds) := by
  refine F.ok sc_law_grant (fun vs H Q E ⟨_, _, _, _, _, _, _, h, _⟩ => by rw [h]; rfl) (fun cdv A outer s H vs Q E hr ⟨Z, D, M, S, d, g, k, hv, hM, ok, dok, q⟩ => ⟨_, PSs.nox (pss_cons (ps_if (pt_cmp (pc_din (hu_of hr) (pv 1) (pe_dget (hu_of hr) (pv 0) pe_str (fun _ _ => rfl)))) (pss_one (ps_for PassesOwn.never rfl (pi_listK K rfl (pe_dget (hu_of hr) (pv 0) pe_str (fun _ _ => rfl))) (pg_tupK (n := 3) K rfl rfl (pgs_cons (pg_name (i := 4) sc_law_grant.nd rfl (by first | exact Or.inl rfl | exact Or.inr rfl)) (pgs_cons (pg_name (i := 5) sc_law_grant.nd rfl (by first | exact Or.inl rfl | exact Or.inr rfl)) (pgs_cons (pg_name (i := 6) sc_law_grant.nd rfl (by first | exact Or.inl rfl | exact Or.inr rfl)) pgs_nil)))) (pss_one (ps_if (pt_cmpR op_lt (pv 6) (pv 3) (nomark _)) (pss_one (ps_dput (hu_of hr) (pe_dget (hu_of hr) (pv 0) pe_str (fun _ _ => rfl)) (pv 4) (pe_op op_add (pe_dget2 (hu_of hr) (pe_dget (hu_of hr) (pv 0) pe_str (fun _ _ => rfl)) (pv 4) pe_int ⟨rfl, rfl, rfl, rfl⟩) pe_int) rfl)) pss_nil)))) pss_nil)
    (pss_one (ps_dput (hu_of hr) (pe_dget (hu_of hr) (pv 0) pe_str (fun _ _ => rfl)) (pv 1) (pv 2) rfl))), ?_⟩)
  subst hv
  have fin : ∀ (o4 o5 o6 : Option V) (sf : FI) (H1 : Hp), ModR Z H1 M (fK S.keeps) S.row sf S.turn → Fr M.foot M.foot H H1 → sf = fN (S.grant d g k).skips →
      sDPut (tDGet (tVar 0) (tC (.str "holds"))) (tVar 1) (tVar 2) { nx := fun _ H' => Q .non H', rt := Q } ([some (.ref M.mm), some (.int d), some (.str g), some (.int k), o4, o5, o6] : L2.St) H1 := by
    intro o4 o5 o6 sf H1 h1 f1 e1
    obtain ⟨kvs, hk⟩ := id h1.kp
    have hkl := Nat.le_trans (hk.len (fK_in ok)) dok.few
    refine s_dputI (ev_var (i := 2) rfl) (h1.eholds (ev_var (i := 0) (v := .ref M.mm) rfl)) (ev_var (i := 1) rfl) hk (by omega) fun H2 e2 hk2 => ?_
    obtain ⟨h3, f3⟩ := (h1.ex e2).putHd hk2 d (.str g)
    refine q _ M rfl ?_ ((f1.ex e2).trans f3)
    have e3 : fK (S.grant d g k).keeps = fput (fK S.keeps) d (some (.str g)) := by show fK (put S.keeps d (some g)) = _; rw [fK_put]; rfl
    show ModR _ _ _ (fK (S.grant d g k).keeps) S.row (fN (S.grant d g k).skips) S.turn
    rw [e3, ← e1]
    exact h3
  refine q_when (et_B (ev_dain (i := d) (ev_var (i := 1) rfl) (hM.eholds (ev_var (i := 0) (v := .ref M.mm) rfl)) hM.kp)) (fun z H1 e1 => ?_) (fun z H1 e1 => ?_)
  · have hL1 := hM.ex e1
    obtain ⟨xs, hr1, hr2⟩ := hL1.row
    have hkd : (S.keeps d).isSome = true := by
      unfold fK at z
      cases e : S.keeps d with
      | none => rw [e] at z; cases z
      | some m => rfl
    refine s_forL (hL1.erow (ev_var (i := 0) (v := .ref M.mm) rfl)) (SqL.of hr1) (fun i σ' H' => Keeps [4, 5, 6] ([some (.ref M.mm), some (.int d), some (.str g), some (.int k), none, none, none] : L2.St) σ' ∧ ModR Z H' M (fK S.keeps) S.row (fN (bump (S.row.take i) k S.skips)) S.turn ∧ Fr M.foot M.foot H H' ∧ H' M.rw = some (.lst xs) ∧ kdM.L S.row xs H')
      (fun H2 e2 => ⟨Keeps.refl, hL1.ex e2, (Fr.of e1).ex e2, e2 _ _ hr1, kdM.L_ex e2 hr2⟩) (fun i σ' H' hi w => SqL.of w.2.2.2.1) (fun i x σ' H' hx w => ?_) (fun σ' H' w => ?_)
    · obtain ⟨wk, wl, wf, wr, wx⟩ := w
      obtain ⟨o4, o5, o6, rfl⟩ := wk.three
      obtain ⟨e, he, tq, rfl, htq⟩ := pair_get wx hx
      have hem := List.mem_of_getElem? he
      refine ⟨tq, _, rfl, SqT.of htq, rfl, _, _, rfl, _, _, rfl, _, _, rfl, rfl, ?_⟩
      show tIfS _ _ _ _ ([some (.ref M.mm), some (.int d), some (.str g), some (.int k), some (.int e.1), some (.str e.2.1), some (.int e.2.2)] : L2.St) H'
      have hst := take_succ_of he
      refine s_when (et_test (ev_op (ev_var (i := 6) (v := .int e.2.2) rfl) (ev_var (i := 3) rfl) (rv_I0 (g := fun i j => .bl (decide (i < j)))))) (fun z2 H2 e2 => ?_) (fun z2 H2 e2 => ?_)
      · have hlt : e.2.2 < k := of_decide_eq_true z2
        have wl2 := wl.ex e2
        obtain ⟨kvs, hks⟩ := id wl2.sk
        have hsk : ∀ dd, (bump (S.row.take i) k S.skips dd).isSome = (S.skips dd).isSome := bump_some _ _ _ (fun e' he' => (ok.sk e'.1).mpr (List.mem_map.mpr ⟨e', List.mem_of_mem_take he', rfl⟩))
        have hkl : kvs.length ≤ 50 := Nat.le_trans (hks.len (fN_in fun dd hd => by
          rw [hsk] at hd
          obtain ⟨e', he', rfl⟩ := List.mem_map.mp ((ok.sk dd).mp hd)
          exact (ok.rin e' he').1)) dok.few
        have hso : (S.skips e.1).isSome = true := (ok.sk e.1).mpr (List.mem_map.mpr ⟨e, hem, rfl⟩)
        obtain ⟨n, hn⟩ := Option.isSome_iff_exists.mp (show (bump (S.row.take i) k S.skips e.1).isSome = true by rw [hsk]; exact hso)
        have hget : Ev (tDGet2 (tDGet (tVar 0) (tC (.str "passed"))) (tVar 4) (tC (.int 0))) ([some (.ref M.mm), some (.int d), some (.str g), some (.int k), some (.int e.1), some (.str e.2.1), some (.int e.2.2)] : L2.St) H2 (.int n) :=
          ev_is (ev_daget2 (wl2.epassed (ev_var (i := 0) (v := .ref M.mm) rfl)) (ev_var (i := 4) rfl) (ev_c (v := .int 0)) wl2.sk) (by unfold fN; rw [hn]; rfl)
        refine s_dputI (ev_op hget (ev_c (v := .int 1)) rv_I0) (wl2.epassed (ev_var (i := 0) (v := .ref M.mm) rfl)) (ev_var (i := 4) rfl) hks (by omega) fun H3 e3 hk3 => ?_
        obtain ⟨h4, f4⟩ := (wl2.ex e3).putPd hk3 e.1 (.int (n + 1))
        refine ⟨((Keeps.refl.set (j := 4) (o := some (.int e.1)) (by decide)).set (j := 5) (o := some (.str e.2.1)) (by decide)).set (j := 6) (o := some (.int e.2.2)) (by decide), ?_, ((wf.ex e2).ex e3).trans f4, ?_, ?_⟩
        · have e5 : fN (bump (S.row.take (i + 1)) k S.skips) = fput (fN (bump (S.row.take i) k S.skips)) e.1 (some (.int (n + 1))) := by
            rw [hst, bump_snoc, if_pos hlt, fN_put, hn]
            rfl
          rw [e5]
          exact h4
        · rw [upd_ne (wl2.nds.2.2.2.2.2)]
          exact e3 _ _ (e2 _ _ wr)
        · exact kdM.L_mono (ExL.upd hk3.at_ fun xs z => by cases z) (kdM.L_ex (e2.trans e3) wx)
      · have hlt : ¬ e.2.2 < k := of_decide_eq_false z2
        refine ⟨((Keeps.refl.set (j := 4) (o := some (.int e.1)) (by decide)).set (j := 5) (o := some (.str e.2.1)) (by decide)).set (j := 6) (o := some (.int e.2.2)) (by decide), ?_, wf.ex e2, e2 _ _ wr, kdM.L_ex e2 wx⟩
        rw [hst, bump_snoc, if_neg hlt]
        exact wl.ex e2
    · obtain ⟨wk, wl, wf, wr, wx⟩ := w
      obtain ⟨o4, o5, o6, rfl⟩ := wk.three
      refine fin o4 o5 o6 _ H' wl wf ?_
      rw [← pair_len wx, List.take_length]
      show fN (bump S.row k S.skips) = fN (if (S.keeps d).isSome then bump S.row k S.skips else S.skips)
      rw [if_pos hkd]
  · refine fin none none none _ H1 (hM.ex e1) (Fr.of e1) ?_
    have hkd : ¬ (S.keeps d).isSome = true := by
      unfold fK at z
      cases e : S.keeps d with
      | none => simp
      | some m => rw [e] at z; cases z
    show fN S.skips = fN (if (S.keeps d).isSome then bump S.row k S.skips else S.skips)
    rw [if_neg hkd]
end
end HT
set_option Elab.async false
set_option linter.all false
set_option maxRecDepth 100000
set_option maxHeartbeats 4000000
/-! the law's model: out, asks, scan, does -/
namespace HT
open PySem PySem.Spec PyProof.Rows L2 Evl LamX
section
variable {P : Program} {w : World} {K : PySem.W.Frag} {mg : Str → Option Value} {base : Heap} {C Dc Pt : Addr} {f : Addr} {fd : FuncData} {Z H H' : Hp} {M : MA} {kf sf : FI} {rows : List Ent} {turn : Int} {σ : L2.St} {ta tb te tc : TE} {E : Ends} {tz tu tw : TS} {D : TD Str} {ds : List Int} {S : LS}
theorem s_popI {a : Addr} {fn : FI} {kvs : List (Key × V)} {i : Int} {v : V} {to ty : TE} (ho : Ev to σ H (.ref a)) (hy : Ev ty σ H (.int i)) (hk : DI H a fn kvs) (hv : fn i = some v) (k : ∀ H1, Ex H H1 → DI H1 a fn kvs → E.nx σ (upd H1 a (.dK (dropK kvs (.inl i))))) : tDrop (tDPop1 to ty) E σ H :=
  ho H (Ex.refl _) _ fun H1 e1 => ⟨a, rfl, DA.isD ⟨kvs, e1 _ _ hk.at_, hk.nd, hk.ik, hk.va⟩, hy H1 e1 _ fun H2 e2 => ⟨kvs, .inl i, v, (e1.trans e2) _ _ hk.at_, rfl, by rw [hk.va, hv], k H2 (e1.trans e2) ⟨(e1.trans e2) _ _ hk.at_, hk.nd, hk.ik, hk.va⟩⟩⟩
theorem q_popI {a : Addr} {fn : FI} {kvs : List (Key × V)} {i : Int} {v : V} {to ty : TE} (ho : Ev to σ H (.ref a)) (hy : Ev ty σ H (.int i)) (hk : DI H a fn kvs) (hv : fn i = some v) (k : ∀ H1, Ex H H1 → DI H1 a fn kvs → tz E σ (upd H1 a (.dK (dropK kvs (.inl i))))) : tSeq (tDrop (tDPop1 to ty)) tz E σ H :=
  s_popI (E := { E with nx := tz E }) ho hy hk hv k
theorem q_dputSP {to ty tv : TE} {Pv : Hp → V → Hp → Prop} {a : Addr} {kvs : List (Key × V)} {i : Str} (hv : EvP tv σ H Pv) (ho : Ev to σ H (.ref a)) (hy : Ev ty σ H (.str i)) (hk : H a = some (.dK kvs)) (hl : kvs.length < 100000) (k : ∀ v H1 H2, Ex H H1 → Ex H1 H2 → Pv H v H1 → tz E σ (upd H2 a (.dK (putK kvs (.inr i) v)))) : tSeq (sDPut to ty tv) tz E σ H :=
  hv H (Ex.refl _) _ fun v H1 e1 p => ho H1 e1 _ fun H2 e2 => hy H2 (e1.trans e2) _ fun H3 e3 => ⟨a, _, rfl, DPut.k (k := Sum.inr i) (((e1.trans e2).trans e3) _ _ hk) (sz_lt hl), k v H1 H3 e1 (e2.trans e3) p⟩
def spLOut (ds : List Int) : Sp := fun vs H Q _ => ∃ (Z : Hp) (D : TD Str) (M : MA) (S : LS) (d : Int), vs = [.ref M.mm, .int d] ∧ ModAt Z H M S ∧ LOk D ds S ∧ DsOk ds ∧ MPost Z H M (S.unwait d) fun H' => Q .non H'
theorem sc_law_out : FnScope ["_law_model", "_law_deal", "_law_entry"] ["_law_model", "_law_deal"] (defScope s_law_out) := ⟨rfl, rfl, rfl, by decide +kernel, rfl, by decide +kernel, by decide +kernel⟩
theorem ok_law_out (F : FnT K "_law_out" "_law_out" s_law_out [] [] f fd) (T : Txt K mg C Dc) : FnOk P w K mg base CX0 1 f fd ["_law_model", "_law_deal"] (spLOut ds) := by
  refine F.ok sc_law_out (fun vs H Q E ⟨_, _, _, _, _, h, _⟩ => by rw [h]; rfl) (fun cdv A outer s H vs Q E hr ⟨Z, D, M, S, d, hv, hM, ok, dok, q⟩ => ⟨_, PSs.nox (pss_cons (ps_dput (hu_of hr) (pv 0) pe_str (pe_lc (own := [("_law_entry", 2)]) rfl sc_law_out.nd (pi_listK K rfl (pe_dget (hu_of hr) (pv 0) pe_str (fun _ _ => rfl))) (blkOk_by (by rfl)) (fun _ _ _ _ _ => (pg_name (i := 2) sc_law_out.nd rfl (by first | exact Or.inl rfl | exact Or.inr rfl))) (fun _ _ _ _ _ => (pts_one (pt_cmpR op_ne (pe_ix (ix_tupK K rfl) (pv 2) pe_int (fun _ _ => rfl)) (pv 1) (nomark _)))) (fun _ _ _ _ _ => (pv 2))) rfl)
    (pss_one (ps_if (pt_cmp (pc_din (hu_of hr) (pv 1) (pe_dget (hu_of hr) (pv 0) pe_str (fun _ _ => rfl)))) (pss_one (ps_expr (pe_dpop1 (pe_dget (hu_of hr) (pv 0) pe_str (fun _ _ => rfl)) (pv 1) ⟨rfl, rfl, rfl, rfl⟩))) pss_nil))), ?_⟩)
  subst hv
  obtain ⟨xs, hr1, hr2⟩ := id hM.row
  have hrl := Nat.le_trans ok.rowlen dok.few
  have hX := ep_lcW (σ := ([some (.ref M.mm), some (.int d), none] : L2.St)) (H := H) (te := tVar 2) (g := gName 2) (vs := [2]) (t := tTest (tOp rNe (tOp (rIxT K) (tVar 2) (tC (.int 0))) (tVar 1))) (fun e : Ent => decide (e.1 ≠ d)) (fun e : Ent => e) kdM
    (wk_list (K := K) (ka := kdM) (ls_var (bs := S.row) (hM.erow (ev_var (i := 0) (v := .ref M.mm) rfl)) ⟨M.rw, xs, rfl, SqL.of hr1, hr2⟩)) (by omega)
    (fun e x H8 he e8 hx => by
      obtain ⟨tq, rfl, htq⟩ := id hx
      refine ⟨rfl, Ex.refl _, et_is (et_test (ev_op (ev_pair0 (ev_var (i := 2) rfl) htq) (ev_var (i := 1) rfl) (rv_ne rfl))) (by by_cases z : e.1 = d <;> simp [z]), fun _ => fun H9 e9 Q q => (ev_var (i := 2) (v := .ref tq) rfl) H9 e9 _ fun H10 e10 => q _ H10 e10 ⟨tq, rfl, (e9.trans e10) _ _ htq⟩⟩)
    gname_mono
  rw [List.map_id'] at hX
  refine q_dputSP (a := M.mm) hX (ev_var (i := 0) rfl) ev_c hM.at_ (by show 4 < 100000; decide) fun v H1 H2 e1 e2 ⟨r, ys, hv, hn, hr, hk⟩ => ?_
  subst hv
  rw [md_row]
  obtain ⟨h3, f3⟩ := hM.setRow (r := r) (rows' := noW S.row d) (e1.trans e2) hn (e2 _ _ hr) (kdM.L_ex e2 hk)
  generalize upd H2 M.mm (.dK (mdK { M with rw := r } S.turn)) = H3 at h3 f3 ⊢
  refine s_when (et_B (ev_dain (i := d) (ev_var (i := 1) rfl) (h3.epassed (ev_var (i := 0) (v := .ref M.mm) rfl)) h3.sk)) (fun z H4 e4 => ?_) (fun z H4 e4 => ?_)
  · have h4 := h3.ex e4
    obtain ⟨kvs, hks⟩ := id h4.sk
    obtain ⟨v, hv⟩ := Option.isSome_iff_exists.mp z
    refine s_popI (h4.epassed (ev_var (i := 0) (v := .ref M.mm) rfl)) (ev_var (i := 1) rfl) hks hv fun H5 e5 hk5 => ?_
    obtain ⟨h6, f6⟩ := (h4.ex e5).dropPd hk5 d
    refine q _ { M with rw := r } rfl ?_ (((f3.ex e4).ex e5).trans f6)
    show ModR Z _ _ (fK S.keeps) (noW S.row d) (fN (put S.skips d none)) S.turn
    rw [fN_put]
    exact h6
  · refine q _ { M with rw := r } rfl ?_ (f3.ex e4)
    show ModR Z _ _ (fK S.keeps) (noW S.row d) (fN (put S.skips d none)) S.turn
    have : put S.skips d none = S.skips := by
      funext i
      unfold put
      by_cases hi : i = d
      · subst hi
        rw [if_pos rfl]
        unfold fN at z
        cases e : S.skips i with
        | none => rfl
        | some n => rw [e] at z; cases z
      · rw [if_neg hi]
    rw [this]
    exact h3.ex e4
def encM (e : Ent) : PyData := .tuple [.int e.1, .str e.2.1, .int e.2.2]
theorem dpM (e : Ent) (v : V) (H : Hp) (h : kdM.R e v H) : Dp K H v (encM e) := by
  obtain ⟨p, rfl, h2⟩ := h
  exact .tup (SqT.of h2) (.cons (.int _) (.cons (.str _) (.cons (.int _) .nil)))
theorem lowM {e : Ent} (h : PyData.strOk e.2.1 = true) : lowD (encM e) = true := low_tup fun d hd => by
  simp only [List.mem_cons, List.not_mem_nil, or_false] at hd
  rcases hd with rfl | rfl | rfl
  · exact lay_int _
  · exact lay_str h
  · exact lay_int _
theorem q_callM {sp : Sp} {vs : List V} {tA : TA} (hA : EvA tA σ H vs) (k : ∀ H1, Ex H H1 → sp (vs ++ []) H1 (fun _ H2 => tz E σ H2) E0) : tSeq (tDrop (tCall sp [] E0 tA)) tz E σ H := hA H (Ex.refl _) _ fun H1 e1 => k H1 e1
theorem q_popRow {xs : List V} {x : V} {l : Addr} {to : TE} {g : TG} (ho : Ev to σ H (.ref l)) (hl : H l = some (.lst (x :: xs))) (k : ∀ H1, Ex H H1 → g x σ (upd H1 l (.lst xs)) fun σ' H' => tz E σ' H') : tSeq (tAsg (tBM K "list" rPopAt to (tCons (tC (.int 0)) tNil)) g) tz E σ H :=
  ho H (Ex.refl _) _ fun H1 e1 => ⟨.inl ⟨rfl, _, SqL.of (e1 _ _ hl)⟩, l, x :: xs, 0, 0, x, rfl, rfl, e1 _ _ hl, by decide, by decide, by
    have := ixN_seq (ixN_nat (n := (x :: xs).length) (j := 0) (by simp))
    exact this.1, rfl, k H1 e1⟩
def MTold (Z H : Hp) (M : MA) (r : LS × List Int) (Q : VK) : Prop := ∀ H' M' p, M'.mm = M.mm → ModAt Z H' M' r.1 → Fr M.foot M'.foot H H' → H p = none → p ∉ M'.foot → H' p = some (.lst (r.2.map V.int)) → Q (.ref p) H'
def spLScan (ds : List Int) : Sp := fun vs H Q _ => ∃ (Z : Hp) (da ga : Addr) (D : TD Str) (M : MA) (S : LS), vs = [.ref ga, .ref M.mm] ∧ DataR Z da ga D ∧ DatOk D ∧ ModAt Z H M S ∧ LOk D ds S ∧ DsOk ds ∧ MTold Z H M (S.scanAll D ds) Q
abbrev AlFits (P : Program) (w : World) (K : PySem.W.Frag) (mg : Str → Option Value) (base : Heap) (ds : List Int) := GF P w K mg base "_law_fits" ["_law_data", "_law_model", "_law_deal", "_law_goal"] [] 3 (spLFits ds)
abbrev AlGrant (P : Program) (w : World) (K : PySem.W.Frag) (mg : Str → Option Value) (base : Heap) (ds : List Int) := GF P w K mg base "_law_grant" ["_law_model", "_law_deal", "_law_goal", "_law_ticket"] [] 1 (spLGrant ds)
theorem sc_law_scan : FnScope ["_law_data", "_law_model", "_law_found", "_law_deal", "_law_goal", "_law_ticket"] ["_law_data", "_law_model"] (defScope s_law_scan) := ⟨rfl, rfl, rfl, by decide +kernel, rfl, by decide +kernel, by decide +kernel⟩
theorem ok_law_scan (F : FnT K "_law_scan" "_law_scan" s_law_scan [] [] f fd) (T : Txt K mg C Dc) (G_law_fits : AlFits P w K mg base ds) (G_law_grant : AlGrant P w K mg base ds) : FnOk P w K mg base CX0 4 f fd ["_law_data", "_law_model"] (spLScan ds) := by
  refine F.ok sc_law_scan (fun vs H Q E ⟨_, _, _, _, _, _, h, _⟩ => by rw [h]; rfl) (fun cdv A outer s H vs Q E hr ⟨Z, da, ga, D, M, S, hv, hR, dok, hM, ok, hds, q⟩ => ⟨_, PSs.nox (pss_cons (ps_set (i := 2) sc_law_scan.nd rfl (Or.inl rfl) (pe_lst pa_nil))
    (pss_cons (ps_while PassesOwn.never (PW.pt (pw_and (pt_cmpR (op_neDK K rfl hr.units) (pe_dget (hu_of hr) (pv 1) pe_str (fun _ _ => rfl)) (pe_lst pa_nil) (nomark _)) (pw_and1 (pt_val (pe_callG G_law_fits hr (by decide) (by rfl) (pa_cons (pv 0) (pa_cons (pv 1) (pa_cons (pe_ix (ix_tupK K rfl) (pe_ix (ix_listK K rfl) (pe_dget (hu_of hr) (pv 1) pe_str (fun _ _ => rfl)) pe_int (fun _ _ => rfl)) pe_int (fun _ _ => rfl)) (pa_cons (pe_ix (ix_tupK K rfl) (pe_ix (ix_listK K rfl) (pe_dget (hu_of hr) (pv 1) pe_str (fun _ _ => rfl)) pe_int (fun _ _ => rfl)) pe_int (fun _ _ => rfl)) pa_nil))))))))) (pss_cons (ps_asg (pe_bmK K rfl PySem.F.plainAttrs_list PySem.F.slot_list_pop PySem.F.type_list_pop mt_popAt (pe_dget (hu_of hr) (pv 1) pe_str (fun _ _ => rfl)) (pa_cons pe_int pa_nil)) (pg_tupK (n := 3) K rfl rfl (pgs_cons (pg_name (i := 3) sc_law_scan.nd rfl (by first | exact Or.inl rfl | exact Or.inr rfl)) (pgs_cons (pg_name (i := 4) sc_law_scan.nd rfl (by first | exact Or.inl rfl | exact Or.inr rfl)) (pgs_cons (pg_name (i := 5) sc_law_scan.nd rfl (by first | exact Or.inl rfl | exact Or.inr rfl)) pgs_nil)))))
      (pss_cons (ps_expr (pe_dpop1 (pe_dget (hu_of hr) (pv 1) pe_str (fun _ _ => rfl)) (pv 3) ⟨rfl, rfl, rfl, rfl⟩))
      (pss_cons (ps_expr (pe_callG G_law_grant hr (by decide) (by rfl) (pa_cons (pv 1) (pa_cons (pv 3) (pa_cons (pv 4) (pa_cons (pv 5) pa_nil))))))
      (pss_one (ps_expr (pe_bmK K rfl PySem.F.plainAttrs_list PySem.F.slot_list_append PySem.F.type_list_append mt_append (pv 2) (pa_cons (pv 3) pa_nil))))))))
    (pss_one (ps_ret (pv 2))))), ?_⟩)
  subst hv
  have hda : ∃ d0, d0 = da := ⟨da, rfl⟩
  refine q_asgL (el_lst ea_nil (by show 0 ≤ 100000; decide)) fun l H1 hln e1 h1 => ?_
  have hrl := Nat.le_trans ok.rowlen hds.few
  have hlf : l ∉ M.foot := (hM.new hln).1
  refine q_while (fun m σ' H' => ∃ (M' : MA) (S' : LS) (fs : List Int), Keeps [3, 4, 5] ([some (.ref ga), some (.ref M.mm), some (.ref l), none, none, none] : L2.St) σ' ∧ M'.mm = M.mm ∧ ModAt Z H' M' S' ∧ LOk D ds S' ∧ m = S'.row.length ∧ Fr M.foot M'.foot H H' ∧ H' l = some (.lst (fs.map V.int)) ∧ l ∉ M'.foot ∧ fs.length + S'.row.length ≤ 50 ∧ S.scanAll D ds = ((S'.scan D ds m).1, fs ++ (S'.scan D ds m).2))
    S.row.length ⟨M, S, [], Keeps.refl, rfl, hM.ex e1, ok, rfl, Fr.of e1, h1, hlf, by simpa using hrl, rfl⟩ (fun m σ' H' w => ?_)
  obtain ⟨M', S', fs, wk, eln, wl, wok, rfl, wf', wlst, wlf, wn, wsc⟩ := w
  obtain ⟨o3, o4, o5, rfl⟩ := wk.three
  have wv : ∀ {σ : L2.St} {H' : Hp}, σ[1]? = some (some (.ref M.mm)) → Ev (tVar 1) σ H' (.ref M'.mm) := fun h => ev_var (by rw [h, eln])
  obtain ⟨xs, hr1, hr2⟩ := wl.row
  have hro : ∀ e ∈ S'.row, lowD (encM e) = true := fun e he => lowM (dok.wf.ok _ (wok.rin e he).2)
  have hne := et_test (ev_neNil (K := K) encM dpM hro (ls_var (k := kdM) (bs := S'.row) (wl.erow (wv (σ := ([some (.ref ga), some (.ref M.mm), some (.ref l), o3, o4, o5] : L2.St)) rfl)) ⟨M'.rw, xs, rfl, SqL.of hr1, hr2⟩))
  cases hrow : S'.row with
  | nil =>
    refine ⟨false, et_is (et_and (b := false) hne (fun z => by rw [hrow] at z; cases z)) (by rw [hrow]; rfl), (fun z => by cases z), fun _ H2 e2 => ?_⟩
    have hs : S.scanAll D ds = (S', fs) := by
      rw [wsc, hrow]
      show ((S'.scan D ds 0).1, fs ++ (S'.scan D ds 0).2) = _
      show (S', fs ++ []) = _
      rw [List.append_nil]
    refine s_ret (ev_var (i := 2) (v := .ref l) rfl) fun H3 e3 => q H3 M' l eln ?_ ((wf'.ex e2).ex e3) hln wlf ?_
    · rw [hs]; exact (wl.ex e2).ex e3
    · rw [hs]; exact e3 _ _ (e2 _ _ wlst)
  | cons e r =>
    have hem : e ∈ S'.row := by rw [hrow]; simp
    have heg := (wok.rin e hem).2
    have hed := (wok.rin e hem).1
    rw [hrow] at hr2
    cases hr2 with
    | cons hx0 hxt =>
      rename_i x0 xt
      obtain ⟨tq, rfl, htq⟩ := hx0
      have hr00 : ∀ {H2 : Hp}, Ex H' H2 → Ev (tOp (rIxL K) (tDGet (tVar 1) (tC (.str "row"))) (tC (.int 0))) ([some (.ref ga), some (.ref M.mm), some (.ref l), o3, o4, o5] : L2.St) H2 (.ref tq) := fun {H2} e2 =>
        ev_op ((wl.ex e2).erow (wv rfl)) ev_c (rv_ixL (SqL.of (e2 _ _ hr1)) (atI_nat (j := 0) rfl))
      have hfit : Ev (tCall (spLFits ds) [] E0 (tCons (tVar 0) (tCons (tVar 1) (tCons (tOp (rIxT K) (tOp (rIxL K) (tDGet (tVar 1) (tC (.str "row"))) (tC (.int 0))) (tC (.int 0))) (tCons (tOp (rIxT K) (tOp (rIxL K) (tDGet (tVar 1) (tC (.str "row"))) (tC (.int 0))) (tC (.int 1))) tNil))))) ([some (.ref ga), some (.ref M.mm), some (.ref l), o3, o4, o5] : L2.St) H' (.bl (fitsB D ds S'.keeps e.1 e.2.1)) :=
        ev_call (vs := [.ref ga, .ref M'.mm, .int e.1, .str e.2.1]) (ea_cons (ev_var (i := 0) rfl) (ea_cons (wv rfl) (ea_cons (ev_pair0 (hr00 (Ex.refl _)) htq) (ea_cons (ev_pair1 (hr00 (Ex.refl _)) htq) ea_nil)))) fun H5 e5 Q q E => ⟨Z, da, ga, D, M', S', e.1, e.2.1, rfl, hR, dok, wl.ex e5, wok, hds, heg, q⟩
      refine ⟨fitsB D ds S'.keeps e.1 e.2.1, et_is (et_and hne (fun _ => et_B hfit)) (by rw [hrow]; rfl), fun hfb H2 e2 => ?_, fun hfb H2 e2 => ?_⟩
      · refine ⟨fun σ2 H3 => ∃ m', m' < (e :: r).length ∧ ∃ (M' : MA) (S' : LS) (fs : List Int), Keeps [3, 4, 5] ([some (.ref ga), some (.ref M.mm), some (.ref l), none, none, none] : L2.St) σ2 ∧ M'.mm = M.mm ∧ ModAt Z H3 M' S' ∧ LOk D ds S' ∧ m' = S'.row.length ∧ Fr M.foot M'.foot H H3 ∧ H3 l = some (.lst (fs.map V.int)) ∧ l ∉ M'.foot ∧ fs.length + S'.row.length ≤ 50 ∧ S.scanAll D ds = ((S'.scan D ds m').1, fs ++ (S'.scan D ds m').2), fun σ2 H3 w => w, ?_⟩
        refine q_popRow ((wl.ex e2).erow (wv rfl)) (e2 _ _ hr1) fun H3 e3 => ?_
        have e23 := e2.trans e3
        obtain ⟨h4, f4⟩ := (wl.ex e23).putRow (rows' := r) (kdM.L_ex e23 hxt)
        have htq4 : (upd H3 M'.rw (.lst xt)) tq = some (.tup [.int e.1, .str e.2.1, .int e.2.2]) := by
          rw [upd_ne (fun z => by rw [z, hr1] at htq; cases htq)]; exact e23 _ _ htq
        refine ⟨tq, _, rfl, SqT.of htq4, rfl, _, _, rfl, _, _, rfl, _, _, rfl, rfl, ?_⟩
        show tSeq _ _ _ ([some (.ref ga), some (.ref M.mm), some (.ref l), some (.int e.1), some (.str e.2.1), some (.int e.2.2)] : L2.St) _
        generalize upd H3 M'.rw (.lst xt) = H4 at h4 f4 htq4 ⊢
        obtain ⟨kvs, hks⟩ := id h4.sk
        have hso : (S'.skips e.1).isSome = true := (wok.sk e.1).mpr (List.mem_map.mpr ⟨e, hem, rfl⟩)
        obtain ⟨n0, hn0⟩ := Option.isSome_iff_exists.mp hso
        refine q_popI (h4.epassed (wv rfl)) (ev_var (i := 3) rfl) hks (v := .int n0) (by unfold fN; rw [hn0]; rfl) fun H5 e5 hk5 => ?_
        obtain ⟨h6, f6⟩ := (h4.ex e5).dropPd hk5 e.1
        have hrw : noW S'.row e.1 = r := by
          rw [hrow]
          exact noW_head (by rw [← hrow]; exact wok.nd)
        have h6' : ModAt Z (upd H5 M'.pd (.dK (dropK kvs (.inl e.1)))) M' (S'.unwait e.1) := by
          show ModR Z _ _ (fK S'.keeps) (noW S'.row e.1) (fN (put S'.skips e.1 none)) S'.turn
          rw [fN_put, hrw]
          exact h6
        generalize upd H5 M'.pd (.dK (dropK kvs (.inl e.1))) = H6 at h6' f6 ⊢
        have wok6 := wok.unwait e.1
        refine q_callM (ea_cons (wv rfl) (ea_cons (ev_var (i := 3) rfl) (ea_cons (ev_var (i := 4) rfl) (ea_cons (ev_var (i := 5) rfl) ea_nil)))) fun H7 e7 => ⟨Z, D, M', S'.unwait e.1, e.1, e.2.1, e.2.2, rfl, h6'.ex e7, wok6, hds, fun H8 M8 eln8 wl8 f8 => ?_⟩
        have wok8 := wok6.grant (k := e.2.2) hed heg
        have fall : Fr M'.foot M8.foot H' H8 := (Fr.of e23).trans (f4.trans ((Fr.of e5).trans (f6.trans ((Fr.of e7).trans f8))))
        have hl8 : H8 l = some (.lst (fs.map V.int)) := fall.keep wlf wlst
        have hlf8 : l ∉ M8.foot := fall.apart (F2 := [l]) (fun b hb => by rw [List.mem_singleton.mp hb]; exact wlf) (fun b hb => by rw [List.mem_singleton.mp hb]; exact ⟨_, wlst⟩) l (by simp)
        have hfl : fs.length < 50 := by rw [hrow, List.length_cons] at wn; omega
        refine s_app hl8 (ev_var (i := 2) (v := .ref l) rfl) (ev_var (i := 3) (v := .int e.1) rfl) (by rw [List.length_map]; omega) fun H9 e9 => ?_
        have hrow8 : (((S'.unwait e.1).grant e.1 e.2.1 e.2.2).row) = r := hrw
        refine ⟨r.length, by rw [List.length_cons]; omega, M8, (S'.unwait e.1).grant e.1 e.2.1 e.2.2, fs ++ [e.1], ((Keeps.refl.set (j := 3) (by decide)).set (j := 4) (by decide)).set (j := 5) (by decide), eln8.trans eln, ?_, wok8, by rw [hrow8], ?_, by rw [upd_same, List.map_append]; rfl, hlf8, by rw [hrow8, List.length_append]; rw [hrow, List.length_cons] at wn; show fs.length + 1 + _ ≤ _; omega, ?_⟩
        · exact (wl8.ex e9).fr (F := [l]) (F' := [l]) (Fr.upd (by simp) (e9 _ _ hl8) fun xs z => by cases z) (fun b hb => by rw [List.mem_singleton.mp hb]; exact hlf8) (fun b hb => by
            rw [List.mem_singleton.mp hb]
            exact (hM.new hln).2)
        · exact (wf'.trans (fall.ex e9)).mutNew hln (e9 _ _ hl8) fun xs z => by cases z
        · rw [wsc, hrow]
          show ((S'.scan D ds (r.length + 1)).1, fs ++ (S'.scan D ds (r.length + 1)).2) = _
          have hsc : S'.scan D ds (r.length + 1) = (((((S'.unwait e.1).grant e.1 e.2.1 e.2.2).scan D ds r.length)).1, e.1 :: ((((S'.unwait e.1).grant e.1 e.2.1 e.2.2).scan D ds r.length)).2) := by
            show (match S'.row with
              | [] => (S', [])
              | e :: _ => if fitsB D ds S'.keeps e.1 e.2.1 then let r' := LS.scan D ds r.length ((S'.unwait e.1).grant e.1 e.2.1 e.2.2); (r'.1, e.1 :: r'.2) else (S', [])) = _
            rw [hrow]
            show (if fitsB D ds S'.keeps e.1 e.2.1 then _ else _) = _
            rw [if_pos hfb]
          rw [hsc, List.append_assoc]
          rfl
      · have hs : S.scanAll D ds = (S', fs) := by
          rw [wsc, hrow]
          show ((S'.scan D ds (r.length + 1)).1, fs ++ (S'.scan D ds (r.length + 1)).2) = _
          have hsc : S'.scan D ds (r.length + 1) = (S', []) := by
            show (match S'.row with
              | [] => (S', [])
              | e :: _ => if fitsB D ds S'.keeps e.1 e.2.1 then let r' := LS.scan D ds r.length ((S'.unwait e.1).grant e.1 e.2.1 e.2.2); (r'.1, e.1 :: r'.2) else (S', [])) = _
            rw [hrow]
            show (if fitsB D ds S'.keeps e.1 e.2.1 then _ else _) = _
            rw [if_neg (by rw [hfb]; decide)]
          rw [hsc, List.append_nil]
        refine s_ret (ev_var (i := 2) (v := .ref l) rfl) fun H3 e3 => q H3 M' l eln ?_ ((wf'.ex e2).ex e3) hln wlf ?_
        · rw [hs]; exact (wl.ex e2).ex e3
        · rw [hs]; exact e3 _ _ (e2 _ _ wlst)
end
end HT
set_option Elab.async false
set_option linter.all false
set_option maxRecDepth 100000
set_option maxHeartbeats 4000000
/-! the law's model: asks, does -/
namespace HT
open PySem PySem.Spec PyProof.Rows L2 Evl LamX
/-- who raises stands first -/
def Part (S : LS) : Prop := S.row = S.rais ++ S.row.filter fun e => !(S.keeps e.1).isSome
section
variable {P : Program} {w : World} {K : PySem.W.Frag} {mg : Str → Option Value} {base : Heap} {C Dc Pt : Addr} {f : Addr} {fd : FuncData} {Z H H' : Hp} {M : MA} {kf sf : FI} {rows : List Ent} {turn : Int} {σ : L2.St} {ta tb te tc : TE} {E : Ends} {tz tu tw : TS} {D : TD Str} {ds : List Int} {S : LS}
abbrev AlOut (P : Program) (w : World) (K : PySem.W.Frag) (mg : Str → Option Value) (base : Heap) (ds : List Int) := GF P w K mg base "_law_out" ["_law_model", "_law_deal"] [] 1 (spLOut ds)
abbrev AlScan (P : Program) (w : World) (K : PySem.W.Frag) (mg : Str → Option Value) (base : Heap) (ds : List Int) := GF P w K mg base "_law_scan" ["_law_data", "_law_model"] [] 4 (spLScan ds)
def spLAsks (ds : List Int) : Sp := fun vs H Q _ => ∃ (Z : Hp) (da ga : Addr) (D : TD Str) (M : MA) (S : LS) (d : Int) (m : Str), vs = [.ref ga, .ref M.mm, .int d, .str m] ∧ DataR Z da ga D ∧ DatOk D ∧ ModAt Z H M S ∧ LOk D ds S ∧ DsOk ds ∧ Part S ∧ d ∈ ds ∧ m ∈ D.order ∧ d ∉ S.row.map (·.1) ∧ (∀ a ∈ D.order, ∀ b ∈ D.order, ∃ j, D.joined a b = some j) ∧ MPost Z H M (S.ask D ds d m).1 fun H' => Q (.str (S.ask D ds d m).2) H'
theorem sc_law_asks : FnScope ["_law_data", "_law_model", "_law_deal", "_law_mode", "_law_holds", "_law_goal", "_law_ahead", "_law_others", "_law_entry", "_law_place"] ["_law_data", "_law_model", "_law_deal", "_law_mode"] (defScope s_law_asks) := ⟨rfl, rfl, rfl, by decide +kernel, rfl, by decide +kernel, by decide +kernel⟩
theorem ok_law_asks (F : FnT K "_law_asks" "_law_asks" s_law_asks [] [] f fd) (T : Txt K mg C Dc) (G_law_joined : AlJoined P w K mg base) (G_law_fits : AlFits P w K mg base ds) (G_law_grant : AlGrant P w K mg base ds) : FnOk P w K mg base CX0 5 f fd ["_law_data", "_law_model", "_law_deal", "_law_mode"] (spLAsks ds) := by
  refine F.ok sc_law_asks (fun vs H Q E ⟨_, _, _, _, _, _, _, _, h, _⟩ => by rw [h]; rfl) (fun cdv A outer s H vs Q E hr ⟨Z, da, ga, D, M, S, d, m, hv, hR, dok, hM, ok, hds, hpart, hd, hm, hnr, hjn, q⟩ => ⟨_, PSs.nox (pss_cons (ps_set (i := 4) sc_law_asks.nd rfl (Or.inr rfl) (pe_dget (hu_of hr) (pv 1) pe_str (fun _ _ => rfl)))
    (pss_cons (ps_set (i := 5) sc_law_asks.nd rfl (Or.inl rfl) (pe_ifExp (pt_cmp (pc_din (hu_of hr) (pv 2) (pv 4))) (pe_callG G_law_joined hr (by decide) (by rfl) (pa_cons (pv 0) (pa_cons (pe_dget (hu_of hr) (pv 4) (pv 2) (fun _ _ => rfl)) (pa_cons (pv 3) pa_nil)))) (pv 3)))
    (pss_cons (ps_if (PW.pt (pw_and (pt_cmp (pc_din (hu_of hr) (pv 2) (pv 4))) (pw_and1 (pt_cmpR op_eq (pv 5) (pe_dget (hu_of hr) (pv 4) (pv 2) (fun _ _ => rfl)) (nomark _))))) (pss_one (ps_ret pe_str)) pss_nil)
    (pss_cons (ps_dput (hu_of hr) (pv 1) pe_str (pe_op op_add (pe_dget (hu_of hr) (pv 1) pe_str (fun _ _ => rfl)) pe_int) rfl)
    (pss_cons (ps_if (PW.pt (pw_and (pt_val (pe_callG G_law_fits hr (by decide) (by rfl) (pa_cons (pv 0) (pa_cons (pv 1) (pa_cons (pv 2) (pa_cons (pv 5) pa_nil)))))) (pw_and1 (PW.pt (pw_or (pt_cmp (pc_din (hu_of hr) (pv 2) (pv 4))) (pw_or1 (pt_cmpR (op_eqDK K rfl hr.units) (pe_dget (hu_of hr) (pv 1) pe_str (fun _ _ => rfl)) (pe_lst pa_nil) (nomark _)))))))) (pss_cons (ps_expr (pe_callG G_law_grant hr (by decide) (by rfl) (pa_cons (pv 1) (pa_cons (pv 2) (pa_cons (pv 5) (pa_cons (pe_dget (hu_of hr) (pv 1) pe_str (fun _ _ => rfl)) pa_nil))))))
      (pss_one (ps_ret pe_str))) pss_nil)
    (pss_cons (ps_setLc (i := 6) (own := [("_law_entry", 8)]) rfl sc_law_asks.nd rfl rfl (sw_true rfl rfl rfl (by rfl)) (pi_listK K rfl (pe_dget (hu_of hr) (pv 1) pe_str (fun _ _ => rfl))) (blkOk_by (by rfl)) (fun _ _ _ _ _ => (pg_name (i := 8) sc_law_asks.nd rfl (by first | exact Or.inl rfl | exact Or.inr rfl))) (fun _ _ _ _ _ => (pts_one (pt_cmp (pc_din (hu_of hr) (pe_ix (ix_tupK K rfl) (pv 8) pe_int (fun _ _ => rfl)) (pv 4))))) (fun _ _ _ _ _ => (pv 8)))
    (pss_cons (ps_setLc (i := 7) (own := [("_law_entry", 8)]) rfl sc_law_asks.nd rfl rfl (sw_true rfl rfl rfl (by rfl)) (pi_listK K rfl (pe_dget (hu_of hr) (pv 1) pe_str (fun _ _ => rfl))) (blkOk_by (by rfl)) (fun _ _ _ _ _ => (pg_name (i := 8) sc_law_asks.nd rfl (by first | exact Or.inl rfl | exact Or.inr rfl))) (fun _ _ _ _ _ => (pts_one (pt_cmp (pc_dnotin (hu_of hr) (pe_ix (ix_tupK K rfl) (pv 8) pe_int (fun _ _ => rfl)) (pv 4))))) (fun _ _ _ _ _ => (pv 8)))
    (pss_cons (ps_set (i := 8) sc_law_asks.nd rfl (Or.inl rfl) (pe_tup (pa_cons (pv 2) (pa_cons (pv 5) (pa_cons (pe_dget (hu_of hr) (pv 1) pe_str (fun _ _ => rfl)) pa_nil)))))
    (pss_cons (ps_set (i := 9) sc_law_asks.nd rfl (Or.inl rfl) (pe_ifExp (pt_cmp (pc_din (hu_of hr) (pv 2) (pv 4))) (pe_callB (call_len_seqK K rfl) (by rfl) T.fLen boot_len (pa_cons (pv 6) pa_nil)) (pe_callB (call_len_seqK K rfl) (by rfl) T.fLen boot_len (pa_cons (pe_op op_cat (pv 6) (pv 7)) pa_nil))))
    (pss_cons (ps_dput (hu_of hr) (pv 1) pe_str (pe_op op_cat (pe_op op_cat (pe_slice (sl_listK K rfl) (pe_op op_cat (pv 6) (pv 7)) po_none (po_some (pv 9))) (pe_lst (pa_cons (pv 8) pa_nil))) (pe_slice (sl_listK K rfl) (pe_op op_cat (pv 6) (pv 7)) (po_some (pv 9)) po_none)) rfl)
    (pss_cons (ps_dput (hu_of hr) (pe_dget (hu_of hr) (pv 1) pe_str (fun _ _ => rfl)) (pv 2) pe_int rfl)
    (pss_one (ps_ret pe_str))))))))))))), ?_⟩)
  subst hv
  refine q_asg (v := .ref M.hd) (hM.eholds (ev_var (i := 1) (v := .ref M.mm) rfl)) fun H1 e1 => ?_
  have hM1 := hM.ex e1
  have hin : ∀ {σ : L2.St} {H5 : Hp}, Ex H1 H5 → σ[2]? = some (some (.int d)) → σ[4]? = some (some (.ref M.hd)) → Ev (tDIn (tVar 2) (tVar 4)) σ H5 (.bl (S.keeps d).isSome) := fun e5 h2 h4 => ev_is (ev_dain (i := d) (ev_var h2) (ev_var h4) (hM1.ex e5).kp) (by unfold fK; cases S.keeps d <;> rfl)
  show tSeq _ _ _ ([some (.ref ga), some (.ref M.mm), some (.int d), some (.str m), some (.ref M.hd), none, none, none, none, none] : L2.St) H1
  have core : ∀ (g : Str) (H5 : Hp), Ex H1 H5 → g ∈ D.order → (∀ H' M', M'.mm = M.mm → ModAt Z H' M' (askRes D ds S d g).1 → Fr M.foot M'.foot H H' → Q (.str (askRes D ds S d g).2) H') →
      (tSeq (sDPut (tVar 1) (tC (.str "turn")) (tOp (rI0 fun i j => .int (i + j)) (tDGet (tVar 1) (tC (.str "turn"))) (tC (.int 1))))
        (tSeq (tIfS (tAnd (tB (tCall (spLFits ds) [] E0 (tCons (tVar 0) (tCons (tVar 1) (tCons (tVar 2) (tCons (tVar 5) tNil)))))) (tOr (tB (tDIn (tVar 2) (tVar 4))) (tTest (tOp (rEqD K) (tDGet (tVar 1) (tC (.str "row"))) (tLst tNil)))))
            (tSeq (tDrop (tCall (spLGrant ds) [] E0 (tCons (tVar 1) (tCons (tVar 2) (tCons (tVar 5) (tCons (tDGet (tVar 1) (tC (.str "turn"))) tNil)))))) (tRet (tC (.str "held")))) tNext)
        (tSeq (tAsg (tLc (iList K (tDGet (tVar 1) (tC (.str "row")))) (gName 8) (tB (tDIn (tOp (rIxT K) (tVar 8) (tC (.int 0))) (tVar 4))) (tVar 8) [8]) (gName 6))
        (tSeq (tAsg (tLc (iList K (tDGet (tVar 1) (tC (.str "row")))) (gName 8) (tB (tDNotIn (tOp (rIxT K) (tVar 8) (tC (.int 0))) (tVar 4))) (tVar 8) [8]) (gName 7))
        (tSeq (tAsg (tTup (tCons (tVar 2) (tCons (tVar 5) (tCons (tDGet (tVar 1) (tC (.str "turn"))) tNil)))) (gName 8))
        (tSeq (tAsg (tIf (tB (tDIn (tVar 2) (tVar 4))) (tCB (rLenQ K) (tCons (tVar 6) tNil)) (tCB (rLenQ K) (tCons (tOp rCat (tVar 6) (tVar 7)) tNil))) (gName 9))
        (tSeq (sDPut (tVar 1) (tC (.str "row")) (tOp rCat (tOp rCat (tSl (rSlL K) (tOp rCat (tVar 6) (tVar 7)) tNoPart (tPart (tVar 9))) (tLst (tCons (tVar 8) tNil))) (tSl (rSlL K) (tOp rCat (tVar 6) (tVar 7)) (tPart (tVar 9)) tNoPart)))
        (tSeq (sDPut (tDGet (tVar 1) (tC (.str "passed"))) (tVar 2) (tC (.int 0))) (tRet (tC (.str "waits")))))))))))
        { nx := fun _ H' => Q .non H', rt := Q } ([some (.ref ga), some (.ref M.mm), some (.int d), some (.str m), some (.ref M.hd), some (.str g), none, none, none, none] : L2.St) H5 := by
    intro g H5 e5 hg qq
    have hM5 := hM1.ex e5
    refine q_dputS (ev_op (hM5.eturn (ev_var (i := 1) rfl)) (ev_c (v := .int 1)) rv_I0) (ev_var (i := 1) rfl) ev_c hM5.at_ (by show 4 < 100000; decide) fun H6 e6 => ?_
    rw [md_turn]
    obtain ⟨h7, f7⟩ := hM5.setTurn (turn' := S.turn + 1) e6
    have h7' : ModAt Z (upd H6 M.mm (.dK (mdK M (S.turn + 1)))) M { S with turn := S.turn + 1 } := h7
    have f07 : Fr M.foot M.foot H (upd H6 M.mm (.dK (mdK M (S.turn + 1)))) := (Fr.of (e1.trans e5)).trans f7
    generalize upd H6 M.mm (.dK (mdK M (S.turn + 1))) = H7 at h7' f07 ⊢
    clear h7 f7
    have ok7 : LOk D ds { S with turn := S.turn + 1 } := ⟨ok.kin, ok.rin, ok.nd, ok.sk⟩
    obtain ⟨xs, hr1, hr2⟩ := id h7'.row
    have hr2' : kdM.L S.row xs H7 := hr2
    have hrl := Nat.le_trans ok.rowlen hds.few
    have hro : ∀ e ∈ S.row, lowD (encM e) = true := fun e he => lowM (dok.wf.ok _ (ok.rin e he).2)
    have kin : ∀ {σ : L2.St} {H8 : Hp} {te : TE} {i : Int}, Ex H7 H8 → Ev te σ H8 (.int i) → σ[4]? = some (some (.ref M.hd)) → Ev (tDIn te (tVar 4)) σ H8 (.bl (S.keeps i).isSome) := fun e8 h2 h4 => ev_is (ev_dain h2 (ev_var h4) (h7'.ex e8).kp) (by unfold fK; cases S.keeps _ <;> rfl)
    have hfit : Ev (tCall (spLFits ds) [] E0 (tCons (tVar 0) (tCons (tVar 1) (tCons (tVar 2) (tCons (tVar 5) tNil))))) ([some (.ref ga), some (.ref M.mm), some (.int d), some (.str m), some (.ref M.hd), some (.str g), none, none, none, none] : L2.St) H7 (.bl (fitsB D ds S.keeps d g)) :=
      ev_call (vs := [.ref ga, .ref M.mm, .int d, .str g]) (ea_cons (ev_var (i := 0) rfl) (ea_cons (ev_var (i := 1) rfl) (ea_cons (ev_var (i := 2) rfl) (ea_cons (ev_var (i := 5) rfl) ea_nil)))) fun H9 e9 Q q E => ⟨Z, da, ga, D, M, { S with turn := S.turn + 1 }, d, g, rfl, hR, dok, h7'.ex e9, ok7, hds, hg, q⟩
    refine q_when (b := fitsB D ds S.keeps d g && ((S.keeps d).isSome || decide (S.row = []))) (et_and (et_B hfit) (fun _ => et_or (et_B (kin (Ex.refl _) (ev_var (i := 2) rfl) rfl)) (fun _ => et_test (ev_eqNil (K := K) encM dpM hro (ls_var (k := kdM) (bs := S.row) (h7'.erow (ev_var (i := 1) rfl)) ⟨M.rw, xs, rfl, SqL.of hr1, hr2'⟩))))) (fun z H8 e8 => ?_) (fun z H8 e8 => ?_)
    · have hres : askRes D ds S d g = ((({ S with turn := S.turn + 1 } : LS).grant d g (S.turn + 1), "held") : LS × Str) := by unfold askRes; rw [if_pos z]
      rw [hres] at qq
      refine q_callM (ea_cons (ev_var (i := 1) rfl) (ea_cons (ev_var (i := 2) rfl) (ea_cons (ev_var (i := 5) rfl) (ea_cons ((h7'.ex e8).eturn (ev_var (i := 1) rfl)) ea_nil)))) fun H9 e9 => ⟨Z, D, M, { S with turn := S.turn + 1 }, d, g, S.turn + 1, rfl, (h7'.ex e8).ex e9, ok7, hds, fun H10 M10 eln wl f10 => ?_⟩
      exact s_ret ev_c fun H11 e11 => qq H11 M10 eln (wl.ex e11) (((f07.ex (e8.trans e9)).trans f10).ex e11)
    · have hres : askRes D ds S d g = ((S.insAt (if (S.keeps d).isSome then S.rais.length else S.row.length) (d, g, S.turn + 1), "waits") : LS × Str) := by unfold askRes; rw [if_neg (by rw [z]; decide)]
      rw [hres] at qq
      have h8 := h7'.ex e8
      have hr18 := e8 _ _ hr1
      have hr28 := kdM.L_ex e8 hr2'
      have mk : ∀ (o6 o7 : Option V) (neg : Bool) (H9 : Hp), Ex H8 H9 → EvP (tLc (iList K (tDGet (tVar 1) (tC (.str "row")))) (gName 8) (tB (if neg then tDNotIn (tOp (rIxT K) (tVar 8) (tC (.int 0))) (tVar 4) else tDIn (tOp (rIxT K) (tVar 8) (tC (.int 0))) (tVar 4))) (tVar 8) [8]) ([some (.ref ga), some (.ref M.mm), some (.int d), some (.str m), some (.ref M.hd), some (.str g), o6, o7, none, none] : L2.St) H9 (NewL kdM (S.row.filter fun e => if neg then !(S.keeps e.1).isSome else (S.keeps e.1).isSome)) := by
        intro o6 o7 neg H9 e9
        have hX := ep_lcW (σ := ([some (.ref ga), some (.ref M.mm), some (.int d), some (.str m), some (.ref M.hd), some (.str g), o6, o7, none, none] : L2.St)) (H := H9) (te := tVar 8) (g := gName 8) (vs := [8]) (t := tB (if neg then tDNotIn (tOp (rIxT K) (tVar 8) (tC (.int 0))) (tVar 4) else tDIn (tOp (rIxT K) (tVar 8) (tC (.int 0))) (tVar 4))) (fun e : Ent => if neg then !(S.keeps e.1).isSome else (S.keeps e.1).isSome) (fun e : Ent => e) kdM
          (wk_list (K := K) (ka := kdM) (ls_var (bs := S.row) ((h8.ex e9).erow (ev_var (i := 1) (v := .ref M.mm) rfl)) ⟨M.rw, xs, rfl, SqL.of (e9 _ _ hr18), kdM.L_ex e9 hr28⟩)) (by omega)
          (fun e x H10 he e10 hx => by
            obtain ⟨tq, rfl, htq⟩ := id hx
            refine ⟨rfl, Ex.refl _, et_B ?_, fun _ => fun H9 e9 Q q => (ev_var (i := 8) (v := .ref tq) rfl) H9 e9 _ fun H10 e10 => q _ H10 e10 ⟨tq, rfl, (e9.trans e10) _ _ htq⟩⟩
            cases neg with
            | false => exact kin (e8.trans (e9.trans e10)) (ev_pair0 (ev_var (i := 8) rfl) htq) rfl
            | true => exact ev_is (ev_danotin (i := e.1) (ev_pair0 (ev_var (i := 8) rfl) htq) (ev_var (i := 4) (v := .ref M.hd) rfl) ((h8.ex e9).ex e10).kp) (by unfold fK; show _ = V.bl (!(S.keeps e.1).isSome); cases S.keeps e.1 <;> rfl))
          gname_mono
        rw [List.map_id'] at hX
        exact hX
      refine q_asgN (mk none none false H8 (Ex.refl _)) fun p6 ys6 H9 _ e9 hp6 k6 => ?_
      have k6' : kdM.L S.rais ys6 H9 := k6
      show tSeq _ _ _ ([some (.ref ga), some (.ref M.mm), some (.int d), some (.str m), some (.ref M.hd), some (.str g), some (.ref p6), none, none, none] : L2.St) H9
      refine q_asgN (mk (some (.ref p6)) none true H9 e9) fun p7 ys7 H10 _ e10 hp7 k7 => ?_
      have k7' : kdM.L (S.row.filter fun e => !(S.keeps e.1).isSome) ys7 H10 := k7
      have kall : kdM.L S.row (ys6 ++ ys7) H10 := by
        rw [hpart]
        exact pair_append (kdM.L_ex e10 k6') k7'
      have h10 := h8.ex (e9.trans e10)
      refine q_asgU (eu_tup (vs := [.int d, .str g, .int (S.turn + 1)]) (ea_cons (ev_var (i := 2) rfl) (ea_cons (ev_var (i := 5) rfl) (ea_cons (h10.eturn (ev_var (i := 1) rfl)) ea_nil))) (by show 3 ≤ 100000; decide)) fun t H11 htn e11 ht => ?_
      show tSeq _ _ _ ([some (.ref ga), some (.ref M.mm), some (.int d), some (.str m), some (.ref M.hd), some (.str g), some (.ref p6), some (.ref p7), some (.ref t), none] : L2.St) H11
      have h11 := h10.ex e11
      have hp6' := (e10.trans e11) _ _ hp6
      have hp7' := e11 _ _ hp7
      have l6 := pair_len k6'
      have lall := pair_len kall
      have hlr : S.rais.length ≤ S.row.length := List.length_filter_le _ _
      have hln : (if (S.keeps d).isSome then S.rais.length else S.row.length) ≤ (ys6 ++ ys7).length := by rw [← lall]; split <;> omega
      have hz : ys6.length + ys7.length ≤ 100000 := by rw [← List.length_append, ← lall]; omega
      have hz2 : ys6.length + ys7.length ≤ 50 := by rw [← List.length_append, ← lall]; omega
      refine q_asg (v := .int ((if (S.keeps d).isSome then S.rais.length else S.row.length : Nat) : Int)) (ev_if (b := (S.keeps d).isSome) (et_B (kin (e8.trans (e9.trans (e10.trans e11))) (ev_var (i := 2) rfl) rfl)) (fun z2 => ?_) (fun z2 => ?_)) fun H12 e12 => ?_
      · rw [z2]
        exact ev_is (ev_lenL (ev_var (i := 6) rfl) (SqL.of hp6')) (by rw [← l6]; rfl)
      · rw [z2]
        exact ev_is (ev_lenN (el_cat (la_var (ev_var (i := 6) rfl) hp6') (la_var (ev_var (i := 7) rfl) hp7') hz)) (by rw [← lall]; rfl)
      generalize hn : (if (S.keeps d).isSome then S.rais.length else S.row.length) = n at hln qq ⊢
      show tSeq _ _ _ ([some (.ref ga), some (.ref M.mm), some (.int d), some (.str m), some (.ref M.hd), some (.str g), some (.ref p6), some (.ref p7), some (.ref t), some (.int n)] : L2.St) H12
      have cat := el_cat (σ := ([some (.ref ga), some (.ref M.mm), some (.int d), some (.str m), some (.ref M.hd), some (.str g), some (.ref p6), some (.ref p7), some (.ref t), some (.int n)] : L2.St)) (la_var (ev_var (i := 6) rfl) (e12 _ _ hp6')) (la_var (ev_var (i := 7) rfl) (e12 _ _ hp7')) hz
      have c1 : cutV (ys6 ++ ys7) none (some (n : Int)) = (ys6 ++ ys7).take n := by
        unfold cutV; rw [sIx_nat, sIx_none, show min n (ys6 ++ ys7).length = n by omega, List.drop_zero, Nat.sub_zero]
      have c2 : cutV (ys6 ++ ys7) (some (n : Int)) none = (ys6 ++ ys7).drop n := by
        unfold cutV; rw [sIx_nat, sIx_none, show min n (ys6 ++ ys7).length = n by omega, List.take_of_length_le (by rw [List.length_drop]; omega)]
      have s1 := el_slN (K := K) (tl := tNoPart) (th := tPart (tVar 9)) (lo := none) (hi := some (n : Int)) cat (fun _ _ => eo_none) (fun _ _ => eo_some (ev_var (i := 9) rfl))
      have s2 := el_slN (K := K) (tl := tPart (tVar 9)) (th := tNoPart) (lo := some (n : Int)) (hi := none) cat (fun _ _ => eo_some (ev_var (i := 9) rfl)) (fun _ _ => eo_none)
      rw [c1] at s1
      rw [c2] at s2
      have hall := el_cat (la_new (el_cat (la_new s1) (la_new (el_lst (vs := [.ref t]) (ea_cons (ev_var (i := 8) rfl) ea_nil) (by show 1 ≤ 100000; decide))) (by rw [List.length_take, List.length_append]; show _ + 1 ≤ _; omega))) (la_new s2) (by rw [List.length_append, List.length_take, List.length_drop, List.length_append]; show _ + 1 + _ ≤ _; omega)
      have h12 := h11.ex e12
      refine q_dputSP (a := M.mm) (ep_newL hall) (ev_var (i := 1) rfl) ev_c h12.at_ (by show 4 < 100000; decide) fun v H13 H14 e13 e14 ⟨r, hv, hrn, hr⟩ => ?_
      subst hv
      have ht14 := (e12.trans (e13.trans e14)) _ _ ht
      have kn : kdM.L (S.row.take n ++ [(d, g, S.turn + 1)] ++ S.row.drop n) ((ys6 ++ ys7).take n ++ [.ref t] ++ (ys6 ++ ys7).drop n) H14 :=
        pair_append (pair_append (pair_take _ (kdM.L_ex (e11.trans (e12.trans (e13.trans e14))) kall)) (.cons ⟨t, rfl, ht14⟩ .nil)) (pair_drop _ (kdM.L_ex (e11.trans (e12.trans (e13.trans e14))) kall))
      rw [md_row]
      obtain ⟨h15, f15⟩ := h12.setRow (r := r) (e13.trans e14) hrn (e14 _ _ hr) kn
      have f015 := (f07.ex (e8.trans (e9.trans (e10.trans (e11.trans e12))))).trans f15
      generalize upd H14 M.mm (.dK (mdK { M with rw := r } (S.turn + 1))) = H15 at h15 f015 ⊢
      obtain ⟨kvs, hks⟩ := id h15.sk
      have hkl := Nat.le_trans (hks.len ok.skin) hds.few
      refine q_dputI (v := .int 0) ev_c (h15.epassed (ev_var (i := 1) (v := .ref M.mm) rfl)) (ev_var (i := 2) rfl) hks (by omega) fun H16 e16 hk16 => ?_
      obtain ⟨h17, f17⟩ := (h15.ex e16).putPd hk16 d (.int 0)
      refine s_ret ev_c fun H18 e18 => qq H18 { M with rw := r } rfl (ModR.ex ?_ e18) (((f015.ex e16).trans f17).ex e18)
      show ModR Z _ _ (fK S.keeps) (S.row.take n ++ [(d, g, S.turn + 1)] ++ S.row.drop n) (fN (put S.skips d (some 0))) (S.turn + 1)
      rw [fN_put]
      exact h17
  have hget : ∀ (h0 : Str), S.keeps d = some h0 → ∀ {σ : L2.St} {H5 : Hp}, Ex H1 H5 → σ[2]? = some (some (.int d)) → σ[4]? = some (some (.ref M.hd)) → Ev (tDGet (tVar 4) (tVar 2)) σ H5 (.str h0) := fun h0 hk _ _ e5 h2 h4 => ev_daget (i := d) (ev_var h4) (ev_var h2) (hM1.ex e5).kp (by unfold fK; rw [hk]; rfl)
  cases hk : S.keeps d with
  | none =>
    refine q_asg (v := .str m) (ev_if (b := false) (et_is (et_B (hin (Ex.refl _) rfl rfl)) (by rw [hk]; rfl)) (fun z => by cases z) (fun _ => ev_var (i := 3) rfl)) fun H5 e5 => ?_
    refine q_when (b := false) (et_is (et_and (b := false) (et_B (hin e5 rfl rfl)) (fun z => by rw [hk] at z; cases z)) (by rw [hk]; rfl)) (fun z => by cases z) (fun _ H6 e6 => ?_)
    refine core m H6 (e5.trans e6) hm ?_
    rw [← ask_none hk]
    exact q
  | some h0 =>
    have hh0 := (ok.kin d h0 hk).2
    obtain ⟨g, hg⟩ := hjn h0 hh0 m hm
    have hgo := (TD.joined_in hg hh0 hm).1
    refine q_asg (v := .str g) (ev_if (b := true) (et_is (et_B (hin (Ex.refl _) rfl rfl)) (by rw [hk]; rfl)) (fun _ => ev_call (vs := [.ref ga, .str h0, .str m]) (ea_cons (ev_var (i := 0) rfl) (ea_cons (hget h0 hk (Ex.refl _) rfl rfl) (ea_cons (ev_var (i := 3) rfl) ea_nil))) fun H9 e9 Q q E => ⟨da, ga, D, h0, m, rfl, hR.ex ((hM1.z).trans e9), dok, hh0, hm, by rw [hg]; exact q⟩) (fun z => by cases z)) fun H5 e5 => ?_
    rw [ask_some hk hg] at q
    refine q_when (b := decide (g = h0)) (et_is (et_and (et_B (hin e5 rfl rfl)) (fun _ => et_test (ev_op (ev_var (i := 5) (v := .str g) rfl) (hget h0 hk e5 rfl rfl) (rv_eq rfl)))) (by rw [hk]; by_cases z : g = h0 <;> simp [z])) (fun z H6 e6 => ?_) (fun z H6 e6 => ?_)
    · rw [if_pos (of_decide_eq_true z)] at q
      exact s_ret ev_c fun H7 e7 => q H7 M rfl (hM1.ex ((e5.trans e6).trans e7)) (Fr.of (e1.trans ((e5.trans e6).trans e7)))
    · rw [if_neg (of_decide_eq_false z)] at q
      exact core g H6 (e5.trans e6) hgo q
end
end HT
set_option Elab.async false
set_option linter.all false
set_option maxRecDepth 100000
set_option maxHeartbeats 4000000
/-! the law's deeds: does, told -/
namespace HT
open PySem PySem.Spec PyProof.Rows L2 Evl LamX
inductive Deed where
  | ask (d : Int) (m : Str)
  | ease (d : Int) (m : Str)
  | go (d : Int)
  | cease (d : Int)
def Deed.vals : Deed → List V
  | .ask d m => [.str "ask", .int d, .str m]
  | .ease d m => [.str "ease", .int d, .str m]
  | .go d => [.str "go", .int d]
  | .cease d => [.str "cease", .int d]
def Deed.deal : Deed → Int
  | .ask d _ => d
  | .ease d _ => d
  | .go d => d
  | .cease d => d
/-- what it does, and what it tells: a word or deals -/
def Deed.res (D : TD Str) (ds : List Int) (S : LS) : Deed → LS × (Str ⊕ List Int)
  | .ask d m => ((S.ask D ds d m).1, .inl (S.ask D ds d m).2)
  | .ease d m => ((S.ease D ds d m).1, .inr (S.ease D ds d m).2)
  | .go d => ((S.go D ds d).1, .inr (S.go D ds d).2)
  | .cease d => ((S.cease D ds d).1, .inr (S.cease D ds d).2)
/-- whether it may be done -/
def Deed.ok (D : TD Str) (ds : List Int) (S : LS) : Deed → Prop
  | .ask d m => d ∈ ds ∧ m ∈ D.order ∧ d ∉ S.row.map (·.1)
  | .ease d m => d ∈ ds ∧ m ∈ D.order ∧ d ∉ S.row.map (·.1) ∧ ∃ h, S.keeps d = some h ∧ D.bears h m = true
  | .go d => d ∈ ds ∧ ((S.keeps d).isSome = true ∨ d ∈ S.row.map (·.1))
  | .cease d => d ∈ ds ∧ d ∈ S.row.map (·.1)
section
variable {P : Program} {w : World} {K : PySem.W.Frag} {mg : Str → Option Value} {base : Heap} {C Dc Pt : Addr} {f : Addr} {fd : FuncData} {Z H H' : Hp} {M : MA} {kf sf : FI} {rows : List Ent} {turn : Int} {σ : L2.St} {ta tb te tc : TE} {E : Ends} {tz tu tw : TS} {D : TD Str} {ds : List Int} {S : LS}
def spLDoes (ds : List Int) : Sp := fun vs H Q _ => ∃ (Z : Hp) (da ga t : Addr) (D : TD Str) (M : MA) (S : LS) (x : Deed), vs = [.ref ga, .ref M.mm, .ref t] ∧ H t = some (.tup x.vals) ∧ DataR Z da ga D ∧ DatOk D ∧ ModAt Z H M S ∧ LOk D ds S ∧ DsOk ds ∧ Part S ∧ x.ok D ds S ∧ (∀ a ∈ D.order, ∀ b ∈ D.order, ∃ j, D.joined a b = some j) ∧
  ∀ v H' M', M'.mm = M.mm → ModAt Z H' M' (x.res D ds S).1 → Fr M.foot M'.foot H H' → Q v H'
theorem sc_law_does : FnScope ["_law_data", "_law_model", "_law_deed_here", "_law_word", "_law_deal"] ["_law_data", "_law_model", "_law_deed_here"] (defScope s_law_does) := ⟨rfl, rfl, rfl, by decide +kernel, rfl, by decide +kernel, by decide +kernel⟩
theorem ok_law_does (F : FnT K "_law_does" "_law_does" s_law_does [] [] f fd) (T : Txt K mg C Dc) (G_law_asks : GF P w K mg base "_law_asks" ["_law_data", "_law_model", "_law_deal", "_law_mode"] [] 5 (spLAsks ds)) (G_law_out : AlOut P w K mg base ds) (G_law_scan : AlScan P w K mg base ds) : FnOk P w K mg base CX0 6 f fd ["_law_data", "_law_model", "_law_deed_here"] (spLDoes ds) := by
  refine F.ok sc_law_does (fun vs H Q E ⟨_, _, _, _, _, _, _, _, h, _⟩ => by rw [h]; rfl) (fun cdv A outer s H vs Q E hr ⟨Z, da, ga, t, D, M, S, x, hv, ht, hR, dok, hM, ok, hds, hpart, hx, hjn, q⟩ => ⟨_, PSs.nox (pss_cons (ps_par (i := 3) (j := 4) rfl sc_law_does.nd rfl rfl (by decide) rfl rfl (pa_cons (pe_ix (ix_tupK K rfl) (pv 2) pe_int (fun _ _ => rfl)) (pa_cons (pe_ix (ix_tupK K rfl) (pv 2) pe_int (fun _ _ => rfl)) pa_nil)) (by rfl))
    (pss_cons (ps_if (pt_cmpR op_eq (pv 3) pe_str (nomark _)) (pss_one (ps_ret (pe_callG G_law_asks hr (by decide) (by rfl) (pa_cons (pv 0) (pa_cons (pv 1) (pa_cons (pv 4) (pa_cons (pe_ix (ix_tupK K rfl) (pv 2) pe_int (fun _ _ => rfl)) pa_nil))))))) pss_nil)
    (pss_cons (ps_if (pt_cmpR op_eq (pv 3) pe_str (nomark _)) (pss_cons (ps_dput (hu_of hr) (pe_dget (hu_of hr) (pv 1) pe_str (fun _ _ => rfl)) (pv 4) (pe_ix (ix_tupK K rfl) (pv 2) pe_int (fun _ _ => rfl)) rfl)
      (pss_one (ps_ret (pe_callG G_law_scan hr (by decide) (by rfl) (pa_cons (pv 0) (pa_cons (pv 1) pa_nil)))))) pss_nil)
    (pss_cons (ps_expr (pe_callG G_law_out hr (by decide) (by rfl) (pa_cons (pv 1) (pa_cons (pv 4) pa_nil))))
    (pss_cons (ps_if (PW.pt (pw_and (pt_cmpR op_eq (pv 3) pe_str (nomark _)) (pw_and1 (pt_cmp (pc_din (hu_of hr) (pv 4) (pe_dget (hu_of hr) (pv 1) pe_str (fun _ _ => rfl))))))) (pss_one (ps_expr (pe_dpop1 (pe_dget (hu_of hr) (pv 1) pe_str (fun _ _ => rfl)) (pv 4) ⟨rfl, rfl, rfl, rfl⟩))) pss_nil)
    (pss_one (ps_ret (pe_callG G_law_scan hr (by decide) (by rfl) (pa_cons (pv 0) (pa_cons (pv 1) pa_nil)))))))))), ?_⟩)
  subst hv
  have par : ∀ (word : Str) (d : Int) (rest : List V) (tz : TS), x.vals = .str word :: .int d :: rest → (∀ H1, Ex H H1 → tz { nx := fun _ H' => Q .non H', rt := Q } ([some (.ref ga), some (.ref M.mm), some (.ref t), some (.str word), some (.int d)] : L2.St) H1) → tSeq (tPar 3 4 (tCons (tOp (rIxT K) (tVar 2) (tC (V.int 0))) (tCons (tOp (rIxT K) (tVar 2) (tC (V.int 1))) tNil))) tz { nx := fun _ H' => Q .non H', rt := Q } ([some (.ref ga), some (.ref M.mm), some (.ref t), none, none] : L2.St) H := by
    intro word d rest tz hv k
    rw [hv] at ht
    refine q_parP (ep_ev (v := .str word) (ev_pair0 (ev_var (i := 2) rfl) ht)) (fun _ H1 e1 _ => ep_ev (v := .int d) (ev_pair1 (ev_var (i := 2) rfl) (e1 _ _ ht))) fun v v2 H1 H2 e1 e2 h1 h2 => ?_
    subst h1; subst h2
    exact k H2 (e1.trans e2)
  have word : ∀ {w1 w2 : Str} {d : Int} {H1 : Hp}, EvT (tTest (tOp rEq (tVar 3) (tC (.str w2)))) ([some (.ref ga), some (.ref M.mm), some (.ref t), some (.str w1), some (.int d)] : L2.St) H1 (decide (w1 = w2)) := fun {w1 w2 _ _} => et_is (et_test (ev_op (ev_var (i := 3) rfl) ev_c (rv_eq rfl))) (by by_cases z : w1 = w2 <;> simp [z])
  have scan : ∀ (S' : LS) (M' : MA) (H5 : Hp) (σ : L2.St), σ[0]? = some (some (.ref ga)) → σ[1]? = some (some (.ref M.mm)) → M'.mm = M.mm → ModAt Z H5 M' S' → LOk D ds S' → Fr M.foot M'.foot H H5 → (S'.scanAll D ds).1 = (x.res D ds S).1 → tRet (tCall (spLScan ds) [] E0 (tCons (tVar 0) (tCons (tVar 1) tNil))) { nx := fun _ H' => Q .non H', rt := Q } σ H5 := by
    intro S' M' H5 σ h0 h1 em hM5 ok5 f5 hres
    refine ⟨.ref ga, h0, .ref M.mm, h1, Z, da, ga, D, M', S', by rw [em]; rfl, hR, dok, hM5, ok5, hds, fun H6 M6 p em6 hM6 f6 _ _ _ => ?_⟩
    rw [hres] at hM6
    exact q _ H6 M6 (em6.trans em) hM6 (f5.trans f6)
  cases x with
  | ask d m =>
    refine par "ask" d [.str m] _ rfl fun H1 e1 => ?_
    refine q_when (b := true) (et_is word rfl) (fun _ H2 e2 => ?_) (fun z => by cases z)
    have e12 := e1.trans e2
    refine ⟨.ref ga, rfl, .ref M.mm, rfl, .int d, rfl, .ref t, rfl, t, _, 2, .str m, rfl, rfl, SqT.of (e12 _ _ ht), rfl, ?_⟩
    exact ⟨Z, da, ga, D, M, S, d, m, rfl, hR, dok, hM.ex e12, ok, hds, hpart, hx.1, hx.2.1, hx.2.2, hjn, fun H3 M3 em hM3 f3 => q _ H3 M3 em hM3 (Fr.pre e12 f3)⟩
  | ease d m =>
    refine par "ease" d [.str m] _ rfl fun H1 e1 => ?_
    refine q_when (b := false) (et_is word rfl) (fun z => by cases z) (fun _ H2 e2 => ?_)
    refine q_when (b := true) (et_is word rfl) (fun _ H3 e3 => ?_) (fun z => by cases z)
    have e13 := e1.trans (e2.trans e3)
    have h3 := hM.ex e13
    obtain ⟨kvs, hk⟩ := id h3.kp
    have hkl := Nat.le_trans (hk.len (fK_in ok)) hds.few
    refine q_dputI (v := .str m) (ev_op (ev_var (i := 2) rfl) (ev_c (v := .int 2)) (rv_ixT (SqT.of (e13 _ _ ht)) (atI_nat (j := 2) rfl))) (h3.eholds (ev_var (i := 1) rfl)) (ev_var (i := 4) rfl) hk (by omega) fun H4 e4 hk4 => ?_
    obtain ⟨h5, f5⟩ := (h3.ex e4).putHd hk4 d (.str m)
    refine scan { S with keeps := put S.keeps d (some m) } M _ _ rfl rfl rfl ?_ ⟨fun i g h => ?_, ok.rin, ok.nd, ok.sk⟩ ((Fr.of (e13.trans e4)).trans f5) rfl
    · show ModR Z _ _ (fK (put S.keeps d (some m))) S.row (fN S.skips) S.turn
      rw [fK_put]
      exact h5
    · have h' : put S.keeps d (some m) i = some g := h
      unfold put at h'
      split at h'
      · next z => cases h'; rw [z]; exact ⟨hx.1, hx.2.1⟩
      · exact ok.kin i g h'
  | go d =>
    refine par "go" d [] _ rfl fun H1 e1 => ?_
    refine q_when (b := false) (et_is word rfl) (fun z => by cases z) (fun _ H2 e2 => ?_)
    refine q_when (b := false) (et_is word rfl) (fun z => by cases z) (fun _ H3 e3 => ?_)
    have e13 := e1.trans (e2.trans e3)
    refine q_callM (ea_cons (ev_var (i := 1) rfl) (ea_cons (ev_var (i := 4) rfl) ea_nil)) fun H4 e4 => ⟨Z, D, M, S, d, rfl, hM.ex (e13.trans e4), ok, hds, fun H5 M5 em hM5 f5 => ?_⟩
    have ok5 := ok.unwait d
    have f05 := Fr.pre (e13.trans e4) f5
    have wv : ∀ {σ : L2.St} {H' : Hp}, σ[1]? = some (some (.ref M.mm)) → Ev (tVar 1) σ H' (.ref M5.mm) := fun h => ev_var (by rw [h, em])
    have okg : LOk D ds { S.unwait d with keeps := put S.keeps d none } := ⟨fun i g h => by
      have h' : put S.keeps d none i = some g := h
      unfold put at h'
      split at h'
      · cases h'
      · exact ok.kin i g h', ok5.rin, ok5.nd, ok5.sk⟩
    refine q_when (b := (S.keeps d).isSome) (et_is (et_and (et_is word rfl) (fun _ => et_B (ev_dain (i := d) (ev_var (i := 4) rfl) (hM5.eholds (wv rfl)) hM5.kp))) (by unfold fK; show (true && ((S.keeps d).map V.str).isSome) = _; cases S.keeps d <;> rfl)) (fun z H6 e6 => ?_) (fun z H6 e6 => ?_)
    · have h6 := hM5.ex e6
      obtain ⟨kvs, hk⟩ := id h6.kp
      obtain ⟨g0, hg0⟩ := Option.isSome_iff_exists.mp z
      refine s_popI (v := .str g0) (h6.eholds (wv rfl)) (ev_var (i := 4) rfl) hk (by show (S.keeps d).map V.str = _; rw [hg0]; rfl) fun H7 e7 hk7 => ?_
      obtain ⟨h8, f8⟩ := (h6.ex e7).dropHd hk7 d
      refine scan { S.unwait d with keeps := put S.keeps d none } M5 _ _ rfl rfl em ?_ okg ((f05.ex (e6.trans e7)).trans f8) rfl
      show ModR Z _ _ (fK (put S.keeps d none)) (S.unwait d).row (fN (S.unwait d).skips) S.turn
      rw [fK_put]
      exact h8
    · refine scan { S.unwait d with keeps := put S.keeps d none } M5 _ _ rfl rfl em ?_ okg (f05.ex e6) rfl
      have hp : put S.keeps d none = S.keeps := by
        funext i
        unfold put
        by_cases hi : i = d
        · subst hi
          rw [if_pos rfl]
          cases e : S.keeps i with
          | none => rfl
          | some n => rw [e] at z; cases z
        · rw [if_neg hi]
      show ModR Z _ _ (fK (put S.keeps d none)) (S.unwait d).row (fN (S.unwait d).skips) S.turn
      rw [hp]
      exact hM5.ex e6
  | cease d =>
    refine par "cease" d [] _ rfl fun H1 e1 => ?_
    refine q_when (b := false) (et_is word rfl) (fun z => by cases z) (fun _ H2 e2 => ?_)
    refine q_when (b := false) (et_is word rfl) (fun z => by cases z) (fun _ H3 e3 => ?_)
    have e13 := e1.trans (e2.trans e3)
    refine q_callM (ea_cons (ev_var (i := 1) rfl) (ea_cons (ev_var (i := 4) rfl) ea_nil)) fun H4 e4 => ⟨Z, D, M, S, d, rfl, hM.ex (e13.trans e4), ok, hds, fun H5 M5 em hM5 f5 => ?_⟩
    refine q_when (b := false) (et_is (et_and (b := false) (et_is word rfl) (fun z => by cases z)) rfl) (fun z => by cases z) (fun _ H6 e6 => ?_)
    exact scan (S.unwait d) M5 _ _ rfl rfl em (hM5.ex e6) (ok.unwait d) ((Fr.pre (e13.trans e4) f5).ex e6) rfl
end
end HT
set_option Elab.async false
set_option linter.all false
set_option maxRecDepth 100000
set_option maxHeartbeats 4000000
/-! the law's deeds: told, deals -/
namespace HT
open PySem PySem.Spec PyProof.Rows L2 Evl LamX
section
variable {P : Program} {w : World} {K : PySem.W.Frag} {mg : Str → Option Value} {base : Heap} {C Dc Pt : Addr} {f : Addr} {fd : FuncData} {Z H H' : Hp} {L : LA} {σ : L2.St} {ta tb te tc : TE} {E : Ends} {tz tu tw : TS} {D : TD Str} {ds : List Int} {S : LS}
theorem el_rotX {α : Type} {ρ : α → V} {ns : List α} {p : Addr} {i : Nat} (h : ∀ H1, Ex H H1 → Ev ta σ H1 (.ref p)) (hp : H p = some (.lst (ns.map ρ))) (hi : ∀ H1, Ex H H1 → Ev tb σ H1 (.int i)) (hz : ns.length ≤ 1000) :
    EvL (tOp rCat (tSl (rSlL K) ta (tPart tb) tNoPart) (tSl (rSlL K) ta tNoPart (tPart tb))) σ H ((rot i ns).map ρ) := by
  by_cases hl : i ≤ ns.length
  · exact el_rot h hp hi hl hz
  · have e1 : cutV (ns.map ρ) (some (i : Int)) none = (ns.drop i).map ρ := by
      unfold cutV
      rw [sIx_nat, sIx_none, List.length_map, show min i ns.length = ns.length by omega, Nat.sub_self, List.take_zero, List.drop_eq_nil_of_le (by omega)]
      rfl
    have e2 : cutV (ns.map ρ) none (some (i : Int)) = (ns.take i).map ρ := by
      unfold cutV
      rw [sIx_nat, sIx_none, List.length_map, show min i ns.length = ns.length by omega, List.drop_zero, Nat.sub_zero, List.take_of_length_le (by rw [List.length_map]; omega), List.take_of_length_le (by omega)]
    have e3 : (rot i ns).map ρ = (ns.drop i).map ρ ++ (ns.take i).map ρ := by unfold rot; rw [List.map_append]
    rw [e3, ← e1, ← e2]
    refine el_cat (la_new (el_sl (h H (Ex.refl _)) (eo_some (hi H (Ex.refl _))) eo_none (SqL.of hp))) (la_new (el_sl (h H (Ex.refl _)) eo_none (eo_some (hi H (Ex.refl _))) (SqL.of hp))) ?_
    rw [e1, e2, List.length_map, List.length_map, List.length_drop, List.length_take]
    omega
def EvLL (tA : TA) (σ : L2.St) (H : Hp) (nss : List (List Int)) : Prop := ∀ H1, Ex H H1 → ∀ Q : List V → Hp → Prop, (∀ vs H2, Ex H1 H2 → vs.length = nss.length → (∀ v ∈ vs, ∃ ns ∈ nss, ∃ p, v = .ref p ∧ H2 p = some (.lst (ns.map V.int))) → Q vs H2) → tA σ H1 Q
theorem ell_nil : EvLL tNil σ H [] := fun H1 e1 Q q => q [] H1 (Ex.refl _) rfl fun v hv => by cases hv
theorem ell_cons {tA : TA} {ns : List Int} {nss : List (List Int)} (h : ∀ H1, EvL te σ H1 (ns.map V.int)) (ht : EvLL tA σ H nss) : EvLL (tCons te tA) σ H (ns :: nss) := fun H1 e1 Q q =>
  h H1 H1 (Ex.refl _) _ fun p H2 hn e2 hp => ht H2 (e1.trans e2) _ fun vs H3 e3 hl hv => q (.ref p :: vs) H3 (e2.trans e3) (by rw [List.length_cons, List.length_cons, hl]) fun v hm => by
    rcases List.mem_cons.mp hm with rfl | hm
    · exact ⟨ns, by simp, p, rfl, e3 _ _ hp⟩
    · obtain ⟨ms, h1, h2⟩ := hv v hm
      exact ⟨ms, List.mem_cons_of_mem _ h1, h2⟩
theorem at_pickLL {tA : TA} {nss : List (List Int)} {X : XK} (ha : Ev ta σ H (.ref da)) (hb : EvLL tA σ H nss) (hD : DrawR Z H da) (h0 : nss ≠ []) (h1 : nss.length ≤ 1000) : At (tCall spPick [] X (tCons ta (tCons (tLst tA) tNil))) σ H fun v H2 => ∃ p, ∃ ns : List Int, v = .ref p ∧ H2 p = some (.lst (ns.map V.int)) ∧ ns ∈ nss ∧ DrawR Z H2 da ∧ Fr [da] [da] H H2 := fun Q q =>
  ha H (Ex.refl _) _ fun H1 e1 => hb H1 e1 _ fun vs H2 e2 hl hv => ⟨sz_of (by omega), fun r hr => ⟨Z, da, r, vs, rfl, (hD.ex (e1.trans e2)).ex (Ex.new hr), upd_same, fun z => by rw [z] at hl; exact h0 (List.length_eq_zero_iff.mp hl.symm), by omega, fun v H3 hm hD3 f3 => by
    obtain ⟨ns, h2, p, rfl, hp⟩ := hv v hm
    obtain ⟨kvs, hdl⟩ := (hD.ex (e1.trans e2)).live
    have hpd : p ∉ [da] := fun z => by rw [List.mem_singleton.mp z, hdl] at hp; cases hp
    exact q _ H3 ⟨p, ns, rfl, f3.keep hpd (Ex.new hr _ _ hp), h2, hD3, Fr.pre ((e1.trans e2).trans (Ex.new hr)) f3⟩⟩⟩
def spDeals : Sp := fun vs H Q _ => ∃ (Z : Hp) (da : Addr), vs = [.ref da] ∧ DrawR Z H da ∧ ∀ p ds H', H p = none → H' p = some (.lst (ds.map V.int)) → DsOk ds → 1 ≤ ds.length → DrawR Z H' da → Fr [da] [da] H H' → Q (.ref p) H'
theorem sc_law_deals : FnScope ["_law_draw", "_law_some", "_law_lead"] ["_law_draw"] (defScope s_law_deals) := ⟨rfl, rfl, rfl, by decide +kernel, rfl, by decide +kernel, by decide +kernel⟩
theorem ok_law_deals (F : FnT K "_law_deals" "_law_deals" s_law_deals [] [] f fd) (T : Txt K mg C Dc) (G_law_take : Atake P w K mg base) (G_law_pick : Apick P w K mg base) : FnOk P w K mg base CX0 3 f fd ["_law_draw"] spDeals := by
  refine F.ok sc_law_deals (fun vs H Q E ⟨_, _, h, _⟩ => by rw [h]; rfl) (fun cdv A outer s H vs Q E hr ⟨Z, da, hv, hD, q⟩ => ⟨_, PSs.nox (pss_cons (ps_set (i := 1) sc_law_deals.nd rfl (Or.inl rfl) (pe_callG G_law_pick hr (by decide) (by rfl) (pa_cons (pv 0) (pa_cons (pe_lst (pa_cons (pe_lst (pa_cons pe_int (pa_cons pe_int (pa_cons pe_int (pa_cons pe_int pa_nil))))) (pa_cons (pe_lst (pa_cons pe_int (pa_cons pe_int (pa_cons pe_int (pa_cons pe_int (pa_cons pe_int pa_nil)))))) (pa_cons (pe_lst (pa_cons pe_int (pa_cons pe_int (pa_cons (pe_op op_pow pe_int pe_int) (pa_cons pe_int pa_nil))))) (pa_cons (pe_lst (pa_cons pe_int (pa_cons pe_int (pa_cons pe_int (pa_cons pe_int (pa_cons pe_int (pa_cons pe_int pa_nil))))))) pa_nil))))) pa_nil))))
    (pss_cons (ps_set (i := 2) sc_law_deals.nd rfl (Or.inl rfl) (pe_callG G_law_take hr (by decide) (by rfl) (pa_cons (pv 0) (pa_cons pe_int pa_nil))))
    (pss_one (ps_ret (pe_op op_cat (pe_slice (sl_listK K rfl) (pv 1) (po_some (pv 2)) po_none) (pe_slice (sl_listK K rfl) (pv 1) po_none (po_some (pv 2)))))))), ?_⟩)
  subst hv
  have ex : ∀ {ns : List Int} {tA : TA}, (∀ H1, EvA tA ([some (.ref da), none, none] : L2.St) H1 (ns.map V.int)) → ns.length ≤ 10 → ∀ H1, EvL (tLst tA) ([some (.ref da), none, none] : L2.St) H1 (ns.map V.int) := fun h hl H1 => el_lst (h H1) (by rw [List.length_map]; omega)
  have good : ∀ ns ∈ [[1, 2, 3, 4], [3, 1, 2, 5, 4], [7, 1000, (10 : Int) ^ (12 : Int).toNat, 2], [6, 5, 4, 3, 2, 1]], ∀ i : Nat, DsOk (rot i ns) ∧ 1 ≤ (rot i ns).length ∧ ns.length ≤ 1000 := by
    intro ns hns i
    have h : ns.Nodup ∧ ns.length ≤ 10 ∧ 1 ≤ ns.length ∧ ∀ x ∈ ns, (1 : Int) ≤ x := by
      simp only [List.mem_cons, List.not_mem_nil, or_false] at hns
      rcases hns with rfl | rfl | rfl | rfl <;> decide
    have hp : (rot i ns).Perm ns := by
      unfold rot
      exact (List.perm_append_comm).trans (by rw [List.take_append_drop])
    exact ⟨⟨hp.nodup_iff.mpr h.1, by rw [hp.length_eq]; omega, fun d hd => h.2.2.2 d (hp.mem_iff.mp hd)⟩, by rw [hp.length_eq]; exact h.2.2.1, by omega⟩
  refine q_asgA (R := fun v H1 => ∃ p, ∃ ns : List Int, v = .ref p ∧ H1 p = some (.lst (ns.map V.int)) ∧ ns ∈ [[1, 2, 3, 4], [3, 1, 2, 5, 4], [7, 1000, (10 : Int) ^ (12 : Int).toNat, 2], [6, 5, 4, 3, 2, 1]] ∧ DrawR Z H1 da ∧ Fr [da] [da] H H1) (at_pickLL (ev_var (i := 0) (v := .ref da) rfl) (ell_cons (fun _ => el_lst (ea_cons ev_c (ea_cons ev_c (ea_cons ev_c (ea_cons ev_c ea_nil)))) (by decide)) (ell_cons (fun _ => el_lst (ea_cons ev_c (ea_cons ev_c (ea_cons ev_c (ea_cons ev_c (ea_cons ev_c ea_nil))))) (by decide)) (ell_cons (fun _ => el_lst (ea_cons ev_c (ea_cons ev_c (ea_cons (ev_op ev_c ev_c (rv_I ⟨by decide, by decide, by decide⟩)) (ea_cons ev_c ea_nil)))) (by decide)) (ell_cons (fun _ => el_lst (ea_cons ev_c (ea_cons ev_c (ea_cons ev_c (ea_cons ev_c (ea_cons ev_c (ea_cons ev_c ea_nil)))))) (by decide)) ell_nil)))) hD (by decide) (by decide)) fun v H1 ⟨p, ns, hv, hp, hns, hD1, f1⟩ => ?_
  · subst hv
    refine q_asgA (at_take (k := 6) (ev_var (i := 0) (v := .ref da) rfl) (fun _ _ => ev_c) hD1 (by decide) (by decide)) fun v H2 ⟨i, hv, hi, hD2, f2⟩ => ?_
    subst hv
    obtain ⟨kvs, hdl⟩ := hD1.live
    have hp2 := f2.keep (fun z => by rw [List.mem_singleton.mp z, hdl] at hp; cases hp) hp
    have hg := good ns hns i
    refine s_retL (el_rotX (ns := ns) (ρ := V.int) (i := i) (p := p) (fun _ _ => ev_var (i := 1) rfl) hp2 (fun _ _ => ev_var (i := 2) rfl) hg.2.2) fun p3 H3 hn e3 h3 => ?_
    exact q p3 (rot i ns) H3 (hD2.fback (f1.trans f2) hn) h3 hg.1 hg.2.1 (hD2.ex e3) ((f1.trans f2).ex e3)
end
end HT
set_option Elab.async false
set_option linter.all false
set_option maxRecDepth 100000
set_option maxHeartbeats 4000000
/-! the law's deeds: told -/
namespace HT
open PySem PySem.Spec PyProof.Rows L2 Evl LamX
/-- promises whose table, static part and deals are learnt as the law runs -/
abbrev Hid (f : TD Str → Hp → List Int → Sp) : Sp := fun vs H Q E => ∃ i : TD Str × Hp × List Int, f i.1 i.2.1 i.2.2 vs H Q E
abbrev HidD (f : List Int → Sp) : Sp := fun vs H Q E => ∃ ds : List Int, f ds vs H Q E
section
variable {P : Program} {w : World} {K : PySem.W.Frag} {mg : Str → Option Value} {base : Heap} {C Dc Pt : Addr} {f : Addr} {fd : FuncData} {Z H H' : Hp} {L : LA} {σ : L2.St} {ta tb te tc : TE} {tA : TA} {E : Ends} {tz tu tw : TS} {D : TD Str} {ds : List Int} {S : LS}
theorem FnOk.exs {ι : Type} {CX : CXT} {k : Nat} {f : Addr} {fd : FuncData} {ps : List Str} {sp : ι → Sp} (h : ∀ i, FnOk P w K mg base CX k f fd ps (sp i)) : FnOk P w K mg base CX k f fd ps (fun vs H Q E => ∃ i, sp i vs H Q E) := by
  exact ⟨fun vs H Q E ⟨i, q⟩ => (h i).len vs H Q E q, fun A outer s H args us vs Q E hr he hb hv ⟨i, q⟩ => (h i).run A outer s H args us vs Q E hr he hb hv q⟩
/-- a method called, what follows told of where it ends -/
theorem m_meth {C : Addr} {m : Str} {sp : Sp} {a dx : Addr} {fs : List (Str × V)} {vs : List V} {Q : VK} (h : Ev ta σ H (.ref a)) (hat : H a = some (.ins C dx fs)) (hl : fs.lookup m = none) (hA : EvA tA σ H vs) (k : ∀ H1, Ex H H1 → sp (.ref a :: (vs ++ [])) H1 Q E0) : tMeth C m sp [] E0 ta tA σ H Q :=
  h H (Ex.refl _) _ fun H1 e1 => ⟨a, dx, fs, rfl, e1 _ _ hat, hl, hA H1 e1 _ fun H2 e2 => k H2 (e1.trans e2)⟩
abbrev AXask (P : Program) (w : World) (K : PySem.W.Frag) (mg : Str → Option Value) (base : Heap) (C Dc : Addr) := MF P w K mg base Dc "ask" ["self", "deal", "mode"] 5 (Hid (spAsk C Dc))
abbrev AXease (P : Program) (w : World) (K : PySem.W.Frag) (mg : Str → Option Value) (base : Heap) (C Dc : Addr) := MF P w K mg base Dc "ease" ["self", "deal", "mode"] 6 (Hid (spEase C Dc))
abbrev AXgo (P : Program) (w : World) (K : PySem.W.Frag) (mg : Str → Option Value) (base : Heap) (C Dc : Addr) := MF P w K mg base Dc "go" ["self", "deal"] 6 (Hid (spGo C Dc))
abbrev AXcease (P : Program) (w : World) (K : PySem.W.Frag) (mg : Str → Option Value) (base : Heap) (C Dc : Addr) := MF P w K mg base Dc "cease" ["self", "deal"] 6 (Hid (spCease C Dc))
abbrev AXheld (P : Program) (w : World) (K : PySem.W.Frag) (mg : Str → Option Value) (base : Heap) (C Dc : Addr) := MF P w K mg base Dc "held" ["self", "deal"] 3 (Hid fun D Z ds => spHeld C Dc D Z ds)
abbrev AXpassed (P : Program) (w : World) (K : PySem.W.Frag) (mg : Str → Option Value) (base : Heap) (C Dc : Addr) := MF P w K mg base Dc "passed" ["self", "deal"] 3 (Hid fun D Z ds => spPassed C Dc D Z ds)
abbrev AXholders (P : Program) (w : World) (K : PySem.W.Frag) (mg : Str → Option Value) (base : Heap) (C Dc : Addr) := MF P w K mg base Dc "holders" ["self"] 1 (Hid fun D Z ds => spHolders C Dc D Z ds)
abbrev AXwaiting (P : Program) (w : World) (K : PySem.W.Frag) (mg : Str → Option Value) (base : Heap) (C Dc : Addr) := MF P w K mg base Dc "waiting" ["self"] 1 (Hid fun D Z _ => spWaiting C Dc D Z)
/-- what a line tells of a deed: a word, or a list of deals -/
def ToldV (H H' : Hp) (F F' : List Addr) (v : V) : Str ⊕ List Int → Prop
  | .inl s => v = .str s
  | .inr fs => ∃ p, v = .ref p ∧ (H p = none ∨ p ∈ F) ∧ p ∉ F' ∧ H' p = some (.lst (fs.map V.int))
def spTold (C Dc : Addr) : Sp := fun vs H Q _ => ∃ (D : TD Str) (Z : Hp) (ds : List Int) (L : LA) (S : LS) (x : Deed) (t : Addr), vs = [.ref L.ln, .ref t] ∧ H t = some (.tup x.vals) ∧ LineAt C Dc D Z H L S ∧ LOk D ds S ∧ WFD D ∧ DsOk ds ∧ x.ok D ds S ∧ (∀ a ∈ D.order, ∀ b ∈ D.order, ∃ j, D.joined a b = some j) ∧
  ∀ v H' L', L'.ln = L.ln → LineAt C Dc D Z H' L' (x.res D ds S).1 → Fr L.foot L'.foot H H' → ToldV H H' L.foot L'.foot v (x.res D ds S).2 → Q v H'
theorem sc_law_told : FnScope ["_law_line", "_law_deed_here"] ["_law_line", "_law_deed_here"] (defScope s_law_told) := ⟨rfl, rfl, rfl, by decide +kernel, rfl, by decide +kernel, by decide +kernel⟩
theorem ok_law_told (F : FnT K "_law_told" "_law_told" s_law_told [] [] f fd) (T : Txt K mg C Dc) (M_Line_ask : AXask P w K mg base C Dc) (M_Line_ease : AXease P w K mg base C Dc) (M_Line_go : AXgo P w K mg base C Dc) (M_Line_cease : AXcease P w K mg base C Dc) : FnOk P w K mg base CX0 7 f fd ["_law_line", "_law_deed_here"] (spTold C Dc) := by
  refine F.ok sc_law_told (fun vs H Q E ⟨_, _, _, _, _, _, _, h, _⟩ => by rw [h]; rfl) (fun cdv A outer s H vs Q E hr ⟨D, Z, ds, L, S, x, t, hv, ht, hL, ok, wf, dok, hx, hjn, q⟩ => ⟨_, PSs.nox (pss_cons (ps_if (pt_cmpR op_eq (pe_ix (ix_tupK K rfl) (pv 1) pe_int (fun _ _ => rfl)) pe_str (nomark _)) (pss_one (ps_ret (pe_methG M_Line_ask T.clD hr (by decide) (pv 0) (pa_cons (pe_ix (ix_tupK K rfl) (pv 1) pe_int (fun _ _ => rfl)) (pa_cons (pe_ix (ix_tupK K rfl) (pv 1) pe_int (fun _ _ => rfl)) pa_nil))))) pss_nil)
    (pss_cons (ps_if (pt_cmpR op_eq (pe_ix (ix_tupK K rfl) (pv 1) pe_int (fun _ _ => rfl)) pe_str (nomark _)) (pss_one (ps_ret (pe_methG M_Line_ease T.clD hr (by decide) (pv 0) (pa_cons (pe_ix (ix_tupK K rfl) (pv 1) pe_int (fun _ _ => rfl)) (pa_cons (pe_ix (ix_tupK K rfl) (pv 1) pe_int (fun _ _ => rfl)) pa_nil))))) pss_nil)
    (pss_one (ps_ret (pe_ifExp (pt_cmpR op_eq (pe_ix (ix_tupK K rfl) (pv 1) pe_int (fun _ _ => rfl)) pe_str (nomark _)) (pe_methG M_Line_go T.clD hr (by decide) (pv 0) (pa_cons (pe_ix (ix_tupK K rfl) (pv 1) pe_int (fun _ _ => rfl)) pa_nil)) (pe_methG M_Line_cease T.clD hr (by decide) (pv 0) (pa_cons (pe_ix (ix_tupK K rfl) (pv 1) pe_int (fun _ _ => rfl)) pa_nil))))))), ?_⟩)
  subst hv
  have ixe : ∀ {H1 : Hp} {i : Nat} {v : V}, Ex H H1 → x.vals[i]? = some v → Ev (tOp (rIxT K) (tVar 1) (tC (.int i))) ([some (.ref L.ln), some (.ref t)] : L2.St) H1 v := fun e h => ev_op (ev_var (i := 1) rfl) ev_c (rv_ixT (SqT.of (e _ _ ht)) (atI_nat h))
  have word : ∀ {w1 w2 : Str} {H1 : Hp}, Ex H H1 → x.vals[0]? = some (.str w1) → EvT (tTest (tOp rEq (tOp (rIxT K) (tVar 1) (tC (.int 0))) (tC (.str w2)))) ([some (.ref L.ln), some (.ref t)] : L2.St) H1 (decide (w1 = w2)) := fun {w1 w2 _} e h => et_is (et_test (ev_op (ixe (i := 0) e h) ev_c (rv_eq rfl))) (by by_cases z : w1 = w2 <;> simp [z])
  have qn : ∀ {H2 : Hp} {r : LS × List Int}, Ex H H2 → r.1 = (x.res D ds S).1 → .inr r.2 = (x.res D ds S).2 → LTold C Dc D Z H2 L r Q := fun {H2 r} e2 h1 h2 H3 L3 p eln h3 f3 hp hnp hl => by
    refine q _ H3 L3 eln (by rw [← h1]; exact h3) (Fr.pre e2 f3) ?_
    rw [← h2]
    exact ⟨p, rfl, hp.imp_left (fresh_back e2), hnp, hl⟩
  cases x with
  | ask d m =>
    refine q_when (b := true) (et_is (word (w1 := "ask") (Ex.refl _) rfl) rfl) (fun _ H1 e1 => ?_) (fun z => by cases z)
    refine m_meth (ev_var (i := 0) (v := .ref L.ln) rfl) (hL.ex e1).at_ rfl (vs := [.int d, .str m]) (ea_cons (ixe (i := 1) e1 rfl) (ea_cons (ixe (i := 2) e1 rfl) ea_nil)) fun H2 e2 => ⟨(D, Z, ds), L, S, d, m, rfl, hL.ex (e1.trans e2), ok, wf, dok, hx.1, hx.2.1, hx.2.2, hjn, fun H3 L3 eln h3 f3 => ?_⟩
    exact q _ H3 L3 eln h3 (Fr.pre (e1.trans e2) f3) rfl
  | ease d m =>
    refine q_when (b := false) (et_is (word (w1 := "ease") (Ex.refl _) rfl) rfl) (fun z => by cases z) (fun _ H1 e1 => ?_)
    refine q_when (b := true) (et_is (word (w1 := "ease") e1 rfl) rfl) (fun _ H2 e2 => ?_) (fun z => by cases z)
    have e12 := e1.trans e2
    obtain ⟨h0, hh, hb⟩ := hx.2.2.2
    refine m_meth (ev_var (i := 0) (v := .ref L.ln) rfl) (hL.ex e12).at_ rfl (vs := [.int d, .str m]) (ea_cons (ixe (i := 1) e12 rfl) (ea_cons (ixe (i := 2) e12 rfl) ea_nil)) fun H3 e3 => ⟨(D, Z, ds), L, S, d, m, h0, rfl, hL.ex (e12.trans e3), ok, wf, dok, hx.1, hx.2.1, hh, hx.2.2.1, hb, qn (e12.trans e3) rfl rfl⟩
  | go d =>
    refine q_when (b := false) (et_is (word (w1 := "go") (Ex.refl _) rfl) rfl) (fun z => by cases z) (fun _ H1 e1 => ?_)
    refine q_when (b := false) (et_is (word (w1 := "go") e1 rfl) rfl) (fun z => by cases z) (fun _ H2 e2 => ?_)
    have e12 := e1.trans e2
    refine (et_is (word (w1 := "go") e12 rfl) (b := true) rfl) H2 (Ex.refl _) _ fun H3 e3 => ?_
    have e13 := e12.trans e3
    exact m_meth (ev_var (i := 0) (v := .ref L.ln) rfl) (hL.ex e13).at_ rfl (vs := [.int d]) (ea_cons (ixe (i := 1) e13 rfl) ea_nil) fun H4 e4 => ⟨(D, Z, ds), L, S, d, rfl, hL.ex (e13.trans e4), ok, wf, dok, hx.1, hx.2, qn (e13.trans e4) rfl rfl⟩
  | cease d =>
    refine q_when (b := false) (et_is (word (w1 := "cease") (Ex.refl _) rfl) rfl) (fun z => by cases z) (fun _ H1 e1 => ?_)
    refine q_when (b := false) (et_is (word (w1 := "cease") e1 rfl) rfl) (fun z => by cases z) (fun _ H2 e2 => ?_)
    have e12 := e1.trans e2
    refine (et_is (word (w1 := "cease") e12 rfl) (b := false) rfl) H2 (Ex.refl _) _ fun H3 e3 => ?_
    have e13 := e12.trans e3
    exact m_meth (ev_var (i := 0) (v := .ref L.ln) rfl) (hL.ex e13).at_ rfl (vs := [.int d]) (ea_cons (ixe (i := 1) e13 rfl) ea_nil) fun H4 e4 => ⟨(D, Z, ds), L, S, d, rfl, hL.ex (e13.trans e4), ok, wf, dok, hx.1, hx.2, qn (e13.trans e4) rfl rfl⟩
end
end HT
set_option Elab.async false
set_option linter.all false
set_option maxRecDepth 100000
set_option maxHeartbeats 4000000
/-! the law's deeds: drawn -/
namespace HT
open PySem PySem.Spec PyProof.Rows L2 Evl LamX
section
variable {P : Program} {w : World} {K : PySem.W.Frag} {mg : Str → Option Value} {base : Heap} {C Dc Pt : Addr} {f : Addr} {fd : FuncData} {Z H H' : Hp} {L : LA} {M : MA} {da : Addr} {σ : L2.St} {ta tb te tc : TE} {tA : TA} {E : Ends} {tz tu tw : TS} {D : TD Str} {ds : List Int} {S : LS}
/-- a new tuple of a constant and what is told -/
theorem s_ret2A {R : V → Hp → Prop} {c : V} (h : At tb σ H R) (k : ∀ v H1 p, R v H1 → H1 p = none → E.rt (.ref p) (upd H1 p (.tup [c, v]))) : tRet (tTup (tCons (tC c) (tCons tb tNil))) E σ H :=
  h _ fun v H1 r => ⟨sz_of (by show 2 ≤ 100000; decide), fun p hp => k v H1 p r hp⟩
theorem s_ret3A {R1 R2 : V → Hp → Prop} {c : V} (h : At ta σ H R1) (h2 : ∀ v H1, R1 v H1 → At tb σ H1 (fun v2 H2 => R2 v2 H2)) (k : ∀ v H1 v2 H2 p, R1 v H1 → R2 v2 H2 → H2 p = none → E.rt (.ref p) (upd H2 p (.tup [c, v, v2]))) : tRet (tTup (tCons (tC c) (tCons ta (tCons tb tNil)))) E σ H :=
  h _ fun v H1 r => h2 v H1 r _ fun v2 H2 r2 => ⟨sz_of (by show 3 ≤ 100000; decide), fun p hp => k v H1 v2 H2 p r r2 hp⟩
def spDeed : Sp := fun vs H Q _ => ∃ (Z : Hp) (da dx ga : Addr) (D : TD Str) (M : MA) (S : LS) (ds : List Int) (pl : Addr), vs = [.ref da, .ref ga, .ref M.mm, .ref pl] ∧ DrawR Z H da ∧ DataR Z dx ga D ∧ DatOk D ∧ ModAt Z H M S ∧ LOk D ds S ∧ DsOk ds ∧ 1 ≤ ds.length ∧ Z pl = some (.lst (ds.map V.int)) ∧ da ∉ M.foot ∧
  ∀ t x H', H' t = some (.tup (Deed.vals x)) → x.ok D ds S → DrawR Z H' da → Fr [da] [da] H H' → Q (.ref t) H'
theorem mem_ints {v : V} {l : List Int} (h : v ∈ l.map V.int) : ∃ d, d ∈ l ∧ v = .int d := by
  obtain ⟨d, h1, h2⟩ := List.mem_map.mp h
  exact ⟨d, h1, h2.symm⟩
theorem mem_strs {v : V} {l : List Str} (h : v ∈ l.map V.str) : ∃ d, d ∈ l ∧ v = .str d := by
  obtain ⟨d, h1, h2⟩ := List.mem_map.mp h
  exact ⟨d, h1, h2.symm⟩
theorem DrawR.zf (h : DrawR Z H da) : Z da = none := by
  obtain ⟨_, _, _, _, _, A⟩ := h
  exact A.zf
theorem DrawR.zz (h : DrawR Z H da) : Ex Z H := by
  obtain ⟨_, _, _, _, _, A⟩ := h
  exact A.z
theorem sc_law_deed : FnScope ["_law_draw", "_law_data", "_law_model", "_law_deals_here", "_law_holds", "_law_queue", "_law_way", "_law_kept", "_law_there", "_law_deal", "_law_less", "_law_loose", "_law_entry", "_law_mode"] ["_law_draw", "_law_data", "_law_model", "_law_deals_here"] (defScope s_law_deed) := ⟨rfl, rfl, rfl, by decide +kernel, rfl, by decide +kernel, by decide +kernel⟩
theorem ok_law_deed (F : FnT K "_law_deed" "_law_deed" s_law_deed [] [] f fd) (T : Txt K mg C Dc) (G_law_take : Atake P w K mg base) (G_law_pick : Apick P w K mg base) (G_law_bears : AlBears P w K mg base) : FnOk P w K mg base CX0 4 f fd ["_law_draw", "_law_data", "_law_model", "_law_deals_here"] spDeed := by
  refine F.ok sc_law_deed (fun vs H Q E ⟨_, _, _, _, _, _, _, _, _, h, _⟩ => by rw [h]; rfl) (fun cdv A outer s H vs Q E hr ⟨Z, da, dx, ga, D, M, S, ds, pl, hv, hD, hR, dok, hM, ok, hds, hne, hpl, hdm, q⟩ => ⟨_, PSs.nox (pss_cons (ps_set (i := 4) sc_law_deed.nd rfl (Or.inr rfl) (pe_dget (hu_of hr) (pv 2) pe_str (fun _ _ => rfl)))
    (pss_cons (ps_set (i := 5) sc_law_deed.nd rfl (Or.inr rfl) (pe_lc (own := [("_law_entry", 12)]) rfl sc_law_deed.nd (pi_listK K rfl (pe_dget (hu_of hr) (pv 2) pe_str (fun _ _ => rfl))) (blkOk_by (by rfl)) (fun _ _ _ _ _ => (pg_name (i := 12) sc_law_deed.nd rfl (by first | exact Or.inl rfl | exact Or.inr rfl))) (fun _ _ _ _ _ => pts_nil) (fun _ _ _ _ _ => (pe_ix (ix_tupK K rfl) (pv 12) pe_int (fun _ _ => rfl)))))
    (pss_cons (ps_set (i := 6) sc_law_deed.nd rfl (Or.inl rfl) (pe_callG G_law_take hr (by decide) (by rfl) (pa_cons (pv 0) (pa_cons pe_int pa_nil))))
    (pss_cons (ps_setLc (i := 7) (own := [("_law_deal", 9)]) rfl sc_law_deed.nd rfl rfl (sw_true rfl rfl rfl (by rfl)) (pi_listK K rfl (pv 3)) (blkOk_by (by rfl)) (fun _ _ _ _ _ => (pg_name (i := 9) sc_law_deed.nd rfl (by first | exact Or.inl rfl | exact Or.inr rfl))) (fun _ _ _ _ _ => (pts_one (PW.pt (pw_and (pt_cmp (pc_din (hu_of hr) (pv 9) (pv 4))) (pw_and1 (pt_cmpR (op_notIn_seqK K rfl) (pv 9) (pv 5) (by rfl))))))) (fun _ _ _ _ _ => (pv 9)))
    (pss_cons (ps_setLc (i := 8) (own := [("_law_deal", 9)]) rfl sc_law_deed.nd rfl rfl (sw_true rfl rfl rfl (by rfl)) (pi_listK K rfl (pv 3)) (blkOk_by (by rfl)) (fun _ _ _ _ _ => (pg_name (i := 9) sc_law_deed.nd rfl (by first | exact Or.inl rfl | exact Or.inr rfl))) (fun _ _ _ _ _ => (pts_one (PW.pt (pw_or (pt_cmp (pc_din (hu_of hr) (pv 9) (pv 4))) (pw_or1 (pt_cmpR (op_in_seqK K rfl) (pv 9) (pv 5) (by rfl))))))) (fun _ _ _ _ _ => (pv 9)))
    (pss_cons (ps_if (PW.pt (pw_and (pt_cmpR op_lt (pv 6) pe_int (nomark _)) (pw_and1 (pt_cmpR (op_neDK K rfl hr.units) (pv 8) (pe_lst pa_nil) (nomark _))))) (pss_one (ps_ret (pe_tup (pa_cons pe_str (pa_cons (pe_callG G_law_pick hr (by decide) (by rfl) (pa_cons (pv 0) (pa_cons (pv 8) pa_nil))) pa_nil))))) pss_nil)
    (pss_cons (ps_if (PW.pt (pw_and (pt_cmpR op_eq (pv 6) pe_int (nomark _)) (pw_and1 (pt_cmpR (op_neDK K rfl hr.units) (pv 5) (pe_lst pa_nil) (nomark _))))) (pss_one (ps_ret (pe_tup (pa_cons pe_str (pa_cons (pe_callG G_law_pick hr (by decide) (by rfl) (pa_cons (pv 0) (pa_cons (pv 5) pa_nil))) pa_nil))))) pss_nil)
    (pss_cons (ps_if (PW.pt (pw_and (pt_cmpR op_eq (pv 6) pe_int (nomark _)) (pw_and1 (pt_cmpR (op_neDK K rfl hr.units) (pv 7) (pe_lst pa_nil) (nomark _))))) (pss_cons (ps_set (i := 9) sc_law_deed.nd rfl (Or.inr rfl) (pe_callG G_law_pick hr (by decide) (by rfl) (pa_cons (pv 0) (pa_cons (pv 7) pa_nil))))
      (pss_cons (ps_setLc (i := 10) (own := [("_law_mode", 13)]) rfl sc_law_deed.nd rfl rfl (sw_true rfl rfl rfl (by rfl)) (pi_listK K rfl (pe_dget (hu_of hr) (pv 1) pe_str (fun _ _ => rfl))) (blkOk_by (by rfl)) (fun _ _ _ _ _ => (pg_name (i := 13) sc_law_deed.nd rfl (by first | exact Or.inl rfl | exact Or.inr rfl))) (fun _ _ _ _ _ => (pts_one (pt_val (pe_callG G_law_bears hr (by decide) (by rfl) (pa_cons (pv 1) (pa_cons (pe_dget (hu_of hr) (pv 4) (pv 9) (fun _ _ => rfl)) (pa_cons (pv 13) pa_nil))))))) (fun _ _ _ _ _ => (pv 13)))
      (pss_one (ps_ret (pe_tup (pa_cons pe_str (pa_cons (pv 9) (pa_cons (pe_callG G_law_pick hr (by decide) (by rfl) (pa_cons (pv 0) (pa_cons (pv 10) pa_nil))) pa_nil)))))))) pss_nil)
    (pss_cons (ps_setLc (i := 11) (own := [("_law_deal", 9)]) rfl sc_law_deed.nd rfl rfl (sw_true rfl rfl rfl (by rfl)) (pi_listK K rfl (pv 3)) (blkOk_by (by rfl)) (fun _ _ _ _ _ => (pg_name (i := 9) sc_law_deed.nd rfl (by first | exact Or.inl rfl | exact Or.inr rfl))) (fun _ _ _ _ _ => (pts_one (pt_cmpR (op_notIn_seqK K rfl) (pv 9) (pv 5) (by rfl)))) (fun _ _ _ _ _ => (pv 9)))
    (pss_cons (ps_if (pt_cmpR (op_eqDK K rfl hr.units) (pv 11) (pe_lst pa_nil) (nomark _)) (pss_one (ps_ret (pe_tup (pa_cons pe_str (pa_cons (pe_callG G_law_pick hr (by decide) (by rfl) (pa_cons (pv 0) (pa_cons (pv 3) pa_nil))) pa_nil))))) pss_nil)
    (pss_cons (ps_if (PW.pt (pw_and (pt_cmpR op_lt (pv 6) pe_int (nomark _)) (pw_and1 (pt_cmpR (op_neDK K rfl hr.units) (pv 7) (pe_lst pa_nil) (nomark _))))) (pss_one (ps_set (i := 11) sc_law_deed.nd rfl (Or.inl rfl) (pv 7))) pss_nil)
    (pss_one (ps_ret (pe_tup (pa_cons pe_str (pa_cons (pe_callG G_law_pick hr (by decide) (by rfl) (pa_cons (pv 0) (pa_cons (pv 11) pa_nil))) (pa_cons (pe_callG G_law_pick hr (by decide) (by rfl) (pa_cons (pv 0) (pa_cons (pe_dget (hu_of hr) (pv 1) pe_str (fun _ _ => rfl)) pa_nil))) pa_nil))))))))))))))))), ?_⟩)
  subst hv
  have hnd := hD.zf
  have hpd : pl ≠ da := fun z => by rw [z, hnd] at hpl; cases hpl
  have hdl := hds.few
  have hml : D.order.length ≤ 8 := dok.wf.few
  have hrl := Nat.le_trans ok.rowlen hds.few
  refine q_asg (v := .ref M.hd) (hM.eholds (ev_var (i := 2) (v := .ref M.mm) rfl)) fun H1 e1 => ?_
  show tSeq _ _ _ ([some (.ref da), some (.ref ga), some (.ref M.mm), some (.ref pl), some (.ref M.hd), none, none, none, none, none, none, none, none, none] : L2.St) H1
  have hM1 := hM.ex e1
  obtain ⟨xs, hr1, hr2⟩ := id hM1.row
  have hX := ep_lcW (σ := ([some (.ref da), some (.ref ga), some (.ref M.mm), some (.ref pl), some (.ref M.hd), none, none, none, none, none, none, none, none, none] : L2.St)) (H := H1) (te := tOp (rIxT K) (tVar 12) (tC (.int 0))) (g := gName 12) (vs := [12]) (t := tYes) (fun e : Ent => true) (fun e : Ent => e.1) (kdV V.int)
    (wk_list (K := K) (ka := kdM) (ls_var (bs := S.row) (hM1.erow (ev_var (i := 2) (v := .ref M.mm) rfl)) ⟨M.rw, xs, rfl, SqL.of hr1, hr2⟩)) (by omega)
    (fun e x H8 he e8 hx => by
      obtain ⟨tq, rfl, htq⟩ := id hx
      exact ⟨rfl, Ex.refl _, et_yes, fun _ => ep_ev (ev_pair0 (ev_var (i := 12) rfl) htq)⟩)
    gname_mono
  rw [filt_true] at hX
  refine q_asgN hX fun p5 ys5 H2 _ e2 hp5 k5 => ?_
  have hy5 := kdV_L k5
  subst hy5
  show tSeq _ _ _ ([some (.ref da), some (.ref ga), some (.ref M.mm), some (.ref pl), some (.ref M.hd), some (.ref p5), none, none, none, none, none, none, none, none] : L2.St) H2
  have e02 := e1.trans e2
  refine q_asgA (at_take (k := 10) (ev_var (i := 0) rfl) (fun _ _ => ev_c) (hD.ex e02) (by decide) (by decide)) fun v H3 ⟨way, hv, hway, hD3, f3⟩ => ?_
  subst hv
  have hp5d : p5 ∉ [da] := fun z => by
    obtain ⟨kvs, hk⟩ := (hD.ex e02).live
    rw [List.mem_singleton.mp z, hk] at hp5; cases hp5
  have hp53 : H3 p5 = some (.lst ((S.row.map (·.1)).map V.int)) := f3.keep hp5d hp5
  have hM3 : ModAt Z H3 M S := (hM.ex e02).fr f3 (fun b hb => by rw [List.mem_singleton.mp hb]; exact hdm) (fun b hb => by rw [List.mem_singleton.mp hb]; exact hnd)
  have f03 : Fr [da] [da] H H3 := Fr.pre e02 f3
  have hpl3 : H3 pl = some (.lst (ds.map V.int)) := hM3.z _ _ hpl
  generalize hrow : S.row.map (·.1) = que at hp53
  have hquel : que.length ≤ 50 := by rw [← hrow, List.length_map]; exact hrl
  show tSeq _ _ _ ([some (.ref da), some (.ref ga), some (.ref M.mm), some (.ref pl), some (.ref M.hd), some (.ref p5), some (.int way), none, none, none, none, none, none, none] : L2.St) H3
  have kin : ∀ {σ : L2.St} {H8 : Hp} {i : Int}, Ex H3 H8 → σ[9]? = some (some (.int i)) → σ[4]? = some (some (.ref M.hd)) → Ev (tDIn (tVar 9) (tVar 4)) σ H8 (.bl (S.keeps i).isSome) := fun e8 h2 h4 => ev_is (ev_dain (ev_var h2) (ev_var h4) (hM3.ex e8).kp) (by unfold fK; cases S.keeps _ <;> rfl)
  have qin : ∀ {σ : L2.St} {H8 : Hp} {i : Int}, Ex H3 H8 → σ[9]? = some (some (.int i)) → σ[5]? = some (some (.ref p5)) → Ev (tOp (rIn K false) (tVar 9) (tVar 5)) σ H8 (.bl (decide (i ∈ que))) := fun e8 h2 h4 => ev_inInt (ev_var h2) (ev_var h4) (SqL.of (e8 _ _ hp53))
  have qnin : ∀ {σ : L2.St} {H8 : Hp} {i : Int}, Ex H3 H8 → σ[9]? = some (some (.int i)) → σ[5]? = some (some (.ref p5)) → Ev (tOp (rIn K true) (tVar 9) (tVar 5)) σ H8 (.bl (!decide (i ∈ que))) := fun e8 h2 h4 => ev_notInInt (ev_var h2) (ev_var h4) (SqL.of (e8 _ _ hp53))
  have mk : ∀ (t : TT) (p : Int → Bool) (o6 o7 o8 o10 o11 : Option V) (o9 : Option V) (H9 : Hp), Ex H3 H9 → (∀ (i : Int) (H10 : Hp), Ex H3 H10 → EvT t ([some (.ref da), some (.ref ga), some (.ref M.mm), some (.ref pl), some (.ref M.hd), some (.ref p5), o6, o7, o8, some (.int i), o10, o11, none, none] : L2.St) H10 (p i)) →
      EvP (tLc (iList K (tVar 3)) (gName 9) t (tVar 9) [9]) ([some (.ref da), some (.ref ga), some (.ref M.mm), some (.ref pl), some (.ref M.hd), some (.ref p5), o6, o7, o8, o9, o10, o11, none, none] : L2.St) H9 (NewL (kdV V.int) (ds.filter p)) := by
    intro t p o6 o7 o8 o10 o11 o9 H9 e9 ht
    have hX := ep_lcW (σ := ([some (.ref da), some (.ref ga), some (.ref M.mm), some (.ref pl), some (.ref M.hd), some (.ref p5), o6, o7, o8, o9, o10, o11, none, none] : L2.St)) (H := H9) (te := tVar 9) (g := gName 9) (vs := [9]) (t := t) p (fun i : Int => i) (kdV V.int)
      (wk_list (K := K) (ka := kdV V.int) (ls_var (bs := ds) (ev_var (i := 3) (v := .ref pl) rfl) ⟨pl, _, rfl, SqL.of (e9 _ _ hpl3), kdV_of⟩)) (by omega)
      (fun i x H8 he e8 hx => by
        cases hx
        exact ⟨rfl, Ex.refl _, ht i H8 (e9.trans e8), fun _ => ep_ev (ev_var (i := 9) rfl)⟩)
      gname_mono
    rw [List.map_id'] at hX
    exact hX
  refine q_asgN (mk _ (fun i => (S.keeps i).isSome && !decide (i ∈ que)) (some (.int way)) none none none none none H3 (Ex.refl _) fun i H10 e10 => et_and (et_B (kin e10 rfl rfl)) (fun _ => et_test (qnin e10 rfl rfl))) fun p7 ys7 H4 _ e4 hp7 k7 => ?_
  have hy7 := kdV_L k7
  subst hy7
  generalize hkept : (ds.filter fun i => (S.keeps i).isSome && !decide (i ∈ que)) = kept at hp7
  have hkin : ∀ i ∈ kept, i ∈ ds ∧ (S.keeps i).isSome = true ∧ i ∉ que := fun i hi => by
    rw [← hkept, List.mem_filter] at hi
    have h2 := hi.2
    rw [Bool.and_eq_true, Bool.not_eq_true', decide_eq_false_iff_not] at h2
    exact ⟨hi.1, h2.1, h2.2⟩
  have hkl : kept.length ≤ 50 := by rw [← hkept]; exact Nat.le_trans (List.length_filter_le _ _) hdl
  show tSeq _ _ _ ([some (.ref da), some (.ref ga), some (.ref M.mm), some (.ref pl), some (.ref M.hd), some (.ref p5), some (.int way), some (.ref p7), none, none, none, none, none, none] : L2.St) H4
  refine q_asgN (mk _ (fun i => (S.keeps i).isSome || decide (i ∈ que)) (some (.int way)) (some (.ref p7)) none none none none H4 e4 fun i H10 e10 => et_or (et_B (kin e10 rfl rfl)) (fun _ => et_test (qin e10 rfl rfl))) fun p8 ys8 H5 _ e5 hp8 k8 => ?_
  have hy8 := kdV_L k8
  subst hy8
  generalize hthere : (ds.filter fun i => (S.keeps i).isSome || decide (i ∈ que)) = there at hp8
  have htin : ∀ i ∈ there, i ∈ ds ∧ ((S.keeps i).isSome = true ∨ i ∈ que) := fun i hi => by
    rw [← hthere, List.mem_filter] at hi
    have h2 := hi.2
    rw [Bool.or_eq_true, decide_eq_true_eq] at h2
    exact ⟨hi.1, h2⟩
  have htl : there.length ≤ 50 := by rw [← hthere]; exact Nat.le_trans (List.length_filter_le _ _) hdl
  show tSeq _ _ _ ([some (.ref da), some (.ref ga), some (.ref M.mm), some (.ref pl), some (.ref M.hd), some (.ref p5), some (.int way), some (.ref p7), some (.ref p8), none, none, none, none, none] : L2.St) H5
  have e35 := e4.trans e5
  have hD5 := hD3.ex e35
  have hM5 := hM3.ex e35
  have f05 : Fr [da] [da] H H5 := f03.ex e35
  have hp55 := e35 _ _ hp53
  have hp75 := e5 _ _ hp7
  have hpl5 := e35 _ _ hpl3
  have neN : ∀ {σ : L2.St} {H6 : Hp} {i : Nat} {p : Addr} {l : List Int}, σ[i]? = some (some (.ref p)) → H6 p = some (.lst (l.map V.int)) → EvT (tTest (tOp (rNeD K) (tVar i) (tLst tNil))) σ H6 (!decide (l = [])) := fun h1 h2 =>
    et_test (ev_neNil (K := K) (k := kdV V.int) PyData.int (fun b v H h => by cases h; exact .int _) (fun b _ => low_int b) (ls_var (ev_var h1) ⟨_, _, rfl, SqL.of h2, kdV_of⟩))
  have eqN : ∀ {σ : L2.St} {H6 : Hp} {i : Nat} {p : Addr} {l : List Int}, σ[i]? = some (some (.ref p)) → H6 p = some (.lst (l.map V.int)) → EvT (tTest (tOp (rEqD K) (tVar i) (tLst tNil))) σ H6 (decide (l = [])) := fun h1 h2 =>
    et_test (ev_eqNil (K := K) (k := kdV V.int) PyData.int (fun b v H h => by cases h; exact .int _) (fun b _ => low_int b) (ls_var (ev_var h1) ⟨_, _, rfl, SqL.of h2, kdV_of⟩))
  have ne : ∀ {l : List Int}, (!decide (l = [])) = true → l.map V.int ≠ [] := fun {l} h z => by
    rw [List.map_eq_nil_iff] at z
    rw [z] at h
    cases h
  -- the end of a way
  have fin : ∀ (x : Deed) (H6 : Hp) (p : Addr), x.ok D ds S → DrawR Z H6 da → Fr [da] [da] H H6 → H6 p = none → Q (.ref p) (upd H6 p (.tup x.vals)) := fun x H6 p hx hD6 f6 hp => by
    have en : Ex H6 (upd H6 p (.tup x.vals)) := Ex.new hp
    exact q p x _ upd_same hx (hD6.ex en) (f6.ex en)
  have pk : ∀ {σ : L2.St} {H6 : Hp} {i : Nat} {p : Addr} {l : List Int}, σ[0]? = some (some (.ref da)) → σ[i]? = some (some (.ref p)) → H6 p = some (.lst (l.map V.int)) → (!decide (l = [])) = true → l.length ≤ 50 → DrawR Z H6 da → At (tCall spPick [] E0 (tCons (tVar 0) (tCons (tVar i) tNil))) σ H6 fun v H7 => v ∈ l.map V.int ∧ DrawR Z H7 da ∧ Fr [da] [da] H6 H7 := fun h0 hi hp hne hl hD6 =>
    at_pick (ev_var h0) (fun _ _ => ev_var hi) hD6 hp (ne hne) (by rw [List.length_map]; omega)
  refine q_when (b := decide ((way : Int) < 2) && !decide (there = [])) (et_and (et_test (ev_op (ev_var (i := 6) (v := .int way) rfl) (ev_c (v := .int 2)) rv_I0)) (fun _ => neN rfl hp8)) (fun z H6 e6 => ?_) (fun z0 H6 e6 => ?_)
  · rw [Bool.and_eq_true] at z
    refine s_ret2A (pk (i := 8) rfl rfl (e6 _ _ hp8) z.2 htl (hD5.ex e6)) fun v H7 p ⟨hv, hD7, f7⟩ hp => ?_
    obtain ⟨d, hd, rfl⟩ := mem_ints hv
    obtain ⟨h1, h2⟩ := htin d hd
    exact fin (.go d) H7 p ⟨h1, by rw [hrow]; exact h2⟩ hD7 ((f05.ex e6).trans f7) hp
  refine q_when (b := decide ((way : Int) = 2) && !decide (que = [])) (et_and (et_is (et_test (ev_op (ev_var (i := 6) (v := .int way) rfl) (ev_c (v := .int 2)) (rv_eq rfl))) (by by_cases z : (way : Int) = 2 <;> simp [z])) (fun _ => neN rfl (e6 _ _ hp55))) (fun z H7 e7 => ?_) (fun z1 H7 e7 => ?_)
  · rw [Bool.and_eq_true] at z
    have e57 := e6.trans e7
    refine s_ret2A (pk (i := 5) rfl rfl (e57 _ _ hp55) z.2 hquel (hD5.ex e57)) fun v H8 p ⟨hv, hD8, f8⟩ hp => ?_
    obtain ⟨d, hd, rfl⟩ := mem_ints hv
    have hdr : d ∈ S.row.map (·.1) := by rw [hrow]; exact hd
    obtain ⟨e, he, hed⟩ := List.mem_map.mp hdr
    exact fin (.cease d) H8 p ⟨by rw [← hed]; exact (ok.rin e he).1, hdr⟩ hD8 ((f05.ex e57).trans f8) hp
  have e57 := e6.trans e7
  refine q_when (b := decide ((way : Int) = 3) && !decide (kept = [])) (et_and (et_is (et_test (ev_op (ev_var (i := 6) (v := .int way) rfl) (ev_c (v := .int 3)) (rv_eq rfl))) (by by_cases z : (way : Int) = 3 <;> simp [z])) (fun _ => neN rfl (e57 _ _ hp75))) (fun z H8 e8 => ?_) (fun z2 H8 e8 => ?_)
  · rw [Bool.and_eq_true] at z
    have e58 := e57.trans e8
    refine q_asgA (pk (i := 7) rfl rfl (e58 _ _ hp75) z.2 hkl (hD5.ex e58)) fun v H9 ⟨hv, hD9, f9⟩ => ?_
    obtain ⟨d, hd, rfl⟩ := mem_ints hv
    obtain ⟨h1, h2, h3⟩ := hkin d hd
    obtain ⟨h0, hh⟩ := Option.isSome_iff_exists.mp h2
    have hh0 := (ok.kin d h0 hh).2
    have hM9 : ModAt Z H9 M S := (hM5.ex e58).fr f9 (fun b hb => by rw [List.mem_singleton.mp hb]; exact hdm) (fun b hb => by rw [List.mem_singleton.mp hb]; exact hnd)
    show tSeq _ _ _ ([some (.ref da), some (.ref ga), some (.ref M.mm), some (.ref pl), some (.ref M.hd), some (.ref p5), some (.int way), some (.ref p7), some (.ref p8), some (.int d), none, none, none, none] : L2.St) H9
    obtain ⟨oa, ob, og, ou, xs0, AZ, nZ⟩ := id hR
    have hY := ep_lcW (σ := ([some (.ref da), some (.ref ga), some (.ref M.mm), some (.ref pl), some (.ref M.hd), some (.ref p5), some (.int way), some (.ref p7), some (.ref p8), some (.int d), none, none, none, none] : L2.St)) (H := H9) (te := tVar 13) (g := gName 13) (vs := [13]) (t := tB (tCall spLBears [] E0 (tCons (tVar 1) (tCons (tDGet (tVar 4) (tVar 9)) (tCons (tVar 13) tNil))))) (fun m : Str => D.bears h0 m) (fun m : Str => m) (kdV V.str)
      (wk_list (K := K) (ka := kdV V.str) (ls_var (bs := D.order) (ev_dget (ev_var (i := 1) rfl) ev_c (dget_k (k := .inr "order") (.inl (hM9.z _ _ AZ.at_)))) ⟨oa, _, rfl, SqL.of (hM9.z _ _ AZ.dat.ord), kdV_of⟩)) (by omega)
      (fun m x H10 hi e10 hx => by
        have hx2 : x = V.str m := hx
        subst hx2
        exact ⟨rfl, Ex.refl _, et_B (ev_call (vs := [.ref ga, .str h0, .str m]) (ea_cons (ev_var rfl) (ea_cons (ev_daget (i := d) (ev_var (i := 4) (v := .ref M.hd) rfl) (ev_var (i := 9) rfl) (hM9.ex e10).kp (by unfold fK; rw [hh]; rfl)) (ea_cons (ev_var (i := 13) rfl) ea_nil))) fun H11 e11 Q q E => ⟨dx, ga, D, h0, m, rfl, hR.ex (hM9.z.trans (e10.trans e11)), dok, hh0, hi, q⟩), fun _ => ep_ev (ev_var (i := 13) rfl)⟩)
      gname_mono
    rw [List.map_id'] at hY
    refine q_asgN hY fun p10 ys10 H10 _ e10 hp10 k10 => ?_
    have hy10 := kdV_L k10
    subst hy10
    show tRet _ _ ([some (.ref da), some (.ref ga), some (.ref M.mm), some (.ref pl), some (.ref M.hd), some (.ref p5), some (.int way), some (.ref p7), some (.ref p8), some (.int d), some (.ref p10), none, none, none] : L2.St) H10
    have hll : (D.order.filter fun m => D.bears h0 m).length ≤ 8 := Nat.le_trans (List.length_filter_le _ _) hml
    have hlne : (D.order.filter fun m => D.bears h0 m).map V.str ≠ [] := fun z => by
      rw [List.map_eq_nil_iff] at z
      have : h0 ∈ D.order.filter fun m => D.bears h0 m := List.mem_filter.mpr ⟨hh0, TD.bears_refl h0⟩
      rw [z] at this
      cases this
    refine s_ret3A (R2 := fun v2 H13 => v2 ∈ (D.order.filter fun m => D.bears h0 m).map V.str ∧ DrawR Z H13 da ∧ Fr [da] [da] H10 H13) (At.of (ev_var (i := 9) (v := .int d) rfl)) (fun v H11 ⟨hv, e11⟩ => (at_pick (ev_var (i := 0) rfl) (fun _ _ => ev_var (i := 10) rfl) ((hD9.ex e10).ex e11) (e11 _ _ hp10) hlne (by rw [List.length_map]; omega)).imp fun v2 H13 ⟨h1, h2, h3⟩ => ⟨h1, h2, Fr.pre e11 h3⟩) fun v H11 v2 H12 p ⟨hv, e11⟩ ⟨hv2, hD12, f12⟩ hp => ?_
    subst hv
    obtain ⟨m, hm, rfl⟩ := mem_strs hv2
    rw [List.mem_filter] at hm
    refine fin (.ease d m) H12 p ⟨h1, hm.1, by rw [hrow]; exact h3, h0, hh, hm.2⟩ hD12 ?_ hp
    exact (((f05.ex e58).trans f9).ex e10).trans f12
  have e58 := e57.trans e8
  refine q_asgN (mk _ (fun i => !decide (i ∈ que)) (some (.int way)) (some (.ref p7)) (some (.ref p8)) none none none H8 (e35.trans e58) fun i H10 e10 => et_test (qnin e10 rfl rfl)) fun p11 ys11 H9 _ e9 hp11 k11 => ?_
  have hy11 := kdV_L k11
  subst hy11
  generalize hloose : (ds.filter fun i => !decide (i ∈ que)) = loose at hp11
  have hlin : ∀ i ∈ loose, i ∈ ds ∧ i ∉ que := fun i hi => by
    rw [← hloose, List.mem_filter, Bool.not_eq_true', decide_eq_false_iff_not] at hi
    exact hi
  have hll : loose.length ≤ 50 := by rw [← hloose]; exact Nat.le_trans (List.length_filter_le _ _) hdl
  have e59 := e58.trans e9
  show tSeq _ _ _ ([some (.ref da), some (.ref ga), some (.ref M.mm), some (.ref pl), some (.ref M.hd), some (.ref p5), some (.int way), some (.ref p7), some (.ref p8), none, none, some (.ref p11), none, none] : L2.St) H9
  refine q_when (eqN rfl hp11) (fun z H10 e10 => ?_) (fun z3 H10 e10 => ?_)
  · have e510 := e59.trans e10
    refine s_ret2A (pk (i := 3) rfl rfl (e510 _ _ hpl5) (by cases ds with
      | nil => cases hne
      | cons => rfl) hdl (hD5.ex e510)) fun v H11 p ⟨hv, hD11, f11⟩ hp => ?_
    obtain ⟨d, hd, rfl⟩ := mem_ints hv
    have hl0 : loose = [] := of_decide_eq_true z
    refine fin (.go d) H11 p ⟨hd, .inr ?_⟩ hD11 ((f05.ex e510).trans f11) hp
    rw [hrow]
    refine Decidable.byContradiction fun hn => ?_
    have : d ∈ loose := by rw [← hloose, List.mem_filter, Bool.not_eq_true', decide_eq_false_iff_not]; exact ⟨hd, hn⟩
    rw [hl0] at this
    cases this
  have e510 := e59.trans e10
  have hl1 : (!decide (loose = [])) = true := by rw [z3]; rfl
  have last : ∀ (pz : Addr) (lz : List Int) (H11 : Hp), Ex H10 H11 → H11 pz = some (.lst (lz.map V.int)) → (!decide (lz = [])) = true → lz.length ≤ 50 → (∀ i ∈ lz, i ∈ ds ∧ i ∉ que) →
      tRet (tTup (tCons (tC (.str "ask")) (tCons (tCall spPick [] E0 (tCons (tVar 0) (tCons (tVar 11) tNil))) (tCons (tCall spPick [] E0 (tCons (tVar 0) (tCons (tDGet (tVar 1) (tC (.str "order"))) tNil))) tNil)))) { nx := fun _ H' => Q .non H', rt := Q } ([some (.ref da), some (.ref ga), some (.ref M.mm), some (.ref pl), some (.ref M.hd), some (.ref p5), some (.int way), some (.ref p7), some (.ref p8), none, none, some (.ref pz), none, none] : L2.St) H11 := by
    intro pz lz H11 e11 hpz hz1 hz2 hz3
    obtain ⟨oa, ob, og, ou, xs0, AZ, nZ⟩ := id hR
    have hon : D.order.map V.str ≠ [] := fun z => by
      rw [List.map_eq_nil_iff] at z
      have := dok.modes.lo
      rw [z] at this
      exact absurd this (by decide)
    have e511 := e510.trans e11
    refine s_ret3A (R2 := fun v2 H13 => v2 ∈ D.order.map V.str ∧ DrawR Z H13 da ∧ Fr [da] [da] H H13) (pk (i := 11) rfl rfl hpz hz1 hz2 (hD5.ex e511)) (fun v H12 ⟨hv, hD12, f12⟩ => (at_pick (l := oa) (xs := D.order.map V.str) (ev_var (i := 0) rfl) (fun H13 e13 => ev_dget (ev_var (i := 1) rfl) ev_c (dget_k (k := .inr "order") (.inl ((hD12.ex e13).zz _ _ AZ.at_)))) hD12 (hD12.zz _ _ AZ.dat.ord) hon (by rw [List.length_map]; omega)).imp fun v2 H13 ⟨h1, h2, h3⟩ => ⟨h1, h2, ((f05.ex e511).trans f12).trans h3⟩) fun v H12 v2 H13 p ⟨hv, hD12, f12⟩ ⟨hv2, hD13, f13⟩ hp => ?_
    obtain ⟨d, hd, rfl⟩ := mem_ints hv
    obtain ⟨m, hm, rfl⟩ := mem_strs hv2
    obtain ⟨h1, h2⟩ := hz3 d hd
    exact fin (.ask d m) H13 p ⟨h1, hm, by rw [hrow]; exact h2⟩ hD13 f13 hp
  refine q_when (b := decide ((way : Int) < 7) && !decide (kept = [])) (et_and (et_test (ev_op (ev_var (i := 6) (v := .int way) rfl) (ev_c (v := .int 7)) rv_I0)) (fun _ => neN rfl (e510 _ _ hp75))) (fun z H11 e11 => ?_) (fun z4 H11 e11 => ?_)
  · rw [Bool.and_eq_true] at z
    refine s_asg (v := .ref p7) (ev_var (i := 7) rfl) fun H12 e12 => ?_
    exact last p7 kept H12 (e11.trans e12) ((e510.trans (e11.trans e12)) _ _ hp75) z.2 hkl fun i hi => ⟨(hkin i hi).1, (hkin i hi).2.2⟩
  · exact last p11 loose H11 e11 ((e10.trans e11) _ _ hp11) hl1 hll hlin
end
end HT
set_option Elab.async false
set_option linter.all false
set_option maxRecDepth 100000
set_option maxHeartbeats 1000000
/-! the plain law: what deeds do, no program in sight -/
namespace HT
open PySem PySem.Spec PyProof.Rows L2
/-- who is ahead of one that raises does, too -/
def PW (S : LS) : Prop := S.row.Pairwise fun a b => (S.keeps b.1).isSome = true → (S.keeps a.1).isSome = true
theorem part_of {p : Ent → Bool} : ∀ {l : List Ent}, l.Pairwise (fun a b => p b = true → p a = true) → l = l.filter p ++ l.filter fun e => !p e
  | [], _ => rfl
  | e :: l, h => by
    have h2 := List.pairwise_cons.mp h
    have ih := part_of h2.2
    cases he : p e with
    | true =>
      rw [List.filter_cons, if_pos he, List.filter_cons, if_neg (by rw [he]; decide), List.cons_append, ← ih]
    | false =>
      have h0 : l.filter p = [] := List.filter_eq_nil_iff.mpr fun a ha z => by
        have := h2.1 a ha z
        rw [he] at this
        cases this
      rw [List.filter_cons, if_neg (by rw [he]; decide), h0, List.filter_cons, if_pos (by rw [he]; rfl), List.nil_append]
      rw [h0, List.nil_append] at ih
      rw [← ih]
theorem PW.part {S : LS} (h : PW S) : Part S := part_of (p := fun e => (S.keeps e.1).isSome) h
theorem PW.of {S S' : LS} (h : PW S) (hr : S'.row.Sublist S.row) (hk : ∀ e ∈ S'.row, (S'.keeps e.1).isSome = (S.keeps e.1).isSome) : PW S' :=
  List.Pairwise.imp_of_mem (fun {a b} ha hb h z => by rw [hk a ha]; rw [hk b hb] at z; exact h z) (h.sublist hr)
structure Inv (D : TD Str) (ds : List Int) (S : LS) (af : Int → Option Int) (tn : Int) : Prop where
  ok : LOk D ds S
  pw : PW S
  nf : ∀ e r, S.row = e :: r → fitsB D ds S.keeps e.1 e.2.1 = false
  tk : ∀ e ∈ S.row, e.2.2 ≤ S.turn
  as : ∀ e ∈ S.row, ∃ a, af e.1 = some a ∧ a < tn
  ord : ∀ e ∈ S.row, ∀ e' ∈ S.row, ∀ a a', af e.1 = some a → af e'.1 = some a' → (e.2.2 < e'.2.2 ↔ a < a')
theorem Inv.nil {D : TD Str} {ds : List Int} {af : Int → Option Int} {tn : Int} : Inv D ds LS.nil af tn where
  ok := ⟨fun d g h => (by cases h), fun e h => (by cases h), List.nodup_nil, fun d => by show (none : Option Int).isSome = true ↔ d ∈ []; simp⟩
  pw := List.Pairwise.nil
  nf := fun e r h => by cases h
  tk := fun e h => by cases h
  as := fun e h => by cases h
  ord := fun e h => by cases h
/-! ### counting -/
def ltO : Option Int → Option Int → Bool
  | some a, some b => decide (a < b)
  | _, _ => false
def cnt1 (af : Int → Option Int) (cf : Int → Option Int) (g : Int × Bool) : Int → Option Int := fun i => if i = g.1 then none else if g.2 && ltO (af i) (af g.1) then (cf i).map (· + 1) else cf i
def cntAll (af : Int → Option Int) (cf : Int → Option Int) (gs : List (Int × Bool)) : Int → Option Int := gs.foldl (cnt1 af) cf
def fin (cf : Int → Option Int) (row : List Ent) : Int → Option Int := fun i => if i ∈ row.map (·.1) then some ((cf i).getD 0) else none
theorem bump_not {row : List Ent} {k : Int} {i : Int} : ∀ {f : Int → Option Int}, i ∉ row.map (·.1) → bump row k f i = f i := by
  induction row with
  | nil => intro f _; rfl
  | cons e r ih =>
    intro f h
    have h' : i ≠ e.1 ∧ i ∉ r.map (·.1) := by simpa using h
    show bump r k (if e.2.2 < k then put f e.1 (some ((f e.1).getD 0 + 1)) else f) i = f i
    rw [ih h'.2]
    split
    · exact put_ne h'.1
    · rfl
theorem bump_at {row : List Ent} {k : Int} {e : Ent} {n : Int} : ∀ {f : Int → Option Int}, (row.map (·.1)).Nodup → e ∈ row → f e.1 = some n → bump row k f e.1 = if e.2.2 < k then some (n + 1) else some n := by
  induction row with
  | nil => intro f _ h; cases h
  | cons x r ih =>
    intro f nd he hf
    have h2 := List.nodup_cons.mp (show (x.1 :: r.map (·.1)).Nodup from nd)
    show bump r k (if x.2.2 < k then put f x.1 (some ((f x.1).getD 0 + 1)) else f) e.1 = _
    rcases List.mem_cons.mp he with rfl | he
    · rw [bump_not h2.1]
      by_cases q : e.2.2 < k
      · rw [if_pos q, if_pos q, put_same, hf]; rfl
      · rw [if_neg q, if_neg q, hf]
    · have hn : e.1 ≠ x.1 := fun z => h2.1 (by rw [← z]; exact List.mem_map.mpr ⟨e, he, rfl⟩)
      refine ih h2.2 he ?_
      split
      · rw [put_ne hn]; exact hf
      · exact hf
theorem fin_id {D : TD Str} {ds : List Int} {S : LS} (ok : LOk D ds S) : fin S.skips S.row = S.skips := by
  funext i
  unfold fin
  split
  · next h =>
    obtain ⟨n, hn⟩ := Option.isSome_iff_exists.mp ((ok.sk i).mpr h)
    rw [hn]; rfl
  · next h =>
    cases e : S.skips i with
    | none => rfl
    | some n => exact absurd ((ok.sk i).mp (by rw [e]; rfl)) h
/-! ### granting the first -/
section
variable {D : TD Str} {ds : List Int} {S : LS} {af : Int → Option Int} {e : Ent} {r : List Ent}
def pop1 (S : LS) (e : Ent) : LS := (S.unwait e.1).grant e.1 e.2.1 e.2.2
theorem pop1_row (ok : LOk D ds S) (hr : S.row = e :: r) : (pop1 S e).row = r := by
  show noW S.row e.1 = r
  rw [hr]
  exact noW_head (by rw [← hr]; exact ok.nd)
theorem pop1_ok (ok : LOk D ds S) (hr : S.row = e :: r) : LOk D ds (pop1 S e) := by
  have he := ok.rin e (by rw [hr]; simp)
  exact (ok.unwait e.1).grant he.1 he.2
theorem pop1_keeps (ok : LOk D ds S) (hr : S.row = e :: r) {i : Int} (hi : i ≠ e.1) : (pop1 S e).keeps i = S.keeps i := put_ne hi
theorem head_ne (ok : LOk D ds S) (hr : S.row = e :: r) {x : Ent} (hx : x ∈ r) : x.1 ≠ e.1 := fun z => by
  have nd := ok.nd
  rw [hr] at nd
  exact (List.nodup_cons.mp (show (e.1 :: r.map (·.1)).Nodup from nd)).1 (by rw [← z]; exact List.mem_map.mpr ⟨x, hx, rfl⟩)
theorem pop1_skips (ok : LOk D ds S) (hr : S.row = e :: r) (hs : ∀ x ∈ S.row, ∃ a, af x.1 = some a) (ho : ∀ x ∈ S.row, ∀ x' ∈ S.row, ∀ a a', af x.1 = some a → af x'.1 = some a' → (x.2.2 < x'.2.2 ↔ a < a')) :
    (pop1 S e).skips = cnt1 af S.skips (e.1, (S.keeps e.1).isSome) := by
  have hrow : noW S.row e.1 = r := pop1_row ok hr
  have hem : e ∈ S.row := by rw [hr]; simp
  have hsk : (pop1 S e).skips = if (S.keeps e.1).isSome = true then bump r e.2.2 (put S.skips e.1 none) else put S.skips e.1 none := by
    show (if (S.keeps e.1).isSome = true then bump (noW S.row e.1) e.2.2 (put S.skips e.1 none) else put S.skips e.1 none) = _
    rw [hrow]
  rw [hsk]
  have ndr : (r.map (·.1)).Nodup := by
    have nd := ok.nd
    rw [hr] at nd
    exact (List.nodup_cons.mp (show (e.1 :: r.map (·.1)).Nodup from nd)).2
  have ner : e.1 ∉ r.map (·.1) := by
    have nd := ok.nd
    rw [hr] at nd
    exact (List.nodup_cons.mp (show (e.1 :: r.map (·.1)).Nodup from nd)).1
  funext i
  unfold cnt1
  cases hk : (S.keeps e.1).isSome with
  | false =>
    rw [if_neg (by decide)]
    show put S.skips e.1 none i = if i = e.1 then none else if (false && _) = true then _ else S.skips i
    rw [Bool.false_and]
    rfl
  | true =>
    rw [if_pos rfl]
    show _ = if i = e.1 then none else if (true && ltO (af i) (af e.1)) = true then (S.skips i).map (· + 1) else S.skips i
    rw [Bool.true_and]
    by_cases hi : i = e.1
    · rw [if_pos hi, hi, bump_not ner, put_same]
    · rw [if_neg hi]
      by_cases hm : i ∈ r.map (·.1)
      · obtain ⟨x, hx, rfl⟩ := List.mem_map.mp hm
        have hxm : x ∈ S.row := by rw [hr]; exact List.mem_cons_of_mem _ hx
        obtain ⟨n, hn⟩ := Option.isSome_iff_exists.mp ((ok.sk x.1).mpr (List.mem_map.mpr ⟨x, hxm, rfl⟩))
        obtain ⟨a, ha⟩ := hs x hxm
        obtain ⟨a', ha'⟩ := hs e hem
        have hiff := ho x hxm e hem a a' ha ha'
        rw [bump_at (n := n) ndr hx (by rw [put_ne hi]; exact hn), hn, ha, ha']
        show _ = if decide (a < a') = true then _ else _
        by_cases q : a < a'
        · rw [if_pos (hiff.mpr q), if_pos (decide_eq_true q)]; rfl
        · rw [if_neg (fun z => q (hiff.mp z)), if_neg (by rw [decide_eq_false q]; decide)]
      · rw [bump_not hm, put_ne hi]
        have hn : S.skips i = none := by
          cases e0 : S.skips i with
          | none => rfl
          | some n =>
            have := (ok.sk i).mp (by rw [e0]; rfl)
            rw [hr] at this
            rcases List.mem_cons.mp (show i ∈ e.1 :: r.map (·.1) from this) with z | z
            · exact absurd z hi
            · exact absurd z hm
        rw [hn]
        split <;> rfl
theorem scan_succ (hr : S.row = e :: r) (n : Nat) (hf : fitsB D ds S.keeps e.1 e.2.1 = true) : S.scan D ds (n + 1) = ((LS.scan D ds n (pop1 S e)).1, e.1 :: (LS.scan D ds n (pop1 S e)).2) := by
  show (match S.row with
    | [] => (S, [])
    | e :: _ => if fitsB D ds S.keeps e.1 e.2.1 then let r := LS.scan D ds n ((S.unwait e.1).grant e.1 e.2.1 e.2.2); (r.1, e.1 :: r.2) else (S, [])) = _
  rw [hr]
  show (if fitsB D ds S.keeps e.1 e.2.1 then _ else _) = _
  rw [if_pos hf]
  rfl
theorem scan_stop (hr : S.row = e :: r) (n : Nat) (hf : fitsB D ds S.keeps e.1 e.2.1 = false) : S.scan D ds n = (S, []) := by
  cases n with
  | zero => rfl
  | succ n =>
    show (match S.row with
      | [] => (S, [])
      | e :: _ => if fitsB D ds S.keeps e.1 e.2.1 then let r := LS.scan D ds n ((S.unwait e.1).grant e.1 e.2.1 e.2.2); (r.1, e.1 :: r.2) else (S, [])) = _
    rw [hr]
    show (if fitsB D ds S.keeps e.1 e.2.1 then _ else _) = _
    rw [if_neg (by rw [hf]; decide)]
theorem scan_nil (hr : S.row = []) (n : Nat) : S.scan D ds n = (S, []) := by
  cases n with
  | zero => rfl
  | succ n =>
    show (match S.row with
      | [] => (S, [])
      | e :: _ => if fitsB D ds S.keeps e.1 e.2.1 then let r := LS.scan D ds n ((S.unwait e.1).grant e.1 e.2.1 e.2.2); (r.1, e.1 :: r.2) else (S, [])) = _
    rw [hr]
/-- what a scan leaves -/
structure ScanR (D : TD Str) (ds : List Int) (af : Int → Option Int) (S : LS) (S' : LS) (fs : List Int) : Prop where
  ok : LOk D ds S'
  rows : ∃ pre, S.row = pre ++ S'.row ∧ fs = pre.map (·.1)
  pw : PW S'
  nf : ∀ e r, S'.row = e :: r → fitsB D ds S'.keeps e.1 e.2.1 = false
  turn : S'.turn = S.turn
  cnt : ∀ raises : Int → Bool, (∀ x ∈ S.row, raises x.1 = (S.keeps x.1).isSome) → S'.skips = cntAll af S.skips (fs.map fun d => (d, raises d))
theorem scan_right (hs : ∀ x ∈ S.row, ∃ a, af x.1 = some a) (ho : ∀ x ∈ S.row, ∀ x' ∈ S.row, ∀ a a', af x.1 = some a → af x'.1 = some a' → (x.2.2 < x'.2.2 ↔ a < a')) (ok : LOk D ds S) (pw : PW S) : ∀ n, S.row.length ≤ n → ScanR D ds af S (S.scan D ds n).1 (S.scan D ds n).2 := by
  intro n
  induction n generalizing S with
  | zero =>
    intro hn
    have h0 : S.row = [] := List.length_eq_zero_iff.mp (by omega)
    exact ⟨ok, ⟨[], rfl, rfl⟩, pw, fun e r h => (by rw [show (S.scan D ds 0).1 = S from rfl, h0] at h; cases h), rfl, fun raises h => rfl⟩
  | succ n ih =>
    intro hn
    cases hr : S.row with
    | nil =>
      rw [scan_nil hr]
      exact ⟨ok, ⟨[], rfl, rfl⟩, pw, fun e r h => (by rw [show (S, ([] : List Int)).1 = S from rfl, hr] at h; cases h), rfl, fun raises h => rfl⟩
    | cons e r =>
      cases hf : fitsB D ds S.keeps e.1 e.2.1 with
      | false =>
        rw [scan_stop hr _ hf]
        refine ⟨ok, ⟨[], rfl, rfl⟩, pw, fun e' r' h => ?_, rfl, fun raises h => rfl⟩
        have h : S.row = e' :: r' := h
        rw [hr] at h
        cases h
        exact hf
      | true =>
        rw [scan_succ hr _ hf]
        have hrow := pop1_row ok hr
        have hsub : ∀ x ∈ (pop1 S e).row, x ∈ S.row ∧ x.1 ≠ e.1 := fun x hx => by
          rw [hrow] at hx
          exact ⟨by rw [hr]; exact List.mem_cons_of_mem _ hx, head_ne ok hr hx⟩
        have R := ih (S := pop1 S e) (fun x hx => hs x (hsub x hx).1) (fun x hx x' hx' => ho x (hsub x hx).1 x' (hsub x' hx').1) (pop1_ok ok hr)
          (pw.of (by rw [hrow, hr]; exact List.sublist_cons_self ..) fun x hx => by rw [pop1_keeps ok hr (hsub x hx).2]) (by rw [hrow]; rw [hr, List.length_cons] at hn; omega)
        obtain ⟨pre, h1, h2⟩ := R.rows
        refine ⟨R.ok, ⟨e :: pre, ?_, by rw [h2]; rfl⟩, R.pw, R.nf, R.turn, fun raises hra => ?_⟩
        · rw [hrow] at h1
          rw [hr, h1]
          rfl
        · rw [R.cnt raises fun x hx => by rw [pop1_keeps ok hr (hsub x hx).2]; exact hra x (hsub x hx).1, pop1_skips ok hr hs ho, ← hra e (by rw [hr]; simp)]
          rfl
end
/-! ### a deed -/
section
variable {D : TD Str} {ds : List Int} {S : LS} {af : Int → Option Int} {tn : Int}
theorem fitsB_false {keeps : Int → Option Str} {d : Int} {g : Str} : fitsB D ds keeps d g = false ↔ ∃ o ∈ ds, o ≠ d ∧ ∃ m, keeps o = some m ∧ D.near g m = false := by
  unfold fitsB
  rw [List.all_eq_false]
  constructor
  · rintro ⟨o, ho, h⟩
    refine ⟨o, ho, ?_⟩
    cases hk : keeps o with
    | none => rw [hk] at h; simp at h
    | some m =>
      rw [hk] at h
      simp at h
      exact ⟨h.1, m, rfl, h.2⟩
  · rintro ⟨o, ho, h1, m, hm, hn⟩
    refine ⟨o, ho, ?_⟩
    rw [hm]
    simp [h1, hn]
/-- the three ends of an ask -/
inductive AskR (D : TD Str) (ds : List Int) (S : LS) (d : Int) : LS × Str → Prop
  | same (h : Str) (hk : S.keeps d = some h) : AskR D ds S d (S, "held")
  | held (g : Str) (hg : g ∈ D.order) (hd : (S.keeps d).isSome = true ∨ S.row = []) (hh : ∀ h, S.keeps d = some h → g ≠ h ∧ D.bears g h = true) : AskR D ds S d (({ S with turn := S.turn + 1 } : LS).grant d g (S.turn + 1), "held")
  | waits (g : Str) (hg : g ∈ D.order) (hf : fitsB D ds S.keeps d g = false ∨ (S.keeps d = none ∧ S.row ≠ [])) : AskR D ds S d (S.insAt (if (S.keeps d).isSome then S.rais.length else S.row.length) (d, g, S.turn + 1), "waits")
theorem ask_ends (ok : LOk D ds S) {d : Int} {m : Str} (hm : m ∈ D.order) (hjn : ∀ a ∈ D.order, ∀ b ∈ D.order, ∃ j, D.joined a b = some j) : AskR D ds S d (S.ask D ds d m) := by
  have core : ∀ g, g ∈ D.order → (∀ h, S.keeps d = some h → g ≠ h ∧ D.bears g h = true) → AskR D ds S d (askRes D ds S d g) := by
    intro g hg hh
    unfold askRes
    by_cases hc : (fitsB D ds S.keeps d g && ((S.keeps d).isSome || decide (S.row = []))) = true
    · rw [if_pos hc]
      rw [Bool.and_eq_true, Bool.or_eq_true, decide_eq_true_eq] at hc
      exact .held g hg hc.2 hh
    · rw [if_neg hc]
      refine .waits g hg ?_
      rw [Bool.and_eq_true, Bool.or_eq_true, decide_eq_true_eq, Classical.not_and_iff_not_or_not] at hc
      rcases hc with h | h
      · exact .inl (by simpa using h)
      · rw [not_or] at h
        exact .inr ⟨by cases e : S.keeps d with
          | none => rfl
          | some x => rw [e] at h; exact absurd rfl h.1, h.2⟩
  cases hk : S.keeps d with
  | none =>
    rw [ask_none hk]
    exact core m hm fun h hh => by rw [hk] at hh; cases hh
  | some h =>
    have hh := (ok.kin d h hk).2
    obtain ⟨g, hg⟩ := hjn h hh m hm
    rw [ask_some hk hg]
    have hj := TD.joined_in hg hh hm
    by_cases q : g = h
    · rw [if_pos q]
      exact .same h hk
    · rw [if_neg q]
      exact core g hj.1 fun h' hh' => by
        rw [hk] at hh'
        cases hh'
        exact ⟨q, hj.2⟩
/-- what is granted, as the law tells it -/
def grA (S S' : LS) (d : Int) (told : Str) : List (Int × Bool) := if told = "held" ∧ S'.keeps d ≠ S.keeps d then [(d, (S.keeps d).isSome)] else []
def grL (S : LS) (fs : List Int) : List (Int × Bool) := fs.map fun d => (d, (S.keeps d).isSome)
structure AskOk (D : TD Str) (ds : List Int) (S : LS) (af : Int → Option Int) (tn : Int) (d : Int) (S' : LS) (told : Str) : Prop where
  inv : Inv D ds S' (put af d (some tn)) (tn + 1)
  word : told = "held" ∨ told = "waits"
  held : told = "held" → S'.row = S.row ∧ (S'.keeps d).isSome = true ∧ ((S.keeps d).isSome = true ∨ S.row = [])
  waits : told = "waits" → S'.keeps = S.keeps ∧ S'.row.map (·.1) = (S.row.map (·.1)).take (if (S.keeps d).isSome then S.rais.length else S.row.length) ++ [d] ++ (S.row.map (·.1)).drop (if (S.keeps d).isSome then S.rais.length else S.row.length)
  cnt : fin (cntAll (put af d (some tn)) S.skips (grA S S' d told)) S'.row = S'.skips
theorem Inv.later (h : Inv D ds S af tn) {d : Int} (hd : d ∉ S.row.map (·.1)) : (∀ e ∈ S.row, ∃ a, put af d (some tn) e.1 = some a ∧ a < tn + 1) ∧ ∀ e ∈ S.row, ∀ e' ∈ S.row, ∀ a a', put af d (some tn) e.1 = some a → put af d (some tn) e'.1 = some a' → (e.2.2 < e'.2.2 ↔ a < a') := by
  have ne : ∀ e ∈ S.row, e.1 ≠ d := fun e he z => hd (by rw [← z]; exact List.mem_map.mpr ⟨e, he, rfl⟩)
  refine ⟨fun e he => ?_, fun e he e' he' a a' ha ha' => ?_⟩
  · obtain ⟨a, h1, h2⟩ := h.as e he
    exact ⟨a, by rw [put_ne (ne e he)]; exact h1, by omega⟩
  · rw [put_ne (ne e he)] at ha
    rw [put_ne (ne e' he')] at ha'
    exact h.ord e he e' he' a a' ha ha'
theorem ask_right (h : Inv D ds S af tn) {d : Int} {m : Str} (hd : d ∈ ds) (hm : m ∈ D.order) (hdr : d ∉ S.row.map (·.1)) (hjn : ∀ a ∈ D.order, ∀ b ∈ D.order, ∃ j, D.joined a b = some j) : AskOk D ds S af tn d (S.ask D ds d m).1 (S.ask D ds d m).2 := by
  have hA := ask_ends h.ok (d := d) hm hjn
  have lat := h.later hdr
  have ne : ∀ e ∈ S.row, e.1 ≠ d := fun e he z => hdr (by rw [← z]; exact List.mem_map.mpr ⟨e, he, rfl⟩)
  have hsd : S.skips d = none := by
    cases e : S.skips d with
    | none => rfl
    | some n => exact absurd ((h.ok.sk d).mp (by rw [e]; rfl)) hdr
  generalize S.ask D ds d m = r at hA
  cases hA with
  | same h0 hk =>
    refine ⟨⟨h.ok, h.pw, h.nf, h.tk, lat.1, lat.2⟩, .inl rfl, fun _ => ⟨rfl, by rw [hk]; rfl, .inl (by rw [hk]; rfl)⟩, fun z => absurd (show ("held" : Str) = "waits" from z) (by decide), ?_⟩
    have : grA S S d "held" = [] := if_neg fun z => z.2 rfl
    show fin (cntAll _ S.skips (grA S S d "held")) S.row = S.skips
    rw [this]
    exact fin_id h.ok
  | held g hg hd0 hh =>
    have ok' : LOk D ds (({ S with turn := S.turn + 1 } : LS).grant d g (S.turn + 1)) := LOk.grant (S := { S with turn := S.turn + 1 }) ⟨h.ok.kin, h.ok.rin, h.ok.nd, h.ok.sk⟩ hd hg
    refine ⟨⟨ok', h.pw.of (List.Sublist.refl _) fun e he => ?_, fun e r her => ?_, fun e he => ?_, lat.1, lat.2⟩, .inl rfl, fun _ => ⟨rfl, ?_, hd0⟩, fun z => absurd (show ("held" : Str) = "waits" from z) (by decide), ?_⟩
    · show (put S.keeps d (some g) e.1).isSome = _
      rw [put_ne (ne e he)]
    · have her : S.row = e :: r := her
      have hem : e ∈ S.row := by rw [her]; simp
      have hnf := h.nf e r her
      rw [fitsB_false] at hnf ⊢
      obtain ⟨o, ho, hoe, mo, hmo, hn⟩ := hnf
      refine ⟨o, ho, hoe, ?_⟩
      by_cases hod : o = d
      · refine ⟨g, ?_, ?_⟩
        · show put S.keeps d (some g) o = some g
          rw [hod, put_same]
        · rw [hod] at hmo
          cases hng : D.near e.2.1 g with
          | false => rfl
          | true =>
            have := TD.bears_near (hh mo hmo).2 (h.ok.rin e hem).2 (by rw [TD.near_symm]; exact hng)
            rw [TD.near_symm, hn] at this
            cases this
      · refine ⟨mo, ?_, hn⟩
        show put S.keeps d (some g) o = some mo
        rw [put_ne hod]; exact hmo
    · have := h.tk e he
      show e.2.2 ≤ S.turn + 1
      omega
    · show (put S.keeps d (some g) d).isSome = true
      rw [put_same]; rfl
    · have hkd : (({ S with turn := S.turn + 1 } : LS).grant d g (S.turn + 1)).keeps d = some g := put_same
      have hgr : grA S (({ S with turn := S.turn + 1 } : LS).grant d g (S.turn + 1)) d "held" = [(d, (S.keeps d).isSome)] := if_pos ⟨rfl, fun z => by
        rw [hkd] at z
        exact (hh g z.symm).1 rfl⟩
      show fin (cntAll _ S.skips (grA S (({ S with turn := S.turn + 1 } : LS).grant d g (S.turn + 1)) d "held")) S.row = if (S.keeps d).isSome then bump S.row (S.turn + 1) S.skips else S.skips
      rw [hgr]
      funext i
      unfold fin
      by_cases hi : i ∈ S.row.map (·.1)
      · rw [if_pos hi]
        obtain ⟨e, he, rfl⟩ := List.mem_map.mp hi
        obtain ⟨n, hn⟩ := Option.isSome_iff_exists.mp ((h.ok.sk e.1).mpr hi)
        obtain ⟨a, ha, hlt⟩ := h.as e he
        show some ((cnt1 (put af d (some tn)) S.skips (d, (S.keeps d).isSome) e.1).getD 0) = _
        have hc : cnt1 (put af d (some tn)) S.skips (d, (S.keeps d).isSome) e.1 = if (S.keeps d).isSome = true then some (n + 1) else some n := by
          unfold cnt1
          show (if e.1 = d then none else if ((S.keeps d).isSome && ltO (put af d (some tn) e.1) (put af d (some tn) d)) = true then (S.skips e.1).map (· + 1) else S.skips e.1) = _
          rw [if_neg (ne e he), put_ne (ne e he), put_same, ha, hn]
          show (if ((S.keeps d).isSome && decide (a < tn)) = true then _ else _) = _
          rw [decide_eq_true hlt, Bool.and_true]
          rfl
        rw [hc]
        cases hk : (S.keeps d).isSome with
        | true =>
          rw [if_pos rfl, if_pos rfl, bump_at h.ok.nd he hn, if_pos (by have := h.tk e he; omega)]
          rfl
        | false =>
          rw [if_neg (by decide), if_neg (by decide), hn]
          rfl
      · rw [if_neg hi]
        have hn : S.skips i = none := by
          cases e : S.skips i with
          | none => rfl
          | some n => exact absurd ((h.ok.sk i).mp (by rw [e]; rfl)) hi
        split
        · rw [bump_not hi, hn]
        · exact hn.symm
  | waits g hg hf =>
    have hrow : (S.insAt (if (S.keeps d).isSome then S.rais.length else S.row.length) (d, g, S.turn + 1)).row = S.row.take (if (S.keeps d).isSome then S.rais.length else S.row.length) ++ [(d, g, S.turn + 1)] ++ S.row.drop (if (S.keeps d).isSome then S.rais.length else S.row.length) := rfl
    have ok' : LOk D ds (S.insAt (if (S.keeps d).isSome then S.rais.length else S.row.length) (d, g, S.turn + 1)) := h.ok.insAt hd hg hdr
    have hpart : S.row = S.rais ++ S.row.filter fun e => !(S.keeps e.1).isSome := h.pw.part
    have hmem : ∀ x, x ∈ S.row.take (if (S.keeps d).isSome then S.rais.length else S.row.length) ++ [(d, g, S.turn + 1)] ++ S.row.drop (if (S.keeps d).isSome then S.rais.length else S.row.length) → x = (d, g, S.turn + 1) ∨ x ∈ S.row := fun x hx => by
      rw [List.append_assoc, List.mem_append, List.mem_append, List.mem_singleton] at hx
      rcases hx with q | q | q
      · exact .inr (List.mem_of_mem_take q)
      · exact .inl q
      · exact .inr (List.mem_of_mem_drop q)
    refine ⟨⟨ok', ?_, fun e r her => ?_, fun e he => ?_, fun e he => ?_, fun e he e' he' a a' ha ha' => ?_⟩, .inr rfl, fun z => absurd (show ("waits" : Str) = "held" from z) (by decide), fun _ => ⟨rfl, ?_⟩, ?_⟩
    · -- raisings first
      show List.Pairwise (fun a b => (S.keeps b.1).isSome = true → (S.keeps a.1).isSome = true) (S.row.take _ ++ [(d, g, S.turn + 1)] ++ S.row.drop _)
      cases hk : (S.keeps d).isSome with
      | true =>
        rw [if_pos rfl]
        have ht : S.row.take S.rais.length = S.rais := by
          conv => lhs; rw [hpart]
          rw [List.take_left]
        have hdr' : S.row.drop S.rais.length = S.row.filter fun e => !(S.keeps e.1).isSome := by
          conv => lhs; rw [hpart]
          rw [List.drop_left]
        rw [ht, hdr', List.append_assoc, List.pairwise_append]
        have hra : ∀ a ∈ S.rais, (S.keeps a.1).isSome = true := fun a ha => (List.mem_filter.mp ha).2
        refine ⟨h.pw.sublist List.filter_sublist, ?_, fun a ha b hb _ => hra a ha⟩
        rw [List.singleton_append, List.pairwise_cons]
        exact ⟨fun b hb _ => hk, h.pw.sublist List.filter_sublist⟩
      | false =>
        rw [if_neg (by decide), List.take_of_length_le (Nat.le_refl _), List.drop_of_length_le (Nat.le_refl _), List.append_nil, List.pairwise_append]
        refine ⟨h.pw, List.pairwise_singleton _ _, fun a ha b hb z => ?_⟩
        rw [List.mem_singleton.mp hb] at z
        have z : (S.keeps d).isSome = true := z
        rw [hk] at z
        cases z
    · -- the first doesn't fit
      show fitsB D ds S.keeps e.1 e.2.1 = false
      rw [hrow] at her
      cases ht : S.row.take (if (S.keeps d).isSome then S.rais.length else S.row.length) with
      | nil =>
        rw [ht] at her
        have he : (d, g, S.turn + 1) = e := by
          rw [List.nil_append, List.singleton_append] at her
          injection her
        rw [← he]
        rcases hf with q | ⟨q1, q2⟩
        · exact q
        · rw [q1] at ht
          have ht : S.row.take S.row.length = [] := ht
          rw [List.take_length] at ht
          exact absurd ht q2
      | cons y ys =>
        rw [ht] at her
        have he : y = e := by
          rw [List.append_assoc, List.cons_append] at her
          injection her
        have hrow2 : S.row = y :: (ys ++ S.row.drop (if (S.keeps d).isSome then S.rais.length else S.row.length)) := by
          conv => lhs; rw [← List.take_append_drop (if (S.keeps d).isSome then S.rais.length else S.row.length) S.row, ht]
          rfl
        rw [← he]
        exact h.nf _ _ hrow2
    · show e.2.2 ≤ S.turn + 1
      rcases hmem e he with rfl | q
      · exact Int.le_refl _
      · have := h.tk e q
        omega
    · rcases hmem e he with rfl | q
      · exact ⟨tn, put_same, by omega⟩
      · exact lat.1 e q
    · rcases hmem e he with rfl | q
      · have ha : put af d (some tn) d = some a := ha
        rw [put_same] at ha
        cases ha
        rcases hmem e' he' with rfl | q'
        · have ha' : put af d (some tn) d = some a' := ha'
          rw [put_same] at ha'
          cases ha'
          show S.turn + 1 < S.turn + 1 ↔ _
          omega
        · rw [put_ne (ne e' q')] at ha'
          obtain ⟨b, hb, hlt⟩ := h.as e' q'
          rw [hb] at ha'
          cases ha'
          have := h.tk e' q'
          show S.turn + 1 < e'.2.2 ↔ tn < a'
          omega
      · rcases hmem e' he' with rfl | q'
        · have ha' : put af d (some tn) d = some a' := ha'
          rw [put_same] at ha'
          cases ha'
          rw [put_ne (ne e q)] at ha
          obtain ⟨b, hb, hlt⟩ := h.as e q
          rw [hb] at ha
          cases ha
          have := h.tk e q
          show e.2.2 < S.turn + 1 ↔ a < tn
          omega
        · exact lat.2 e q e' q' a a' ha ha'
    · rw [hrow]
      rw [List.map_append, List.map_append, List.map_take, List.map_drop]
      rfl
    · have hgr : grA S (S.insAt (if (S.keeps d).isSome then S.rais.length else S.row.length) (d, g, S.turn + 1)) d "waits" = [] := if_neg fun z => absurd z.1 (by decide)
      rw [hgr]
      show fin S.skips (S.insAt (if (S.keeps d).isSome then S.rais.length else S.row.length) (d, g, S.turn + 1)).row = put S.skips d (some 0)
      funext i
      unfold fin
      have hsk := ok'.sk i
      have hsk : (put S.skips d (some 0) i).isSome = true ↔ i ∈ (S.insAt (if (S.keeps d).isSome then S.rais.length else S.row.length) (d, g, S.turn + 1)).row.map (·.1) := hsk
      by_cases hi : i ∈ (S.insAt (if (S.keeps d).isSome then S.rais.length else S.row.length) (d, g, S.turn + 1)).row.map (·.1)
      · rw [if_pos hi]
        have h2 := hsk.mpr hi
        by_cases z : i = d
        · rw [z, put_same, hsd]; rfl
        · rw [put_ne z] at h2 ⊢
          obtain ⟨n, hn⟩ := Option.isSome_iff_exists.mp h2
          rw [hn]; rfl
      · rw [if_neg hi]
        cases e : put S.skips d (some 0) i with
        | none => rfl
        | some n => exact absurd (hsk.mp (by rw [e]; rfl)) hi
/-- a deed that is no ask -/
structure LessOk (D : TD Str) (ds : List Int) (S : LS) (af : Int → Option Int) (tn : Int) (d : Int) (S' : LS) (fs : List Int) : Prop where
  inv : Inv D ds S' af (tn + 1)
  told : fs = ((S.row.map (·.1)).filter fun i => !decide (i = d)).take fs.length
  left : S'.row.map (·.1) = ((S.row.map (·.1)).filter fun i => !decide (i = d)).drop fs.length
  sub : ∀ i ∈ fs, i ∈ S.row.map (·.1)
  cnt : fin (cntAll af (put S.skips d none) (grL S fs)) S'.row = S'.skips
theorem less_right (h : Inv D ds S af tn) {S1 : LS} {d : Int} (ok1 : LOk D ds S1) (h1 : S1.row = noW S.row d) (h2 : S1.skips = put S.skips d none) (h3 : ∀ e ∈ S1.row, S1.keeps e.1 = S.keeps e.1 ∨ ((S1.keeps e.1).isSome = true ∧ (S.keeps e.1).isSome = true)) (h4 : S1.turn = S.turn) : LessOk D ds S af tn d (S1.scanAll D ds).1 (S1.scanAll D ds).2 := by
  have hsub : ∀ x ∈ S1.row, x ∈ S.row := fun x hx => by
    rw [h1] at hx
    exact (noW_mem.mp hx).1
  have hks : ∀ e ∈ S1.row, (S1.keeps e.1).isSome = (S.keeps e.1).isSome := fun e he => by
    rcases h3 e he with q | q
    · rw [q]
    · rw [q.1, q.2]
  have R := scan_right (af := af) (fun x hx => by obtain ⟨a, ha, _⟩ := h.as x (hsub x hx); exact ⟨a, ha⟩) (fun x hx x' hx' => h.ord x (hsub x hx) x' (hsub x' hx')) ok1 (h.pw.of (by rw [h1]; exact List.filter_sublist) hks) S1.row.length (Nat.le_refl _)
  have hsc : S1.scanAll D ds = S1.scan D ds S1.row.length := rfl
  rw [← hsc] at R
  generalize S1.scanAll D ds = r at R
  obtain ⟨S', fs⟩ := r
  obtain ⟨pre, hp, hfs⟩ := R.rows
  have hp : S1.row = pre ++ S'.row := hp
  have hfs : fs = pre.map (·.1) := hfs
  have hsub' : ∀ x ∈ S'.row, x ∈ S.row := fun x hx => hsub x (by rw [hp]; exact List.mem_append_right _ hx)
  have hleft : (S.row.map (·.1)).filter (fun i => !decide (i = d)) = fs ++ S'.row.map (·.1) := by
    have : (S.row.map (·.1)).filter (fun i => !decide (i = d)) = (noW S.row d).map (·.1) := by
      unfold noW
      rw [List.filter_map]
      congr 1
      refine List.filter_congr fun e he => ?_
      show (!decide (e.1 = d)) = decide (e.1 ≠ d)
      by_cases z : e.1 = d <;> simp [z]
    rw [this, ← h1, hp, List.map_append, hfs]
  refine ⟨⟨R.ok, R.pw, R.nf, fun e he => ?_, fun e he => ?_, fun e he e' he' => h.ord e (hsub' e he) e' (hsub' e' he')⟩, ?_, ?_, fun i hi => ?_, ?_⟩
  · have := h.tk e (hsub' e he)
    have ht : S'.turn = S1.turn := R.turn
    show e.2.2 ≤ S'.turn
    omega
  · obtain ⟨a, ha, hlt⟩ := h.as e (hsub' e he)
    exact ⟨a, ha, by omega⟩
  · show fs = _
    rw [hleft, List.take_left]
  · show S'.row.map (·.1) = List.drop fs.length _
    rw [hleft, List.drop_left]
  · have hi : i ∈ fs := hi
    rw [hfs] at hi
    obtain ⟨e, he, rfl⟩ := List.mem_map.mp hi
    exact List.mem_map.mpr ⟨e, hsub e (by rw [hp]; exact List.mem_append_left _ he), rfl⟩
  · have hc := R.cnt (fun i => (S.keeps i).isSome) fun x hx => (hks x hx).symm
    have hc : S'.skips = cntAll af S1.skips (grL S fs) := hc
    show fin (cntAll af (put S.skips d none) (grL S fs)) S'.row = S'.skips
    rw [← h2, ← hc]
    exact fin_id R.ok
end
end HT
set_option Elab.async false
set_option linter.all false
set_option maxRecDepth 100000
set_option maxHeartbeats 4000000
/-! the law's looks at a line: row_right, ask_right -/
namespace HT
open PySem PySem.Spec PyProof.Rows L2 Evl LamX
theorem cut_to {xs : List V} {n : Nat} : cutV xs none (some (n : Int)) = xs.take n := by
  unfold cutV
  rw [sIx_nat, sIx_none, List.drop_zero, Nat.sub_zero]
  by_cases h : n ≤ xs.length
  · rw [Nat.min_eq_left h]
  · rw [Nat.min_eq_right (by omega), List.take_of_length_le (Nat.le_refl _), List.take_of_length_le (by omega)]
theorem cut_from {xs : List V} {n : Nat} : cutV xs (some (n : Int)) none = xs.drop n := by
  unfold cutV
  rw [sIx_nat, sIx_none]
  by_cases h : n ≤ xs.length
  · rw [Nat.min_eq_left h, List.take_of_length_le (by rw [List.length_drop]; omega)]
  · rw [Nat.min_eq_right (by omega), Nat.sub_self, List.take_zero, List.drop_eq_nil_of_le (by omega)]
def kdG : Kd (Int × Str) := kdT fun e => [.int e.1, .str e.2]
def entG (e : Ent) : Int × Str := (e.1, e.2.1)
theorem kdE_G {H : Hp} : ∀ {rows : List Ent} {xs : List V}, kdE.L rows xs H → kdG.L (rows.map entG) xs H
  | [], [], .nil => .nil
  | _ :: _, _ :: _, .cons h t => .cons h (kdE_G t)
section
variable {P : Program} {w : World} {K : PySem.W.Frag} {mg : Str → Option Value} {base : Heap} {C Dc Pt : Addr} {f : Addr} {fd : FuncData} {Z H H' : Hp} {L : LA} {σ : L2.St} {ta tb te tl tc : TE} {tA : TA} {E : Ends} {tz tu tw : TS} {g : TG} {D : TD Str} {ds : List Int} {S : LS}
def cmpG : Cmp K kdG := ⟨fun p => .tuple [.int p.1, .str p.2], fun a b => by
  rw [PyData.eqv, PyData.eqvAll, PyData.eqvAll, PyData.eqvAll, PyData.eqv, PyData.eqv]
  refine Bool.eq_iff_iff.mpr ?_
  obtain ⟨a1, a2⟩ := a
  obtain ⟨b1, b2⟩ := b
  simp, fun b v H h => by
  obtain ⟨p, rfl, h2⟩ := h
  exact .tup (SqT.of h2) (.cons (.int _) (.cons (.str _) .nil))⟩
theorem lowG {p : Int × Str} (h : PyData.strOk p.2 = true) : lowD (.tuple [.int p.1, .str p.2]) = true := low_tup fun d hd => by
  simp only [List.mem_cons, List.not_mem_nil, or_false] at hd
  rcases hd with rfl | rfl
  · exact lay_int _
  · exact lay_str h
theorem LstK.ls {β : Type} {k : Kd β} {bs : List β} {v : V} (h : LstK k bs v H) : LsP K k bs v H := by
  obtain ⟨p, ys, h1, h2, h3⟩ := h
  exact ⟨p, ys, h1, SqL.of h2, h3⟩
theorem ls_lk {β : Type} {k : Kd β} {bs : List β} (h : EvP te σ H fun _ v H2 => LstK k bs v H2) : EvP te σ H fun _ v H2 => LsP K k bs v H2 := h.imp fun _ _ _ _ _ q => q.ls
theorem lk_ints {ns : List Int} {p : Addr} (h : Ev te σ H (.ref p)) (hp : H p = some (.lst (ns.map V.int))) : EvP te σ H fun _ v H2 => LstK (kdV V.int) ns v H2 := lk_var h ⟨p, _, rfl, hp, kdV_of⟩
theorem lk_take {β : Type} {k : Kd β} {bs : List β} {th : TO} {n : Nat} (h : EvP te σ H fun _ v H2 => LstK k bs v H2) (h2 : ∀ H1, Ex H H1 → EvO th σ H1 (some (n : Int))) : EvP (tSl (rSlL K) te tNoPart th) σ H (NewL k (bs.take n)) := fun H1 e1 Q q =>
  h H1 e1 _ fun v H2 e2 ⟨p, ys, hv, hp, hk⟩ => by
    subst hv
    have := el_sl (K := K) (te := tC (.ref p)) (tl := tNoPart) (th := th) (σ := σ) (H := H2) (lo := none) (hi := some (n : Int)) ev_c eo_none (h2 H2 (e1.trans e2)) (SqL.of hp)
    rw [cut_to] at this
    exact this H2 (Ex.refl _) _ fun r H3 hn e3 hr => q _ H3 (e2.trans e3) ⟨r, _, rfl, fresh_back e2 hn, hr, pair_take n (k.L_ex e3 hk)⟩
theorem lk_drop {β : Type} {k : Kd β} {bs : List β} {th : TO} {n : Nat} (h : EvP te σ H fun _ v H2 => LstK k bs v H2) (h2 : ∀ H1, Ex H H1 → EvO th σ H1 (some (n : Int))) : EvP (tSl (rSlL K) te th tNoPart) σ H (NewL k (bs.drop n)) := fun H1 e1 Q q =>
  h H1 e1 _ fun v H2 e2 ⟨p, ys, hv, hp, hk⟩ => by
    subst hv
    have := el_sl (K := K) (te := tC (.ref p)) (tl := th) (th := tNoPart) (σ := σ) (H := H2) (lo := some (n : Int)) (hi := none) ev_c (h2 H2 (e1.trans e2)) eo_none (SqL.of hp)
    rw [cut_from] at this
    exact this H2 (Ex.refl _) _ fun r H3 hn e3 hr => q _ H3 (e2.trans e3) ⟨r, _, rfl, fresh_back e2 hn, hr, pair_drop n (k.L_ex e3 hk)⟩
theorem q_forK {β : Type} {k : Kd β} {bs : List β} (h : EvP tl σ H fun _ v H2 => LstK k bs v H2) (kk : ∀ p xs H1, Ex H H1 → H1 p = some (.lst xs) → k.L bs xs H1 → ∃ Pv : Nat → L2.St → Hp → Prop, Pv 0 σ H1 ∧ (∀ i σ' H', i ≤ xs.length → Pv i σ' H' → SqL K H' p xs) ∧ (∀ i x σ' H', xs[i]? = some x → Pv i σ' H' → g x σ' H' fun σ2 H2 => tu { E with nx := Pv (i + 1), ct := Pv (i + 1), bk := tz E } σ2 H2) ∧ (∀ σ' H', Pv xs.length σ' H' → tz E σ' H')) : tSeq (tFor (iList K tl) g tu) tz E σ H :=
  h H (Ex.refl H) _ fun v H1 e ⟨p, xs, hv, hp, hk⟩ => ⟨p, hv, ⟨xs, SqL.of hp⟩, by
    obtain ⟨Pv, a, b, c, d⟩ := kk p xs H1 e hp hk
    exact for_list Pv a b c d⟩
theorem q_pass {t1 : TS} (h : ∀ N : L2.St → Hp → Prop, (∀ H2, Ex H H2 → N σ H2) → t1 { E with nx := N } σ H) (k : ∀ H2, Ex H H2 → tz E σ H2) : tSeq t1 tz E σ H := h (tz E) k
theorem q_lockN {β : Type} {k : Kd β} {bs : List β} {i : Nat} (h : EvP (tLockE te) σ H (NewL k bs)) (kk : ∀ p ys H1, H p = none → Ex H H1 → H1 p = some (.lst ys) → k.L bs ys H1 → tz E (σ.set i (some (.ref p))) H1) : tSeq (tLock (tAsg te (gName i))) tz E σ H := by
  have := h H (Ex.refl _) (fun v H1 => tz E (σ.set i (some v)) H1) fun v H1 e1 ⟨p, ys, hv, hn, hp, hk⟩ => by
    subst hv
    exact kk p ys H1 hn e1 hp hk
  exact this
theorem ep_waiting (hv : Ev ta σ H (.ref L.ln)) (hL : LineAt C Dc D Z H L S) : EvP (tMeth Dc "waiting" (Hid fun D Z _ => spWaiting C Dc D Z) [] E0 ta tNil) σ H (NewL kdE S.row) :=
  ep_meth hv hL.at_ rfl ea_nil (fun H1 e1 Q q E => ⟨(D, Z, []), L, S, rfl, hL.ex e1, fun p xs H' hn e h k => q _ H' e ⟨p, xs, rfl, hn, h, k⟩⟩) (fun H1 H2 v H3 e h => h.back e)
def NewD (fn : FI) : Hp → V → Hp → Prop := fun H1 v H2 => ∃ p, v = .ref p ∧ H1 p = none ∧ DA H2 p fn
theorem ep_holders (hv : Ev ta σ H (.ref L.ln)) (hL : LineAt C Dc D Z H L S) (ok : LOk D ds S) (dok : DsOk ds) : EvP (tMeth Dc "holders" (Hid fun D Z ds => spHolders C Dc D Z ds) [] E0 ta tNil) σ H (NewD (fK S.keeps)) :=
  ep_meth hv hL.at_ rfl ea_nil (fun H1 e1 Q q E => ⟨(D, Z, ds), L, S, rfl, hL.ex e1, ok, dok, fun p H' hn e h => q _ H' e ⟨p, rfl, hn, h⟩⟩) (fun H1 H2 v H3 e ⟨p, h1, h2, h3⟩ => ⟨p, h1, fresh_back e h2, h3⟩)
theorem ev_held {d : Int} (hv : Ev ta σ H (.ref L.ln)) (hA : Ev tb σ H (.int d)) (hL : LineAt C Dc D Z H L S) (hd : 1 ≤ d) : Ev (tMeth Dc "held" (Hid fun D Z ds => spHeld C Dc D Z ds) [] E0 ta (tCons tb tNil)) σ H (optS (S.keeps d)) :=
  ev_meth hv hL.at_ rfl (ea_cons hA ea_nil) fun H1 e1 Q q E => ⟨(D, Z, []), L, S, d, rfl, hL.ex e1, hd, q⟩
theorem ev_passed {d : Int} (hv : Ev ta σ H (.ref L.ln)) (hA : Ev tb σ H (.int d)) (hL : LineAt C Dc D Z H L S) (hd : 1 ≤ d) : Ev (tMeth Dc "passed" (Hid fun D Z ds => spPassed C Dc D Z ds) [] E0 ta (tCons tb tNil)) σ H (.int ((S.skips d).getD 0)) :=
  ev_meth hv hL.at_ rfl (ea_cons hA ea_nil) fun H1 e1 Q q E => ⟨(D, Z, []), L, S, d, rfl, hL.ex e1, hd, q⟩
theorem Deed.two (x : Deed) : ∃ wd rest, x.vals = .str wd :: .int x.deal :: rest := by
  cases x <;> exact ⟨_, _, rfl⟩
def Deed.isAsk : Deed → Bool
  | .ask _ _ => true
  | _ => false
theorem Deed.wd (x : Deed) : ∃ wd, x.vals[0]? = some (.str wd) ∧ decide (wd = ("ask" : Str)) = x.isAsk := by
  cases x
  · exact ⟨"ask", rfl, decide_eq_true rfl⟩
  · exact ⟨"ease", rfl, decide_eq_false (by decide)⟩
  · exact ⟨"go", rfl, decide_eq_false (by decide)⟩
  · exact ⟨"cease", rfl, decide_eq_false (by decide)⟩
/-- whom a deed leaves of those who waited -/
def leftOf (rows : List Ent) (d : Int) : List Int := (rows.map (·.1)).filter fun i => !decide (i = d)
def spRowRight (C Dc : Addr) : Sp := fun vs H Q _ => ∃ (D : TD Str) (Z : Hp) (ds : List Int) (L : LA) (S : LS) (rows : List Ent) (x : Deed) (tb bl t : Addr) (xs : List V) (tv : V), vs = [.ref tb, .ref L.ln, .ref bl, .ref t, tv] ∧ (∃ j, TabJ C Z tb D j) ∧ H bl = some (.lst xs) ∧ kdE.L rows xs H ∧ rows.length ≤ 50 ∧ H t = some (.tup x.vals) ∧ LineAt C Dc D Z H L S ∧ LOk D ds S ∧ WFD D ∧ DsOk ds ∧
  (∀ e r, S.row = e :: r → fitsB D ds S.keeps e.1 e.2.1 = false) ∧ (x.isAsk = true ∨ ∃ p fs, tv = .ref p ∧ H p = some (.lst (fs.map V.int)) ∧ fs = (leftOf rows x.deal).take fs.length ∧ S.row.map (·.1) = (leftOf rows x.deal).drop fs.length) ∧
  ∀ H', Ex H H' → Q (.bl true) H'
theorem sc_law_row_right : FnScope ["_law_table_here", "_law_line", "_law_before", "_law_deed_here", "_law_told_here", "_law_left", "_law_holders", "_law_deal", "_law_goal", "_law_others", "_law_other"] ["_law_table_here", "_law_line", "_law_before", "_law_deed_here", "_law_told_here"] (defScope s_law_row_right) := ⟨rfl, rfl, rfl, by decide +kernel, rfl, by decide +kernel, by decide +kernel⟩
theorem ok_law_row_right (F : FnT K "_law_row_right" "_law_row_right" s_law_row_right [] [] f fd) (T : Txt K mg C Dc) (M_Line_waiting : AXwaiting P w K mg base C Dc) (M_Line_holders : AXholders P w K mg base C Dc) (M_Table_beside : AMt2 P w K mg base C "beside" 3 ansBeside) : FnOk P w K mg base CX0 4 f fd ["_law_table_here", "_law_line", "_law_before", "_law_deed_here", "_law_told_here"] (spRowRight C Dc) := by
  refine F.ok sc_law_row_right (fun vs H Q E ⟨_, _, _, _, _, _, _, _, _, _, _, _, h, _⟩ => by rw [h]; rfl) (fun cdv A outer s H vs Q E hr ⟨D, Z, ds, L, S, rows, x, tb, bl, t, xs, tv, hv, ⟨j0, hj0⟩, hbl, hxs, hrl, ht, hL, ok, wf, dok, hnf, htold, q⟩ => ⟨_, PSs.nox (pss_cons (ps_setLc (i := 5) (own := [("_law_deal", 7), ("_law_goal", 8)]) rfl sc_law_row_right.nd rfl rfl (sw_true rfl rfl rfl (by rfl)) (pi_listK K rfl (pv 2)) (blkOk_by (by rfl)) (fun _ _ _ _ _ => (pg_tupK (n := 2) K rfl rfl (pgs_cons (pg_name (i := 7) sc_law_row_right.nd rfl (by first | exact Or.inl rfl | exact Or.inr rfl)) (pgs_cons (pg_name (i := 8) sc_law_row_right.nd rfl (by first | exact Or.inl rfl | exact Or.inr rfl)) pgs_nil)))) (fun _ _ _ _ _ => (pts_one (pt_cmpR op_ne (pv 7) (pe_ix (ix_tupK K rfl) (pv 3) pe_int (fun _ _ => rfl)) (nomark _)))) (fun _ _ _ _ _ => (pv 7)))
    (pss_cons (ps_if (pt_cmpR op_ne (pe_ix (ix_tupK K rfl) (pv 3) pe_int (fun _ _ => rfl)) pe_str (nomark _)) (pss_one (ps_if (PW.pt (pw_or (pt_cmpR (op_neDK K rfl hr.units) (pv 4) (pe_slice (sl_listK K rfl) (pv 5) po_none (po_some (pe_callB (call_len_seqK K rfl) (by rfl) T.fLen boot_len (pa_cons (pv 4) pa_nil)))) (nomark _)) (pw_or1 (pt_cmpR (op_neDK K rfl hr.units) (pe_lc (own := [("_law_deal", 7), ("_law_goal", 8)]) rfl sc_law_row_right.nd (pi_listK K rfl (pe_methG0 M_Line_waiting T.clD hr (by decide) (pv 1))) (blkOk_by (by rfl)) (fun _ _ _ _ _ => (pg_tupK (n := 2) K rfl rfl (pgs_cons (pg_name (i := 7) sc_law_row_right.nd rfl (by first | exact Or.inl rfl | exact Or.inr rfl)) (pgs_cons (pg_name (i := 8) sc_law_row_right.nd rfl (by first | exact Or.inl rfl | exact Or.inr rfl)) pgs_nil)))) (fun _ _ _ _ _ => pts_nil) (fun _ _ _ _ _ => (pv 7))) (pe_slice (sl_listK K rfl) (pv 5) (po_some (pe_callB (call_len_seqK K rfl) (by rfl) T.fLen boot_len (pa_cons (pv 4) pa_nil))) po_none) (nomark _))))) (pss_one (ps_ret pe_bl)) pss_nil)) pss_nil)
    (pss_cons (ps_set (i := 6) sc_law_row_right.nd rfl (Or.inr rfl) (pe_methG0 M_Line_holders T.clD hr (by decide) (pv 1)))
    (pss_cons (ps_for PassesOwn.never rfl (pi_listK K rfl (pe_slice (sl_listK K rfl) (pe_methG0 M_Line_waiting T.clD hr (by decide) (pv 1)) po_none (po_some pe_int))) (pg_tupK (n := 2) K rfl rfl (pgs_cons (pg_name (i := 7) sc_law_row_right.nd rfl (by first | exact Or.inl rfl | exact Or.inr rfl)) (pgs_cons (pg_name (i := 8) sc_law_row_right.nd rfl (by first | exact Or.inl rfl | exact Or.inr rfl)) pgs_nil))) (pss_cons (ps_lock (ps_setLc (i := 9) (own := [("_law_other", 10)]) rfl sc_law_row_right.nd rfl rfl (sw_true rfl rfl rfl (by rfl)) (pi_keys (pv 6)) (blkOk_by (by rfl)) (fun _ _ _ _ _ => (pg_name (i := 10) sc_law_row_right.nd rfl (by first | exact Or.inl rfl | exact Or.inr rfl))) (fun _ _ _ _ _ => (pts_one (pt_cmpR op_ne (pv 10) (pv 7) (nomark _)))) (fun _ _ _ _ _ => (pv 10))))
      (pss_one (ps_ret (pe_cmpR (op_neDK K rfl hr.units) (pe_lc (own := [("_law_other", 10)]) rfl sc_law_row_right.nd (pi_listK K rfl (pv 9)) (blkOk_by (by rfl)) (fun _ _ _ _ _ => (pg_name (i := 10) sc_law_row_right.nd rfl (by first | exact Or.inl rfl | exact Or.inr rfl))) (fun _ _ _ _ _ => (pts_one (pt_not (pt_val (pe_methG M_Table_beside T.clC hr (by decide) (pv 0) (pa_cons (pv 8) (pa_cons (pe_dget (hu_of hr) (pv 6) (pv 10) (fun _ _ => rfl)) pa_nil))))))) (fun _ _ _ _ _ => (pv 10))) (pe_lst pa_nil) (nomark _))))))
    (pss_one (ps_ret pe_bl)))))), ?_⟩)
  subst hv
  obtain ⟨wd0, rest0, hx0⟩ := x.two
  obtain ⟨wd, hw1, hw2⟩ := x.wd
  have ixe : ∀ {σ : L2.St} {H1 : Hp} {i : Nat} {v : V}, Ex H H1 → σ[3]? = some (some (.ref t)) → x.vals[i]? = some v → Ev (tOp (rIxT K) (tVar 3) (tC (.int i))) σ H1 v := fun e h0 h => ev_op (ev_var h0) ev_c (rv_ixT (SqT.of (e _ _ ht)) (atI_nat h))
  have hX := ep_lcW (σ := ([some (.ref tb), some (.ref L.ln), some (.ref bl), some (.ref t), some tv, none, none, none, none, none, none] : L2.St)) (H := H) (te := tVar 7) (g := gTup K 2 (gCons (gName 7) (gCons (gName 8) gNil))) (vs := [7, 8]) (t := tTest (tOp rNe (tVar 7) (tOp (rIxT K) (tVar 3) (tC (.int 1))))) (fun e : Ent => !decide (e.1 = x.deal)) (fun e : Ent => e.1) (kdV V.int)
    (wk_list (K := K) (ka := kdE) (ls_var (bs := rows) (ev_var (i := 2) (v := .ref bl) rfl) ⟨bl, xs, rfl, SqL.of hbl, hxs⟩)) (by omega)
    (fun e x' H8 he e8 hx => by
      obtain ⟨tq, rfl, htq⟩ := hx
      exact ⟨tq, _, rfl, SqT.of htq, rfl, _, _, rfl, _, _, rfl, rfl, wipe_turn2, Ex.refl _, et_is (et_test (ev_op (ev_var (i := 7) (v := .int e.1) rfl) (ixe (i := 1) e8 rfl (by rw [hx0]; rfl)) (rv_ne rfl))) (by by_cases z : e.1 = x.deal <;> simp [z]), fun _ => ep_ev (ev_var (i := 7) rfl)⟩)
    gt2_mono
  have hle : (rows.filter fun e => !decide (e.1 = x.deal)).map (fun e => e.1) = leftOf rows x.deal := by
    unfold leftOf
    rw [List.filter_map]
    rfl
  rw [hle] at hX
  refine q_asgN hX fun p5 ys5 H1 _ e1 hp5 k5 => ?_
  have hy5 := kdV_L k5
  subst hy5
  have hlen5 : (leftOf rows x.deal).length ≤ 50 := by
    unfold leftOf
    exact Nat.le_trans (List.length_filter_le _ _) (by rw [List.length_map]; exact hrl)
  show tSeq _ _ _ ([some (.ref tb), some (.ref L.ln), some (.ref bl), some (.ref t), some tv, some (.ref p5), none, none, none, none, none] : L2.St) H1
  have hrow50 := Nat.le_trans ok.rowlen dok.few
  refine q_pass (fun N k => ?_) fun H2 e2 => ?_
  · refine s_when (b := !x.isAsk) (et_is (et_test (ev_op (ixe (i := 0) e1 rfl hw1) (ev_c (v := .str "ask")) (rv_ne rfl))) (by rw [← hw2]; by_cases z : wd = ("ask" : Str) <;> simp [z])) (fun z H2 e2 => ?_) (fun z H2 e2 => k H2 e2)
    rcases htold with hask | ⟨p, fs, rfl, hp, h1, h2⟩
    · rw [hask] at z; cases z
    · have e02 := e1.trans e2
      have hp2 := e02 _ _ hp
      have hp52 := e2 _ _ hp5
      have hL2 := hL.ex e02
      have hlf : fs.length ≤ 50 := by rw [h1]; exact Nat.le_trans (List.length_take_le' _ _) hlen5
      have len4 : ∀ H3, Ex H2 H3 → EvO (tPart (tCB (rLenQ K) (tCons (tVar 4) tNil))) ([some (.ref tb), some (.ref L.ln), some (.ref bl), some (.ref t), some (.ref p), some (.ref p5), none, none, none, none, none] : L2.St) H3 (some (fs.length : Int)) := fun H3 e3 => eo_some (ev_is (ev_lenL (ev_var (i := 4) rfl) (SqL.of (e3 _ _ hp2))) (by rw [List.length_map]))
      have low : ∀ l : List Int, ∀ a ∈ l, lowD ((cmpI (K := K)).enc a) = true := fun l a _ => low_int a
      refine s_when (b := false) (et_is (et_or (et_test (ev_neL cmpI (ls_lk (lk_ints (ns := fs) (ev_var (i := 4) rfl) hp2)) (ls_new (lk_take (lk_ints (ns := leftOf rows x.deal) (ev_var (i := 5) rfl) hp52) len4)) (low _) (low _))) (fun _ => et_test (ev_neL cmpI (ls_new (ep_lcW (te := tVar 7) (g := gTup K 2 (gCons (gName 7) (gCons (gName 8) gNil))) (vs := [7, 8]) (t := tYes) (fun e : Ent => true) (fun e : Ent => e.1) (kdV V.int)
        (wk_list (K := K) (ka := kdE) (ls_new (ep_waiting (ev_var (i := 1) (v := .ref L.ln) rfl) hL2))) (by omega)
        (fun e x' H8 he e8 hx => by
          obtain ⟨tq, rfl, htq⟩ := hx
          exact ⟨tq, _, rfl, SqT.of htq, rfl, _, _, rfl, _, _, rfl, rfl, wipe_turn2, Ex.refl _, et_yes, fun _ => ep_ev (ev_var (i := 7) rfl)⟩)
        gt2_mono)) (ls_new (lk_drop (lk_ints (ns := leftOf rows x.deal) (ev_var (i := 5) rfl) hp52) len4)) (low _) (low _)))) ?_) (fun z => by cases z) (fun _ H3 e3 => k H3 (e2.trans e3))
      rw [filt_true, ← h1, ← h2, decide_eq_true rfl, decide_eq_true rfl]
      rfl
  · have e02 := e1.trans e2
    have hL2 := hL.ex e02
    refine q_asgA (At.ofP (ep_holders (ev_var (i := 1) (v := .ref L.ln) rfl) hL2 ok dok)) fun v H3 ⟨⟨p6, hv, _, hd6⟩, e3⟩ => ?_
    subst hv
    have hL3 := hL2.ex e3
    show tSeq _ _ _ ([some (.ref tb), some (.ref L.ln), some (.ref bl), some (.ref t), some tv, some (.ref p5), some (.ref p6), none, none, none, none] : L2.St) H3
    refine q_forK (k := kdE) (bs := S.row.take 1) (lk_new (lk_take (n := 1) (lk_new (ep_waiting (ev_var (i := 1) (v := .ref L.ln) rfl) hL3)) fun H4 e4 => eo_some (ev_c (v := .int 1)))) fun pz xz H4 e4 hpz hkz => ?_
    cases hrow : S.row with
    | nil =>
      rw [hrow] at hkz
      cases hkz
      exact ⟨fun _ σ' H' => σ' = ([some (.ref tb), some (.ref L.ln), some (.ref bl), some (.ref t), some tv, some (.ref p5), some (.ref p6), none, none, none, none] : L2.St) ∧ Ex H4 H', ⟨rfl, Ex.refl _⟩, fun i σ' H' _ h => SqL.of (h.2 _ _ hpz), fun i y σ' H' h => by simp at h, fun σ' H' h => s_ret ev_c fun H5 e5 => q H5 (e02.trans (e3.trans (e4.trans (h.2.trans e5))))⟩
    | cons e r =>
      rw [hrow] at hkz
      have hem : e ∈ S.row := by rw [hrow]; simp
      have heg := (ok.rin e hem).2
      cases hkz with
      | cons hx0' hxt =>
        rename_i x0 xt
        cases hxt
        obtain ⟨tq, rfl, htq⟩ := hx0'
        refine ⟨fun i σ' H' => i = 0 ∧ σ' = ([some (.ref tb), some (.ref L.ln), some (.ref bl), some (.ref t), some tv, some (.ref p5), some (.ref p6), none, none, none, none] : L2.St) ∧ Ex H4 H', ⟨rfl, rfl, Ex.refl _⟩, fun i σ' H' _ h => SqL.of (h.2.2 _ _ hpz), fun i y σ' H' hy h => ?_, fun σ' H' h => by cases h.1⟩
        obtain ⟨rfl, rfl, e5⟩ := h
        have hy : some (V.ref tq) = some y := hy
        cases hy
        refine ⟨tq, _, rfl, SqT.of (e5 _ _ htq), rfl, _, _, rfl, _, _, rfl, rfl, ?_⟩
        show tSeq _ _ _ ([some (.ref tb), some (.ref L.ln), some (.ref bl), some (.ref t), some tv, some (.ref p5), some (.ref p6), some (.int e.1), some (.str e.2.1), none, none] : L2.St) H'
        have hd' := hd6.ex (e4.trans e5)
        have hL' := hL3.ex (e4.trans e5)
        obtain ⟨kvs, hk⟩ := id hd'
        have hkl := Nat.le_trans (hk.len (fK_in ok)) dok.few
        have hY := ep_lcKE (σ := ([some (.ref tb), some (.ref L.ln), some (.ref bl), some (.ref t), some tv, some (.ref p5), some (.ref p6), some (.int e.1), some (.str e.2.1), none, none] : L2.St)) (H := H') (td := tVar 6) (i := 10) (vs := [10]) (tt := tTest (tOp rNe (tVar 10) (tVar 7))) (te := tVar 10) (kvs := kvs) (d := p6)
          (fun b => !decide (kV b.1 = .int e.1)) (fun b => b.1.elim id (fun _ => (0 : Int))) (kdV V.int) hk.at_ (by omega) (fun H1 od e1 => ev_var (i := 6) rfl) (fun H1 od b e1 hb H2 e2 => by
            obtain ⟨i, hi, hf⟩ := hk.mem hb
            refine ⟨wipe_turn, et_test (ev_op (ev_var (i := 10) rfl) (ev_var (i := 7) rfl) (rv_ne (by rw [hi]; rfl))), fun _ => ep_ev ?_⟩
            rw [hi]
            exact ev_var (i := 10) rfl)
        refine q_lockN hY fun p9 ys9 H9 _ e9 hp9 k9 => ?_
        have hy9 := kdV_L k9
        subst hy9
        generalize hoth : ((kvs.filter fun b => !decide (kV b.1 = .int e.1)).map fun b => b.1.elim id (fun _ => (0 : Int))) = oth at hp9
        have hoin : ∀ i ∈ oth, ∃ m, S.keeps i = some m := fun i hi => by
          rw [← hoth] at hi
          obtain ⟨b, hb, rfl⟩ := List.mem_map.mp hi
          obtain ⟨j, hj, hf⟩ := hk.mem (List.mem_filter.mp hb).1
          obtain ⟨m, hm, _⟩ := Option.map_eq_some_iff.mp (show (S.keeps j).map V.str = some b.2 from hf)
          rw [hj]
          exact ⟨m, hm⟩
        have hol : oth.length ≤ 50 := by
          rw [← hoth, List.length_map]
          exact Nat.le_trans (List.length_filter_le _ _) hkl
        show tRet _ _ ([some (.ref tb), some (.ref L.ln), some (.ref bl), some (.ref t), some tv, some (.ref p5), some (.ref p6), some (.int e.1), some (.str e.2.1), some (.ref p9), none] : L2.St) H9
        have hW := ep_lcW (σ := ([some (.ref tb), some (.ref L.ln), some (.ref bl), some (.ref t), some tv, some (.ref p5), some (.ref p6), some (.int e.1), some (.str e.2.1), some (.ref p9), none] : L2.St)) (H := H9) (te := tVar 10) (g := gName 10) (vs := [10]) (t := tNot (tB (tMeth C "beside" (spT2 C ansBeside) [] E0 (tVar 0) (tCons (tVar 8) (tCons (tDGet (tVar 6) (tVar 10)) tNil))))) (fun i : Int => !D.near e.2.1 ((S.keeps i).getD "")) (fun i : Int => i) (kdV V.int)
          (wk_list (K := K) (ka := kdV V.int) (ls_var (bs := oth) (ev_var (i := 9) (v := .ref p9) rfl) ⟨p9, _, rfl, SqL.of hp9, kdV_of⟩)) (by omega)
          (fun i x' H8 hi e8 hx => by
            cases hx
            obtain ⟨m, hm⟩ := hoin i hi
            have hL8 := hL'.ex (e9.trans e8)
            have hj := hj0.ex hL8.z
            refine ⟨rfl, Ex.refl _, et_not (et_B ?_), fun _ => ep_ev (ev_var (i := 10) rfl)⟩
            rw [hm]
            exact ev_T2 (ans := ansBeside) (a := e.2.1) (b := m) (ev_var (i := 0) (v := .ref tb) rfl) (ea_cons (ev_var (i := 8) rfl) (ea_cons (ev_daget (i := i) (v := .str m) (ev_var (i := 6) (v := .ref p6) rfl) (ev_var (i := 10) rfl) (hd'.ex (e9.trans e8)) (by unfold fK; rw [hm]; rfl)) ea_nil)) hj wf heg (ok.kin i m hm).2 nl_beside)
          gname_mono
        rw [List.map_id'] at hW
        refine s_ret (ev_is (ev_neNil (K := K) (k := kdV V.int) PyData.int (fun b v H h => by cases h; exact .int _) (fun b _ => low_int b) (ls_new hW)) (w := .bl true) (congrArg V.bl ?_)) fun H10 e10 => q H10 (e02.trans (e3.trans (e4.trans (e5.trans (e9.trans e10)))))
        have hn := hnf e r hrow
        rw [fitsB_false] at hn
        obtain ⟨o, ho, hoe, m, hm, hnear⟩ := hn
        have hmem : o ∈ oth := by
          rw [← hoth]
          refine List.mem_map.mpr ⟨(.inl o, .str m), List.mem_filter.mpr ⟨hk.has (by unfold fK; rw [hm]; rfl), ?_⟩, rfl⟩
          show (!decide (V.int o = V.int e.1)) = true
          simp [hoe]
        have hmf : o ∈ oth.filter fun i => !D.near e.2.1 ((S.keeps i).getD "") := List.mem_filter.mpr ⟨hmem, by rw [hm]; show (!D.near e.2.1 m) = true; rw [hnear]; rfl⟩
        cases hz : (oth.filter fun i => !D.near e.2.1 ((S.keeps i).getD "")) with
        | nil => rw [hz] at hmf; cases hmf
        | cons => rfl
end
end HT
set_option Elab.async false
set_option linter.all false
set_option maxRecDepth 100000
set_option maxHeartbeats 4000000
/-! the law's looks at a line: ask_right, counted -/
namespace HT
open PySem PySem.Spec PyProof.Rows L2 Evl LamX
def kdKV : Kd (Key × V) := kdT fun kv => [kV kv.1, kv.2]
def kdC : Kd (Int × Bool) := kdT fun g => [.int g.1, .bl g.2]
theorem Fr.fback {F F' : List Addr} {H H' : Hp} {p : Addr} (f : Fr F F' H H') (n : H' p = none) (l : ∀ b ∈ F, ∃ o, H' b = some o) : H p = none := by
  cases e : H p with
  | none => rfl
  | some o =>
    by_cases hp : p ∈ F
    · obtain ⟨o', h⟩ := l p hp
      rw [n] at h; cases h
    · rw [f.1 p o hp e] at n; cases n
section
variable {P : Program} {w : World} {K : PySem.W.Frag} {mg : Str → Option Value} {base : Heap} {C Dc Pt : Addr} {f : Addr} {fd : FuncData} {Z H H' : Hp} {L : LA} {σ : L2.St} {ta tb te tl tc : TE} {tA : TA} {E : Ends} {tz tu tw : TS} {g : TG} {D : TD Str} {ds : List Int} {S : LS}
theorem kdKV_ps : ∀ {bs : List (Key × V)} {ys : List V}, kdKV.L bs ys H → ∃ ps : List Addr, ys = ps.map V.ref ∧ Paired (fun p kv => SqT K H p [kV kv.1, kv.2]) ps bs
  | [], [], .nil => ⟨[], rfl, .nil⟩
  | _ :: _, _ :: _, .cons h t => by
    obtain ⟨ps, h1, h2⟩ := kdKV_ps t
    obtain ⟨p, rfl, hp⟩ := h
    exact ⟨p :: ps, by rw [h1]; rfl, .cons (SqT.of hp) h2⟩
/-- dict(a new list of pairs) -/
theorem ep_dictP {bs : List (Key × V)} (h : EvP tl σ H (NewL kdKV bs)) (nd : (bs.map (·.1)).Nodup) : EvP (tCB (fun xs H Q => ∃ (a : Addr) (ps : List Addr) (kvs : List (Key × V)), xs = [.ref a] ∧ SqL K H a (ps.map V.ref) ∧ Paired (fun p kv => SqT K H p [kV kv.1, kv.2]) ps kvs ∧ ∀ p, H p = none → Q (.ref p) (upd H p (.dK (mergeK [] kvs)))) (tCons tl tNil)) σ H (NewO (.dK bs)) := fun H1 e1 Q q =>
  h H1 e1 _ fun v H2 e2 ⟨a, ys, hv, hn, ha, hk⟩ => by
    subst hv
    obtain ⟨ps, h1, h2⟩ := kdKV_ps (K := K) hk
    refine ⟨a, ps, bs, rfl, SqL.of (by rw [← h1]; exact ha), h2, fun p hp => ?_⟩
    rw [mergeK_nd (by simpa using nd)]
    exact q _ _ (e2.trans (Ex.new hp)) ⟨p, rfl, fresh_back e2 hp, upd_same⟩
theorem el_listD {a : Addr} {kvs : List (Key × V)} (h : Ev ta σ H (.ref a)) (ha : H a = some (.dK kvs)) : EvL (tCB (fun xs H Q => ∃ (a : Addr) (kvs : List (Key × V)), xs = [.ref a] ∧ Rd H a (.dK kvs) ∧ ∀ p, H p = none → Q (.ref p) (upd H p (.lst (kvs.map fun kv => kV kv.1)))) (tCons ta tNil)) σ H (kvs.map fun kv => kV kv.1) := fun H1 e1 Q q =>
  h H1 e1 _ fun H2 e2 => ⟨a, kvs, rfl, .inl ((e1.trans e2) _ _ ha), fun p hp => q p _ (fresh_back e2 hp) (e2.trans (Ex.new hp)) upd_same⟩
theorem scal_opt {a b : Option Str} : scal (optS a) (optS b) = true := by cases a <;> cases b <;> rfl
def spAskRight (C Dc : Addr) : Sp := fun vs H Q _ => ∃ (D : TD Str) (Z : Hp) (ds : List Int) (L : LA) (S : LS) (rows : List Ent) (hold : Option Str) (d : Int) (m : Str) (told : Str) (bl t : Addr) (xs : List V), vs = [.ref L.ln, .ref bl, .ref t, optS hold, .str told] ∧ H bl = some (.lst xs) ∧ kdE.L rows xs H ∧ rows.length ≤ 50 ∧ (∀ e ∈ rows, e.1 ∈ ds ∧ e.2.1 ∈ D.order) ∧ H t = some (.tup (Deed.ask d m).vals) ∧ LineAt C Dc D Z H L S ∧ LOk D ds S ∧ WFD D ∧ DsOk ds ∧ d ∈ ds ∧
  (told = "held" ∨ told = "waits") ∧ (told = "held" → S.row = rows ∧ (S.keeps d).isSome = true ∧ (hold.isSome = true ∨ rows = [])) ∧
  (told = "waits" → S.keeps d = hold ∧ S.row.map (·.1) = (rows.map (·.1)).take (if hold.isSome then (rows.filter fun e => (S.keeps e.1).isSome).length else rows.length) ++ [d] ++ (rows.map (·.1)).drop (if hold.isSome then (rows.filter fun e => (S.keeps e.1).isSome).length else rows.length)) ∧
  ∀ H', Ex H H' → Q (.bl true) H'
theorem sc_law_ask_right : FnScope ["_law_line", "_law_before", "_law_deed_here", "_law_held", "_law_told_here", "_law_deal", "_law_queue", "_law_ahead", "_law_raisings", "_law_place", "_law_other", "_law_goal"] ["_law_line", "_law_before", "_law_deed_here", "_law_held", "_law_told_here"] (defScope s_law_ask_right) := ⟨rfl, rfl, rfl, by decide +kernel, rfl, by decide +kernel, by decide +kernel⟩
theorem ok_law_ask_right (F : FnT K "_law_ask_right" "_law_ask_right" s_law_ask_right [] [] f fd) (T : Txt K mg C Dc) (M_Line_waiting : AXwaiting P w K mg base C Dc) (M_Line_held : AXheld P w K mg base C Dc) : FnOk P w K mg base CX0 4 f fd ["_law_line", "_law_before", "_law_deed_here", "_law_held", "_law_told_here"] (spAskRight C Dc) := by
  refine F.ok sc_law_ask_right (fun vs H Q E ⟨_, _, _, _, _, _, _, _, _, _, _, _, _, h, _⟩ => by rw [h]; rfl) (fun cdv A outer s H vs Q E hr ⟨D, Z, ds, L, S, rows, hold, d, m, told, bl, t, xs, hv, hbl, hxs, hrl, hrin, ht, hL, ok, wf, dok, hd, hword, hheld, hwaits, q⟩ => ⟨_, PSs.nox (pss_cons (ps_set (i := 5) sc_law_ask_right.nd rfl (Or.inl rfl) (pe_ix (ix_tupK K rfl) (pv 2) pe_int (fun _ _ => rfl)))
    (pss_cons (ps_setLc (i := 6) (own := [("_law_other", 10), ("_law_goal", 11)]) rfl sc_law_ask_right.nd rfl rfl (sw_true rfl rfl rfl (by rfl)) (pi_listK K rfl (pe_methG0 M_Line_waiting T.clD hr (by decide) (pv 0))) (blkOk_by (by rfl)) (fun _ _ _ _ _ => (pg_tupK (n := 2) K rfl rfl (pgs_cons (pg_name (i := 10) sc_law_ask_right.nd rfl (by first | exact Or.inl rfl | exact Or.inr rfl)) (pgs_cons (pg_name (i := 11) sc_law_ask_right.nd rfl (by first | exact Or.inl rfl | exact Or.inr rfl)) pgs_nil)))) (fun _ _ _ _ _ => pts_nil) (fun _ _ _ _ _ => (pv 10)))
    (pss_cons (ps_if (pt_cmpR op_eq (pv 4) pe_str (nomark _)) (pss_one (ps_ret (pe_and (pe_cmpR (op_eqDK K rfl hr.units) (pe_methG0 M_Line_waiting T.clD hr (by decide) (pv 0)) (pv 1) (nomark _)) (pe_and (pe_cmp (pc_notN (pe_methG M_Line_held T.clD hr (by decide) (pv 0) (pa_cons (pv 5) pa_nil))) rfl) (pe_one (pe_or (pe_cmp (pc_notN (pv 3)) rfl) (pe_one (pe_cmpR (op_eqDK K rfl hr.units) (pv 1) (pe_lst pa_nil) (nomark _))))))))) pss_nil)
    (pss_cons (ps_setLc (i := 7) (own := [("_law_other", 10), ("_law_goal", 11)]) rfl sc_law_ask_right.nd rfl rfl (sw_true rfl rfl rfl (by rfl)) (pi_listK K rfl (pv 1)) (blkOk_by (by rfl)) (fun _ _ _ _ _ => (pg_tupK (n := 2) K rfl rfl (pgs_cons (pg_name (i := 10) sc_law_ask_right.nd rfl (by first | exact Or.inl rfl | exact Or.inr rfl)) (pgs_cons (pg_name (i := 11) sc_law_ask_right.nd rfl (by first | exact Or.inl rfl | exact Or.inr rfl)) pgs_nil)))) (fun _ _ _ _ _ => pts_nil) (fun _ _ _ _ _ => (pv 10)))
    (pss_cons (ps_setLc (i := 8) (own := [("_law_other", 10)]) rfl sc_law_ask_right.nd rfl rfl (sw_true rfl rfl rfl (by rfl)) (pi_listK K rfl (pv 7)) (blkOk_by (by rfl)) (fun _ _ _ _ _ => (pg_name (i := 10) sc_law_ask_right.nd rfl (by first | exact Or.inl rfl | exact Or.inr rfl))) (fun _ _ _ _ _ => (pts_one (pt_cmp (pc_notN (pe_methG M_Line_held T.clD hr (by decide) (pv 0) (pa_cons (pv 10) pa_nil)))))) (fun _ _ _ _ _ => (pv 10)))
    (pss_cons (ps_set (i := 9) sc_law_ask_right.nd rfl (Or.inl rfl) (pe_ifExp (pt_cmp (pc_notN (pv 3))) (pe_callB (call_len_seqK K rfl) (by rfl) T.fLen boot_len (pa_cons (pv 8) pa_nil)) (pe_callB (call_len_seqK K rfl) (by rfl) T.fLen boot_len (pa_cons (pv 7) pa_nil))))
    (pss_one (ps_ret (pe_and (pe_cmpR op_eq (pe_methG M_Line_held T.clD hr (by decide) (pv 0) (pa_cons (pv 5) pa_nil)) (pv 3) (nomark _)) (pe_one (pe_cmpR (op_eqDK K rfl hr.units) (pv 6) (pe_op op_cat (pe_op op_cat (pe_slice (sl_listK K rfl) (pv 7) po_none (po_some (pv 9))) (pe_lst (pa_cons (pv 5) pa_nil))) (pe_slice (sl_listK K rfl) (pv 7) (po_some (pv 9)) po_none)) (nomark _)))))))))))), ?_⟩)
  subst hv
  have hd1 := dok.pos d hd
  have hrow50 := Nat.le_trans ok.rowlen dok.few
  have low : ∀ l : List Int, ∀ a ∈ l, lowD ((cmpI (K := K)).enc a) = true := fun l a _ => low_int a
  refine q_asg (v := .int d) (ev_op (ev_var (i := 2) rfl) (ev_c (v := .int 1)) (rv_ixT (SqT.of ht) (atI_nat (j := 1) rfl))) fun H1 e1 => ?_
  show tSeq _ _ _ ([some (.ref L.ln), some (.ref bl), some (.ref t), some (optS hold), some (.str told), some (.int d), none, none, none, none, none, none] : L2.St) H1
  have hL1 := hL.ex e1
  have hX := ep_lcW (σ := ([some (.ref L.ln), some (.ref bl), some (.ref t), some (optS hold), some (.str told), some (.int d), none, none, none, none, none, none] : L2.St)) (H := H1) (te := tVar 10) (g := gTup K 2 (gCons (gName 10) (gCons (gName 11) gNil))) (vs := [10, 11]) (t := tYes) (fun e : Ent => true) (fun e : Ent => e.1) (kdV V.int)
    (wk_list (K := K) (ka := kdE) (ls_new (ep_waiting (ev_var (i := 0) (v := .ref L.ln) rfl) hL1))) (by omega)
    (fun e x' H8 he e8 hx => by
      obtain ⟨tq, rfl, htq⟩ := hx
      exact ⟨tq, _, rfl, SqT.of htq, rfl, _, _, rfl, _, _, rfl, rfl, wipe_turn2, Ex.refl _, et_yes, fun _ => ep_ev (ev_var (i := 10) rfl)⟩)
    gt2_mono
  rw [filt_true] at hX
  refine q_asgN hX fun p6 ys6 H2 _ e2 hp6 k6 => ?_
  have hy6 := kdV_L k6
  subst hy6
  show tSeq _ _ _ ([some (.ref L.ln), some (.ref bl), some (.ref t), some (optS hold), some (.str told), some (.int d), some (.ref p6), none, none, none, none, none] : L2.St) H2
  have e02 := e1.trans e2
  have hL2 := hL1.ex e2
  have hon : ∀ o : Option Str, decide (optS o = .non) = !o.isSome := fun o => by rw [optS_non]; cases o <;> rfl
  refine q_when (b := decide (told = "held")) (et_is (et_test (ev_op (ev_var (i := 4) (v := .str told) rfl) (ev_c (v := .str "held")) (rv_eq rfl))) (by by_cases z : told = "held" <;> simp [z])) (fun z H3 e3 => ?_) (fun z H3 e3 => ?_)
  · obtain ⟨hr, hk, ho⟩ := hheld (of_decide_eq_true z)
    have hL3 := hL2.ex e3
    have e03 := e02.trans e3
    have lowR : ∀ a ∈ rows.map entG, lowD ((cmpG (K := K)).enc a) = true := fun a ha => by
      obtain ⟨e, he, rfl⟩ := List.mem_map.mp ha
      exact lowG (wf.ok _ (hrin e he).2)
    have lowS : ∀ a ∈ S.row.map entG, lowD ((cmpG (K := K)).enc a) = true := by rw [hr]; exact lowR
    have toG : ∀ {rs : List Ent} {te : TE} {σ : L2.St} {H : Hp}, EvP te σ H (fun _ v H2 => LstK kdE rs v H2) → EvP te σ H fun _ v H2 => LsP K kdG (rs.map entG) v H2 := fun h => h.imp fun _ _ _ _ _ ⟨p, ys, h1, h2, h3⟩ => ⟨p, ys, h1, SqL.of h2, kdE_G h3⟩
    refine s_ret (ev_is (ev_andV (ev_eqL cmpG (toG (lk_new (ep_waiting (ev_var (i := 0) (v := .ref L.ln) rfl) hL3))) (toG (lk_var (ev_var (i := 1) (v := .ref bl) rfl) ⟨bl, xs, rfl, e03 _ _ hbl, kdE.L_ex e03 hxs⟩)) lowS lowR) (fun _ => ev_andV (ev_is (ev_notN (ev_held (ev_var (i := 0) (v := .ref L.ln) rfl) (ev_var (i := 5) rfl) hL3 hd1)) (by rw [hon, Bool.not_not, hk])) (fun _ => ev_orV (ev_is (ev_notN (ev_var (i := 3) (v := optS hold) rfl)) (by rw [hon, Bool.not_not])) (fun _ => ev_eqNil (K := K) encE dpE (fun e he => lowE (wf.ok _ (hrin e he).2)) (ls_lk (lk_var (k := kdE) (bs := rows) (ev_var (i := 1) (v := .ref bl) rfl) ⟨bl, xs, rfl, e03 _ _ hbl, kdE.L_ex e03 hxs⟩)))))) (w := .bl true) (congrArg V.bl ?_)) fun H4 e4 => q H4 (e03.trans e4)
    rw [hr, decide_eq_true rfl]
    rcases ho with h | h
    · rw [h]; rfl
    · rw [decide_eq_true h, Bool.or_true]; rfl
  · have hw : told = "waits" := hword.resolve_left (of_decide_eq_false z)
    obtain ⟨hk, hrow⟩ := hwaits hw
    have e03 := e02.trans e3
    have hL3 := hL2.ex e3
    have hA := ep_lcW (σ := ([some (.ref L.ln), some (.ref bl), some (.ref t), some (optS hold), some (.str told), some (.int d), some (.ref p6), none, none, none, none, none] : L2.St)) (H := H3) (te := tVar 10) (g := gTup K 2 (gCons (gName 10) (gCons (gName 11) gNil))) (vs := [10, 11]) (t := tYes) (fun e : Ent => true) (fun e : Ent => e.1) (kdV V.int)
      (wk_list (K := K) (ka := kdE) (ls_var (bs := rows) (ev_var (i := 1) (v := .ref bl) rfl) ⟨bl, xs, rfl, SqL.of (e03 _ _ hbl), kdE.L_ex e03 hxs⟩)) (by omega)
      (fun e x' H8 he e8 hx => by
        obtain ⟨tq, rfl, htq⟩ := hx
        exact ⟨tq, _, rfl, SqT.of htq, rfl, _, _, rfl, _, _, rfl, rfl, wipe_turn2, Ex.refl _, et_yes, fun _ => ep_ev (ev_var (i := 10) rfl)⟩)
      gt2_mono
    rw [filt_true] at hA
    refine q_asgN hA fun p7 ys7 H4 _ e4 hp7 k7 => ?_
    have hy7 := kdV_L k7
    subst hy7
    show tSeq _ _ _ ([some (.ref L.ln), some (.ref bl), some (.ref t), some (optS hold), some (.str told), some (.int d), some (.ref p6), some (.ref p7), none, none, none, none] : L2.St) H4
    have hL4 := hL3.ex e4
    have hl7 : (rows.map fun e => e.1).length ≤ 50 := by rw [List.length_map]; exact hrl
    have hB := ep_lcW (σ := ([some (.ref L.ln), some (.ref bl), some (.ref t), some (optS hold), some (.str told), some (.int d), some (.ref p6), some (.ref p7), none, none, none, none] : L2.St)) (H := H4) (te := tVar 10) (g := gName 10) (vs := [10]) (t := tB (tNotN (tMeth Dc "held" (Hid fun D Z ds => spHeld C Dc D Z ds) [] E0 (tVar 0) (tCons (tVar 10) tNil)))) (fun i : Int => (S.keeps i).isSome) (fun i : Int => i) (kdV V.int)
      (wk_list (K := K) (ka := kdV V.int) (ls_lk (lk_ints (ns := rows.map fun e => e.1) (ev_var (i := 7) (v := .ref p7) rfl) hp7))) (by omega)
      (fun i x' H8 hi e8 hx => by
        cases hx
        obtain ⟨e, he, rfl⟩ := List.mem_map.mp hi
        exact ⟨rfl, Ex.refl _, et_is (et_B (ev_notN (ev_held (ev_var (i := 0) (v := .ref L.ln) rfl) (ev_var (i := 10) rfl) (hL4.ex e8) (dok.pos _ (hrin e he).1)))) (by rw [hon, Bool.not_not]), fun _ => ep_ev (ev_var (i := 10) rfl)⟩)
      gname_mono
    rw [List.map_id'] at hB
    refine q_asgN hB fun p8 ys8 H5 _ e5 hp8 k8 => ?_
    have hy8 := kdV_L k8
    subst hy8
    show tSeq _ _ _ ([some (.ref L.ln), some (.ref bl), some (.ref t), some (optS hold), some (.str told), some (.int d), some (.ref p6), some (.ref p7), some (.ref p8), none, none, none] : L2.St) H5
    have hl8 : ((rows.map fun e => e.1).filter fun i => (S.keeps i).isSome).length = (rows.filter fun e => (S.keeps e.1).isSome).length := by
      rw [List.filter_map, List.length_map]
      rfl
    generalize hn : (if hold.isSome = true then (rows.filter fun e => (S.keeps e.1).isSome).length else rows.length) = n at hrow
    refine q_asg (v := .int n) (ev_if (b := hold.isSome) (et_is (et_B (ev_notN (ev_var (i := 3) (v := optS hold) rfl))) (by rw [hon, Bool.not_not])) (fun z2 => ?_) (fun z2 => ?_)) fun H6 e6 => ?_
    · rw [← hn, z2]
      exact ev_is (ev_lenL (ev_var (i := 8) rfl) (SqL.of hp8)) (by rw [List.length_map, hl8]; rfl)
    · rw [← hn, z2]
      exact ev_is (ev_lenL (ev_var (i := 7) rfl) (SqL.of (e5 _ _ hp7))) (by rw [List.length_map, List.length_map]; rfl)
    show tRet _ _ ([some (.ref L.ln), some (.ref bl), some (.ref t), some (optS hold), some (.str told), some (.int d), some (.ref p6), some (.ref p7), some (.ref p8), some (.int n), none, none] : L2.St) H6
    have e36 := e4.trans (e5.trans e6)
    have hL6 := hL3.ex e36
    have hp66 : H6 p6 = some (.lst ((S.row.map fun e => e.1).map V.int)) := (e3.trans e36) _ _ hp6
    have hp76 : H6 p7 = some (.lst ((rows.map fun e => e.1).map V.int)) := (e5.trans e6) _ _ hp7
    have hl : ∀ H7, Ex H6 H7 → EvO (tPart (tVar 9)) ([some (.ref L.ln), some (.ref bl), some (.ref t), some (optS hold), some (.str told), some (.int d), some (.ref p6), some (.ref p7), some (.ref p8), some (.int n), none, none] : L2.St) H7 (some (n : Int)) := fun _ _ => eo_some (ev_var (i := 9) rfl)
    have s1 := lk_take (K := K) (n := n) (lk_ints (σ := ([some (.ref L.ln), some (.ref bl), some (.ref t), some (optS hold), some (.str told), some (.int d), some (.ref p6), some (.ref p7), some (.ref p8), some (.int n), none, none] : L2.St)) (ns := rows.map fun e => e.1) (ev_var (i := 7) (v := .ref p7) rfl) hp76) hl
    have s2 := lk_drop (K := K) (n := n) (lk_ints (σ := ([some (.ref L.ln), some (.ref bl), some (.ref t), some (optS hold), some (.str told), some (.int d), some (.ref p6), some (.ref p7), some (.ref p8), some (.int n), none, none] : L2.St)) (ns := rows.map fun e => e.1) (ev_var (i := 7) (v := .ref p7) rfl) hp76) hl
    have s3 : EvP (tLst (tCons (tVar 5) tNil)) ([some (.ref L.ln), some (.ref bl), some (.ref t), some (optS hold), some (.str told), some (.int d), some (.ref p6), some (.ref p7), some (.ref p8), some (.int n), none, none] : L2.St) H6 (NewL (kdV V.int) [d]) := ep_lstK (eak_cons (ep_ev (ev_var (i := 5) rfl)) eak_nil) (by show 1 ≤ 100000; decide)
    have hlt : ((rows.map fun e => e.1).take n).length ≤ 50 := Nat.le_trans (List.length_take_le' _ _) hl7
    have hld : ((rows.map fun e => e.1).drop n).length ≤ 50 := by rw [List.length_drop]; omega
    have s4 := ep_catK (lk_new (ep_catK (lk_new s1) (lk_new s3) (by show _ + 1 ≤ _; omega))) (lk_new s2) (by rw [List.length_append]; show _ + 1 + _ ≤ _; omega)
    refine s_ret (ev_is (ev_andV (ev_op (ev_held (ev_var (i := 0) (v := .ref L.ln) rfl) (ev_var (i := 5) rfl) hL6 hd1) (ev_var (i := 3) (v := optS hold) rfl) (rv_eq scal_opt)) (fun _ => ev_eqL cmpI (ls_lk (lk_ints (ns := S.row.map fun e => e.1) (ev_var (i := 6) (v := .ref p6) rfl) hp66)) (ls_new s4) (low _) (low _))) (w := .bl true) (congrArg V.bl ?_)) fun H7 e7 => q H7 (e03.trans (e36.trans e7))
    rw [hk, decide_eq_true rfl, Bool.true_and]
    exact decide_eq_true hrow
end
end HT
set_option Elab.async false
set_option linter.all false
set_option maxRecDepth 100000
set_option maxHeartbeats 4000000
/-! the law counts raisings: counted -/
namespace HT
open PySem PySem.Spec PyProof.Rows L2 Evl LamX
theorem fput_fN {cf : Int → Option Int} {k : Int} {n : Int} : fput (fN cf) k (some (.int n)) = fN (put cf k (some n)) := by rw [fN_put]; rfl
theorem fdrop_fN {cf : Int → Option Int} {k : Int} : fput (fN cf) k none = fN (put cf k none) := by rw [fN_put]; rfl
/-- behind the keys ks -/
def part1 (af cf : Int → Option Int) (g : Int × Bool) (ks : List Int) : Int → Option Int := fun i => if i ∈ ks ∧ (g.2 && (!decide (i = g.1) && ltO (af i) (af g.1))) = true then (cf i).map (· + 1) else cf i
theorem part1_all {af cf : Int → Option Int} {g : Int × Bool} {ks : List Int} (h : ∀ i, (cf i).isSome = true → i ∈ ks) : put (part1 af cf g ks) g.1 none = cnt1 af cf g := by
  funext i
  unfold cnt1 put
  by_cases hi : i = g.1
  · rw [if_pos hi, if_pos hi]
  · rw [if_neg hi, if_neg hi]
    unfold part1
    rw [decide_eq_false hi]
    show (if i ∈ ks ∧ (g.2 && (true && ltO (af i) (af g.1))) = true then _ else _) = _
    rw [Bool.true_and]
    by_cases hc : (g.2 && ltO (af i) (af g.1)) = true
    · rw [if_pos hc]
      by_cases hk : i ∈ ks
      · rw [if_pos ⟨hk, hc⟩]
      · rw [if_neg (fun z => hk z.1)]
        cases e : cf i with
        | none => rfl
        | some n => exact absurd (h i (by rw [e]; rfl)) hk
    · rw [if_neg hc, if_neg (fun z => hc z.2)]
theorem part1_isSome {af cf : Int → Option Int} {g : Int × Bool} {ks : List Int} {i : Int} : (part1 af cf g ks i).isSome = (cf i).isSome := by
  unfold part1
  split
  · cases cf i <;> rfl
  · rfl
theorem cnt1_some {af cf : Int → Option Int} {g : Int × Bool} {i : Int} (h : (cnt1 af cf g i).isSome = true) : (cf i).isSome = true := by
  unfold cnt1 at h
  split at h
  · cases h
  · split at h
    · cases e : cf i with
      | none => rw [e] at h; cases h
      | some n => rfl
    · exact h
theorem cntAll_some {af : Int → Option Int} {i : Int} : ∀ {gs : List (Int × Bool)} {cf : Int → Option Int}, (cntAll af cf gs i).isSome = true → (cf i).isSome = true
  | [], _, h => h
  | g :: gs, cf, h => cnt1_some (cntAll_some (gs := gs) (cf := cnt1 af cf g) h)
theorem part1_snoc {af cf : Int → Option Int} {g : Int × Bool} {ks : List Int} {i n : Int} (hi : i ∉ ks) (hn : cf i = some n) : part1 af cf g (ks ++ [i]) = if (g.2 && (!decide (i = g.1) && ltO (af i) (af g.1))) = true then put (part1 af cf g ks) i (some (n + 1)) else part1 af cf g ks := by
  funext j
  by_cases hj : j = i
  · subst hj
    by_cases hc : (g.2 && (!decide (j = g.1) && ltO (af j) (af g.1))) = true
    · rw [if_pos hc, put_same]
      unfold part1
      rw [if_pos ⟨by simp, hc⟩, hn]
      rfl
    · rw [if_neg hc]
      unfold part1
      rw [if_neg (fun z => hc z.2), if_neg (fun z => hc z.2)]
  · have e : part1 af cf g (ks ++ [i]) j = part1 af cf g ks j := by
      unfold part1
      by_cases hk : j ∈ ks
      · simp [hk, hj]
      · simp [hk, hj]
    rw [e]
    split
    · rw [put_ne hj]
    · rfl
section
variable {P : Program} {w : World} {K : PySem.W.Frag} {mg : Str → Option Value} {base : Heap} {C Dc Pt : Addr} {f : Addr} {fd : FuncData} {Z H H' : Hp} {L : LA} {σ : L2.St} {ta tb te tl tc : TE} {tA : TA} {E : Ends} {tz tu tw : TS} {g : TG} {D : TD Str} {ds : List Int} {S : LS}
theorem DA.fr {a : Addr} {fn : FI} {F F' : List Addr} (h : DA H a fn) (f : Fr F F' H H') (n : a ∉ F) : DA H' a fn := h.of_eq fun o => f.keep n
theorem da_put {a : Addr} {fn : FI} {kvs : List (Key × V)} (h : DI H a fn kvs) (k : Int) (v : V) : HT.DA (upd H a (.dK (putK kvs (.inl k) v))) a (fput fn k (some v)) ∧ Fr [a] [a] H (upd H a (.dK (putK kvs (.inl k) v))) := ⟨⟨_, h.put k v⟩, Fr.upd (by simp) h.at_ fun xs z => by cases z⟩
theorem da_drop {a : Addr} {fn : FI} {kvs : List (Key × V)} (h : DI H a fn kvs) (k : Int) : DA (upd H a (.dK (dropK kvs (.inl k)))) a (fput fn k none) ∧ Fr [a] [a] H (upd H a (.dK (dropK kvs (.inl k)))) := ⟨⟨_, h.drop k⟩, Fr.upd (by simp) h.at_ fun xs z => by cases z⟩
theorem fN_isSome {cf : Int → Option Int} {i : Int} : (fN cf i).isSome = (cf i).isSome := by unfold fN; cases cf i <;> rfl
theorem fN_in2 {cf : Int → Option Int} (h : ∀ i, (cf i).isSome = true → i ∈ ds) : FIn (fN cf) ds := fun i hi => h i (by rw [← fN_isSome]; exact hi)
def spCounted (C Dc : Addr) : Sp := fun vs H Q _ => ∃ (D : TD Str) (Z : Hp) (ds : List Int) (L : LA) (S : LS) (ak ck gl : Addr) (gs : List (Int × Bool)) (gxs : List V) (af cf : Int → Option Int) (tn : Int), vs = [.ref L.ln, .ref ak, .ref ck, .int tn, .ref gl] ∧ LineAt C Dc D Z H L S ∧ LOk D ds S ∧ DsOk ds ∧ DA H ak (fN af) ∧ DA H ck (fN cf) ∧ (∀ i, (cf i).isSome = true → i ∈ ds) ∧ (∀ i, (cf i).isSome = true → ∃ a, af i = some a) ∧
  (∀ g ∈ gs, ∃ a, af g.1 = some a) ∧ gs.length ≤ 50 ∧ H gl = some (.lst gxs) ∧ kdC.L gs gxs H ∧ ck ≠ ak ∧ ck ∉ L.foot ∧ Z ck = none ∧
  ∀ p H', H p = none → DA H' p (fN (fin (cntAll af cf gs) S.row)) → Fr [ck] [ck] H H' → Q (.ref p) H'
theorem sc_law_counted : FnScope ["_law_line", "_law_asked", "_law_counts", "_law_turn", "_law_granted", "_law_deal", "_law_raises", "_law_other", "_law_queue", "_law_goal"] ["_law_line", "_law_asked", "_law_counts", "_law_turn", "_law_granted"] (defScope s_law_counted) := ⟨rfl, rfl, rfl, by decide +kernel, rfl, by decide +kernel, by decide +kernel⟩
theorem ok_law_counted (F : FnT K "_law_counted" "_law_counted" s_law_counted [] [] f fd) (T : Txt K mg C Dc) (M_Line_waiting : AXwaiting P w K mg base C Dc) : FnOk P w K mg base CX0 2 f fd ["_law_line", "_law_asked", "_law_counts", "_law_turn", "_law_granted"] (spCounted C Dc) := by
  refine F.ok sc_law_counted (fun vs H Q E ⟨_, _, _, _, _, _, _, _, _, _, _, _, _, h, _⟩ => by rw [h]; rfl) (fun cdv A outer s H vs Q E hr ⟨D, Z, ds, L, S, ak, ck, gl, gs, gxs, af, cf, tn, hv, hL, ok, dok, hak, hck, hcds, hcaf, hgaf, hgl50, hgl, hgk, hca, hcL, hcZ, q⟩ => ⟨_, PSs.nox (pss_cons (ps_for PassesOwn.never rfl (pi_listK K rfl (pv 4)) (pg_tupK (n := 2) K rfl rfl (pgs_cons (pg_name (i := 5) sc_law_counted.nd rfl (by first | exact Or.inl rfl | exact Or.inr rfl)) (pgs_cons (pg_name (i := 6) sc_law_counted.nd rfl (by first | exact Or.inl rfl | exact Or.inr rfl)) pgs_nil))) (pss_cons (ps_for PassesOwn.never rfl (pi_listK K rfl (pe_callTy (call_listD rfl) (by rfl) T.fList boot_list (pa_cons (pv 2) pa_nil))) (pg_name (i := 7) sc_law_counted.nd rfl (by first | exact Or.inl rfl | exact Or.inr rfl)) (pss_one (ps_if (PW.pt (pw_and (pt_val (pv 6)) (pw_and (pt_cmpR op_ne (pv 7) (pv 5) (nomark _)) (pw_and1 (pt_cmpR op_lt (pe_dget (hu_of hr) (pv 1) (pv 7) (fun _ _ => rfl)) (pe_dget (hu_of hr) (pv 1) (pv 5) (fun _ _ => rfl)) (nomark _)))))) (pss_one (ps_dput (hu_of hr) (pv 2) (pv 7) (pe_op op_add (pe_dget (hu_of hr) (pv 2) (pv 7) (fun _ _ => rfl)) pe_int) rfl)) pss_nil)))
      (pss_one (ps_if (pt_cmp (pc_din (hu_of hr) (pv 5) (pv 2))) (pss_one (ps_expr (pe_dpop1 (pv 2) (pv 5) ⟨rfl, rfl, rfl, rfl⟩))) pss_nil))))
    (pss_cons (ps_setLc (i := 8) (own := [("_law_deal", 5), ("_law_goal", 9)]) rfl sc_law_counted.nd rfl rfl (sw_true rfl rfl rfl (by rfl)) (pi_listK K rfl (pe_methG0 M_Line_waiting T.clD hr (by decide) (pv 0))) (blkOk_by (by rfl)) (fun _ _ _ _ _ => (pg_tupK (n := 2) K rfl rfl (pgs_cons (pg_name (i := 5) sc_law_counted.nd rfl (by first | exact Or.inl rfl | exact Or.inr rfl)) (pgs_cons (pg_name (i := 9) sc_law_counted.nd rfl (by first | exact Or.inl rfl | exact Or.inr rfl)) pgs_nil)))) (fun _ _ _ _ _ => pts_nil) (fun _ _ _ _ _ => (pv 5)))
    (pss_one (ps_ret (pe_callTy (call_dictPK K rfl rfl) (by rfl) T.fDict boot_dict (pa_cons (pe_lc (own := [("_law_deal", 5)]) rfl sc_law_counted.nd (pi_listK K rfl (pv 8)) (blkOk_by (by rfl)) (fun _ _ _ _ _ => (pg_name (i := 5) sc_law_counted.nd rfl (by first | exact Or.inl rfl | exact Or.inr rfl))) (fun _ _ _ _ _ => pts_nil) (fun _ _ _ _ _ => (pe_tup (pa_cons (pv 5) (pa_cons (pe_dget2 (hu_of hr) (pv 2) (pv 5) pe_int ⟨rfl, rfl, rfl, rfl⟩) pa_nil))))) pa_nil)))))), ?_⟩)
  subst hv
  have hrow50 := Nat.le_trans ok.rowlen dok.few
  have hak' : ak ∉ [ck] := fun z => hca (List.mem_singleton.mp z).symm
  have hgl' : gl ∉ [ck] := fun z => by
    obtain ⟨kvs, hk⟩ := hck
    rw [List.mem_singleton.mp z, hk.at_] at hgl
    cases hgl
  have hcds' : ∀ n i, ((cntAll af cf (gs.take n)) i).isSome = true → i ∈ ds := fun n i h => hcds i (cntAll_some h)
  refine q_forL (ev_var (i := 4) (v := .ref gl) rfl) (SqL.of hgl) (fun i σ' H' => Keeps [5, 6, 7] ([some (.ref L.ln), some (.ref ak), some (.ref ck), some (.int tn), some (.ref gl), none, none, none, none, none] : L2.St) σ' ∧ DA H' ck (fN (cntAll af cf (gs.take i))) ∧ Fr [ck] [ck] H H')
    (fun H1 e1 => ⟨Keeps.refl, hck.ex e1, Fr.of e1⟩) (fun i σ' H' hi w => SqL.of (w.2.2.keep hgl' hgl)) (fun i x σ' H' hx w => ?_) (fun σ' H' w => ?_)
  · obtain ⟨wk, wc, wf⟩ := w
    obtain ⟨o5, o6, o7, rfl⟩ := wk.three
    obtain ⟨⟨d, r⟩, hg, tq, rfl, htq0⟩ := pair_get hgk hx
    have htq : H' tq = some (.tup [.int d, .bl r]) := wf.2.2 _ _ htq0
    have hgm := List.mem_of_getElem? hg
    obtain ⟨ad, had⟩ := hgaf _ hgm
    refine ⟨tq, _, rfl, SqT.of htq, rfl, _, _, rfl, _, _, rfl, rfl, ?_⟩
    show tSeq _ _ _ ([some (.ref L.ln), some (.ref ak), some (.ref ck), some (.int tn), some (.ref gl), some (.int d), some (.bl r), o7, none, none] : L2.St) H'
    have hst := take_succ_of hg
    have hcur : cntAll af cf (gs.take (i + 1)) = cnt1 af (cntAll af cf (gs.take i)) (d, r) := by
      rw [hst]
      unfold cntAll
      rw [List.foldl_append]
      rfl
    have hin := hcds' i
    have hinA : ∀ j, ((cntAll af cf (gs.take i)) j).isSome = true → ∃ a, af j = some a := fun j h => hcaf j (cntAll_some h)
    generalize cntAll af cf (gs.take i) = c0 at wc hcur hin hinA
    obtain ⟨kvs, hk⟩ := id wc
    obtain ⟨ks, hks, hnd, hkm⟩ := hk.keys
    have hkl := Nat.le_trans (hk.len (fN_in2 hin)) dok.few
    have hksl : ks.length = kvs.length := by have := congrArg List.length hks; simpa using this.symm
    have hkv : (kvs.map fun kv => kV kv.1) = ks.map V.int := by
      have := congrArg (List.map kV) hks
      rw [List.map_map, List.map_map] at this
      exact this
    have hL := el_listD (σ := ([some (.ref L.ln), some (.ref ak), some (.ref ck), some (.int tn), some (.ref gl), some (.int d), some (.bl r), o7, none, none] : L2.St)) (H := H') (ta := tVar 2) (ev_var (i := 2) (v := .ref ck) rfl) hk.at_
    rw [hkv] at hL
    refine q_forNLn hL (fun p j σ2 H2 => Keeps [7] ([some (.ref L.ln), some (.ref ak), some (.ref ck), some (.int tn), some (.ref gl), some (.int d), some (.bl r), o7, none, none] : L2.St) σ2 ∧ H2 p = some (.lst (ks.map V.int)) ∧ p ≠ ck ∧ DA H2 ck (fN (part1 af c0 (d, r) (ks.take j))) ∧ Fr [ck] [ck] H H2)
      (fun p H1 hpn e1 hp => ⟨Keeps.refl, hp, (fun z => by rw [z, hk.at_] at hpn; cases hpn), ?_, wf.ex e1⟩) (fun p j σ2 H2 _ w2 => SqL.of w2.2.1) (fun p j x2 σ2 H2 hx2 w2 => ?_) (fun p σ2 H2 w2 => ?_)
    · have e0 : part1 af c0 (d, r) (ks.take 0) = c0 := by
        funext j
        unfold part1
        rw [if_neg (fun z => by simp at z)]
      rw [e0]
      exact wc.ex e1
    · obtain ⟨wk2, wp2, wpn, wc2, wf2⟩ := w2
      obtain ⟨o7', rfl⟩ := wk2.one
      rw [List.getElem?_map] at hx2
      obtain ⟨k, hkj, rfl⟩ := Option.map_eq_some_iff.mp hx2
      show tIfS _ _ _ _ ([some (.ref L.ln), some (.ref ak), some (.ref ck), some (.int tn), some (.ref gl), some (.int d), some (.bl r), some (.int k), none, none] : L2.St) H2
      have hkmem : k ∈ ks := List.mem_of_getElem? hkj
      have hks2 : (c0 k).isSome = true := by rw [← fN_isSome]; exact (hkm k).mp hkmem
      obtain ⟨n, hn⟩ := Option.isSome_iff_exists.mp hks2
      obtain ⟨akv, hakv⟩ := hinA k hks2
      have hnot : k ∉ ks.take j := fun z => by
        have h1 := hnd
        rw [← List.take_append_drop j ks, List.nodup_append] at h1
        refine h1.2.2 k z k ?_ rfl
        rw [List.mem_iff_getElem?]
        exact ⟨0, by rw [List.getElem?_drop]; exact hkj⟩
      have hstk := take_succ_of hkj
      have hcn : part1 af c0 (d, r) (ks.take j) k = some n := by
        unfold part1
        rw [if_neg (fun z => hnot z.1)]
        exact hn
      have hsn := part1_snoc (af := af) (g := (d, r)) hnot hn
      rw [← hstk] at hsn
      have hak2 : DA H2 ak (fN af) := hak.fr wf2 hak'
      refine s_when (b := r && (!decide (k = d) && ltO (af k) (af d))) (et_and (et_B (ev_var (i := 6) rfl)) (fun _ => et_and (et_is (et_test (ev_op (ev_var (i := 7) (v := .int k) rfl) (ev_var (i := 5) rfl) (rv_ne rfl))) (by by_cases z : k = d <;> simp [z])) (fun _ => et_is (et_test (ev_op (ev_daget (i := k) (v := .int akv) (ev_var (i := 1) rfl) (ev_var (i := 7) rfl) hak2 (by unfold fN; rw [hakv]; rfl)) (ev_daget (i := d) (v := .int ad) (ev_var (i := 1) rfl) (ev_var (i := 5) rfl) hak2 (by unfold fN; rw [had]; rfl)) rv_I0)) (by rw [hakv, had]; rfl)))) (fun z H3 e3 => ?_) (fun z H3 e3 => ?_)
      · rw [if_pos z] at hsn
        have wc3 := wc2.ex e3
        obtain ⟨kvs2, hk2⟩ := id wc3
        have hkl2 := Nat.le_trans (hk2.len (ds := ds) (fN_in2 fun i h => by rw [part1_isSome] at h; exact hin i h)) dok.few
        refine s_dputI (v := .int (n + 1)) (ev_op (ev_daget (i := k) (v := .int n) (ev_var (i := 2) (v := .ref ck) rfl) (ev_var (i := 7) rfl) wc3 (by unfold fN; rw [hcn]; rfl)) (ev_c (v := .int 1)) rv_I0) (ev_var (i := 2) rfl) (ev_var (i := 7) rfl) hk2 (by omega) fun H4 e4 hk4 => ?_
        obtain ⟨h5, f5⟩ := da_put hk4 k (.int (n + 1))
        rw [fput_fN, ← hsn] at h5
        exact ⟨Keeps.refl.set (j := 7) (by decide), by rw [upd_ne wpn]; exact e4 _ _ (e3 _ _ wp2), wpn, h5, (wf2.ex (e3.trans e4)).trans f5⟩
      · rw [if_neg (by rw [z]; decide)] at hsn
        rw [hsn]
        exact ⟨Keeps.refl.set (j := 7) (by decide), e3 _ _ wp2, wpn, wc2.ex e3, wf2.ex e3⟩
    · obtain ⟨wk2, wp2, wpn, wc2, wf2⟩ := w2
      obtain ⟨o7', rfl⟩ := wk2.one
      rw [List.length_map, List.take_length] at wc2
      have hall := part1_all (af := af) (cf := c0) (g := (d, r)) (ks := ks) fun j h => (hkm j).mpr (by rw [fN_isSome]; exact h)
      have hall : put (part1 af c0 (d, r) ks) d none = cntAll af cf (gs.take (i + 1)) := by rw [hcur]; exact hall
      have wkk : Keeps [5, 6, 7] ([some (.ref L.ln), some (.ref ak), some (.ref ck), some (.int tn), some (.ref gl), none, none, none, none, none] : L2.St) ([some (.ref L.ln), some (.ref ak), some (.ref ck), some (.int tn), some (.ref gl), some (.int d), some (.bl r), o7', none, none] : L2.St) := ((Keeps.refl.set (j := 5) (o := some (.int d)) (by decide)).set (j := 6) (o := some (.bl r)) (by decide)).set (j := 7) (o := o7') (by decide)
      show tIfS _ _ _ _ ([some (.ref L.ln), some (.ref ak), some (.ref ck), some (.int tn), some (.ref gl), some (.int d), some (.bl r), o7', none, none] : L2.St) H2
      refine s_when (et_B (ev_dain (i := d) (ev_var (i := 5) rfl) (ev_var (i := 2) (v := .ref ck) rfl) wc2)) (fun z H3 e3 => ?_) (fun z H3 e3 => ?_)
      · obtain ⟨v, hv⟩ := Option.isSome_iff_exists.mp z
        obtain ⟨kvs2, hk2⟩ := wc2.ex e3
        refine s_popI (ev_var (i := 2) rfl) (ev_var (i := 5) rfl) hk2 hv fun H4 e4 hk4 => ?_
        obtain ⟨h5, f5⟩ := da_drop hk4 d
        rw [fdrop_fN, hall] at h5
        exact ⟨wkk, h5, (wf2.ex (e3.trans e4)).trans f5⟩
      · have hno : put (part1 af c0 (d, r) ks) d none = part1 af c0 (d, r) ks := by
          funext j
          by_cases hj : j = d
          · rw [hj, put_same]
            rw [fN_isSome] at z
            cases e : part1 af c0 (d, r) ks d with
            | none => rfl
            | some n => rw [e] at z; cases z
          · rw [put_ne hj]
        refine ⟨wkk, ?_, wf2.ex e3⟩
        rw [← hall, hno]
        exact wc2.ex e3
  · obtain ⟨wk, wc, wf⟩ := w
    obtain ⟨o5, o6, o7, rfl⟩ := wk.three
    rw [← pair_len hgk, List.take_length] at wc
    have hcin : ∀ i, ((cntAll af cf gs) i).isSome = true → i ∈ ds := fun i h => hcds i (cntAll_some h)
    generalize cntAll af cf gs = c1 at wc q hcin
    have hL' : LineAt C Dc D Z H' L S := hL.fr wf (fun b hb => by rw [List.mem_singleton.mp hb]; exact hcL) (fun b hb => by rw [List.mem_singleton.mp hb]; exact hcZ)
    show tSeq _ _ _ ([some (.ref L.ln), some (.ref ak), some (.ref ck), some (.int tn), some (.ref gl), o5, o6, o7, none, none] : L2.St) H'
    have hX := ep_lcW (σ := ([some (.ref L.ln), some (.ref ak), some (.ref ck), some (.int tn), some (.ref gl), o5, o6, o7, none, none] : L2.St)) (H := H') (te := tVar 5) (g := gTup K 2 (gCons (gName 5) (gCons (gName 9) gNil))) (vs := [5, 9]) (t := tYes) (fun e : Ent => true) (fun e : Ent => e.1) (kdV V.int)
      (wk_list (K := K) (ka := kdE) (ls_new (ep_waiting (ev_var (i := 0) (v := .ref L.ln) rfl) hL'))) (by omega)
      (fun e x' H8 he e8 hx => by
        obtain ⟨tq, rfl, htq⟩ := hx
        exact ⟨tq, _, rfl, SqT.of htq, rfl, _, _, rfl, _, _, rfl, rfl, wipe_turn2, Ex.refl _, et_yes, fun _ => ep_ev (ev_var (i := 5) rfl)⟩)
      gt2_mono
    rw [filt_true] at hX
    refine q_asgN hX fun p8 ys8 H2 _ e2 hp8 k8 => ?_
    have hy8 := kdV_L k8
    subst hy8
    show tRet _ _ ([some (.ref L.ln), some (.ref ak), some (.ref ck), some (.int tn), some (.ref gl), o5, o6, o7, some (.ref p8), none] : L2.St) H2
    have hl8 : (S.row.map fun e => e.1).length ≤ 50 := by rw [List.length_map]; exact hrow50
    have wc2 := wc.ex e2
    have hY := ep_lcW (σ := ([some (.ref L.ln), some (.ref ak), some (.ref ck), some (.int tn), some (.ref gl), o5, o6, o7, some (.ref p8), none] : L2.St)) (H := H2) (te := tTup (tCons (tVar 5) (tCons (tDGet2 (tVar 2) (tVar 5) (tC (.int 0))) tNil))) (g := gName 5) (vs := [5]) (t := tYes) (fun i : Int => true) (fun i : Int => ((Sum.inl i, .int ((c1 i).getD 0)) : Key × V)) kdKV
      (wk_list (K := K) (ka := kdV V.int) (ls_lk (lk_ints (ns := S.row.map fun e => e.1) (ev_var (i := 8) (v := .ref p8) rfl) hp8))) (by omega)
      (fun i x' H8 hi e8 hx => by
        cases hx
        refine ⟨rfl, Ex.refl _, et_yes, fun _ => ?_⟩
        exact ep_tupR (ρ := fun kv : Key × V => [kV kv.1, kv.2]) (b := (Sum.inl i, .int ((c1 i).getD 0))) (eu_tup (ea_cons (ev_var (i := 5) (v := .int i) rfl) (ea_cons (ev_is (ev_daget2 (i := i) (z := .int 0) (ev_var (i := 2) (v := .ref ck) rfl) (ev_var (i := 5) rfl) ev_c (wc2.ex e8)) (by unfold fN; cases c1 i <;> rfl)) ea_nil)) (by show 2 ≤ 100000; decide)))
      gname_mono
    rw [filt_true] at hY
    have hnd : (((S.row.map fun e => e.1).map fun i : Int => ((Sum.inl i, .int ((c1 i).getD 0)) : Key × V)).map (·.1)).Nodup := by
      rw [List.map_map]
      exact nodup_map_inj (fun a b h => by injection h) ok.nd
    refine s_retP (ep_dictP hY hnd) fun v H3 e3 ⟨p, hv, hpn, hp⟩ => ?_
    subst hv
    refine q p H3 ((wf.ex e2).fback hpn fun b hb => ?_) ⟨_, DI.ofKeys (ys := S.row.map fun e => e.1) ok.nd (fun i => ?_) ?_⟩ (wf.ex (e2.trans e3))
    · rw [List.mem_singleton.mp hb]
      obtain ⟨kvs, hk⟩ := wc2
      exact ⟨_, hk.at_⟩
    · rw [fN_isSome]
      unfold fin
      constructor
      · intro h
        rw [if_pos h]; rfl
      · intro h
        split at h
        · assumption
        · cases h
    · rw [hp]
      congr 2
      refine List.map_congr_left fun i hi => ?_
      unfold fN fin
      rw [if_pos hi]
      rfl
end
end HT
set_option Elab.async false
set_option linter.all false
set_option maxRecDepth 100000
set_option maxHeartbeats 4000000
/-! the law: what a turn stands on -/
namespace HT
open PySem PySem.Spec PyProof.Rows L2 Evl LamX
/-- the cells that a turn changes -/
abbrev WF (da ak : Addr) (L : LA) (M : MA) : List Addr := da :: ak :: (L.foot ++ M.foot)
structure Wd (C Dc : Addr) (D : TD Str) (Z H : Hp) (da ak : Addr) (L : LA) (M : MA) (S1 S2 : LS) (af : Int → Option Int) : Prop where
  line : LineAt C Dc D Z H L S1
  mod : ModAt Z H M S2
  draw : DrawR Z H da
  asked : DA H ak (fN af)
  az : Z ak = none
  dL : da ∉ L.foot
  dM : da ∉ M.foot
  aL : ak ∉ L.foot
  aM : ak ∉ M.foot
  LM : ∀ b ∈ L.foot, b ∉ M.foot
  dak : da ≠ ak
section
variable {C Dc : Addr} {D : TD Str} {Z H H' : Hp} {da ak b : Addr} {L L' : LA} {M M' : MA} {S1 S2 S1' S2' : LS} {af af' : Int → Option Int} {o : HO}
theorem Wd.ex (h : Wd C Dc D Z H da ak L M S1 S2 af) (e : Ex H H') : Wd C Dc D Z H' da ak L M S1 S2 af :=
  ⟨h.line.ex e, h.mod.ex e, h.draw.ex e, h.asked.ex e, h.az, h.dL, h.dM, h.aL, h.aM, h.LM, h.dak⟩
theorem Wd.liveD (h : Wd C Dc D Z H da ak L M S1 S2 af) : ∃ o, H da = some o := by
  obtain ⟨kvs, hk⟩ := h.draw.live
  exact ⟨_, hk⟩
theorem Wd.liveA (h : Wd C Dc D Z H da ak L M S1 S2 af) : ∃ o, H ak = some o := by
  obtain ⟨u, hu, _⟩ := h.asked.some
  exact ⟨u, hu⟩
theorem Wd.draw_ (h : Wd C Dc D Z H da ak L M S1 S2 af) (f : Fr [da] [da] H H') (hD : DrawR Z H' da) : Wd C Dc D Z H' da ak L M S1 S2 af :=
  ⟨h.line.fr f (fun b hb => by rw [List.mem_singleton.mp hb]; exact h.dL) (fun b hb => by rw [List.mem_singleton.mp hb]; exact h.draw.zf),
   h.mod.fr f (fun b hb => by rw [List.mem_singleton.mp hb]; exact h.dM) (fun b hb => by rw [List.mem_singleton.mp hb]; exact h.draw.zf),
   hD, h.asked.fr f (by simpa using h.dak.symm), h.az, h.dL, h.dM, h.aL, h.aM, h.LM, h.dak⟩
theorem Wd.ask_ (h : Wd C Dc D Z H da ak L M S1 S2 af) (f : Fr [ak] [ak] H H') (ha : DA H' ak (fN af')) : Wd C Dc D Z H' da ak L M S1 S2 af' :=
  ⟨h.line.fr f (fun b hb => by rw [List.mem_singleton.mp hb]; exact h.aL) (fun b hb => by rw [List.mem_singleton.mp hb]; exact h.az),
   h.mod.fr f (fun b hb => by rw [List.mem_singleton.mp hb]; exact h.aM) (fun b hb => by rw [List.mem_singleton.mp hb]; exact h.az),
   h.draw.fr f (by simpa using h.dak) (fun b hb => by rw [List.mem_singleton.mp hb]; exact h.az), ha, h.az, h.dL, h.dM, h.aL, h.aM, h.LM, h.dak⟩
theorem one_out {x : Addr} {F F' : List Addr} (f : Fr F F' H H') (n : x ∉ F) (l : ∃ o, H x = some o) : x ∉ F' :=
  f.apart (F2 := [x]) (fun b hb => by rw [List.mem_singleton.mp hb]; exact n) (fun b hb => by rw [List.mem_singleton.mp hb]; exact l) x (by simp)
theorem Wd.line_ (h : Wd C Dc D Z H da ak L M S1 S2 af) (f : Fr L.foot L'.foot H H') (hl : LineAt C Dc D Z H' L' S1') : Wd C Dc D Z H' da ak L' M S1' S2 af :=
  ⟨hl, h.mod.fr f h.LM h.line.zf, h.draw.fr f h.dL h.line.zf, h.asked.fr f h.aL, h.az, one_out f h.dL h.liveD, h.dM, one_out f h.aL h.liveA, h.aM, fun b hb hm =>
    f.apart (F2 := M.foot) (fun c hc q => h.LM c q hc) (fun c hc => by obtain ⟨o, ho, _⟩ := h.mod.live c hc; exact ⟨o, ho⟩) b hm hb, h.dak⟩
theorem Wd.mod_ (h : Wd C Dc D Z H da ak L M S1 S2 af) (f : Fr M.foot M'.foot H H') (hm : ModAt Z H' M' S2') : Wd C Dc D Z H' da ak L M' S1 S2' af :=
  ⟨h.line.fr f (fun b hb q => h.LM b q hb) h.mod.zf, hm, h.draw.fr f h.dM h.mod.zf, h.asked.fr f h.aM, h.az, h.dL, one_out f h.dM h.liveD, h.aL, one_out f h.aM h.liveA, fun b hb hm =>
    f.apart (F2 := L.foot) (fun c hc q => h.LM c hc q) (fun c hc => by obtain ⟨o, ho, _⟩ := h.line.live c hc; exact ⟨o, ho⟩) b hb hm, h.dak⟩
theorem wf_out : b ∉ WF da ak L M ↔ b ≠ da ∧ b ≠ ak ∧ b ∉ L.foot ∧ b ∉ M.foot := by
  rw [List.mem_cons, List.mem_cons, List.mem_append, not_or, not_or, not_or]
theorem Wd.oth (h : Wd C Dc D Z H da ak L M S1 S2 af) (f : Fr [b] [b] H H') (hb : b ∉ WF da ak L M) (hz : Z b = none) : Wd C Dc D Z H' da ak L M S1 S2 af := by
  obtain ⟨h1, h2, h3, h4⟩ := wf_out.mp hb
  exact ⟨h.line.fr f (fun c hc => by rw [List.mem_singleton.mp hc]; exact h3) (fun c hc => by rw [List.mem_singleton.mp hc]; exact hz),
   h.mod.fr f (fun c hc => by rw [List.mem_singleton.mp hc]; exact h4) (fun c hc => by rw [List.mem_singleton.mp hc]; exact hz),
   h.draw.fr f (by simpa using h1.symm) (fun c hc => by rw [List.mem_singleton.mp hc]; exact hz), h.asked.fr f (by simpa using h2.symm), h.az, h.dL, h.dM, h.aL, h.aM, h.LM, h.dak⟩
theorem Wd.new (h : Wd C Dc D Z H da ak L M S1 S2 af) (hn : H b = none) : b ∉ WF da ak L M ∧ Z b = none := by
  obtain ⟨h1, h2⟩ := h.line.new hn
  refine ⟨wf_out.mpr ⟨fun z => ?_, fun z => ?_, h1, (h.mod.new hn).1⟩, h2⟩
  · obtain ⟨o, ho⟩ := h.liveD
    rw [z, ho] at hn; cases hn
  · obtain ⟨o, ho⟩ := h.liveA
    rw [z, ho] at hn; cases hn
/-- what lies outside stays, and stays outside -/
theorem keep_draw (f : Fr [da] [da] H H') (hb : b ∉ WF da ak L M) (hl : H b = some o) : H' b = some o := f.keep (by simpa using (wf_out.mp hb).1) hl
theorem keep_ask (f : Fr [ak] [ak] H H') (hb : b ∉ WF da ak L M) (hl : H b = some o) : H' b = some o := f.keep (by simpa using (wf_out.mp hb).2.1) hl
theorem keep_line (f : Fr L.foot L'.foot H H') (hb : b ∉ WF da ak L M) (hl : H b = some o) : H' b = some o ∧ b ∉ WF da ak L' M := by
  obtain ⟨h1, h2, h3, h4⟩ := wf_out.mp hb
  exact ⟨f.keep h3 hl, wf_out.mpr ⟨h1, h2, one_out f h3 ⟨o, hl⟩, h4⟩⟩
theorem keep_mod (f : Fr M.foot M'.foot H H') (hb : b ∉ WF da ak L M) (hl : H b = some o) : H' b = some o ∧ b ∉ WF da ak L M' := by
  obtain ⟨h1, h2, h3, h4⟩ := wf_out.mp hb
  exact ⟨f.keep h4 hl, wf_out.mpr ⟨h1, h2, h3, one_out f h4 ⟨o, hl⟩⟩⟩
theorem da_at {a : Addr} {fn : FI} (h : DA H a fn) : ∃ o, H a = some o := by
  obtain ⟨u, hu, _⟩ := h.some
  exact ⟨u, hu⟩
/-- a dict outside -/
theorem da_line {fn : FI} (f : Fr L.foot L'.foot H H') (hb : b ∉ WF da ak L M) (hd : DA H b fn) : DA H' b fn ∧ b ∉ WF da ak L' M := by
  obtain ⟨o, ho⟩ := da_at hd
  exact ⟨hd.fr f (wf_out.mp hb).2.2.1, (keep_line f hb ho).2⟩
theorem da_mod {fn : FI} (f : Fr M.foot M'.foot H H') (hb : b ∉ WF da ak L M) (hd : DA H b fn) : DA H' b fn ∧ b ∉ WF da ak L M' := by
  obtain ⟨o, ho⟩ := da_at hd
  exact ⟨hd.fr f (wf_out.mp hb).2.2.2, (keep_mod f hb ho).2⟩
theorem da_draw {fn : FI} (f : Fr [da] [da] H H') (hb : b ∉ WF da ak L M) (hd : DA H b fn) : DA H' b fn := hd.fr f (by simpa using (wf_out.mp hb).1)
theorem da_ask {fn : FI} (f : Fr [ak] [ak] H H') (hb : b ∉ WF da ak L M) (hd : DA H b fn) : DA H' b fn := hd.fr f (by simpa using (wf_out.mp hb).2.1)
/-! ### the draw's dict is none of a table's -/
theorem drK_str {ca : Addr} {a : Nat} {r tn : Int} {m s : Str} (h : valV (drK ca a r tn) (.inr m) = some (.str s)) : False := by
  unfold valV at h
  obtain ⟨p, hp, e⟩ := Option.map_eq_some_iff.mp h
  have h1 := List.mem_of_find?_eq_some hp
  simp only [drK, List.mem_cons, List.not_mem_nil, or_false] at h1
  rcases h1 with rfl | rfl | rfl | rfl <;> cases e
theorem TabJ.butD {t : Addr} {j : V} (h : TabJ C H t D j) (ho : D.order ≠ []) (hd : ∀ o, H da = some o → ∃ ca a r tn, o = .dK (drK ca a r tn)) (k : ∀ b o, b ≠ da → H b = some o → (∀ ps, o ≠ .tbl ps) → H' b = some o) : TabJ C H' t D j := by
  obtain ⟨dx, o, p, w, u, ob, kvp, kvw, kvu, A⟩ := h
  obtain ⟨m, hm⟩ := List.exists_mem_of_ne_nil _ ho
  have n1 : t ≠ da := fun z => by
    obtain ⟨_, _, _, _, e⟩ := hd _ (by rw [← z]; exact A.at_)
    cases e
  have n2 : o ≠ da := fun z => by
    obtain ⟨_, _, _, _, e⟩ := hd _ (by rw [← z]; exact A.ord)
    cases e
  have n3 : p ≠ da := fun z => by
    obtain ⟨_, _, _, _, e⟩ := hd _ (by rw [← z]; exact A.prs)
    cases e
  have n4 : w ≠ da := fun z => by
    obtain ⟨ca, a, r, tn, e⟩ := hd _ (by rw [← z]; exact A.wor)
    have e2 : kvw = drK ca a r tn := by injection e
    have := A.rank m hm
    rw [e2] at this
    exact drK_str this
  have n5 : u ≠ da := fun z => by
    obtain ⟨ca, a, r, tn, e⟩ := hd _ (by rw [← z]; exact A.upp)
    have e2 : kvu = drK ca a r tn := by injection e
    have := A.up m hm
    rw [e2] at this
    exact drK_str this
  exact ⟨dx, o, p, w, u, ob, kvp, kvw, kvu, k _ _ n1 A.at_ (fun _ z => by cases z), k _ _ n2 A.ord (fun _ z => by cases z), A.oc, A.od, k _ _ n3 A.prs (fun _ z => by cases z), A.near, k _ _ n4 A.wor (fun _ z => by cases z), A.rank, k _ _ n5 A.upp (fun _ z => by cases z), A.up⟩
theorem DataR.butD {ga : Addr} (h : DataR H da ga D) (k : ∀ b o, b ≠ da → (∀ c d fs, o ≠ .ins c d fs) → (∀ ps, o ≠ .tbl ps) → H b = some o → H' b = some o) (hd : ∀ o, H da = some o → ∃ ca a r tn, o = .dK (drK ca a r tn)) (hx : ∀ c xs, H c = some (.tup xs) → H' c = some (.tup xs)) : DataR H' da ga D := by
  obtain ⟨a, b, g, u, xs, A, n1, n2, n3⟩ := h
  have na : a ≠ da := fun z => by
    obtain ⟨_, _, _, _, e⟩ := hd _ (by rw [← z]; exact A.dat.ord)
    cases e
  have nb : b ≠ da := fun z => by
    obtain ⟨_, _, _, _, e⟩ := hd _ (by rw [← z]; exact A.dat.prs)
    cases e
  exact ⟨a, b, g, u, xs, ⟨k _ _ n1 (fun _ _ _ z => by cases z) (fun _ z => by cases z) A.at_, k _ _ na (fun _ _ _ z => by cases z) (fun _ z => by cases z) A.dat.ord, k _ _ nb (fun _ _ _ z => by cases z) (fun _ z => by cases z) A.dat.prs, kdP.L_mono (fun c xs hc => hx c xs hc) A.dat.prk, k _ _ n2 (fun _ _ _ z => by cases z) (fun _ z => by cases z) A.dat.giv, k _ _ n3 (fun _ _ _ z => by cases z) (fun _ z => by cases z) A.dat.abv⟩, n1, n2, n3⟩
theorem DrawS.shape (h : DrawS H da) : ∃ ca a r tn, H da = some (.dK (drK ca a r tn)) := by
  obtain ⟨ca, cs, a, r, tn, A⟩ := h
  exact ⟨ca, a, r, tn, A.at_⟩
theorem sqBut {K : PySem.W.Frag} {s : Addr} {xs : List V} (h : SqL K H s xs) (k : ∀ o, (o = .lst xs ∨ ∃ ob, o = .frz ob (.lst xs)) → H s = some o → H' s = some o) : SqL K H' s xs := by
  rcases h with (h | ⟨o, h⟩) | h
  · exact .inl (.inl (k _ (.inl rfl) h))
  · exact .inl (.inr ⟨o, k _ (.inr ⟨o, rfl⟩) h⟩)
  · exact .inr h
theorem ModR.reZ {Z' : Hp} {kf sf : FI} {rows : List Ent} {turn : Int} (h : ModR Z H M kf rows sf turn) (e : Ex Z' H) (zf : ∀ b ∈ M.foot, Z' b = none) : ModR Z' H M kf rows sf turn := ⟨e, zf, h.nd, h.at_, h.kp, h.row, h.sk⟩
theorem optS_inj {a b : Option Str} : optS a = optS b ↔ a = b := by
  constructor
  · intro h
    cases a <;> cases b
    · rfl
    · cases h
    · cases h
    · injection h with h; rw [h]
  · intro h; rw [h]
theorem deed_in {ds : List Int} {S : LS} {x : Deed} (h : x.ok D ds S) : x.deal ∈ ds := by
  cases x <;> exact h.1
theorem deed_less {ds : List Int} {S : LS} {tn : Int} {x : Deed} (h : Inv D ds S af tn) (hx : x.ok D ds S) (hn : x.isAsk = false) : ∃ fs, (x.res D ds S).2 = .inr fs ∧ LessOk D ds S af tn x.deal (x.res D ds S).1 fs := by
  have noOf : ∀ {d : Int}, d ∉ S.row.map (·.1) → S.row = noW S.row d ∧ S.skips = put S.skips d none := fun {d} hd => by
    constructor
    · symm
      unfold noW
      exact List.filter_eq_self.mpr fun e he => decide_eq_true fun z => hd (by rw [← z]; exact List.mem_map.mpr ⟨e, he, rfl⟩)
    · funext i
      by_cases hi : i = d
      · rw [hi, put_same]
        cases e : S.skips d with
        | none => rfl
        | some n => exact absurd ((h.ok.sk d).mp (by rw [e]; rfl)) hd
      · rw [put_ne hi]
  cases x with
  | ask d m => cases hn
  | ease d m =>
    obtain ⟨hd, hm, hdr, h0, hh, hb⟩ := hx
    obtain ⟨e1, e2⟩ := noOf hdr
    refine ⟨_, rfl, less_right (S1 := { S with keeps := put S.keeps d (some m) }) h ⟨fun i g hi => ?_, h.ok.rin, h.ok.nd, h.ok.sk⟩ e1 e2 (fun e he => .inl ?_) rfl⟩
    · have hi : put S.keeps d (some m) i = some g := hi
      by_cases z : i = d
      · rw [z, put_same] at hi; cases hi; rw [z]; exact ⟨hd, hm⟩
      · rw [put_ne z] at hi; exact h.ok.kin i g hi
    · show put S.keeps d (some m) e.1 = _
      exact put_ne fun z => hdr (by rw [← z]; exact List.mem_map.mpr ⟨e, he, rfl⟩)
  | go d =>
    refine ⟨_, rfl, less_right (S1 := ({ S with keeps := put S.keeps d none } : LS).unwait d) h ?_ rfl rfl (fun e he => .inl ?_) rfl⟩
    · have ok0 : LOk D ds { S with keeps := put S.keeps d none } := ⟨fun i g hi => by
        have hi : put S.keeps d none i = some g := hi
        by_cases z : i = d
        · rw [z, put_same] at hi; cases hi
        · rw [put_ne z] at hi; exact h.ok.kin i g hi, h.ok.rin, h.ok.nd, h.ok.sk⟩
      exact ok0.unwait d
    · show put S.keeps d none e.1 = _
      exact put_ne (noW_mem.mp he).2
  | cease d => exact ⟨_, rfl, less_right (S1 := S.unwait d) h (h.ok.unwait d) rfl rfl (fun e he => .inl rfl) rfl⟩
end
section
variable {P : Program} {w : World} {K : PySem.W.Frag} {mg : Str → Option Value} {base : Heap} {C Dc Pt : Addr} {f : Addr} {fd : FuncData} {Z H H' : Hp} {L : LA} {σ : L2.St} {ta tb te tl tc : TE} {tA : TA} {E : Ends} {tz tu tw : TS} {g : TG} {D : TD Str} {ds : List Int} {S : LS}
theorem q_asg2A {i j : Nat} {R1 : V → Hp → Prop} {R2 : V → Hp → V → Hp → Prop} (h1 : At ta σ H R1) (h2 : ∀ v H1, R1 v H1 → At tb σ H1 (R2 v H1)) (k : ∀ v H1 w H2 H3, R1 v H1 → R2 v H1 w H2 → Ex H2 H3 → tz E ((σ.set i (some v)).set j (some w)) H3) : tSeq (tAsg (tTup (tCons ta (tCons tb tNil))) (gTup K 2 (gCons (gName i) (gCons (gName j) gNil)))) tz E σ H :=
  h1 _ fun v H1 r1 => h2 v H1 r1 _ fun w H2 r2 => ⟨sz_of (by show 2 ≤ 100000; decide), fun p hp => ⟨p, _, rfl, SqT.of upd_same, rfl, _, _, rfl, _, _, rfl, rfl, k v H1 w H2 _ r1 r2 (Ex.new hp)⟩⟩
theorem q_mid {t1 : TS} (Mid : L2.St → Hp → Prop) (h : ∀ N : L2.St → Hp → Prop, (∀ σ' H', Mid σ' H' → N σ' H') → t1 { E with nx := N } σ H) (k : ∀ σ' H', Mid σ' H' → tz E σ' H') : tSeq t1 tz E σ H := h (tz E) k
theorem s_asgP {Pp : Hp → V → Hp → Prop} {i : Nat} (h : EvP te σ H Pp) (k : ∀ v H1, Ex H H1 → Pp H v H1 → E.nx (σ.set i (some v)) H1) : tAsg te (gName i) E σ H := h H (Ex.refl _) _ k
theorem ep_min2 {i j : Int} (h1 : Ev ta σ H (.int i)) (h2 : Ev tb σ H (.int j)) : Ev (tCB (fun xs H Q => ∃ i j : Int, xs = [.int i, .int j] ∧ Q (.int (if j < i then j else i)) H) (tCons ta (tCons tb tNil))) σ H (.int (if j < i then j else i)) := fun H1 e1 Q q =>
  h1 H1 e1 _ fun H2 e2 => h2 H2 (e1.trans e2) _ fun H3 e3 => ⟨i, j, rfl, q H3 (e2.trans e3)⟩
end
end HT
set_option Elab.async false
set_option linter.all false
set_option maxRecDepth 100000
set_option maxHeartbeats 8000000
/-! the law -/
namespace HT
open PySem PySem.Spec PyProof.Rows L2 Evl LamX
section
variable {P : Program} {w : World} {K : PySem.W.Frag} {mg : Str → Option Value} {base : Heap} {C Dc Pt : Addr} {f : Addr} {fd : FuncData}
abbrev AXcounted (P : Program) (w : World) (K : PySem.W.Frag) (mg : Str → Option Value) (base : Heap) (C Dc : Addr) := GF P w K mg base "_law_counted" ["_law_line", "_law_asked", "_law_counts", "_law_turn", "_law_granted"] [] 2 (spCounted C Dc)
def spLaw (K : PySem.W.Frag) (Pt : Addr) : Sp := fun vs H Q _ => ∃ (s : Addr) (ns : List Int), vs = [.ref s] ∧ SqL K H s (ns.map V.int) ∧ ns.length ≤ 63 ∧ Tabs (TL Pt) H ∧ ∀ H', Q (.bl true) H'
/-- between two turns -/
def Turn (C Dc : Addr) (D : TD Str) (Z : Hp) (s da t ga pl ln mm ak : Addr) (ds : List Int) (i : Nat) (σ' : L2.St) (H' : Hp) : Prop :=
  ∃ (L : LA) (M : MA) (S : LS) (af : Int → Option Int) (ck : Addr) (o9 o10 o11 o12 o13 o14 o15 : Option V), σ' = [some (.ref s), some (.ref da), some (.ref t), some (.ref ga), some (.ref pl), some (.ref ln), some (.ref mm), some (.ref ak), some (.ref ck), o9, o10, o11, o12, o13, o14, o15] ∧ L.ln = ln ∧ M.mm = mm ∧ Wd C Dc D Z H' da ak L M S S af ∧ Inv D ds S af (i : Int) ∧ (∀ j, (af j).isSome = true → j ∈ ds) ∧ ck ∉ WF da ak L M ∧ Z ck = none ∧ DA H' ck (fN S.skips)
/-- behind the ask's or the others' own part of a turn -/
def Mid (C Dc : Addr) (D : TD Str) (Z : Hp) (s da t ga pl ln mm ak : Addr) (ds : List Int) (i : Nat) (L : LA) (M : MA) (S : LS) (td bl hx : Addr) (tv : V) (σ' : L2.St) (H' : Hp) : Prop :=
  ∃ (af cf : Int → Option Int) (ck gl : Addr) (gs : List (Int × Bool)) (gxs : List V) (o15 : Option V), σ' = [some (.ref s), some (.ref da), some (.ref t), some (.ref ga), some (.ref pl), some (.ref ln), some (.ref mm), some (.ref ak), some (.ref ck), some (.int (i : Int)), some (.ref td), some (.ref bl), some (.ref hx), some tv, some (.ref gl), o15] ∧ Wd C Dc D Z H' da ak L M S S af ∧ Inv D ds S af ((i : Int) + 1) ∧ (∀ j, (af j).isSome = true → j ∈ ds) ∧ ck ∉ WF da ak L M ∧ Z ck = none ∧ DA H' ck (fN cf) ∧ (∀ j, (cf j).isSome = true → j ∈ ds) ∧ (∀ j, (cf j).isSome = true → ∃ a, af j = some a) ∧ (∀ g ∈ gs, ∃ a, af g.1 = some a) ∧ gs.length ≤ 50 ∧ H' gl = some (.lst gxs) ∧ kdC.L gs gxs H' ∧ fin (cntAll af cf gs) S.row = S.skips
theorem sc_law : FnScope ["_law_script", "_law_draw", "_law_table_here", "_law_data", "_law_deals_here", "_law_line", "_law_model", "_law_asked", "_law_counts", "_law_turn", "_law_deed_here", "_law_before", "_law_held", "_law_told_here", "_law_granted", "_law_deal"] ["_law_script"] (defScope s_law) := ⟨rfl, rfl, rfl, by decide +kernel, rfl, by decide +kernel, by decide +kernel⟩
theorem ok_law (F : FnT K "law" "law" s_law [] [] f fd) (T : Txt K mg C Dc) (G_law_begun : GF P w K mg base "_law_begun" ["_law_script"] [] 1 (spBegun K)) (G_law_table : GF P w K mg base "_law_table" ["_law_draw"] [] 8 (spTable C Pt)) (G_law_deals : GF P w K mg base "_law_deals" ["_law_draw"] [] 3 spDeals)
    (M_Line_init : MKG P w K mg base Dc ["self", "table"] 8 (spLInit C Dc Pt)) (G_law_empty : GF P w K mg base "_law_empty" [] [] 1 spEmpty) (G_law_deed : GF P w K mg base "_law_deed" ["_law_draw", "_law_data", "_law_model", "_law_deals_here"] [] 4 spDeed)
    (M_Line_waiting : AXwaiting P w K mg base C Dc) (M_Line_holders : AXholders P w K mg base C Dc) (M_Line_held : AXheld P w K mg base C Dc) (M_Line_passed : AXpassed P w K mg base C Dc)
    (G_law_told : GF P w K mg base "_law_told" ["_law_line", "_law_deed_here"] [] 7 (spTold C Dc)) (G_law_does : GF P w K mg base "_law_does" ["_law_data", "_law_model", "_law_deed_here"] [] 6 (HidD spLDoes))
    (G_law_row_right : GF P w K mg base "_law_row_right" ["_law_table_here", "_law_line", "_law_before", "_law_deed_here", "_law_told_here"] [] 4 (spRowRight C Dc)) (G_law_ask_right : GF P w K mg base "_law_ask_right" ["_law_line", "_law_before", "_law_deed_here", "_law_held", "_law_told_here"] [] 4 (spAskRight C Dc)) (G_law_counted : AXcounted P w K mg base C Dc) :
    FnOk P w K mg base CX0 10 f fd ["_law_script"] (spLaw K Pt) := by
  refine F.ok sc_law (fun vs H Q E ⟨_, _, h, _⟩ => by rw [h]; rfl) (fun cdv A outer st H vs Q E hr ⟨s, ns, hv, hs, hns, hT, q⟩ => ⟨_, PSs.nox (pss_cons (ps_set (i := 1) sc_law.nd rfl (Or.inl rfl) (pe_callG G_law_begun hr (by decide) (by rfl) (pa_cons (pv 0) pa_nil)))
    (pss_cons (ps_asg (pe_callG G_law_table hr (by decide) (by rfl) (pa_cons (pv 1) pa_nil)) (pg_tupK (n := 2) K rfl rfl (pgs_cons (pg_name (i := 2) sc_law.nd rfl (by first | exact Or.inl rfl | exact Or.inr rfl)) (pgs_cons (pg_name (i := 3) sc_law.nd rfl (by first | exact Or.inl rfl | exact Or.inr rfl)) pgs_nil))))
    (pss_cons (ps_set (i := 4) sc_law.nd rfl (Or.inl rfl) (pe_callG G_law_deals hr (by decide) (by rfl) (pa_cons (pv 1) pa_nil)))
    (pss_cons (ps_asg (pe_tup (pa_cons (pe_makeG M_Line_init hr (by decide) (by rfl) T.mgD (pa_cons (pv 2) pa_nil)) (pa_cons (pe_callG0 G_law_empty hr (by decide) (by rfl)) pa_nil))) (pg_tupK (n := 2) K rfl rfl (pgs_cons (pg_name (i := 5) sc_law.nd rfl (by first | exact Or.inl rfl | exact Or.inr rfl)) (pgs_cons (pg_name (i := 6) sc_law.nd rfl (by first | exact Or.inl rfl | exact Or.inr rfl)) pgs_nil))))
    (pss_cons (ps_asg (pe_tup (pa_cons pe_dnewK (pa_cons pe_dnewK pa_nil))) (pg_tupK (n := 2) K rfl rfl (pgs_cons (pg_name (i := 7) sc_law.nd rfl (by first | exact Or.inl rfl | exact Or.inr rfl)) (pgs_cons (pg_name (i := 8) sc_law.nd rfl (by first | exact Or.inl rfl | exact Or.inr rfl)) pgs_nil))))
    (pss_cons (ps_for PassesOwn.never rfl (pi_range1 (by rfl) T.fRange (pa_cons (pe_op op_add pe_int (pe_callB (call_min2 rfl) (by rfl) T.fMin boot_min (pa_cons (pe_callB (call_len_seqK K rfl) (by rfl) T.fLen boot_len (pa_cons (pv 0) pa_nil)) (pa_cons pe_int pa_nil)))) pa_nil)) (pg_name (i := 9) sc_law.nd rfl (by first | exact Or.inl rfl | exact Or.inr rfl)) (pss_cons (ps_set (i := 10) sc_law.nd rfl (Or.inr rfl) (pe_callG G_law_deed hr (by decide) (by rfl) (pa_cons (pv 1) (pa_cons (pv 3) (pa_cons (pv 6) (pa_cons (pv 4) pa_nil))))))
      (pss_cons (ps_asg (pe_tup (pa_cons (pe_methG0 M_Line_waiting T.clD hr (by decide) (pv 5)) (pa_cons (pe_methG0 M_Line_holders T.clD hr (by decide) (pv 5)) pa_nil))) (pg_tupK (n := 2) K rfl rfl (pgs_cons (pg_name (i := 11) sc_law.nd rfl (by first | exact Or.inl rfl | exact Or.inr rfl)) (pgs_cons (pg_name (i := 12) sc_law.nd rfl (by first | exact Or.inl rfl | exact Or.inr rfl)) pgs_nil))))
      (pss_cons (ps_set (i := 13) sc_law.nd rfl (Or.inl rfl) (pe_callG G_law_told hr (by decide) (by rfl) (pa_cons (pv 5) (pa_cons (pv 10) pa_nil))))
      (pss_cons (ps_expr (pe_callG G_law_does hr (by decide) (by rfl) (pa_cons (pv 3) (pa_cons (pv 6) (pa_cons (pv 10) pa_nil)))))
      (pss_cons (ps_if (pt_not (pt_val (pe_callG G_law_row_right hr (by decide) (by rfl) (pa_cons (pv 2) (pa_cons (pv 5) (pa_cons (pv 11) (pa_cons (pv 10) (pa_cons (pv 13) pa_nil)))))))) (pss_one (ps_ret pe_bl)) pss_nil)
      (pss_cons (ps_set (i := 14) sc_law.nd rfl (Or.inl rfl) (pe_lst pa_nil))
      (pss_cons (ps_if (pt_cmpR op_eq (pe_ix (ix_tupK K rfl) (pv 10) pe_int (fun _ _ => rfl)) pe_str (nomark _)) (pss_cons (ps_dput (hu_of hr) (pv 7) (pe_ix (ix_tupK K rfl) (pv 10) pe_int (fun _ _ => rfl)) (pv 9) rfl)
        (pss_cons (ps_if (pt_not (pt_val (pe_callG G_law_ask_right hr (by decide) (by rfl) (pa_cons (pv 5) (pa_cons (pv 11) (pa_cons (pv 10) (pa_cons (pe_dget1 (hu_of hr) (pv 12) (pe_ix (ix_tupK K rfl) (pv 10) pe_int (fun _ _ => rfl)) ⟨rfl, rfl, rfl, rfl⟩) (pa_cons (pv 13) pa_nil)))))))) (pss_one (ps_ret pe_bl)) pss_nil)
        (pss_one (ps_if (PW.pt (pw_and (pt_cmpR op_eq (pv 13) pe_str (nomark _)) (pw_and1 (pt_cmpR op_ne (pe_methG M_Line_held T.clD hr (by decide) (pv 5) (pa_cons (pe_ix (ix_tupK K rfl) (pv 10) pe_int (fun _ _ => rfl)) pa_nil)) (pe_dget1 (hu_of hr) (pv 12) (pe_ix (ix_tupK K rfl) (pv 10) pe_int (fun _ _ => rfl)) ⟨rfl, rfl, rfl, rfl⟩) (nomark _))))) (pss_one (ps_set (i := 14) sc_law.nd rfl (Or.inl rfl) (pe_lst (pa_cons (pe_tup (pa_cons (pe_ix (ix_tupK K rfl) (pv 10) pe_int (fun _ _ => rfl)) (pa_cons (pe_cmp (pc_din (hu_of hr) (pe_ix (ix_tupK K rfl) (pv 10) pe_int (fun _ _ => rfl)) (pv 12)) rfl) pa_nil))) pa_nil)))) pss_nil)))) (pss_cons (ps_setLc (i := 14) (own := [("_law_deal", 15)]) rfl sc_law.nd rfl rfl (sw_true rfl rfl rfl (by rfl)) (pi_listK K rfl (pv 13)) (blkOk_by (by rfl)) (fun _ _ _ _ _ => (pg_name (i := 15) sc_law.nd rfl (by first | exact Or.inl rfl | exact Or.inr rfl))) (fun _ _ _ _ _ => pts_nil) (fun _ _ _ _ _ => (pe_tup (pa_cons (pv 15) (pa_cons (pe_cmp (pc_din (hu_of hr) (pv 15) (pv 12)) rfl) pa_nil)))))
        (pss_one (ps_set (i := 8) sc_law.nd rfl (Or.inr rfl) (pe_callTy (call_dictPK K rfl rfl) (by rfl) T.fDict boot_dict (pa_cons (pe_lock (pe_lc (own := [("_law_deal", 15)]) rfl sc_law.nd (pi_keys (pv 8)) (blkOk_by (by rfl)) (fun _ _ _ _ _ => (pg_name (i := 15) sc_law.nd rfl (by first | exact Or.inl rfl | exact Or.inr rfl))) (fun _ _ _ _ _ => (pts_one (pt_cmpR op_ne (pv 15) (pe_ix (ix_tupK K rfl) (pv 10) pe_int (fun _ _ => rfl)) (nomark _)))) (fun _ _ _ _ _ => (pe_tup (pa_cons (pv 15) (pa_cons (pe_dget (hu_of hr) (pv 8) (pv 15) (fun _ _ => rfl)) pa_nil)))))) pa_nil))))))
      (pss_cons (ps_set (i := 8) sc_law.nd rfl (Or.inr rfl) (pe_callG G_law_counted hr (by decide) (by rfl) (pa_cons (pv 5) (pa_cons (pv 7) (pa_cons (pv 8) (pa_cons (pv 9) (pa_cons (pv 14) pa_nil)))))))
      (pss_one (ps_if (pt_cmpR (op_neDK K rfl hr.units) (pe_lc (own := [("_law_deal", 15)]) rfl sc_law.nd (pi_listK K rfl (pv 4)) (blkOk_by (by rfl)) (fun _ _ _ _ _ => (pg_name (i := 15) sc_law.nd rfl (by first | exact Or.inl rfl | exact Or.inr rfl))) (fun _ _ _ _ _ => pts_nil) (fun _ _ _ _ _ => (pe_methG M_Line_passed T.clD hr (by decide) (pv 5) (pa_cons (pv 15) pa_nil)))) (pe_lc (own := [("_law_deal", 15)]) rfl sc_law.nd (pi_listK K rfl (pv 4)) (blkOk_by (by rfl)) (fun _ _ _ _ _ => (pg_name (i := 15) sc_law.nd rfl (by first | exact Or.inl rfl | exact Or.inr rfl))) (fun _ _ _ _ _ => pts_nil) (fun _ _ _ _ _ => (pe_dget2 (hu_of hr) (pv 8) (pv 15) pe_int ⟨rfl, rfl, rfl, rfl⟩))) (nomark _)) (pss_one (ps_ret pe_bl)) pss_nil)))))))))))
    (pss_one (ps_ret pe_bl)))))))), ?_⟩)
  subst hv
  -- the draw
  refine q_asgA (R := fun v H1 => ∃ da, v = .ref da ∧ Ex H H1 ∧ H da = none ∧ DrawR (outZ [da] H1) H1 da) (fun Q q => ⟨.ref s, rfl, s, ns, rfl, hs, hns, fun H1 da e1 hn hD => q _ H1 ⟨da, rfl, e1, hn, hD⟩⟩) fun v H1 ⟨da, hv, e1, hdan, hD1⟩ => ?_
  subst hv
  have hT1 := hT.ext e1
  have hs1 := ex_l e1 hs
  -- the table
  refine ⟨.ref da, rfl, da, rfl, hD1.s, hT1, fun tp t ga D H2 htp hR2 dok hcl hJ2 hS2 hT2 k2 => ⟨tp, _, rfl, SqT.of htp, rfl, _, _, rfl, _, _, rfl, rfl, ?_⟩⟩
  have hon : D.order ≠ [] := fun z => by
    have := dok.modes.lo
    rw [z] at this
    exact absurd this (by decide)
  have wf := dok.wf
  have hjn : ∀ a ∈ D.order, ∀ b ∈ D.order, ∃ j, D.joined a b = some j := fun a ha b hb => TD.clean_joined hcl ha hb
  obtain ⟨kvs1, hdl1⟩ := hD1.live
  have hs2 : SqL K H2 s (ns.map V.int) := sqBut hs1 fun o ho hso => k2 _ _ (fun z => by
    rw [z, hdl1] at hso
    rcases ho with h | ⟨ob, h⟩ <;> rw [h] at hso <;> cases hso) hso (fun ps z => by
    rcases ho with h | ⟨ob, h⟩ <;> rw [h] at z <;> cases z)
  -- the deals
  obtain ⟨Z2, hD2⟩ := hS2.r
  refine ⟨.ref da, rfl, Z2, da, rfl, hD2, fun pl ds H3 hpln hpl hds hne hD3 f3 => ?_⟩
  show tSeq _ _ _ ([some (.ref s), some (.ref da), some (.ref t), some (.ref ga), some (.ref pl), none, none, none, none, none, none, none, none, none, none, none] : L2.St) H3
  have shape : ∀ {Hx : Hp}, DrawS Hx da → ∀ o, Hx da = some o → ∃ ca a r tn, o = HO.dK (drK ca a r tn) := fun hS o ho => by
    obtain ⟨ca, a, r, tn, h⟩ := hS.shape
    rw [h] at ho
    cases ho
    exact ⟨ca, a, r, tn, rfl⟩
  have k3 : ∀ b o, b ≠ da → H2 b = some o → H3 b = some o := fun b o n hb => f3.keep (by simpa using n) hb
  have hS3 := hD3.s
  have hJ3 : TabJ C H3 t D .non := hJ2.butD hon (shape hS2) fun b o n hb _ => k3 b o n hb
  have hR3 : DataR H3 da ga D := hR2.butD (fun b o n _ _ hb => k3 b o n hb) (shape hS2) f3.2.2
  obtain ⟨kvs2, hdl2⟩ := hD2.live
  have hT3 : Tabs (TL Pt) H3 := Tabs.fr hT2 hdl2 f3
  have hs3 : SqL K H3 s (ns.map V.int) := sqBut hs2 fun o ho hso => k3 _ _ (fun z => by
    rw [z, hdl2] at hso
    rcases ho with h | ⟨ob, h⟩ <;> rw [h] at hso <;> cases hso) hso
  -- the line and the model
  obtain ⟨dxt, ot, pt, wt, ut, obt, kvp, kvw, kvu, AT⟩ := id hJ3
  refine ⟨.ref t, rfl, fun ln dx hln hdx hndx => ?_⟩
  have hlnt : ln ≠ t := fun z => by rw [z, AT.at_] at hln; cases hln
  have e34 : Ex H3 (upd (upd H3 dx (.own ln)) ln (.ins Dc dx [])) := (Ex.new hdx).trans (Ex.new (by rw [upd_ne (fun z => hndx z.symm)]; exact hln))
  refine ⟨ln, dx, t, D, rfl, upd_same, hlnt, hJ3.ex e34, wf, hT3.ext e34, hcl, fun H5 L eln elt hL5 hT5 k5 => ⟨rfl, ?_⟩⟩
  refine ⟨rfl, fun M H6 e56 hMn hM6 => ⟨sz_of (by show 2 ≤ 100000; decide), fun q1 hq1 => ⟨q1, _, rfl, SqT.of upd_same, rfl, _, _, rfl, _, _, rfl, rfl, ?_⟩⟩⟩
  refine fun ak hak ck hck => ⟨sz_of (by show 2 ≤ 100000; decide), fun q2 hq2 => ⟨q2, _, rfl, SqT.of upd_same, rfl, _, _, rfl, _, _, rfl, rfl, ?_⟩⟩
  show tSeq _ _ _ ([some (.ref s), some (.ref da), some (.ref t), some (.ref ga), some (.ref pl), some (.ref ln), some (.ref M.mm), some (.ref ak), some (.ref ck), none, none, none, none, none, none, none] : L2.St) _
  have e67 : Ex H6 (upd H6 q1 (.tup [.ref ln, .ref M.mm])) := Ex.new hq1
  generalize upd H6 q1 (.tup [.ref ln, .ref M.mm]) = H7 at e67 hak hck hq2 ⊢
  have e7a : Ex H7 (upd H7 ak (.dK [])) := Ex.new hak
  have hak1 : (upd H7 ak (.dK [])) ak = some (.dK []) := upd_same
  generalize upd H7 ak (.dK []) = Ha at e7a hak1 hck hq2 ⊢
  have eac : Ex Ha (upd Ha ck (.dK [])) := Ex.new hck
  have hck1 : (upd Ha ck (.dK [])) ck = some (.dK []) := upd_same
  generalize upd Ha ck (.dK []) = Hc at eac hck1 hq2 ⊢
  have ec8 : Ex Hc (upd Hc q2 (.tup [.ref ak, .ref ck])) := Ex.new hq2
  generalize upd Hc q2 (.tup [.ref ak, .ref ck]) = H8 at ec8 ⊢
  have e58 : Ex H5 H8 := e56.trans (e67.trans (e7a.trans (eac.trans ec8)))
  have e68 : Ex H6 H8 := e67.trans (e7a.trans (eac.trans ec8))
  have hak8 := (eac.trans ec8) _ _ hak1
  have hck8 := ec8 _ _ hck1
  have hak5 : H5 ak = none := fresh_back (e56.trans e67) hak
  have hck5 : H5 ck = none := fresh_back (e56.trans (e67.trans e7a)) hck
  have hak6 : H6 ak = none := fresh_back e67 hak
  have hck6 : H6 ck = none := fresh_back (e67.trans e7a) hck
  have nac : ck ≠ ak := fun z => by rw [z, hak1] at hck; cases hck
  -- the static part
  have live5 : ∀ b, b ∈ L.foot → ∃ o, H5 b = some o := fun b hb => by
    obtain ⟨o, ho, _⟩ := hL5.live b hb
    exact ⟨o, ho⟩
  have live6 : ∀ b, b ∈ M.foot → ∃ o, H6 b = some o := fun b hb => by
    obtain ⟨o, ho, _⟩ := hM6.live b hb
    exact ⟨o, ho⟩
  obtain ⟨ca, cs, at0, r0, tn0, A3⟩ := id hS3
  have hdat : da ≠ t := fun z => by
    have h := A3.at_
    rw [z, AT.at_] at h; cases h
  have hdaln : da ≠ ln := fun z => by
    have h := A3.at_
    rw [z, hln] at h; cases h
  have key5 : ∀ b o, b ≠ t → H3 b = some o → (∀ ps, o ≠ .tbl ps) → H5 b = some o ∧ b ∉ L.foot := fun b o n2 hb n3 => k5 b o (fun z => by rw [z, hln] at hb; cases hb) n2 (e34 _ _ hb) n3
  have nfM : ∀ b o, H5 b = some o → b ∉ M.foot := fun b o hb hm => by
    rw [hMn b hm] at hb; cases hb
  obtain ⟨Z, hZ⟩ : ∃ Z, Z = outZ (ck :: WF da ak L M) H8 := ⟨_, rfl⟩
  have hZ8 : Ex Z H8 := fun b o hb => by
    rw [hZ] at hb
    unfold outZ at hb
    split at hb
    · cases hb
    · exact hb
  have hZn : ∀ b, b ∈ ck :: WF da ak L M → Z b = none := fun b hb => by
    rw [hZ]
    unfold outZ
    rw [if_pos hb]
  have hZs : ∀ b o, b ≠ da → H5 b = some o → b ∉ L.foot → Z b = some o := fun b o n1 hb n2 => by
    rw [hZ]
    unfold outZ
    rw [if_neg, e58 _ _ hb]
    intro z
    rcases List.mem_cons.mp z with h | h
    · rw [h, hck5] at hb; cases hb
    · refine absurd h (wf_out.mpr ⟨n1, fun y => ?_, n2, nfM b o hb⟩)
      rw [y, hak5] at hb; cases hb
  have key : ∀ b o, b ≠ da → b ≠ t → H3 b = some o → (∀ ps, o ≠ .tbl ps) → Z b = some o := fun b o n1 n2 hb n3 => hZs b o n1 (key5 b o n2 hb n3).1 (key5 b o n2 hb n3).2
  have hda5 := key5 da _ hdat A3.at_ (fun _ z => by cases z)
  have hcat : ca ≠ t := fun z => by
    have h := A3.z _ _ A3.cl
    rw [z, AT.at_] at h; cases h
  have hcada : ca ≠ da := fun z => by
    have h := A3.z _ _ A3.cl
    rw [z, A3.at_] at h; cases h
  have hcaZ : Z ca = some (.lst (cs.map V.int)) := key ca _ hcada hcat (A3.z _ _ A3.cl) (fun _ z => by cases z)
  have hRZ : DataR Z da ga D := hR3.butD (fun b o n hi ht hb => key b o n (fun z => by rw [z, AT.at_] at hb; cases hb; exact hi _ _ _ rfl) hb ht) (shape hS3) fun c xs hc => key c _ (fun z => by rw [z, A3.at_] at hc; cases hc) (fun z => by rw [z, AT.at_] at hc; cases hc) hc (fun _ z => by cases z)
  have hplZ : Z pl = some (.lst (ds.map V.int)) := key pl _ (fun z => by rw [z, A3.at_] at hpl; cases hpl) (fun z => by rw [z, AT.at_] at hpl; cases hpl) hpl (fun _ z => by cases z)
  obtain ⟨jt, hjt⟩ := hL5.tab
  have hjZ : TabJ C Z t D jt := by
    rw [elt] at hjt
    refine hjt.butD (da := da) hon (fun o ho => ?_) fun b o n hb _ => ?_
    · unfold outZ at ho
      split at ho
      · cases ho
      · rw [hda5.1] at ho
        cases ho
        exact ⟨_, _, _, _, rfl⟩
    · unfold outZ at hb
      split at hb
      · cases hb
      · next h => exact hZs b o n hb h
  have hW : Wd C Dc D Z H8 da ak L M LS.nil LS.nil (fun _ => none) := by
    refine ⟨(hL5.ex e58).reZ hZ8 (fun b hb => hZn b ?_) (by rw [elt]; exact hjZ), (ModR.ex hM6 e68).reZ hZ8 (fun b hb => hZn b ?_), ⟨ca, cs, at0, r0, tn0, ⟨hZ8, hZn da (by simp), hcaZ, A3.pos, A3.few, e58 _ _ hda5.1, A3.rp, A3.tp⟩⟩, .nil hak8, hZn ak (by simp), hda5.2, nfM _ _ hda5.1, fun z => ?_, fun z => ?_, fun b hb hm => ?_, fun z => ?_⟩
    · exact List.mem_cons_of_mem _ (List.mem_cons_of_mem _ (List.mem_cons_of_mem _ (List.mem_append_left _ hb)))
    · exact List.mem_cons_of_mem _ (List.mem_cons_of_mem _ (List.mem_cons_of_mem _ (List.mem_append_right _ hb)))
    · obtain ⟨o, ho⟩ := live5 ak z
      rw [hak5] at ho; cases ho
    · obtain ⟨o, ho⟩ := live6 ak z
      rw [hak6] at ho; cases ho
    · obtain ⟨o, ho⟩ := live5 b hb
      exact nfM b o ho hm
    · have h := hda5.1
      rw [z, hak5] at h; cases h
  have hckO : ck ∉ WF da ak L M := wf_out.mpr ⟨fun z => by
    have h := hda5.1
    rw [← z, hck5] at h
    exact (nomatch h), nac, fun z => by
    obtain ⟨o, ho⟩ := live5 ck z
    rw [hck5] at ho
    exact (nomatch ho), fun z => by
    obtain ⟨o, ho⟩ := live6 ck z
    rw [hck6] at ho
    exact (nomatch ho)⟩
  have hs8 : SqL K H8 s (ns.map V.int) := sqBut hs3 fun o ho hso => by
    have hst : s ≠ t := fun z => by
      rw [z, AT.at_] at hso
      rcases ho with h | ⟨ob, h⟩ <;> rw [h] at hso <;> cases hso
    have hntb : ∀ ps, o ≠ .tbl ps := fun ps z => by
      rcases ho with h | ⟨ob, h⟩ <;> rw [h] at z <;> cases z
    exact e58 _ _ (key5 s o hst hso hntb).1
  have hml : D.order.length ≤ 8 := wf.few
  -- the turns
  refine q_forR1 (n := 6 + (if (15 : Int) < (ns.length : Int) then 15 else (ns.length : Int))) (ea_cons (ev_op (ev_c (v := .int 6)) (ep_min2 (ev_is (ev_lenL (ev_var (i := 0) (v := .ref s) rfl) hs8) (by rw [List.length_map])) (ev_c (v := .int 15))) rv_I0) ea_nil) (by split <;> omega) (Turn C Dc D Z s da t ga pl ln M.mm ak ds)
    (fun H9 e9 => ⟨L, M, LS.nil, fun _ => none, ck, none, none, none, none, none, none, none, rfl, eln, rfl, hW.ex e9, Inv.nil, (fun j h => by cases h), hckO, hZn ck (by simp), .nil (e9 _ _ hck8)⟩) (fun i σ' H' _ hturn => ?_) (fun σ' H' _ => s_ret ev_c fun H9 _ => q H9)
  clear hW hckO hak8 hck8 hak5 hck5 hak6 hck6 live5 live6 hjt
  clear hL5 hM6 hMn k5 key5 nfM hda5 hs8
  generalize M.mm = mm at hturn ⊢
  obtain ⟨L, M, S, af, ck, o9, o10, o11, o12, o13, o14, o15, rfl, eln, em, hW, hI, haf, hckO, hckZ, hcd⟩ := hturn
  show tSeq _ _ _ ([some (.ref s), some (.ref da), some (.ref t), some (.ref ga), some (.ref pl), some (.ref ln), some (.ref mm), some (.ref ak), some (.ref ck), some (.int (i : Int)), o10, o11, o12, o13, o14, o15] : L2.St) H'
  -- the deed
  refine q_asgA (R := fun v H1 => ∃ td x, v = .ref td ∧ H1 td = some (.tup (Deed.vals x)) ∧ x.ok D ds S ∧ DrawR Z H1 da ∧ Fr [da] [da] H' H1) (fun Q q => ⟨.ref da, rfl, .ref ga, rfl, .ref mm, rfl, .ref pl, rfl, Z, da, da, ga, D, M, S, ds, pl, by rw [em]; rfl, hW.draw, hRZ, dok, hW.mod, hI.ok, hds, hne, hplZ, hW.dM, fun td x H1 h1 h2 h3 h4 => q _ H1 ⟨td, x, rfl, h1, h2, h3, h4⟩⟩) fun v Hb ⟨td, x, hv, htd, hx, hDb, fb⟩ => ?_
  subst hv
  have Wb := hW.draw_ fb hDb
  have hcdb := da_draw fb hckO hcd
  show tSeq _ _ _ ([some (.ref s), some (.ref da), some (.ref t), some (.ref ga), some (.ref pl), some (.ref ln), some (.ref mm), some (.ref ak), some (.ref ck), some (.int (i : Int)), some (.ref td), o11, o12, o13, o14, o15] : L2.St) Hb
  -- who waits and holds ahead of it
  refine q_asg2A (R1 := fun v H2 => ∃ bl xs, v = .ref bl ∧ Hb bl = none ∧ H2 bl = some (.lst xs) ∧ kdE.L S.row xs H2 ∧ Ex Hb H2) (R2 := fun v H2 w H3 => ∃ hx, w = .ref hx ∧ H2 hx = none ∧ DA H3 hx (fK S.keeps) ∧ Ex H2 H3)
    (fun Q q => ep_waiting (ev_var (i := 5) (v := .ref L.ln) (by rw [eln]; rfl)) Wb.line Hb (Ex.refl _) _ fun v H2 e2 ⟨p, xs, h1, h2, h3, h4⟩ => q v H2 ⟨p, xs, h1, h2, h3, h4, e2⟩)
    (fun v H2 ⟨bl, xs, _, _, _, _, e2⟩ Q q => ep_holders (ev_var (i := 5) (v := .ref L.ln) (by rw [eln]; rfl)) (Wb.line.ex e2) hI.ok hds H2 (Ex.refl _) _ fun v H3 e3 ⟨p, h1, h2, h3⟩ => q v H3 ⟨p, h1, h2, h3, e3⟩)
    fun v H2 w2 H3 H4 ⟨bl, xs, hv, hbln, hbl, hbk, eb2⟩ ⟨hx0, hw2, hxn, hxd, e23⟩ e34 => ?_
  subst hv; subst hw2
  have eb4 := eb2.trans (e23.trans e34)
  have W4 := Wb.ex eb4
  have htd4 := eb4 _ _ htd
  have hblO := (Wb.new hbln).1
  have hbl4 := (e23.trans e34) _ _ hbl
  have hbk4 := kdE.L_ex (e23.trans e34) hbk
  have hxO := ((Wb.ex eb2).new hxn).1
  have hxd4 := hxd.ex e34
  have hcd4 := hcdb.ex eb4
  show tSeq _ _ _ ([some (.ref s), some (.ref da), some (.ref t), some (.ref ga), some (.ref pl), some (.ref ln), some (.ref mm), some (.ref ak), some (.ref ck), some (.int (i : Int)), some (.ref td), some (.ref bl), some (.ref hx0), o13, o14, o15] : L2.St) H4
  clear hcdb hDb Wb hxd hbl hbk htd hcd hW
  -- told
  refine q_asgA (R := fun v H5 => ∃ L', L'.ln = ln ∧ LineAt C Dc D Z H5 L' (x.res D ds S).1 ∧ Fr L.foot L'.foot H4 H5 ∧ ToldV H4 H5 L.foot L'.foot v (x.res D ds S).2) (fun Q q => ⟨.ref ln, rfl, .ref td, rfl, D, Z, ds, L, S, x, td, by rw [eln]; rfl, htd4, W4.line, hI.ok, wf, hds, hx, hjn, fun v H5 L' e1 h1 h2 h3 => q _ H5 ⟨L', e1.trans eln, h1, h2, h3⟩⟩) fun tv H5 ⟨L', eln', hL5, f5, htv⟩ => ?_
  have W5 := W4.line_ f5 hL5
  have htd5 := f5.2.2 _ _ htd4
  obtain ⟨hbl5, hblO5⟩ := keep_line f5 hblO hbl4
  have hbk5 := kdE.L_mono f5.2.2 hbk4
  obtain ⟨hxd5, hxO5⟩ := da_line f5 hxO hxd4
  obtain ⟨hcd5, hckO5⟩ := da_line f5 hckO hcd4
  have htold5 : ∀ fs, (x.res D ds S).2 = .inr fs → ∃ p, tv = .ref p ∧ H5 p = some (.lst (fs.map V.int)) ∧ p ∉ WF da ak L' M := fun fs hfs => by
    rw [hfs] at htv
    obtain ⟨p, h1, h2, h3, h4⟩ := htv
    refine ⟨p, h1, h4, wf_out.mpr ?_⟩
    rcases h2 with h2 | h2
    · obtain ⟨g1, g2, _, g4⟩ := wf_out.mp (W4.new h2).1
      exact ⟨g1, g2, h3, g4⟩
    · exact ⟨fun z => W4.dL (by rw [← z]; exact h2), fun z => W4.aL (by rw [← z]; exact h2), h3, W4.LM p h2⟩
  have hstr : ∀ sx, (x.res D ds S).2 = .inl sx → tv = .str sx := fun sx hsx => by
    rw [hsx] at htv
    exact htv
  show tSeq _ _ _ ([some (.ref s), some (.ref da), some (.ref t), some (.ref ga), some (.ref pl), some (.ref ln), some (.ref mm), some (.ref ak), some (.ref ck), some (.int (i : Int)), some (.ref td), some (.ref bl), some (.ref hx0), some tv, o14, o15] : L2.St) H5
  clear htv hbl4 hbk4 hxd4 hcd4 htd4 hL5
  -- the model does it, too
  refine q_callM (vs := [.ref ga, .ref mm, .ref td]) (ea_cons (ev_var (i := 3) rfl) (ea_cons (ev_var (i := 6) rfl) (ea_cons (ev_var (i := 10) rfl) ea_nil))) fun H6 e6 => ⟨ds, Z, da, ga, td, D, M, S, x, by rw [em]; rfl, e6 _ _ htd5, hRZ, dok, (W5.ex e6).mod, hI.ok, hds, hI.pw.part, hx, hjn, fun _ H7 M' em' hM7 f7 => ?_⟩
  have W7 := (W5.ex e6).mod_ f7 hM7
  have em7 := em'.trans em
  have htd7 := f7.2.2 _ _ (e6 _ _ htd5)
  obtain ⟨hbl7, hblO7⟩ := keep_mod f7 hblO5 (e6 _ _ hbl5)
  have hbk7 := kdE.L_mono f7.2.2 (kdE.L_ex e6 hbk5)
  obtain ⟨hxd7, hxO7⟩ := da_mod f7 hxO5 (hxd5.ex e6)
  obtain ⟨hcd7, hckO7⟩ := da_mod f7 hckO5 (hcd5.ex e6)
  have htold7 : ∀ fs, (x.res D ds S).2 = .inr fs → ∃ p, tv = .ref p ∧ H7 p = some (.lst (fs.map V.int)) ∧ p ∉ WF da ak L' M' := fun fs hfs => by
    obtain ⟨p, h1, h2, h3⟩ := htold5 fs hfs
    obtain ⟨h4, h5⟩ := keep_mod f7 h3 (e6 _ _ h2)
    exact ⟨p, h1, h4, h5⟩
  clear htold5 hcd5 hckO5 hxd5 hxO5 hbk5 hblO5 hbl5 htd5 hM7 W5 f5 hxO hblO hckO
  -- what the deed comes to, in plain words
  have hdd := deed_in hx
  have hend : Inv D ds (x.res D ds S).1 (if x.isAsk then put af x.deal (some (i : Int)) else af) ((i : Int) + 1) := by
    cases hq : x.isAsk with
    | true =>
      cases x with
      | ask d m => exact (ask_right hI hx.1 hx.2.1 hx.2.2 hjn).inv
      | _ => cases hq
    | false =>
      obtain ⟨fs, _, h2⟩ := deed_less hI hx hq
      exact h2.inv
  have hok' := hend.ok
  have hrow50 := Nat.le_trans hI.ok.rowlen hds.few
  refine q_when (b := false) (et_is (et_not (et_B (ev_call (sp := spRowRight C Dc) (dvs := []) (E := E0) (vs := [.ref t, .ref ln, .ref bl, .ref td, tv]) (z := .bl true) (ea_cons (ev_var (i := 2) rfl) (ea_cons (ev_var (i := 5) rfl) (ea_cons (ev_var (i := 11) rfl) (ea_cons (ev_var (i := 10) rfl) (ea_cons (ev_var (i := 13) rfl) ea_nil))))) fun H8 e8 Q q E => ?_))) rfl) (fun z => by cases z) (fun _ H8 e8 => ?_)
  · refine ⟨D, Z, ds, L', _, S.row, x, t, bl, td, xs, tv, by rw [eln']; rfl, ⟨jt, hjZ⟩, e8 _ _ hbl7, kdE.L_ex e8 hbk7, hrow50, e8 _ _ htd7, W7.line.ex e8, hok', wf, hds, hend.nf, ?_, q⟩
    cases hq : x.isAsk with
    | true => exact .inl rfl
    | false =>
      obtain ⟨fs, h1, h2⟩ := deed_less hI hx hq
      obtain ⟨p, g1, g2, _⟩ := htold7 fs h1
      exact .inr ⟨p, fs, g1, e8 _ _ g2, h2.told, h2.left⟩
  refine q_asgL (el_lst ea_nil (by show 0 ≤ 100000; decide)) fun g0 H9 hg0n e89 hg0 => ?_
  have e79 := e8.trans e89
  have W9 := W7.ex e79
  have htd9 := e79 _ _ htd7
  have hbl9 := e79 _ _ hbl7
  have hbk9 := kdE.L_ex e79 hbk7
  have hxd9 := hxd7.ex e79
  have hcd9 := hcd7.ex e79
  have hg0O := ((W7.ex e8).new hg0n).1
  show tSeq _ _ _ ([some (.ref s), some (.ref da), some (.ref t), some (.ref ga), some (.ref pl), some (.ref ln), some (.ref mm), some (.ref ak), some (.ref ck), some (.int (i : Int)), some (.ref td), some (.ref bl), some (.ref hx0), some tv, some (.ref g0), o15] : L2.St) H9
  have ixd : ∀ {σ : L2.St} {H1 : Hp} {k : Nat} {v : V}, H1 td = some (.tup x.vals) → σ[10]? = some (some (.ref td)) → x.vals[k]? = some v → Ev (tOp (rIxT K) (tVar 10) (tC (.int k))) σ H1 v := fun h1 h0 h => ev_op (ev_var h0) ev_c (rv_ixT (SqT.of h1) (atI_nat h))
  obtain ⟨wd, hw1, hw2⟩ := x.wd
  refine q_mid (Mid C Dc D Z s da t ga pl ln mm ak ds i L' M' (x.res D ds S).1 td bl hx0 tv) (fun N hN => ?_) fun σ9 Hm hmid => ?_
  · refine s_if (b := x.isAsk) (et_is (et_test (ev_op (ixd (k := 0) htd9 rfl hw1) (ev_c (v := .str "ask")) (rv_eq rfl))) (by rw [← hw2]; by_cases z : wd = ("ask" : Str) <;> simp [z])) (fun hq H10 e10 => ?_) (fun hq H10 e10 => ?_)
    · -- an ask
      cases x with
      | ask d m =>
        have hA := ask_right hI hx.1 hx.2.1 hx.2.2 hjn
        have htv := hstr _ rfl
        have hd : d ∈ ds := hx.1
        have hd1 := hds.pos d hd
        subst htv
        have hokA : LOk D ds (S.ask D ds d m).1 := hok'
        have hN' : ∀ σ' H', Mid C Dc D Z s da t ga pl ln mm ak ds i L' M' (S.ask D ds d m).1 td bl hx0 (.str (S.ask D ds d m).2) σ' H' → N σ' H' := hN
        have W9' : Wd C Dc D Z H9 da ak L' M' (S.ask D ds d m).1 (S.ask D ds d m).1 af := W9
        generalize (S.ask D ds d m).1 = S' at hA hN' W9' hokA
        generalize (S.ask D ds d m).2 = told at hA hN' ⊢
        clear hN W9 hend hok' W7 htold7 hstr
        obtain ⟨kva, hka⟩ := (W9'.ex e10).asked
        have hkal := Nat.le_trans (hka.len (fN_in2 haf)) hds.few
        refine q_dputI (v := .int (i : Int)) (ev_var (i := 9) rfl) (ev_var (i := 7) rfl) (ixd (k := 1) (e10 _ _ htd9) rfl rfl) hka (by omega) fun H11 e11 hk11 => ?_
        obtain ⟨hak12, f12⟩ := da_put hk11 d (.int (i : Int))
        rw [fput_fN] at hak12
        have e911 := e10.trans e11
        have W12 := (W9'.ex e911).ask_ f12 hak12
        have htd12 := f12.2.2 _ _ (e911 _ _ htd9)
        have hbl12 := keep_ask f12 hblO7 (e911 _ _ hbl9)
        have hbk12 := kdE.L_mono f12.2.2 (kdE.L_ex e911 hbk9)
        have hxd12 := da_ask f12 hxO7 (hxd9.ex e911)
        have hcd12 := da_ask f12 hckO7 (hcd9.ex e911)
        have hg012 := keep_ask f12 hg0O (e911 _ _ hg0)
        generalize upd H11 ak (.dK (putK kva (.inl d) (.int (i : Int)))) = H12 at W12 htd12 hbl12 hbk12 hxd12 hcd12 hg012 ⊢
        clear f12 hak12 hk11 W9' hka e911 e11 e10 hcd9 hxd9 hbk9 hbl9 htd9 hg0
        have hix : ∀ {H13 : Hp}, Ex H12 H13 → Ev (tOp (rIxT K) (tVar 10) (tC (.int 1))) ([some (.ref s), some (.ref da), some (.ref t), some (.ref ga), some (.ref pl), some (.ref ln), some (.ref mm), some (.ref ak), some (.ref ck), some (.int (i : Int)), some (.ref td), some (.ref bl), some (.ref hx0), some (.str told), some (.ref g0), o15] : L2.St) H13 (.int d) := fun e => ixd (k := 1) (e _ _ htd12) rfl rfl
        have hget : ∀ {H13 : Hp}, Ex H12 H13 → Ev (tDGet1 (tVar 12) (tOp (rIxT K) (tVar 10) (tC (.int 1)))) ([some (.ref s), some (.ref da), some (.ref t), some (.ref ga), some (.ref pl), some (.ref ln), some (.ref mm), some (.ref ak), some (.ref ck), some (.int (i : Int)), some (.ref td), some (.ref bl), some (.ref hx0), some (.str told), some (.ref g0), o15] : L2.St) H13 (optS (S.keeps d)) := fun e => ev_is (ev_daget1 (i := d) (ev_var (i := 12) (v := .ref hx0) rfl) (hix e) (hxd12.ex e)) (by unfold fK; cases S.keeps d <;> rfl)
        refine q_when (b := false) (et_is (et_not (et_B (ev_call (sp := spAskRight C Dc) (dvs := []) (E := E0) (vs := [.ref ln, .ref bl, .ref td, optS (S.keeps d), .str told]) (z := .bl true) (ea_cons (ev_var (i := 5) rfl) (ea_cons (ev_var (i := 11) rfl) (ea_cons (ev_var (i := 10) rfl) (ea_cons (hget (Ex.refl _)) (ea_cons (ev_var (i := 13) rfl) ea_nil))))) fun H13 e13 Q q E => ?_))) rfl) (fun z => by cases z) (fun _ H13 e13 => ?_)
        · refine ⟨D, Z, ds, L', S', S.row, S.keeps d, d, m, told, bl, td, xs, by rw [eln']; rfl, e13 _ _ hbl12, kdE.L_ex e13 hbk12, hrow50, hI.ok.rin, e13 _ _ htd12, W12.line.ex e13, hokA, wf, hds, hd, hA.word, hA.held, fun hw => ?_, q⟩
          obtain ⟨g1, g2⟩ := hA.waits hw
          rw [g1]
          exact ⟨rfl, g2⟩
        have done : ∀ (gl : Addr) (gs : List (Int × Bool)) (gxs : List V) (H15 : Hp), Ex H12 H15 → gs = grA S S' d told → H15 gl = some (.lst gxs) → kdC.L gs gxs H15 → N ([some (.ref s), some (.ref da), some (.ref t), some (.ref ga), some (.ref pl), some (.ref ln), some (.ref mm), some (.ref ak), some (.ref ck), some (.int (i : Int)), some (.ref td), some (.ref bl), some (.ref hx0), some (.str told), some (.ref gl), o15] : L2.St) H15 := by
          intro gl gs gxs H15 e15 hgs hgl hgk
          have hg1 : ∀ g ∈ gs, g = (d, (S.keeps d).isSome) := fun g hg => by
            rw [hgs] at hg
            unfold grA at hg
            split at hg
            · exact List.mem_singleton.mp hg
            · cases hg
          have hg2 : gs.length ≤ 1 := by
            rw [hgs]
            unfold grA
            split
            · exact Nat.le_refl _
            · exact Nat.zero_le _
          refine hN' _ _ ⟨put af d (some (i : Int)), S.skips, ck, gl, gs, gxs, o15, rfl, W12.ex e15, hA.inv, fun j hj => ?_, hckO7, hckZ, hcd12.ex e15, fun j hj => hI.ok.skin j (by rw [fN_isSome]; exact hj), fun j hj => ?_, fun g hg => ?_, by omega, hgl, hgk, by rw [hgs]; exact hA.cnt⟩
          · by_cases z : j = d
            · rw [z]; exact hd
            · rw [put_ne z] at hj; exact haf j hj
          · obtain ⟨e, he, rfl⟩ := List.mem_map.mp ((hI.ok.sk j).mp hj)
            obtain ⟨a, ha, _⟩ := (hI.later hx.2.2).1 e he
            exact ⟨a, ha⟩
          · rw [hg1 g hg]
            exact ⟨_, put_same⟩
        have hbd : (decide (told = "held") && !decide (optS (S'.keeps d) = optS (S.keeps d))) = decide (told = "held" ∧ S'.keeps d ≠ S.keeps d) := by
          by_cases z1 : told = "held" <;> by_cases z2 : S'.keeps d = S.keeps d <;> simp [z1, z2, optS_inj]
        refine s_when (b := decide (told = "held") && !decide (optS (S'.keeps d) = optS (S.keeps d))) (et_and (et_is (et_test (ev_op (ev_var (i := 13) (v := .str told) rfl) (ev_c (v := .str "held")) (rv_eq rfl))) (by by_cases z : told = "held" <;> simp [z])) (fun _ => et_test (ev_op (ev_held (ev_var (i := 5) (v := .ref L'.ln) (by rw [eln']; rfl)) (hix e13) (W12.line.ex e13) hd1) (hget e13) (rv_ne scal_opt)))) (fun z H14 e14 => ?_) (fun z H14 e14 => ?_)
        · rw [hbd] at z
          have e1214 := e13.trans e14
          refine s_asgP (ep_lstK (k := kdC) (bs := [(d, (S.keeps d).isSome)]) (eak_cons (ep_tupR (ρ := fun g : Int × Bool => [.int g.1, .bl g.2]) (b := (d, (S.keeps d).isSome)) (eu_tup (ea_cons (hix e1214) (ea_cons (ev_is (ev_dain (i := d) (hix e1214) (ev_var (i := 12) (v := .ref hx0) rfl) (hxd12.ex e1214)) (congrArg V.bl kp_in)) ea_nil)) (by show 2 ≤ 100000; decide))) eak_nil) (by show 1 ≤ 100000; decide)) fun v H15 e15 ⟨p, ys, hv, _, hp, hk⟩ => ?_
          subst hv
          exact done p _ ys H15 (e1214.trans e15) (by unfold grA; rw [if_pos (of_decide_eq_true z)]) hp hk
        · rw [hbd] at z
          exact done g0 [] [] H14 (e13.trans e14) (by unfold grA; rw [if_neg (of_decide_eq_false z)]) ((e13.trans e14) _ _ hg012) .nil
      | _ => cases hq
    · -- another deed
      obtain ⟨fs, h1, h2⟩ := deed_less hI hx hq
      obtain ⟨p, htv, hp7, hpO⟩ := htold7 fs h1
      subst htv
      generalize (x.res D ds S).1 = S' at h2 hN W9
      clear hend hok' W7 htold7 hstr
      obtain ⟨wd0, rest0, hx0v⟩ := x.two
      have hx1 : x.vals[1]? = some (.int x.deal) := by rw [hx0v]; rfl
      have hfl : fs.length ≤ 50 := by
        have g1 := congrArg List.length h2.told
        rw [List.length_take] at g1
        have g2 := List.length_filter_le (fun j : Int => !decide (j = x.deal)) (S.row.map (·.1))
        rw [List.length_map] at g2
        omega
      have hp10 := (e79.trans e10) _ _ hp7
      have hxd10 := hxd9.ex e10
      have hX := ep_lcW (σ := ([some (.ref s), some (.ref da), some (.ref t), some (.ref ga), some (.ref pl), some (.ref ln), some (.ref mm), some (.ref ak), some (.ref ck), some (.int (i : Int)), some (.ref td), some (.ref bl), some (.ref hx0), some (.ref p), some (.ref g0), o15] : L2.St)) (H := H10) (te := tTup (tCons (tVar 15) (tCons (tDIn (tVar 15) (tVar 12)) tNil))) (g := gName 15) (vs := [15]) (t := tYes) (fun _ : Int => true) (fun j : Int => (j, (S.keeps j).isSome)) kdC
        (wk_list (K := K) (ka := kdV V.int) (ls_lk (lk_ints (ns := fs) (ev_var (i := 13) (v := .ref p) rfl) hp10))) (by omega)
        (fun j x' H8 hj e8 hx => by
          cases hx
          exact ⟨rfl, Ex.refl _, et_yes, fun _ => ep_tupR (ρ := fun g : Int × Bool => [.int g.1, .bl g.2]) (b := (j, (S.keeps j).isSome)) (eu_tup (ea_cons (ev_var (i := 15) (v := .int j) rfl) (ea_cons (ev_is (ev_dain (i := j) (ev_var (i := 15) rfl) (ev_var (i := 12) (v := .ref hx0) rfl) (hxd10.ex e8)) (congrArg V.bl kp_in)) ea_nil)) (by show 2 ≤ 100000; decide))⟩)
        gname_mono
      rw [filt_true] at hX
      refine q_asgN hX fun pg yg H11 hpgn e11 hpg kg => ?_
      show tAsg _ _ _ ([some (.ref s), some (.ref da), some (.ref t), some (.ref ga), some (.ref pl), some (.ref ln), some (.ref mm), some (.ref ak), some (.ref ck), some (.int (i : Int)), some (.ref td), some (.ref bl), some (.ref hx0), some (.ref p), some (.ref pg), o15] : L2.St) H11
      have e911 := e10.trans e11
      have htd11 := e911 _ _ htd9
      obtain ⟨kvc, hkc⟩ := hcd9.ex e911
      have hkcl := Nat.le_trans (hkc.len hI.ok.skin) hds.few
      have ntd : td ≠ ck := fun z => by rw [z, hkc.at_] at htd11; cases htd11
      have hY := ep_lcKE (σ := ([some (.ref s), some (.ref da), some (.ref t), some (.ref ga), some (.ref pl), some (.ref ln), some (.ref mm), some (.ref ak), some (.ref ck), some (.int (i : Int)), some (.ref td), some (.ref bl), some (.ref hx0), some (.ref p), some (.ref pg), o15] : L2.St)) (H := H11) (td := tVar 8) (i := 15) (vs := [15]) (tt := tTest (tOp rNe (tVar 15) (tOp (rIxT K) (tVar 10) (tC (.int 1))))) (te := tTup (tCons (tVar 15) (tCons (tDGet (tVar 8) (tVar 15)) tNil))) (kvs := kvc) (d := ck)
        (fun b => !decide (b.1 = Sum.inl x.deal)) (fun b => b) kdKV hkc.at_ (by omega) (fun H1 od e1 => ev_var (i := 8) rfl) (fun H1 od b e1 hb H2 e2 => by
          obtain ⟨j, hj, hf⟩ := hkc.mem hb
          have htdl := lock_ne e1 e2 htd11 ntd
          refine ⟨wipe_turn, et_is (et_test (ev_op (ev_var (i := 15) rfl) (ixd (k := 1) htdl rfl hx1) (rv_ne (by rw [hj]; rfl)))) ?_, fun _ => ?_⟩
          · rw [hj]
            show (!decide (V.int j = V.int x.deal)) = _
            by_cases z : j = x.deal <;> simp [z]
          · exact ep_tupR (ρ := fun kv : Key × V => [kV kv.1, kv.2]) (b := b) (eu_tup (ea_cons (ev_var (i := 15) rfl) (ea_cons (hkc.edrop e2 hb (ev_var (i := 8) rfl) (ev_var (i := 15) rfl)) ea_nil)) (by show 2 ≤ 100000; decide)))
      rw [List.map_id'] at hY
      have hnd := (List.Sublist.map (fun b : Key × V => b.1) (List.filter_sublist (p := fun b : Key × V => !decide (b.1 = Sum.inl x.deal)) (l := kvc))).nodup hkc.nd
      refine s_asgP (ep_dictP hY hnd) fun v H12 e12 ⟨pc, hv, hpcn, hpc⟩ => ?_
      subst hv
      have hcd12 : DA H12 pc (fput (fN S.skips) x.deal none) := hkc.filt (d := x.deal) (fun b _ => rfl) hpc
      rw [fdrop_fN] at hcd12
      have hnew := (W9.ex e911).new hpcn
      have hsk : ∀ j, (put S.skips x.deal none j).isSome = true → j ∈ S.row.map (·.1) := fun j hj => by
        by_cases z : j = x.deal
        · rw [z, put_same] at hj; cases hj
        · rw [put_ne z] at hj; exact (hI.ok.sk j).mp hj
      have hrw : ∀ j, j ∈ S.row.map (·.1) → j ∈ ds ∧ ∃ a, af j = some a := fun j hj => by
        obtain ⟨e, he, rfl⟩ := List.mem_map.mp hj
        obtain ⟨a, ha, _⟩ := hI.as e he
        exact ⟨(hI.ok.rin e he).1, a, ha⟩
      refine hN _ _ ⟨af, put S.skips x.deal none, pc, pg, grL S fs, yg, o15, rfl, W9.ex (e911.trans e12), h2.inv, haf, hnew.1, hnew.2, hcd12, fun j hj => (hrw j (hsk j hj)).1, fun j hj => (hrw j (hsk j hj)).2, fun g hg => ?_, ?_, e12 _ _ hpg, kdC.L_ex e12 kg, h2.cnt⟩
      · obtain ⟨j, hj, rfl⟩ := List.mem_map.mp hg
        exact (hrw j (h2.sub j hj)).2
      · show (fs.map _).length ≤ 50
        rw [List.length_map]
        exact hfl
  · obtain ⟨af2, cf, ck2, gl, gs, gxs, o15', rfl, W, hI2, haf2, hckO2, hckZ2, hcd2, hcf1, hcf2, hgs, hgl, hglH, hglk, hfin⟩ := hmid
    generalize (x.res D ds S).1 = S' at W hI2 hfin hok'
    obtain ⟨n1, n2, n3, n4⟩ := wf_out.mp hckO2
    refine q_asgA (R := fun v H1 => ∃ p, v = .ref p ∧ Hm p = none ∧ DA H1 p (fN S'.skips) ∧ Fr [ck2] [ck2] Hm H1) (fun Q q => ⟨.ref ln, rfl, .ref ak, rfl, .ref ck2, rfl, .int (i : Int), rfl, .ref gl, rfl, D, Z, ds, L', S', ak, ck2, gl, gs, gxs, af2, cf, (i : Int), by rw [eln']; rfl, W.line, hok', hds, W.asked, hcd2, hcf1, hcf2, hgs, hgl, hglH, hglk, n2, n3, hckZ2, fun p H1 h1 h2 h3 => q _ H1 ⟨p, rfl, h1, by rw [hfin] at h2; exact h2, h3⟩⟩) fun v Hn ⟨p, hv, hpn, hpd, fp⟩ => ?_
    subst hv
    have W1 := W.oth fp hckO2 hckZ2
    have pO := W.new hpn
    show tIfS _ _ _ _ ([some (.ref s), some (.ref da), some (.ref t), some (.ref ga), some (.ref pl), some (.ref ln), some (.ref mm), some (.ref ak), some (.ref p), some (.int (i : Int)), some (.ref td), some (.ref bl), some (.ref hx0), some tv, some (.ref gl), o15'] : L2.St) Hn
    have hdl := hds.few
    have hpl1 := W1.line.z _ _ hplZ
    have wk : ∀ {σ : L2.St}, σ[4]? = some (some (.ref pl)) → WalkP (iList K (tVar 4)) σ Hn ds (kdV V.int).R := fun h => wk_list (K := K) (ka := kdV V.int) (ls_lk (lk_ints (ns := ds) (ev_var h) hpl1))
    have hX := ep_lcW (σ := ([some (.ref s), some (.ref da), some (.ref t), some (.ref ga), some (.ref pl), some (.ref ln), some (.ref mm), some (.ref ak), some (.ref p), some (.int (i : Int)), some (.ref td), some (.ref bl), some (.ref hx0), some tv, some (.ref gl), o15'] : L2.St)) (H := Hn) (te := tMeth Dc "passed" (Hid fun D Z ds => spPassed C Dc D Z ds) [] E0 (tVar 5) (tCons (tVar 15) tNil)) (g := gName 15) (vs := [15]) (t := tYes) (fun _ : Int => true) (fun j : Int => (S'.skips j).getD 0) (kdV V.int) (wk rfl) (by omega)
      (fun j x' H8 hj e8 hx => by
        cases hx
        exact ⟨rfl, Ex.refl _, et_yes, fun _ => ep_ev (ev_passed (ev_var (i := 5) (v := .ref L'.ln) (by rw [eln']; rfl)) (ev_var (i := 15) rfl) (W1.line.ex e8) (hds.pos j hj))⟩)
      gname_mono
    have hY := ep_lcW (σ := ([some (.ref s), some (.ref da), some (.ref t), some (.ref ga), some (.ref pl), some (.ref ln), some (.ref mm), some (.ref ak), some (.ref p), some (.int (i : Int)), some (.ref td), some (.ref bl), some (.ref hx0), some tv, some (.ref gl), o15'] : L2.St)) (H := Hn) (te := tDGet2 (tVar 8) (tVar 15) (tC (.int 0))) (g := gName 15) (vs := [15]) (t := tYes) (fun _ : Int => true) (fun j : Int => (S'.skips j).getD 0) (kdV V.int) (wk rfl) (by omega)
      (fun j x' H8 hj e8 hx => by
        cases hx
        exact ⟨rfl, Ex.refl _, et_yes, fun _ => ep_ev (ev_is (ev_daget2 (i := j) (z := .int 0) (ev_var (i := 8) (v := .ref p) rfl) (ev_var (i := 15) rfl) ev_c (hpd.ex e8)) (by unfold fN; cases S'.skips j <;> rfl))⟩)
      gname_mono
    refine s_when (b := false) (et_is (et_test (ev_neL cmpI (ls_new hX) (ls_new hY) (fun _ _ => low_int _) (fun _ _ => low_int _))) (by rw [decide_eq_true rfl]; rfl)) (fun z => by cases z) (fun _ H2 e2 => ?_)
    exact ⟨L', M', S', af2, p, some (.int (i : Int)), some (.ref td), some (.ref bl), some (.ref hx0), some tv, some (.ref gl), o15', rfl, eln', em7, W1.ex e2, hI2, haf2, pO.1, pO.2, hpd.ex e2⟩
end
end HT
set_option Elab.async false
set_option linter.all false
set_option maxRecDepth 100000
set_option maxHeartbeats 0
/-! every def keeps its promise; the end -/
namespace HT
open PySem PySem.Spec PyProof.Rows L2 Evl LamX
section
variable {P : Program} {w : World} {K : PySem.W.Frag} {mg : Str → Option Value} {base : Heap} {x q m : Str} {ps : List Str} {k n : Nat} {sp : Sp} {params : Arguments} {body : List Stmt} {scope : Scope} {fd : FuncData} {kws : List (Str × V)} {f : Addr}
theorem gf_ (X : K.In base) (G : base.Ns mainGlobals mg) (cg : (He.Fa.glo x).ok K = true) (F : FunD K x q params body scope [] [] (He.ga K x) fd) (b : Binds K fd ps []) (ok : FnOk P w K mg base CX0 k (He.ga K x) fd ps sp) : GF P w K mg base x ps [] k sp := ⟨⟨_, fd, [], He.glo_ok X G cg, F.kp, .nil, b, ok⟩⟩
theorem mf_ (cm : (He.Fa.meth x m).ok K = true) (b : Binds K fd ps []) (ok : FnOk P w K mg base CX0 k (He.ma K (He.ga K x) m) fd ps sp) : MF P w K mg base (He.ga K x) m ps k sp := ⟨⟨_, fd, He.meth_ok cm, b, ok⟩⟩
/-- keywords, none of them left out -/
theorem kb_plain {ks : List Str} (F : FunD K x q params body scope [] kws f fd) (h : ∀ (kV doc pm : Value) (an : Option Addr) (cdv ct : Value) (us ws : List Value), us.length = n → ws.length = ks.length → bindArgs (PySem.W.fnOf x q params body scope .none kV doc pm an cdv ct) ⟨us, ks.zip ws⟩ = pure (ps.zip (us ++ ws))) : ∃ g, KBn K fd ps n ks g (fun vs zs => vs ++ zs) := by
  obtain ⟨oc, od, dV, kV, doc, pm, an, cdv, ct, osl, rfl, lk, hcd, hD, hK⟩ := F.ex
  rcases hD with ⟨_, rfl⟩ | ⟨e, _⟩
  · exact ⟨fun us ws => us ++ ws, ⟨fun s us ws X l1 l2 => .of_eq (h kV doc pm an cdv ct us ws l1 l2), fun r1 r2 => r1.append r2⟩⟩
  · exact absurd rfl e
theorem tupOB_ok {x : Str} (h : tupOB K x = true) : ∃ o, K.lookup (He.ga K x) = some o ∧ o.cls = .type "tuple" ∧ o.dict = none := by
  unfold tupOB at h
  cases q : K.lookup (He.ga K x) with
  | none => rw [q] at h; cases h
  | some o =>
    obtain ⟨oc, od, dt, osl⟩ := o
    rw [q] at h
    cases oc with
    | type c =>
      cases od with
      | none => exact ⟨_, rfl, congrArg Value.type (of_decide_eq_true h), rfl⟩
      | some d => cases h
    | _ => cases od <;> cases h
theorem bb {a b : Bool} (h : (a && b) = true) : a = true ∧ b = true := by rw [Bool.and_eq_true] at h; exact h
theorem insB_ty {x : Str} (h : insB K x = true) (cl : Cls K (He.ga K x)) (H : Hp) (a dx : Addr) (fs : List (Str × V)) (e : H a = some (.ins (He.ga K x) dx fs)) : TyOf K H (.ref a) (.ref (He.ga K x)) := by
  obtain ⟨h1, h2⟩ := bb h
  obtain ⟨h3, h4⟩ := bb h2
  obtain ⟨h5, h6⟩ := bb h4
  exact .ins e cl (He.eqO_ok h1) (He.eqO_ok h3) (of_decide_eq_true h5) (of_decide_eq_true h6)
end
section
variable {P : Program} {w : World} {K : PySem.W.Frag} {mg : Str → Option Value} {base h : Heap}
theorem txt (X : K.In base) (G : base.Ns mainGlobals mg) (c : He.SaysX fa fn [] tf ex w h K) : Txt K mg (He.ga K "Table") (He.ga K "Line") where
  clC := He.cls_ok (c.t.d.fact 36 rfl)
  clD := He.cls_ok (c.t.d.fact 39 rfl)
  mgC := He.glo_ok X G (c.t.d.fact 35 rfl)
  mgD := He.glo_ok X G (c.t.d.fact 38 rfl)
  nOrder := He.noat_ok (c.t.d.fact 41 rfl)
  nPairs := He.noat_ok (c.t.d.fact 42 rfl)
  nWorth := He.noat_ok (c.t.d.fact 43 rfl)
  nUpper := He.noat_ok (c.t.d.fact 44 rfl)
  nJudged := He.noat_ok (c.t.d.fact 45 rfl)
  nTable := He.noat_ok (c.t.d.fact 46 rfl)
  nKeeps := He.noat_ok (c.t.d.fact 47 rfl)
  nRow := He.noat_ok (c.t.d.fact 48 rfl)
  nTickets := He.noat_ok (c.t.d.fact 49 rfl)
  nSkips := He.noat_ok (c.t.d.fact 50 rfl)
  nTurn := He.noat_ok (c.t.d.fact 51 rfl)
  fAbs := He.free_ok X G (c.t.d.fact 72 rfl)
  fAll := He.free_ok X G (c.t.d.fact 73 rfl)
  fBool := He.free_ok X G (c.t.d.fact 74 rfl)
  fDict := He.free_ok X G (c.t.d.fact 75 rfl)
  fEnum := He.free_ok X G (c.t.d.fact 76 rfl)
  fInt := He.free_ok X G (c.t.d.fact 77 rfl)
  fIsi := He.free_ok X G (c.t.d.fact 78 rfl)
  fLen := He.free_ok X G (c.t.d.fact 79 rfl)
  fList := He.free_ok X G (c.t.d.fact 80 rfl)
  fMin := He.free_ok X G (c.t.d.fact 81 rfl)
  fRange := He.free_ok X G (c.t.d.fact 82 rfl)
  fSet := He.free_ok X G (c.t.d.fact 83 rfl)
  fSorted := He.free_ok X G (c.t.d.fact 84 rfl)
  fStr := He.free_ok X G (c.t.d.fact 85 rfl)
  fTuple := He.free_ok X G (c.t.d.fact 86 rfl)
  letters := He.str_ok X G (c.t.d.fact 87 rfl)
  longest := He.int_ok X G (c.t.d.fact 88 rfl)
  mostModes := He.int_ok X G (c.t.d.fact 89 rfl)
  mostPairs := He.int_ok X G (c.t.d.fact 90 rfl)
  worths := ⟨He.ga K "WORTHS", He.glo_ok X G (c.t.d.fact 91 rfl), fun H => He.tupB_ok (bb c.more).1 H, tupOB_ok (bb (bb c.more).2).1⟩
  tyC := insB_ty (bb (bb (bb c.more).2).2).1 (He.cls_ok (c.t.d.fact 36 rfl))
theorem all (X : K.In base) (G : base.Ns mainGlobals mg) (c : He.SaysX fa fn [] tf ex w h K) (TB : TabB base mg (He.cT K ("Table", some "flaws")).1 (He.cT K ("Table", some "flaws")).2) {fd : FuncData} (FL : FnT K "law" "law" s_law [] [] (He.ga K "law") fd) : FnOk P w K mg base CX0 10 (He.ga K "law") fd ["_law_script"] (spLaw K (He.cT K ("Table", some "flaws")).2) := by
  have T := txt X G c
  obtain ⟨fd_is_name, F_is_name⟩ := c.t.d.def_ 0 (d := d_is_name) rfl
  have G_is_name : GF P w K mg base "is_name" ["thing"] [] 1 (spIsName) := gf_ X G (c.t.d.fact 0 rfl) F_is_name (F_is_name.bindsN fun _ _ _ _ _ _ us hl => match us, hl with | [_], _ => rfl) (ok_is_name F_is_name T)
  obtain ⟨fd_is_number, F_is_number⟩ := c.t.d.def_ 1 (d := d_is_number) rfl
  have G_is_number : GF P w K mg base "is_number" ["thing", "low", "high"] [.non] 1 spIsNumber := by
    obtain ⟨dd, h1, h2⟩ := FunD.binds1 (ps := ["thing", "low", "high"]) F_is_number 2 0 (by intro z; cases z) rfl fun T kV doc pm an cdv ct us its hl1 hl2 => match us, its, hl1, hl2 with | [_, _], [_], _, _ => ⟨_, rfl, rfl⟩
    exact ⟨⟨_, _, dd, He.glo_ok X G (c.t.d.fact 1 rfl), F_is_number.kp, h1, h2, ok_is_number F_is_number T⟩⟩
  obtain ⟨fd_is_row, F_is_row⟩ := c.t.d.def_ 2 (d := d_is_row) rfl
  have G_is_row : GF P w K mg base "is_row" ["thing"] [] 1 (spIsRow) := gf_ X G (c.t.d.fact 2 rfl) F_is_row (F_is_row.bindsN fun _ _ _ _ _ _ us hl => match us, hl with | [_], _ => rfl) (ok_is_row F_is_row T)
  obtain ⟨fd_is_mode, F_is_mode⟩ := c.t.d.def_ 4 (d := d_is_mode) rfl
  have G_is_mode : GF P w K mg base "is_mode" ["thing", "modes"] [] 1 (spIsMode K) := gf_ X G (c.t.d.fact 4 rfl) F_is_mode (F_is_mode.bindsN fun _ _ _ _ _ _ us hl => match us, hl with | [_, _], _ => rfl) (ok_is_mode F_is_mode T)
  obtain ⟨fd_are_modes, F_are_modes⟩ := c.t.d.def_ 3 (d := d_are_modes) rfl
  have G_are_modes : GF P w K mg base "are_modes" ["thing"] [] 2 (spAreModes) := gf_ X G (c.t.d.fact 3 rfl) F_are_modes (F_are_modes.bindsN fun _ _ _ _ _ _ us hl => match us, hl with | [_], _ => rfl) (ok_are_modes F_are_modes T G_is_row G_is_name)
  obtain ⟨fd_are_pairs, F_are_pairs⟩ := c.t.d.def_ 5 (d := d_are_pairs) rfl
  have G_are_pairs : GF P w K mg base "are_pairs" ["thing", "modes"] [] 2 (spAreP K) := gf_ X G (c.t.d.fact 5 rfl) F_are_pairs (F_are_pairs.bindsN fun _ _ _ _ _ _ us hl => match us, hl with | [_, _], _ => rfl) (ok_are_pairs F_are_pairs T G_is_row G_is_mode)
  obtain ⟨fd_is_dict, F_is_dict⟩ := c.t.d.def_ 6 (d := d_is_dict) rfl
  have G_is_dict : GF P w K mg base "is_dict" ["thing", "modes", "goals"] [] 2 (spIsDict K) := gf_ X G (c.t.d.fact 6 rfl) F_is_dict (F_is_dict.bindsN fun _ _ _ _ _ _ us hl => match us, hl with | [_, _, _], _ => rfl) (ok_is_dict F_is_dict T G_is_mode)
  obtain ⟨fd_need_table, F_need_table⟩ := c.t.d.def_ 16 (d := d_need_table) rfl
  have G_need_table : GF P w K mg base "need_table" ["thing"] [] 1 (spNeedT (He.ga K "Table")) := gf_ X G (c.t.d.fact 7 rfl) F_need_table (F_need_table.bindsN fun _ _ _ _ _ _ us hl => match us, hl with | [_], _ => rfl) (ok_need_table F_need_table T)
  obtain ⟨fd_need_deal, F_need_deal⟩ := c.t.d.def_ 17 (d := d_need_deal) rfl
  have G_need_deal : GF P w K mg base "need_deal" ["thing"] [] 2 (spNeedDeal) := gf_ X G (c.t.d.fact 8 rfl) F_need_deal (F_need_deal.bindsN fun _ _ _ _ _ _ us hl => match us, hl with | [_], _ => rfl) (ok_need_deal F_need_deal G_is_number)
  obtain ⟨fd_Table_need, F_Table_need⟩ := c.t.d.def_ 8 (d := d_Table_need) rfl
  have M_Table_need : MF P w K mg base (He.ga K "Table") "need" ["self", "mode"] 2 (spNeed (He.ga K "Table")) := mf_ (c.t.d.fact 52 rfl) (F_Table_need.bindsN fun _ _ _ _ _ _ us hl => match us, hl with | [_, _], _ => rfl) (ok_Table_need F_Table_need T G_is_mode)
  obtain ⟨fd_Table_beside, F_Table_beside⟩ := c.t.d.def_ 9 (d := d_Table_beside) rfl
  have M_Table_beside : MF P w K mg base (He.ga K "Table") "beside" ["self", "one", "other"] 3 (spT2 (He.ga K "Table") ansBeside) := mf_ (c.t.d.fact 53 rfl) (F_Table_beside.bindsN fun _ _ _ _ _ _ us hl => match us, hl with | [_, _, _], _ => rfl) (ok_Table_beside F_Table_beside T M_Table_need)
  obtain ⟨fd_Table_bears, F_Table_bears⟩ := c.t.d.def_ 10 (d := d_Table_bears) rfl
  have M_Table_bears : MF P w K mg base (He.ga K "Table") "bears" ["self", "one", "other"] 3 (spT2 (He.ga K "Table") ansBears) := mf_ (c.t.d.fact 54 rfl) (F_Table_bears.bindsN fun _ _ _ _ _ _ us hl => match us, hl with | [_, _, _], _ => rfl) (ok_Table_bears F_Table_bears T M_Table_need)
  obtain ⟨fd_Table_joined, F_Table_joined⟩ := c.t.d.def_ 11 (d := d_Table_joined) rfl
  have M_Table_joined : MF P w K mg base (He.ga K "Table") "joined" ["self", "one", "other"] 4 (spT2 (He.ga K "Table") ansJoined) := mf_ (c.t.d.fact 55 rfl) (F_Table_joined.bindsN fun _ _ _ _ _ _ us hl => match us, hl with | [_, _, _], _ => rfl) (ok_Table_joined F_Table_joined T M_Table_bears)
  obtain ⟨fd_Table_quarrel, F_Table_quarrel⟩ := c.t.d.def_ 12 (d := d_Table_quarrel) rfl
  have M_Table_quarrel : MF P w K mg base (He.ga K "Table") "quarrel" ["self", "one", "other"] 1 (spT2 (He.ga K "Table") ansQuarrel) := mf_ (c.t.d.fact 56 rfl) (F_Table_quarrel.bindsN fun _ _ _ _ _ _ us hl => match us, hl with | [_, _, _], _ => rfl) (ok_Table_quarrel F_Table_quarrel T)
  obtain ⟨fd_Table_is_over, F_Table_is_over⟩ := c.t.d.def_ 13 (d := d_Table_is_over) rfl
  have M_Table_is_over : MF P w K mg base (He.ga K "Table") "is_over" ["self", "one", "other"] 5 (spT2 (He.ga K "Table") ansOver) := mf_ (c.t.d.fact 57 rfl) (F_Table_is_over.bindsN fun _ _ _ _ _ _ us hl => match us, hl with | [_, _, _], _ => rfl) (ok_Table_is_over F_Table_is_over T M_Table_bears M_Table_joined)
  obtain ⟨fd_Table_flaws, F_Table_flaws⟩ := c.t.d.def_ 14 (d := d_Table_flaws) rfl
  have M_Table_flaws : MF P w K mg base (He.ga K "Table") "flaws" ["self"] 6 (spFlaws (He.ga K "Table") (He.cT K ("Table", some "flaws")).2) := mf_ (c.t.d.fact 58 rfl) (F_Table_flaws.bindsN fun _ _ _ _ _ _ us hl => match us, hl with | [_], _ => rfl) (ok_Table_flaws F_Table_flaws T TB (fun oc od fd1 osl c1 lk e => (He.codeOf_eq (p := ("Table", some "flaws")) lk e).symm) M_Table_bears M_Table_joined M_Table_quarrel M_Table_is_over)
  obtain ⟨fd_Table_flaw, F_Table_flaw⟩ := c.t.d.def_ 15 (d := d_Table_flaw) rfl
  have M_Table_flaw : MF P w K mg base (He.ga K "Table") "flaw" ["self"] 7 (spFlaw (He.ga K "Table") (He.cT K ("Table", some "flaws")).2) := mf_ (c.t.d.fact 59 rfl) (F_Table_flaw.bindsN fun _ _ _ _ _ _ us hl => match us, hl with | [_], _ => rfl) (ok_Table_flaw F_Table_flaw T M_Table_flaws)
  obtain ⟨fd_Table_init, F_Table_init⟩ := c.t.d.def_ 7 (d := d_Table_init) rfl
  have M_Table_init : MTinit P w K mg base (He.ga K "Table") := by
    obtain ⟨g, hg⟩ := kb_plain (ps := ["self", "modes", "beside", "gives", "above"]) (n := 2) (ks := ["beside", "gives", "above"]) F_Table_init fun kV doc pm an cdv ct us ws hl1 hl2 => match us, ws, hl1, hl2 with | [_, _], [_, _, _], _, _ => rfl
    exact ⟨⟨_, _, g, He.mkr_ok (c.t.d.fact 37 rfl), hg, ok_Table_init F_Table_init T G_are_modes G_are_pairs G_is_dict⟩⟩
  obtain ⟨fd_Line_init, F_Line_init⟩ := c.t.d.def_ 18 (d := d_Line_init) rfl
  have M_Line_init : MKG P w K mg base (He.ga K "Line") ["self", "table"] 8 (spLInit (He.ga K "Table") (He.ga K "Line") (He.cT K ("Table", some "flaws")).2) := ⟨⟨_, _, He.mkr_ok (c.t.d.fact 40 rfl), (F_Line_init.bindsN fun _ _ _ _ _ _ us hl => match us, hl with | [_, _], _ => rfl), ok_Line_init F_Line_init T G_need_table M_Table_flaw⟩⟩
  obtain ⟨fd_Line_fits, F_Line_fits⟩ := c.t.d.def_ 19 (d := d_Line_fits) rfl
  have M_Line_fits : ∀ i : TD Str × Hp × List Int, MF P w K mg base (He.ga K "Line") "fits" ["self", "deal", "goal"] 4 (spFits (He.ga K "Table") (He.ga K "Line") i.1 i.2.1 i.2.2) := fun i => mf_ (c.t.d.fact 60 rfl) (F_Line_fits.bindsN fun _ _ _ _ _ _ us hl => match us, hl with | [_, _, _], _ => rfl) (ok_Line_fits F_Line_fits T M_Table_beside)
  obtain ⟨fd_Line_grant, F_Line_grant⟩ := c.t.d.def_ 20 (d := d_Line_grant) rfl
  have M_Line_grant : ∀ i : TD Str × Hp × List Int, AMgrant P w K mg base (He.ga K "Table") (He.ga K "Line") i.1 i.2.1 i.2.2 := fun i => by
    obtain ⟨g, hg⟩ := kb_plain (ps := ["self", "deal", "goal", "ticket"]) (n := 3) (ks := ["ticket"]) F_Line_grant fun kV doc pm an cdv ct us ws hl1 hl2 => match us, ws, hl1, hl2 with | [_, _, _], [_], _, _ => rfl
    exact ⟨⟨_, _, g, He.meth_ok (c.t.d.fact 61 rfl), hg, ok_Line_grant F_Line_grant T⟩⟩
  obtain ⟨fd_Line_unwait, F_Line_unwait⟩ := c.t.d.def_ 22 (d := d_Line_unwait) rfl
  have M_Line_unwait : ∀ i : TD Str × Hp × List Int, MF P w K mg base (He.ga K "Line") "unwait" ["self", "deal"] 1 (spUnwait (He.ga K "Table") (He.ga K "Line") i.1 i.2.1 i.2.2) := fun i => mf_ (c.t.d.fact 63 rfl) (F_Line_unwait.bindsN fun _ _ _ _ _ _ us hl => match us, hl with | [_, _], _ => rfl) (ok_Line_unwait F_Line_unwait T)
  obtain ⟨fd_Line_granted_now, F_Line_granted_now⟩ := c.t.d.def_ 23 (d := d_Line_granted_now) rfl
  have M_Line_granted_now : ∀ i : TD Str × Hp × List Int, MF P w K mg base (He.ga K "Line") "granted_now" ["self"] 5 (spNow (He.ga K "Table") (He.ga K "Line") i.1 i.2.1 i.2.2) := fun i => mf_ (c.t.d.fact 64 rfl) (F_Line_granted_now.bindsN fun _ _ _ _ _ _ us hl => match us, hl with | [_], _ => rfl) (ok_Line_granted_now F_Line_granted_now T (M_Line_fits i) (M_Line_unwait i) (M_Line_grant i))
  obtain ⟨fd_Line_ask, F_Line_ask⟩ := c.t.d.def_ 21 (d := d_Line_ask) rfl
  have M_Line_ask : MF P w K mg base (He.ga K "Line") "ask" ["self", "deal", "mode"] 5 (Hid (spAsk (He.ga K "Table") (He.ga K "Line"))) := mf_ (c.t.d.fact 62 rfl) (F_Line_ask.bindsN fun _ _ _ _ _ _ us hl => match us, hl with | [_, _, _], _ => rfl) (FnOk.exs fun i => ok_Line_ask F_Line_ask T G_need_deal M_Table_need M_Table_joined (M_Line_fits i) (M_Line_grant i))
  obtain ⟨fd_Line_go, F_Line_go⟩ := c.t.d.def_ 24 (d := d_Line_go) rfl
  have M_Line_go : MF P w K mg base (He.ga K "Line") "go" ["self", "deal"] 6 (Hid (spGo (He.ga K "Table") (He.ga K "Line"))) := mf_ (c.t.d.fact 65 rfl) (F_Line_go.bindsN fun _ _ _ _ _ _ us hl => match us, hl with | [_, _], _ => rfl) (FnOk.exs fun i => ok_Line_go F_Line_go T G_need_deal (M_Line_unwait i) (M_Line_granted_now i))
  obtain ⟨fd_Line_cease, F_Line_cease⟩ := c.t.d.def_ 25 (d := d_Line_cease) rfl
  have M_Line_cease : MF P w K mg base (He.ga K "Line") "cease" ["self", "deal"] 6 (Hid (spCease (He.ga K "Table") (He.ga K "Line"))) := mf_ (c.t.d.fact 66 rfl) (F_Line_cease.bindsN fun _ _ _ _ _ _ us hl => match us, hl with | [_, _], _ => rfl) (FnOk.exs fun i => ok_Line_cease F_Line_cease T G_need_deal (M_Line_unwait i) (M_Line_granted_now i))
  obtain ⟨fd_Line_ease, F_Line_ease⟩ := c.t.d.def_ 26 (d := d_Line_ease) rfl
  have M_Line_ease : MF P w K mg base (He.ga K "Line") "ease" ["self", "deal", "mode"] 6 (Hid (spEase (He.ga K "Table") (He.ga K "Line"))) := mf_ (c.t.d.fact 67 rfl) (F_Line_ease.bindsN fun _ _ _ _ _ _ us hl => match us, hl with | [_, _, _], _ => rfl) (FnOk.exs fun i => ok_Line_ease F_Line_ease T G_need_deal M_Table_need M_Table_bears (M_Line_granted_now i))
  obtain ⟨fd_Line_held, F_Line_held⟩ := c.t.d.def_ 27 (d := d_Line_held) rfl
  have M_Line_held : MF P w K mg base (He.ga K "Line") "held" ["self", "deal"] 3 (Hid fun D Z ds => spHeld (He.ga K "Table") (He.ga K "Line") D Z ds) := mf_ (c.t.d.fact 68 rfl) (F_Line_held.bindsN fun _ _ _ _ _ _ us hl => match us, hl with | [_, _], _ => rfl) (FnOk.exs fun i => ok_Line_held F_Line_held T G_need_deal)
  obtain ⟨fd_Line_passed, F_Line_passed⟩ := c.t.d.def_ 30 (d := d_Line_passed) rfl
  have M_Line_passed : MF P w K mg base (He.ga K "Line") "passed" ["self", "deal"] 3 (Hid fun D Z ds => spPassed (He.ga K "Table") (He.ga K "Line") D Z ds) := mf_ (c.t.d.fact 71 rfl) (F_Line_passed.bindsN fun _ _ _ _ _ _ us hl => match us, hl with | [_, _], _ => rfl) (FnOk.exs fun i => ok_Line_passed F_Line_passed T G_need_deal)
  obtain ⟨fd_Line_holders, F_Line_holders⟩ := c.t.d.def_ 28 (d := d_Line_holders) rfl
  have M_Line_holders : MF P w K mg base (He.ga K "Line") "holders" ["self"] 1 (Hid fun D Z ds => spHolders (He.ga K "Table") (He.ga K "Line") D Z ds) := mf_ (c.t.d.fact 69 rfl) (F_Line_holders.bindsN fun _ _ _ _ _ _ us hl => match us, hl with | [_], _ => rfl) (FnOk.exs fun i => ok_Line_holders F_Line_holders T)
  obtain ⟨fd_Line_waiting, F_Line_waiting⟩ := c.t.d.def_ 29 (d := d_Line_waiting) rfl
  have M_Line_waiting : MF P w K mg base (He.ga K "Line") "waiting" ["self"] 1 (Hid fun D Z _ => spWaiting (He.ga K "Table") (He.ga K "Line") D Z) := mf_ (c.t.d.fact 70 rfl) (F_Line_waiting.bindsN fun _ _ _ _ _ _ us hl => match us, hl with | [_], _ => rfl) (FnOk.exs fun i => ok_Line_waiting F_Line_waiting T)
  obtain ⟨fd_law_begun, F_law_begun⟩ := c.t.d.def_ 31 (d := d_law_begun) rfl
  have G_law_begun : GF P w K mg base "_law_begun" ["_law_script"] [] 1 (spBegun K) := gf_ X G (c.t.d.fact 9 rfl) F_law_begun (F_law_begun.bindsN fun _ _ _ _ _ _ us hl => match us, hl with | [_], _ => rfl) (ok_law_begun F_law_begun T)
  obtain ⟨fd_law_take, F_law_take⟩ := c.t.d.def_ 32 (d := d_law_take) rfl
  have G_law_take : GF P w K mg base "_law_take" ["_law_draw", "_law_many"] [] 1 (spTake) := gf_ X G (c.t.d.fact 10 rfl) F_law_take (F_law_take.bindsN fun _ _ _ _ _ _ us hl => match us, hl with | [_, _], _ => rfl) (ok_law_take F_law_take T)
  obtain ⟨fd_law_pick, F_law_pick⟩ := c.t.d.def_ 33 (d := d_law_pick) rfl
  have G_law_pick : GF P w K mg base "_law_pick" ["_law_draw", "_law_some"] [] 2 (spPick) := gf_ X G (c.t.d.fact 11 rfl) F_law_pick (F_law_pick.bindsN fun _ _ _ _ _ _ us hl => match us, hl with | [_, _], _ => rfl) (ok_law_pick F_law_pick T G_law_take)
  obtain ⟨fd_law_words, F_law_words⟩ := c.t.d.def_ 34 (d := d_law_words) rfl
  have G_law_words : GF P w K mg base "_law_words" ["_law_draw", "_law_many"] [] 3 (spWords) := gf_ X G (c.t.d.fact 12 rfl) F_law_words (F_law_words.bindsN fun _ _ _ _ _ _ us hl => match us, hl with | [_, _], _ => rfl) (ok_law_words F_law_words T G_law_take G_law_pick)
  obtain ⟨fd_law_stair, F_law_stair⟩ := c.t.d.def_ 35 (d := d_law_stair) rfl
  have G_law_stair : GF P w K mg base "_law_stair" ["_law_draw"] [] 4 (spData true) := gf_ X G (c.t.d.fact 13 rfl) F_law_stair (F_law_stair.bindsN fun _ _ _ _ _ _ us hl => match us, hl with | [_], _ => rfl) (ok_law_stair F_law_stair T G_law_take G_law_words)
  obtain ⟨fd_law_usual_like, F_law_usual_like⟩ := c.t.d.def_ 36 (d := d_law_usual_like) rfl
  have G_law_usual_like : GF P w K mg base "_law_usual_like" ["_law_draw"] [] 5 (spData true) := gf_ X G (c.t.d.fact 14 rfl) F_law_usual_like (F_law_usual_like.bindsN fun _ _ _ _ _ _ us hl => match us, hl with | [_], _ => rfl) (ok_law_usual F_law_usual_like T G_law_take G_law_words G_law_stair)
  obtain ⟨fd_law_any_table, F_law_any_table⟩ := c.t.d.def_ 37 (d := d_law_any_table) rfl
  have G_law_any_table : GF P w K mg base "_law_any_table" ["_law_draw"] [] 4 (spData false) := gf_ X G (c.t.d.fact 15 rfl) F_law_any_table (F_law_any_table.bindsN fun _ _ _ _ _ _ us hl => match us, hl with | [_], _ => rfl) (ok_law_any F_law_any_table T G_law_take G_law_words G_law_pick)
  obtain ⟨fd_law_made, F_law_made⟩ := c.t.d.def_ 38 (d := d_law_made) rfl
  have G_law_made : GF P w K mg base "_law_made" ["_law_data"] [] 5 (spMade (He.ga K "Table")) := gf_ X G (c.t.d.fact 16 rfl) F_law_made (F_law_made.bindsN fun _ _ _ _ _ _ us hl => match us, hl with | [_], _ => rfl) (ok_law_made F_law_made T M_Table_init)
  obtain ⟨fd_law_table, F_law_table⟩ := c.t.d.def_ 39 (d := d_law_table) rfl
  have G_law_table : GF P w K mg base "_law_table" ["_law_draw"] [] 8 (spTable (He.ga K "Table") (He.cT K ("Table", some "flaws")).2) := gf_ X G (c.t.d.fact 17 rfl) F_law_table (F_law_table.bindsN fun _ _ _ _ _ _ us hl => match us, hl with | [_], _ => rfl) (ok_law_table F_law_table T G_law_take G_law_usual_like G_law_any_table G_law_made M_Table_flaw)
  obtain ⟨fd_law_near, F_law_near⟩ := c.t.d.def_ 40 (d := d_law_near) rfl
  have G_law_near : GF P w K mg base "_law_near" ["_law_data", "_law_one", "_law_other"] [] 2 (spLNear) := gf_ X G (c.t.d.fact 18 rfl) F_law_near (F_law_near.bindsN fun _ _ _ _ _ _ us hl => match us, hl with | [_, _, _], _ => rfl) (ok_law_near F_law_near T)
  obtain ⟨fd_law_bears, F_law_bears⟩ := c.t.d.def_ 41 (d := d_law_bears) rfl
  have G_law_bears : GF P w K mg base "_law_bears" ["_law_data", "_law_one", "_law_other"] [] 3 (spLBears) := gf_ X G (c.t.d.fact 19 rfl) F_law_bears (F_law_bears.bindsN fun _ _ _ _ _ _ us hl => match us, hl with | [_, _, _], _ => rfl) (ok_law_bears F_law_bears T G_law_near)
  obtain ⟨fd_law_joined, F_law_joined⟩ := c.t.d.def_ 42 (d := d_law_joined) rfl
  have G_law_joined : GF P w K mg base "_law_joined" ["_law_data", "_law_one", "_law_other"] [] 4 (spLJoined) := gf_ X G (c.t.d.fact 20 rfl) F_law_joined (F_law_joined.bindsN fun _ _ _ _ _ _ us hl => match us, hl with | [_, _, _], _ => rfl) (ok_law_joined F_law_joined T G_law_bears)
  obtain ⟨fd_law_empty, F_law_empty⟩ := c.t.d.def_ 43 (d := d_law_empty) rfl
  have G_law_empty : GF P w K mg base "_law_empty" [] [] 1 (spEmpty) := gf_ X G (c.t.d.fact 21 rfl) F_law_empty (F_law_empty.bindsN fun _ _ _ _ _ _ us hl => match us, hl with | [], _ => rfl) (ok_law_empty F_law_empty T)
  obtain ⟨fd_law_fits, F_law_fits⟩ := c.t.d.def_ 44 (d := d_law_fits) rfl
  have G_law_fits : ∀ ds : List Int, GF P w K mg base "_law_fits" ["_law_data", "_law_model", "_law_deal", "_law_goal"] [] 3 (spLFits ds) := fun ds => gf_ X G (c.t.d.fact 22 rfl) F_law_fits (F_law_fits.bindsN fun _ _ _ _ _ _ us hl => match us, hl with | [_, _, _, _], _ => rfl) (ok_law_fits F_law_fits T G_law_near)
  obtain ⟨fd_law_grant, F_law_grant⟩ := c.t.d.def_ 45 (d := d_law_grant) rfl
  have G_law_grant : ∀ ds : List Int, GF P w K mg base "_law_grant" ["_law_model", "_law_deal", "_law_goal", "_law_ticket"] [] 1 (spLGrant ds) := fun ds => gf_ X G (c.t.d.fact 23 rfl) F_law_grant (F_law_grant.bindsN fun _ _ _ _ _ _ us hl => match us, hl with | [_, _, _, _], _ => rfl) (ok_law_grant F_law_grant T)
  obtain ⟨fd_law_asks, F_law_asks⟩ := c.t.d.def_ 46 (d := d_law_asks) rfl
  have G_law_asks : ∀ ds : List Int, GF P w K mg base "_law_asks" ["_law_data", "_law_model", "_law_deal", "_law_mode"] [] 5 (spLAsks ds) := fun ds => gf_ X G (c.t.d.fact 24 rfl) F_law_asks (F_law_asks.bindsN fun _ _ _ _ _ _ us hl => match us, hl with | [_, _, _, _], _ => rfl) (ok_law_asks F_law_asks T G_law_joined (G_law_fits ds) (G_law_grant ds))
  obtain ⟨fd_law_scan, F_law_scan⟩ := c.t.d.def_ 47 (d := d_law_scan) rfl
  have G_law_scan : ∀ ds : List Int, GF P w K mg base "_law_scan" ["_law_data", "_law_model"] [] 4 (spLScan ds) := fun ds => gf_ X G (c.t.d.fact 25 rfl) F_law_scan (F_law_scan.bindsN fun _ _ _ _ _ _ us hl => match us, hl with | [_, _], _ => rfl) (ok_law_scan F_law_scan T (G_law_fits ds) (G_law_grant ds))
  obtain ⟨fd_law_out, F_law_out⟩ := c.t.d.def_ 48 (d := d_law_out) rfl
  have G_law_out : ∀ ds : List Int, GF P w K mg base "_law_out" ["_law_model", "_law_deal"] [] 1 (spLOut ds) := fun ds => gf_ X G (c.t.d.fact 26 rfl) F_law_out (F_law_out.bindsN fun _ _ _ _ _ _ us hl => match us, hl with | [_, _], _ => rfl) (ok_law_out F_law_out T)
  obtain ⟨fd_law_does, F_law_does⟩ := c.t.d.def_ 49 (d := d_law_does) rfl
  have G_law_does : GF P w K mg base "_law_does" ["_law_data", "_law_model", "_law_deed_here"] [] 6 (HidD spLDoes) := gf_ X G (c.t.d.fact 27 rfl) F_law_does (F_law_does.bindsN fun _ _ _ _ _ _ us hl => match us, hl with | [_, _, _], _ => rfl) (FnOk.exs fun ds => ok_law_does F_law_does T (G_law_asks ds) (G_law_out ds) (G_law_scan ds))
  obtain ⟨fd_law_told, F_law_told⟩ := c.t.d.def_ 50 (d := d_law_told) rfl
  have G_law_told : GF P w K mg base "_law_told" ["_law_line", "_law_deed_here"] [] 7 (spTold (He.ga K "Table") (He.ga K "Line")) := gf_ X G (c.t.d.fact 28 rfl) F_law_told (F_law_told.bindsN fun _ _ _ _ _ _ us hl => match us, hl with | [_, _], _ => rfl) (ok_law_told F_law_told T M_Line_ask M_Line_ease M_Line_go M_Line_cease)
  obtain ⟨fd_law_deed, F_law_deed⟩ := c.t.d.def_ 51 (d := d_law_deed) rfl
  have G_law_deed : GF P w K mg base "_law_deed" ["_law_draw", "_law_data", "_law_model", "_law_deals_here"] [] 4 (spDeed) := gf_ X G (c.t.d.fact 29 rfl) F_law_deed (F_law_deed.bindsN fun _ _ _ _ _ _ us hl => match us, hl with | [_, _, _, _], _ => rfl) (ok_law_deed F_law_deed T G_law_take G_law_pick G_law_bears)
  obtain ⟨fd_law_deals, F_law_deals⟩ := c.t.d.def_ 52 (d := d_law_deals) rfl
  have G_law_deals : GF P w K mg base "_law_deals" ["_law_draw"] [] 3 (spDeals) := gf_ X G (c.t.d.fact 30 rfl) F_law_deals (F_law_deals.bindsN fun _ _ _ _ _ _ us hl => match us, hl with | [_], _ => rfl) (ok_law_deals F_law_deals T G_law_take G_law_pick)
  obtain ⟨fd_law_row_right, F_law_row_right⟩ := c.t.d.def_ 53 (d := d_law_row_right) rfl
  have G_law_row_right : GF P w K mg base "_law_row_right" ["_law_table_here", "_law_line", "_law_before", "_law_deed_here", "_law_told_here"] [] 4 (spRowRight (He.ga K "Table") (He.ga K "Line")) := gf_ X G (c.t.d.fact 31 rfl) F_law_row_right (F_law_row_right.bindsN fun _ _ _ _ _ _ us hl => match us, hl with | [_, _, _, _, _], _ => rfl) (ok_law_row_right F_law_row_right T M_Line_waiting M_Line_holders M_Table_beside)
  obtain ⟨fd_law_ask_right, F_law_ask_right⟩ := c.t.d.def_ 54 (d := d_law_ask_right) rfl
  have G_law_ask_right : GF P w K mg base "_law_ask_right" ["_law_line", "_law_before", "_law_deed_here", "_law_held", "_law_told_here"] [] 4 (spAskRight (He.ga K "Table") (He.ga K "Line")) := gf_ X G (c.t.d.fact 32 rfl) F_law_ask_right (F_law_ask_right.bindsN fun _ _ _ _ _ _ us hl => match us, hl with | [_, _, _, _, _], _ => rfl) (ok_law_ask_right F_law_ask_right T M_Line_waiting M_Line_held)
  obtain ⟨fd_law_counted, F_law_counted⟩ := c.t.d.def_ 55 (d := d_law_counted) rfl
  have G_law_counted : GF P w K mg base "_law_counted" ["_law_line", "_law_asked", "_law_counts", "_law_turn", "_law_granted"] [] 2 (spCounted (He.ga K "Table") (He.ga K "Line")) := gf_ X G (c.t.d.fact 33 rfl) F_law_counted (F_law_counted.bindsN fun _ _ _ _ _ _ us hl => match us, hl with | [_, _, _, _, _], _ => rfl) (ok_law_counted F_law_counted T M_Line_waiting)
  exact ok_law FL T G_law_begun G_law_table G_law_deals M_Line_init G_law_empty G_law_deed M_Line_waiting M_Line_holders M_Line_held M_Line_passed G_law_told G_law_does G_law_row_right G_law_ask_right G_law_counted
end
end HT
open PySem PySem.W PySem.Calls PyProof.Rows
set_option maxRecDepth 100000 in
set_option maxHeartbeats 0 in
theorem PySem.Challenge.cw_holdtree_k22_whole_nobody_is_passed_holds : PySem.Challenge.rw_holdtree_k22_whole_nobody_is_passed.Holds := by
  w_on; o_law
  refine HandSHeadRun.head_any (r := OpenLaw.row PySem.Challenge.rw_holdtree_k22_whole_nobody_is_passed) (q := view (OpenLaw.row PySem.Challenge.rw_holdtree_k22_whole_nobody_is_passed).prog [56]) (H := HT.hk) (ob := HT.ob) (M := 12000) (loose := HT.loose) (d := HandSHeadRun.topDef (OpenLaw.row PySem.Challenge.rw_holdtree_k22_whole_nobody_is_passed).prog 56) (kwd := []) HT.ob_eq
    (by kernel_rfl) (fun s => by kernel_rfl) HT.run (by kernel_rfl) (by kernel_rfl) (by kernel_rfl) (by rfl) (by first | assumption | decide +kernel) (by decide +kernel) ⟨rfl, rfl, rfl, rfl, rfl, by decide +kernel⟩ ?hw ?hc
  case hw => w_witness2
  case hc =>
    refine LamX.walk_ofTsE (l := PySem.Challenge.rw_holdtree_k22_whole_nobody_is_passed) (n := 63) (k := 10) (x := "_law_script") (CX := fun _ => L2.CX0) rfl (by decide) (by kernel_rfl) ⟨rfl, by decide, by decide⟩ ?F (fun _ _ _ _ _ z => z)
    intro w mg fa h Y G hmg0
    obtain ⟨K, KX, c⟩ := Y
    have hmg : mg ("law" : PySem.Str) = some (.ref fa) := by
      have e : (HandSHeadRun.topDef (OpenLaw.row PySem.Challenge.rw_holdtree_k22_whole_nobody_is_passed).prog 56).name = ("law" : PySem.Str) := by kernel_rfl
      rw [← e]
      exact hmg0
    obtain ⟨fd, FL⟩ := c.t.d.def_ 56 (d := HT.d_law) rfl
    have e := hmg.symm.trans (He.glo_ok KX G (c.t.d.fact 34 rfl))
    cases e
    have b := L2.FunD.bindsA (ps := ["_law_script"]) FL fun _ _ _ _ _ _ us hl => match us, hl with | [_], _ => rfl
    have hp : (("Table", some "flaws") : He.Defn) ∈ HT.tf := List.mem_singleton.mpr rfl
    refine ⟨K, KX, fd, [He.cT K ("Table", some "flaws")], HT.spLaw K (He.cT K ("Table", some "flaws")).2, fun p hq => ?_, fun p hq => ?_, fun p hq => ?_, fun s v => b s [v] rfl, fun H a ns hl _ hTb hS => ⟨a, ns, rfl, hS, hl, fun q hq => ?_, fun _ => rfl⟩, fun base X G2 TB => HT.all X G2 c (TB _ (List.mem_singleton.mpr rfl)) FL⟩
    · rw [List.mem_singleton.mp hq]
      exact c.empty _ hp
    · rw [List.mem_singleton.mp hq]
      exact c.out _ hp
    · rw [List.mem_singleton.mp hq]
      exact PySem.W.codeHd_of_K KX (c.hd _ hp)
    · rw [List.mem_singleton.mp hq]
      exact ⟨#[], hTb _ (List.mem_singleton.mpr rfl), True.intro, fun pos cv hcv => by cases hcv⟩
