import PyProof.Rows.All
import Wide.All
import OpenK.AllK
import Wide.FinOn
import PyProof.EqAt
import PyProof.EqKinds
import PyProof.TupleCall
import KE.KStateDown
import KE.KLam
import KE.SortKeyHeap
import HandS.ForMost
import HandS.Exc
import HandS.ExcOwn
import HandS.TryOnly
import HandS.WordsExc
import HandS.Defaults
import HandS.Head0
import HandS.Head1
import HandS.Head2
import HandS.HeadEnd
import HandS.HeadHook1
import HandS.HeadHook2
import HandS.HeadHook3
import HandS.HeadHook4
import HandS.Lambda
import HandS.EndTab
import HandS.HeadWalk
import HandS.Strs
import HandS.SetFor
import HandS.Sort
import HandS.Wide
import HandS.WideBits
import HandS.Flow
import HandS.Style
import HandS.More
import HandS.IsInst
import HandS.Zip
import HandS.Evl
import HandS.Walk
import HandS.Conv
import HandS.ExcValue
import HandS.ExcIs
import HandS.ClsMeth
import HandS.Small
import PySem.Challenge.RW_voucherstack_k36_pieces_that_are_not_the
set_option Elab.async false
set_option linter.all false
set_option maxRecDepth 100000
set_option maxHeartbeats 4000000
namespace VS
open PySem PySem.Spec PyProof.Rows L2
/-! the text by places -/
def top (i : Nat) : Stmt := PySem.Challenge.pw_voucherstack_k36_pieces_that_are_not_the.main.body.getD i (.Pass ⟨0, 0, 0, 0⟩)
abbrev s_dealt : Stmt := top 2
abbrev s_under : Stmt := top 4
abbrev s_Line_init : Stmt := inClass (top 6) 0
abbrev s_Basket_init : Stmt := inClass (top 7) 0
abbrev s_piece_price : Stmt := top 8
abbrev s_Standing_init : Stmt := inClass (top 9) 0
abbrev s_Standing_whole : Stmt := inClass (top 9) 1
abbrev s_about : Stmt := top 11
abbrev s_hindrance : Stmt := top 12
abbrev s_cuts : Stmt := top 13
abbrev s_after : Stmt := top 14
abbrev s_NotLet_init : Stmt := inClass (top 17) 0
abbrev s_LineError_init : Stmt := inClass (top 19) 0
abbrev s_never_beside : Stmt := top 21
abbrev s_comes_late : Stmt := top 22
abbrev s_word_of : Stmt := top 23
abbrev s_lacking : Stmt := top 24
abbrev s_fault : Stmt := top 25
abbrev s_Bill_init : Stmt := inClass (top 27) 0
abbrev s_priced : Stmt := top 28
abbrev s_what_stays : Stmt := top 30
abbrev s_goes_on : Stmt := top 31
abbrev s_gone_through : Stmt := top 32
abbrev s_still_holding : Stmt := top 33
abbrev s_Account_init : Stmt := inClass (top 34) 0
abbrev s_Account_take_back : Stmt := inClass (top 34) 1
abbrev s_Account_worth_of : Stmt := inClass (top 34) 2
abbrev s_Account_due_again : Stmt := inClass (top 34) 3
abbrev s_Account_settled : Stmt := inClass (top 34) 4
abbrev s_Till_init : Stmt := inClass (top 36) 0
abbrev s_Marks_init : Stmt := inClass (top 38) 0
abbrev s_Voucher_init : Stmt := inClass (top 39) 0
abbrev s_Voucher_wanted : Stmt := inClass (top 39) 1
abbrev s_Voucher_wanted_carriage : Stmt := inClass (top 39) 2
abbrev s_Off_init : Stmt := inClass (top 40) 0
abbrev s_Off_wanted : Stmt := inClass (top 40) 1
abbrev s_Share_init : Stmt := inClass (top 41) 0
abbrev s_Share_wanted : Stmt := inClass (top 41) 1
abbrev s_groups_of : Stmt := top 42
abbrev s_Cheapest_init : Stmt := inClass (top 43) 0
abbrev s_Cheapest_wanted : Stmt := inClass (top 43) 1
abbrev s_Bundle_init : Stmt := inClass (top 44) 0
abbrev s_Bundle_wanted : Stmt := inClass (top 44) 1
abbrev s_Carriage_wanted_carriage : Stmt := inClass (top 45) 0
abbrev s_law_cell_at : Stmt := top 47
abbrev s_law_some : Stmt := top 48
abbrev s_law_price : Stmt := top 49
abbrev s_law_parents : Stmt := top 50
abbrev s_law_basket : Stmt := top 51
abbrev s_law_amount : Stmt := top 52
abbrev s_law_marks : Stmt := top 53
abbrev s_law_voucher : Stmt := top 54
abbrev s_law_rules : Stmt := top 55
abbrev s_law_worth : Stmt := top 56
abbrev s_law_till : Stmt := top 57
abbrev s_law_hand : Stmt := top 58
abbrev s_law_going : Stmt := top 59
abbrev s_law_order : Stmt := top 60
abbrev s_law_take : Stmt := top 61
abbrev s_law_drawn : Stmt := top 62
abbrev s_law_told : Stmt := top 63
abbrev s_law_refused : Stmt := top 64
abbrev s_law_all_refused : Stmt := top 65
abbrev s_law : Stmt := top 66
def d_dealt : He.DefD := ⟨("dealt", none), "dealt", "dealt", defArgs s_dealt, defBody s_dealt, defScope s_dealt, [], []⟩
def d_under : He.DefD := ⟨("under", none), "under", "under", defArgs s_under, defBody s_under, defScope s_under, [], []⟩
def d_Line_init : He.DefD := ⟨("Line", some "__init__"), "__init__", "Line.__init__", defArgs s_Line_init, defBody s_Line_init, defScope s_Line_init, [.non], []⟩
def d_Basket_init : He.DefD := ⟨("Basket", some "__init__"), "__init__", "Basket.__init__", defArgs s_Basket_init, defBody s_Basket_init, defScope s_Basket_init, [.int 0, .bl false], []⟩
def d_piece_price : He.DefD := ⟨("piece_price", none), "piece_price", "piece_price", defArgs s_piece_price, defBody s_piece_price, defScope s_piece_price, [], []⟩
def d_Standing_init : He.DefD := ⟨("Standing", some "__init__"), "__init__", "Standing.__init__", defArgs s_Standing_init, defBody s_Standing_init, defScope s_Standing_init, [], []⟩
def d_Standing_whole : He.DefD := ⟨("Standing", some "whole"), "whole", "Standing.whole", defArgs s_Standing_whole, defBody s_Standing_whole, defScope s_Standing_whole, [], []⟩
def d_about : He.DefD := ⟨("about", none), "about", "about", defArgs s_about, defBody s_about, defScope s_about, [], []⟩
def d_hindrance : He.DefD := ⟨("hindrance", none), "hindrance", "hindrance", defArgs s_hindrance, defBody s_hindrance, defScope s_hindrance, [], []⟩
def d_cuts : He.DefD := ⟨("cuts", none), "cuts", "cuts", defArgs s_cuts, defBody s_cuts, defScope s_cuts, [], []⟩
def d_after : He.DefD := ⟨("after", none), "after", "after", defArgs s_after, defBody s_after, defScope s_after, [], []⟩
def d_never_beside : He.DefD := ⟨("never_beside", none), "never_beside", "never_beside", defArgs s_never_beside, defBody s_never_beside, defScope s_never_beside, [], []⟩
def d_comes_late : He.DefD := ⟨("comes_late", none), "comes_late", "comes_late", defArgs s_comes_late, defBody s_comes_late, defScope s_comes_late, [], []⟩
def d_word_of : He.DefD := ⟨("word_of", none), "word_of", "word_of", defArgs s_word_of, defBody s_word_of, defScope s_word_of, [], []⟩
def d_lacking : He.DefD := ⟨("lacking", none), "lacking", "lacking", defArgs s_lacking, defBody s_lacking, defScope s_lacking, [], []⟩
def d_fault : He.DefD := ⟨("fault", none), "fault", "fault", defArgs s_fault, defBody s_fault, defScope s_fault, [], []⟩
def d_Bill_init : He.DefD := ⟨("Bill", some "__init__"), "__init__", "Bill.__init__", defArgs s_Bill_init, defBody s_Bill_init, defScope s_Bill_init, [], []⟩
def d_priced : He.DefD := ⟨("priced", none), "priced", "priced", defArgs s_priced, defBody s_priced, defScope s_priced, [], []⟩
def d_what_stays : He.DefD := ⟨("what_stays", none), "what_stays", "what_stays", defArgs s_what_stays, defBody s_what_stays, defScope s_what_stays, [], []⟩
def d_goes_on : He.DefD := ⟨("goes_on", none), "goes_on", "goes_on", defArgs s_goes_on, defBody s_goes_on, defScope s_goes_on, [], []⟩
def d_gone_through : He.DefD := ⟨("gone_through", none), "gone_through", "gone_through", defArgs s_gone_through, defBody s_gone_through, defScope s_gone_through, [], []⟩
def d_still_holding : He.DefD := ⟨("still_holding", none), "still_holding", "still_holding", defArgs s_still_holding, defBody s_still_holding, defScope s_still_holding, [], []⟩
def d_Account_init : He.DefD := ⟨("Account", some "__init__"), "__init__", "Account.__init__", defArgs s_Account_init, defBody s_Account_init, defScope s_Account_init, [], []⟩
def d_Account_take_back : He.DefD := ⟨("Account", some "take_back"), "take_back", "Account.take_back", defArgs s_Account_take_back, defBody s_Account_take_back, defScope s_Account_take_back, [], []⟩
def d_Account_worth_of : He.DefD := ⟨("Account", some "worth_of"), "worth_of", "Account.worth_of", defArgs s_Account_worth_of, defBody s_Account_worth_of, defScope s_Account_worth_of, [], []⟩
def d_Account_due_again : He.DefD := ⟨("Account", some "due_again"), "due_again", "Account.due_again", defArgs s_Account_due_again, defBody s_Account_due_again, defScope s_Account_due_again, [], []⟩
def d_Account_settled : He.DefD := ⟨("Account", some "settled"), "settled", "Account.settled", defArgs s_Account_settled, defBody s_Account_settled, defScope s_Account_settled, [], []⟩
def d_Till_init : He.DefD := ⟨("Till", some "__init__"), "__init__", "Till.__init__", defArgs s_Till_init, defBody s_Till_init, defScope s_Till_init, [.str "again"], []⟩
def d_Marks_init : He.DefD := ⟨("Marks", some "__init__"), "__init__", "Marks.__init__", defArgs s_Marks_init, defBody s_Marks_init, defScope s_Marks_init, [.non, .int 0, .non, .bl false, .bl false, .bl false], []⟩
def d_Voucher_init : He.DefD := ⟨("Voucher", some "__init__"), "__init__", "Voucher.__init__", defArgs s_Voucher_init, defBody s_Voucher_init, defScope s_Voucher_init, [.non], []⟩
def d_Off_init : He.DefD := ⟨("Off", some "__init__"), "__init__", "Off.__init__", defArgs s_Off_init, defBody s_Off_init, defScope s_Off_init, [.non], []⟩
def d_Off_wanted : He.DefD := ⟨("Off", some "wanted"), "wanted", "Off.wanted", defArgs s_Off_wanted, defBody s_Off_wanted, defScope s_Off_wanted, [], []⟩
def d_Share_init : He.DefD := ⟨("Share", some "__init__"), "__init__", "Share.__init__", defArgs s_Share_init, defBody s_Share_init, defScope s_Share_init, [.bl false, .non], []⟩
def d_Share_wanted : He.DefD := ⟨("Share", some "wanted"), "wanted", "Share.wanted", defArgs s_Share_wanted, defBody s_Share_wanted, defScope s_Share_wanted, [], []⟩
def d_groups_of : He.DefD := ⟨("groups_of", none), "groups_of", "groups_of", defArgs s_groups_of, defBody s_groups_of, defScope s_groups_of, [], []⟩
def d_Cheapest_init : He.DefD := ⟨("Cheapest", some "__init__"), "__init__", "Cheapest.__init__", defArgs s_Cheapest_init, defBody s_Cheapest_init, defScope s_Cheapest_init, [.non], []⟩
def d_Cheapest_wanted : He.DefD := ⟨("Cheapest", some "wanted"), "wanted", "Cheapest.wanted", defArgs s_Cheapest_wanted, defBody s_Cheapest_wanted, defScope s_Cheapest_wanted, [], []⟩
def d_Bundle_init : He.DefD := ⟨("Bundle", some "__init__"), "__init__", "Bundle.__init__", defArgs s_Bundle_init, defBody s_Bundle_init, defScope s_Bundle_init, [.non], []⟩
def d_Bundle_wanted : He.DefD := ⟨("Bundle", some "wanted"), "wanted", "Bundle.wanted", defArgs s_Bundle_wanted, defBody s_Bundle_wanted, defScope s_Bundle_wanted, [], []⟩
def d_Carriage_wanted_carriage : He.DefD := ⟨("Carriage", some "wanted_carriage"), "wanted_carriage", "Carriage.wanted_carriage", defArgs s_Carriage_wanted_carriage, defBody s_Carriage_wanted_carriage, defScope s_Carriage_wanted_carriage, [], []⟩
def d_law_cell_at : He.DefD := ⟨("_law_cell_at", none), "_law_cell_at", "_law_cell_at", defArgs s_law_cell_at, defBody s_law_cell_at, defScope s_law_cell_at, [], []⟩
def d_law_some : He.DefD := ⟨("_law_some", none), "_law_some", "_law_some", defArgs s_law_some, defBody s_law_some, defScope s_law_some, [], []⟩
def d_law_price : He.DefD := ⟨("_law_price", none), "_law_price", "_law_price", defArgs s_law_price, defBody s_law_price, defScope s_law_price, [], []⟩
def d_law_parents : He.DefD := ⟨("_law_parents", none), "_law_parents", "_law_parents", defArgs s_law_parents, defBody s_law_parents, defScope s_law_parents, [], []⟩
def d_law_basket : He.DefD := ⟨("_law_basket", none), "_law_basket", "_law_basket", defArgs s_law_basket, defBody s_law_basket, defScope s_law_basket, [], []⟩
def d_law_amount : He.DefD := ⟨("_law_amount", none), "_law_amount", "_law_amount", defArgs s_law_amount, defBody s_law_amount, defScope s_law_amount, [], []⟩
def d_law_marks : He.DefD := ⟨("_law_marks", none), "_law_marks", "_law_marks", defArgs s_law_marks, defBody s_law_marks, defScope s_law_marks, [], []⟩
def d_law_voucher : He.DefD := ⟨("_law_voucher", none), "_law_voucher", "_law_voucher", defArgs s_law_voucher, defBody s_law_voucher, defScope s_law_voucher, [], []⟩
def d_law_rules : He.DefD := ⟨("_law_rules", none), "_law_rules", "_law_rules", defArgs s_law_rules, defBody s_law_rules, defScope s_law_rules, [], []⟩
def d_law_worth : He.DefD := ⟨("_law_worth", none), "_law_worth", "_law_worth", defArgs s_law_worth, defBody s_law_worth, defScope s_law_worth, [], []⟩
def d_law_till : He.DefD := ⟨("_law_till", none), "_law_till", "_law_till", defArgs s_law_till, defBody s_law_till, defScope s_law_till, [], []⟩
def d_law_hand : He.DefD := ⟨("_law_hand", none), "_law_hand", "_law_hand", defArgs s_law_hand, defBody s_law_hand, defScope s_law_hand, [], []⟩
def d_law_going : He.DefD := ⟨("_law_going", none), "_law_going", "_law_going", defArgs s_law_going, defBody s_law_going, defScope s_law_going, [], []⟩
def d_law_order : He.DefD := ⟨("_law_order", none), "_law_order", "_law_order", defArgs s_law_order, defBody s_law_order, defScope s_law_order, [], []⟩
def d_law_take : He.DefD := ⟨("_law_take", none), "_law_take", "_law_take", defArgs s_law_take, defBody s_law_take, defScope s_law_take, [], []⟩
def d_law_drawn : He.DefD := ⟨("_law_drawn", none), "_law_drawn", "_law_drawn", defArgs s_law_drawn, defBody s_law_drawn, defScope s_law_drawn, [], []⟩
def d_law_told : He.DefD := ⟨("_law_told", none), "_law_told", "_law_told", defArgs s_law_told, defBody s_law_told, defScope s_law_told, [], []⟩
def d_law_refused : He.DefD := ⟨("_law_refused", none), "_law_refused", "_law_refused", defArgs s_law_refused, defBody s_law_refused, defScope s_law_refused, [], []⟩
def d_law_all_refused : He.DefD := ⟨("_law_all_refused", none), "_law_all_refused", "_law_all_refused", defArgs s_law_all_refused, defBody s_law_all_refused, defScope s_law_all_refused, [], []⟩
def d_law : He.DefD := ⟨("law", none), "law", "law", defArgs s_law, defBody s_law, defScope s_law, [], []⟩
def d_Carriage_wanted : He.DefD := ⟨("Carriage", some "wanted"), "wanted", "Voucher.wanted", defArgs s_Voucher_wanted, defBody s_Voucher_wanted, defScope s_Voucher_wanted, [], []⟩
def d_Off_wanted_carriage : He.DefD := ⟨("Off", some "wanted_carriage"), "wanted_carriage", "Voucher.wanted_carriage", defArgs s_Voucher_wanted_carriage, defBody s_Voucher_wanted_carriage, defScope s_Voucher_wanted_carriage, [], []⟩
def d_Share_wanted_carriage : He.DefD := ⟨("Share", some "wanted_carriage"), "wanted_carriage", "Voucher.wanted_carriage", defArgs s_Voucher_wanted_carriage, defBody s_Voucher_wanted_carriage, defScope s_Voucher_wanted_carriage, [], []⟩
def d_Cheapest_wanted_carriage : He.DefD := ⟨("Cheapest", some "wanted_carriage"), "wanted_carriage", "Voucher.wanted_carriage", defArgs s_Voucher_wanted_carriage, defBody s_Voucher_wanted_carriage, defScope s_Voucher_wanted_carriage, [], []⟩
def d_Bundle_wanted_carriage : He.DefD := ⟨("Bundle", some "wanted_carriage"), "wanted_carriage", "Voucher.wanted_carriage", defArgs s_Voucher_wanted_carriage, defBody s_Voucher_wanted_carriage, defScope s_Voucher_wanted_carriage, [], []⟩
def d_Carriage_init : He.DefD := ⟨("Carriage", some "__init__"), "__init__", "Voucher.__init__", defArgs s_Voucher_init, defBody s_Voucher_init, defScope s_Voucher_init, [.non], []⟩
def fn : List He.DefD := [d_dealt, d_under, d_Line_init, d_Basket_init, d_piece_price, d_Standing_init, d_Standing_whole, d_about, d_hindrance, d_cuts, d_after, d_never_beside, d_comes_late, d_word_of, d_lacking, d_fault, d_Bill_init, d_priced, d_what_stays, d_goes_on, d_gone_through, d_still_holding, d_Account_init, d_Account_take_back, d_Account_worth_of, d_Account_due_again, d_Account_settled, d_Till_init, d_Marks_init, d_Voucher_init, d_Off_init, d_Off_wanted, d_Share_init, d_Share_wanted, d_groups_of, d_Cheapest_init, d_Cheapest_wanted, d_Bundle_init, d_Bundle_wanted, d_Carriage_wanted_carriage, d_law_cell_at, d_law_some, d_law_price, d_law_parents, d_law_basket, d_law_amount, d_law_marks, d_law_voucher, d_law_rules, d_law_worth, d_law_till, d_law_hand, d_law_going, d_law_order, d_law_take, d_law_drawn, d_law_told, d_law_refused, d_law_all_refused, d_law, d_Carriage_wanted, d_Off_wanted_carriage, d_Share_wanted_carriage, d_Cheapest_wanted_carriage, d_Bundle_wanted_carriage, d_Carriage_init]
def fa0 : List He.Fa := [.glo "dealt", .glo "under", .glo "Line", .glo "Basket", .glo "piece_price", .glo "Standing", .glo "about", .glo "hindrance", .glo "cuts", .glo "after", .glo "TillError", .glo "NotLet", .glo "NoPieces", .glo "LineError", .glo "never_beside", .glo "comes_late", .glo "word_of", .glo "lacking", .glo "fault", .glo "Bill", .glo "priced", .glo "what_stays", .glo "goes_on", .glo "gone_through", .glo "still_holding", .glo "Account", .glo "Till", .glo "Marks", .glo "Voucher", .glo "Off"]
def fa1 : List He.Fa := [.glo "Share", .glo "groups_of", .glo "Cheapest", .glo "Bundle", .glo "Carriage", .glo "_law_cell_at", .glo "_law_some", .glo "_law_price", .glo "_law_parents", .glo "_law_basket", .glo "_law_amount", .glo "_law_marks", .glo "_law_voucher", .glo "_law_rules", .glo "_law_worth", .glo "_law_till", .glo "_law_hand", .glo "_law_going", .glo "_law_order", .glo "_law_take", .glo "_law_drawn", .glo "_law_told", .glo "_law_refused", .glo "_law_all_refused", .glo "law", .free "sum", .free "list", .free "enumerate", .free "range", .free "len"]
def fa2 : List He.Fa := [.free "zip", .free "min", .free "max", .free "set", .free "sorted", .free "int", .free "isinstance", .free "ValueError", .cls "Line", .cls "Basket", .cls "Standing", .cls "Bill", .cls "Account", .cls "Till", .cls "Marks", .cls "Off", .cls "Share", .cls "Cheapest", .cls "Bundle", .cls "Carriage", .mkr "Line", .mkr "Basket", .mkr "Standing", .mkr "Bill", .mkr "Account", .mkr "Till", .mkr "Marks", .mkr "Off", .mkr "Share", .mkr "Cheapest"]
def fa3 : List He.Fa := [.mkr "Bundle", .mkr "Carriage", .noat "Line" "kind", .noat "Line" "price", .noat "Line" "many", .noat "Line" "special", .noat "Basket" "lines", .noat "Basket" "carriage", .noat "Basket" "member", .noat "Standing" "owners", .noat "Standing" "prices", .noat "Standing" "carriage", .noat "Standing" "marked", .noat "Bill" "order", .noat "Bill" "steps", .noat "Bill" "prices", .noat "Bill" "carriage", .noat "Bill" "total", .noat "Account" "counter", .noat "Account" "bought", .noat "Account" "holding", .noat "Account" "shares", .noat "Account" "order", .noat "Account" "fallen", .noat "Account" "many", .noat "Account" "paid", .noat "Account" "owed", .noat "Till" "parents", .noat "Till" "vouchers", .noat "Till" "rules"]
def fa4 : List He.Fa := [.noat "Till" "back", .noat "Marks" "kind", .noat "Marks" "needs", .noat "Marks" "most", .noat "Marks" "member", .noat "Marks" "once", .noat "Marks" "lone", .noat "Off" "marks", .noat "Off" "amount", .noat "Share" "marks", .noat "Share" "share", .noat "Share" "by_line", .noat "Cheapest" "marks", .noat "Cheapest" "many", .noat "Bundle" "marks", .noat "Bundle" "many", .noat "Bundle" "price", .noat "Carriage" "marks", .meth "Standing" "whole", .meth "Account" "take_back", .meth "Account" "worth_of", .meth "Account" "due_again", .meth "Account" "settled", .meth "Off" "wanted", .meth "Off" "wanted_carriage", .meth "Share" "wanted", .meth "Share" "wanted_carriage", .meth "Cheapest" "wanted", .meth "Cheapest" "wanted_carriage", .meth "Bundle" "wanted"]
def fa5 : List He.Fa := [.meth "Bundle" "wanted_carriage", .meth "Carriage" "wanted", .meth "Carriage" "wanted_carriage", .exc "NoPieces", .exm "NoPieces" "TillError" true, .keep "TillError", .keep "NoPieces", .keep "NotLet", .keep "LineError"]
def fa : List He.Fa := fa0 ++ fa1 ++ fa2 ++ fa3 ++ fa4 ++ fa5
def names0 : List PySem.Str := ["_wall", "dealt", "under", "Line", "Basket", "piece_price", "Standing", "about", "hindrance", "cuts", "after", "TillError", "NotLet", "NoPieces", "LineError", "never_beside", "comes_late", "word_of", "lacking", "fault", "Bill", "priced", "what_stays", "goes_on", "gone_through", "still_holding", "Account", "Till", "Marks", "Voucher"]
def names1 : List PySem.Str := ["Off", "Share", "groups_of", "Cheapest", "Bundle", "Carriage", "_law_cell_at", "_law_some", "_law_price", "_law_parents", "_law_basket", "_law_amount", "_law_marks", "_law_voucher", "_law_rules", "_law_worth", "_law_till", "_law_hand", "_law_going", "_law_order", "_law_take", "_law_drawn", "_law_told", "_law_refused", "_law_all_refused"]
def names : List PySem.Str := names0 ++ names1
end VS
set_option Elab.async false
set_option linter.all false
set_option maxRecDepth 100000
set_option maxHeartbeats 0
namespace VS
open PySem PySem.Spec PyProof.Rows L2
/-! the head: what is looked at behind the top's run -/
abbrev RL : PySem.W.OpenLaw := PySem.Challenge.rw_voucherstack_k36_pieces_that_are_not_the
abbrev R : PySem.W.OpenRow := PySem.W.OpenLaw.row RL
def tf : List He.Defn := [("groups_of", none)]
/-- C.f, read off the class, is the function that C's instances find -/
def clsfnB (K : PySem.W.Frag) (C f : Str) : Bool :=
  PySem.W.readsIn K (He.ga K C) (.type "type") &&
    (He.eqO (PySem.W.specialIn K (.ref (He.ga K C)) "__getattribute__") (some (some (.builtin "type.__getattribute__"))) &&
      match PySem.W.findCls K (.ref (He.ga K C)) (.type "type") f with
      | some (.val (.ref a)) => decide (a = He.ma K (He.ga K C) f)
      | _ => false)
def kitB1 (K : PySem.W.Frag) (C : Str) (u : Value) (b : Bool) : Bool := decide (PySem.W.kitOne K (.ref (He.ga K C)) u = some b)
/-- what isinstance asks of an error's class -/
def excB (K : PySem.W.Frag) (x : Str) : Bool :=
  He.eqO (PySem.W.findIn K (.ref (He.ga K x)) "__getattribute__") (some (some (.builtin "BaseException.__getattribute__"))) && (He.eqO (PySem.W.findIn K (.ref (He.ga K x)) "__getattr__") (some none) && (PySem.W.hasDictIn K (He.ga K x) &&
    (He.eqO (PySem.W.findIn K (.ref (He.ga K x)) "__class__") (some (some (.builtin "object.__class__"))) && (He.eqO (PySem.W.specialIn K (.builtin "object.__class__") "__get__") (some (some (.builtin "getset_descriptor.__get__"))) &&
      (decide (PySem.W.takesIn K (.builtin "object.__class__") = some true) && decide (PySem.W.mroIn K (He.ga K x) (.type "object") = some true))))))
def exV (K : PySem.W.Frag) : Bool :=
  excB K "NoPieces" &&
  (clsfnB K "Voucher" "__init__" && (kitB1 K "NoPieces" (.ref (He.ga K "NoPieces")) true && (kitB1 K "NoPieces" (.type "ValueError") true &&
    (kitB1 K "NoPieces" (.ref (He.ga K "NotLet")) false && kitB1 K "NoPieces" (.ref (He.ga K "LineError")) false))))
abbrev KV (g : Addr → Option Obj) : PySem.W.Frag := He.frT g (PySem.cStatics :: He.asD g 5)
def obsV (g : Addr → Option Obj) : He.AlX := (He.obsT fa fn [] (KV g), exV (KV g) && He.tabsB g tf (KV g))
structure SaysV (w : World) (h : Heap) (K : PySem.W.Frag) : Prop where
  t : He.SaysT fa fn [] w K
  more : exV K = true
  hd : ∀ p ∈ tf, PySem.W.codeHdIn K (He.cT K p).1 (He.cT K p).2 = true
  out : ∀ p ∈ tf, K.lookup (He.cT K p).2 = none
  empty : ∀ p ∈ tf, h.get? (He.cT K p).2 = some { cls := .none, data := .fields #[] }
theorem saysV_of {w : World} {h : Heap} (e : obsV h.get? = He.valX fn [] w) : SaysV w h (KV h.get?) := by
  have e1 : He.obsT fa fn [] (KV h.get?) = He.valT fn [] w := congrArg Prod.fst e
  have e2 : (exV (KV h.get?) && He.tabsB h.get? tf (KV h.get?)) = true := congrArg Prod.snd e
  have h12 := Bool.and_eq_true_iff.mp e2
  have key : ∀ p ∈ tf, PySem.W.codeHdIn (KV h.get?) (He.cT (KV h.get?) p).1 (He.cT (KV h.get?) p).2 = true ∧ ∃ o, h.get? (He.cT (KV h.get?) p).2 = some o ∧ He.emptyTab o = true := by
    intro p hp
    have h34 := Bool.and_eq_true_iff.mp (List.all_eq_true.mp h12.2 p hp)
    refine ⟨h34.1, ?_⟩
    have h4 := h34.2
    cases q : h.get? (He.cT (KV h.get?) p).2 with
    | none => rw [q] at h4; cases h4
    | some o => rw [q] at h4; exact ⟨o, rfl, h4⟩
  refine ⟨e1, h12.1, fun p hp => (key p hp).1, fun p hp => ?_, fun p hp => ?_⟩
  · have ⟨_, o, q, z⟩ := key p hp
    exact He.frT_none q z
  · have ⟨_, o, q, z⟩ := key p hp
    rw [q, He.emptyTab_eq z]
def hkV : PySem.W.Hook where
  α := He.AlX
  obs := fun s => obsV s.heap.get?
  val := fun w => He.valX fn [] w
  says := fun w h => ∃ K : PySem.W.Frag, K.In h ∧ SaysV w h K
  of := fun _ _ e => ⟨_, He.frT_in, saysV_of e⟩
  keeps := fun _ _ _ ⟨K, hK, c⟩ k => ⟨K, PySem.W.Frag.In.keeps hK k, ⟨c.t, c.more, c.hd, c.out, fun p hp => k _ _ (c.empty p hp)⟩⟩
def obV (s : PySem.W.SharedT) : He.AlX := obsV (HandSHeadRun.getT s)
theorem obV_eq (s : PySem.W.SharedT) : obV s = hkV.obs s.abs := by
  have e : HandSHeadRun.getT s = s.abs.heap.get? := funext fun a => HandSHeadRun.getT_eq s a
  show obsV (HandSHeadRun.getT s) = obsV s.abs.heap.get?
  rw [e]
theorem run (w : World) : HandSHeadRun.RunEq R (PySem.W.view R.prog [66]) hkV obV 20000 names w := by
  intro os
  kernel_rfl
end VS
set_option Elab.async false
set_option linter.all false
set_option maxRecDepth 100000
set_option maxHeartbeats 1000000
namespace VS
open PySem PySem.Spec PyProof.Rows L2
/-! ### heaps that grow -/
/-- the name that the lambda's code objects bear -/
def lamQ : Str := "groups_of.<locals>.<lambda>"
/-- what is known stays, but for the objects at S and the tables; nothing known is forgotten; the table stays one -/
structure GrB (tb : Addr) (S : List Addr) (H H' : Hp) : Prop where
  keep : ∀ b o, H b = some o → b ∉ S → (∀ ps, o ≠ .tbl ps) → H' b = some o
  free : ∀ b, H' b = none → H b = none
  tab : LamX.TabS H tb lamQ → LamX.TabS H' tb lamQ
abbrev Gr (tb : Addr) : Hp → Hp → Prop := GrB tb []
section
variable {tb : Addr} {S : List Addr} {H H0 H1 H2 H' : Hp} {p x dx C : Addr} {o : HO} {xs ys : List V} {fs gs : List (Str × V)}
theorem GrB.refl (H : Hp) : GrB tb S H H := ⟨fun _ _ h _ _ => h, fun _ h => h, fun h => h⟩
theorem GrB.trans (a : GrB tb S H H1) (b : GrB tb S H1 H2) : GrB tb S H H2 :=
  ⟨fun c o h n t => b.keep c o (a.keep c o h n t) n t, fun c h => a.free c (b.free c h), fun t => b.tab (a.tab t)⟩
theorem GrB.mono {S' : List Addr} (a : GrB tb S H H1) (h : ∀ b ∈ S, b ∈ S') : GrB tb S' H H1 := ⟨fun c o e n t => a.keep c o e (fun z => n (h c z)) t, a.free, a.tab⟩
theorem Gr.of (a : Gr tb H H1) : GrB tb S H H1 := a.mono fun b h => absurd h (by simp)
theorem Gr.get (a : Gr tb H H1) {b : Addr} {o : HO} (h : H b = some o) (n : ∀ ps, o ≠ .tbl ps) : H1 b = some o := a.keep b o h (by simp) n
theorem Gr.lst (a : Gr tb H H1) {b : Addr} (h : H b = some (.lst xs)) : H1 b = some (.lst xs) := a.get h fun _ z => nomatch z
theorem Gr.tup (a : Gr tb H H1) {b : Addr} (h : H b = some (.tup xs)) : H1 b = some (.tup xs) := a.get h fun _ z => nomatch z
theorem Gr.ins (a : Gr tb H H1) {b : Addr} (h : H b = some (.ins C dx fs)) : H1 b = some (.ins C dx fs) := a.get h fun _ z => nomatch z
theorem Gr.seq {K : PySem.W.Frag} (a : Gr tb H H1) {b : Addr} (h : SqL K H b xs) : SqL K H1 b xs := by
  rcases h with (h | ⟨o, h⟩) | h
  · exact .inl (.inl (a.lst h))
  · exact .inl (.inr ⟨o, a.get h fun _ z => nomatch z⟩)
  · exact .inr h
theorem GrB.lst (a : GrB tb S H H1) {b : Addr} (h : H b = some (.lst xs)) (n : b ∉ S := by simp) : H1 b = some (.lst xs) := a.keep b _ h n fun _ z => nomatch z
theorem GrB.tup (a : GrB tb S H H1) {b : Addr} (h : H b = some (.tup xs)) (n : b ∉ S := by simp) : H1 b = some (.tup xs) := a.keep b _ h n fun _ z => nomatch z
theorem GrB.seq {K : PySem.W.Frag} (a : GrB tb [] H H1) {b : Addr} (h : SqL K H b xs) : SqL K H1 b xs := Gr.seq a h
theorem GrB.ins (a : GrB tb S H H1) {b : Addr} (h : H b = some (.ins C dx fs)) (n : b ∉ S := by simp) : H1 b = some (.ins C dx fs) := a.keep b _ h n fun _ z => nomatch z
/-- a new object -/
theorem Gr.new (h : H p = none) : Gr tb H (upd H p o) :=
  have e : ∀ b u, H b = some u → upd H p o b = some u := fun b u hb => by rw [upd_ne (ne_of_none hb h)]; exact hb
  ⟨fun b u hb _ _ => e b u hb, fun b hb => by
    by_cases q : b = p
    · rw [q]; exact h
    · rw [upd_ne q] at hb; exact hb, fun t => t.ext e⟩
/-- an object that is no table and no code object is changed -/
theorem GrB.put {u : HO} (h : H x = some u) (n1 : ∀ ps, u ≠ .tbl ps) (n2 : ∀ φ, u ≠ .ext φ) : GrB tb [x] H (upd H x o) := by
  refine ⟨fun b v hb hn _ => ?_, fun b hb => ?_, fun ⟨ps, h1, h2, h3⟩ => ⟨ps, ?_, h2, fun pos cv hc => ?_⟩⟩
  · rw [upd_ne (by simpa using hn)]; exact hb
  · by_cases q : b = x
    · rw [q, upd_same] at hb; cases hb
    · rw [upd_ne q] at hb; exact hb
  · rw [upd_ne (ne_of h1 h (fun z => n1 ps z.symm))]; exact h1
  · have ⟨c, e1, e2⟩ := h3 pos cv hc
    exact ⟨c, e1, by rw [upd_ne (ne_of e2 h (fun z => n2 _ z.symm))]; exact e2⟩
/-- what is changed is new to H0 -/
theorem GrB.back (a : GrB tb S H H') (g : Gr tb H0 H) (n : ∀ s ∈ S, H0 s = none) : Gr tb H0 H' :=
  ⟨fun b o h _ t => a.keep b o (g.get h t) (fun z => by rw [n b z] at h; cases h) t, fun b h => g.free b (a.free b h), fun t => a.tab (g.tab t)⟩
theorem Gr.putL (g : Gr tb H0 H) (n : H0 x = none) (h : H x = some (.lst xs)) : Gr tb H0 (upd H x (.lst ys)) :=
  (GrB.put h (fun _ z => nomatch z) (fun _ z => nomatch z)).back g fun s hs => by rw [List.mem_singleton.mp hs]; exact n
theorem Gr.putI (g : Gr tb H0 H) (n : H0 x = none) (h : H x = some (.ins C dx fs)) : Gr tb H0 (upd H x (.ins C dx gs)) :=
  (GrB.put h (fun _ z => nomatch z) (fun _ z => nomatch z)).back g fun s hs => by rw [List.mem_singleton.mp hs]; exact n
theorem Gr.add (g : Gr tb H0 H) (h : H p = none) : Gr tb H0 (upd H p o) := g.trans (Gr.new h)
/-- a new instance, filled by its __init__ -/
theorem Gr.made (nx : H x = none) (nd : H dx = none) (ne : dx ≠ x) (k : GrB tb [x] (upd (upd H dx (.own x)) x (.ins C dx [])) H') : Gr tb H H' :=
  k.back ((Gr.new nd).trans (Gr.new (by rw [upd_ne (Ne.symm ne)]; exact nx))) fun s hs => by rw [List.mem_singleton.mp hs]; exact nx
theorem GrB.single (a : GrB tb [x] H H1) (b : Gr tb H1 H2) : GrB tb [x] H H2 := a.trans b.of
end
/-- a new list of xs is handed back, all else stays -/
def NewL (tb : Addr) (H : Hp) (xs : List V) (Q : VK) : Prop := ∀ (p : Addr) (H' : Hp), Gr tb H H' → H p = none → H' p = some (.lst xs) → Q (.ref p) H'
def ivs (xs : List Int) : List V := xs.map V.int
theorem ivs_get {xs : List Int} {i : Nat} {x : Int} (h : xs[i]? = some x) : (ivs xs)[i]? = some (.int x) := by
  show (xs.map V.int)[i]? = _
  rw [List.getElem?_map, h]; rfl
theorem ivs_of {xs : List Int} {i : Nat} {y : V} (h : (ivs xs)[i]? = some y) : ∃ x, xs[i]? = some x ∧ y = .int x := by
  have h : (xs.map V.int)[i]? = some y := h
  rw [List.getElem?_map] at h
  cases e : xs[i]? with
  | none => rw [e] at h; cases h
  | some x => rw [e] at h; exact ⟨x, rfl, (Option.some.inj h).symm⟩
theorem ivs_len (xs : List Int) : (ivs xs).length = xs.length := List.length_map ..
theorem ivs_app (xs ys : List Int) : ivs (xs ++ ys) = ivs xs ++ ivs ys := List.map_append ..
theorem take_snoc {α : Type} {l : List α} {i : Nat} {x : α} (h : l[i]? = some x) : l.take (i + 1) = l.take i ++ [x] := by
  rw [List.take_add_one, h]; rfl
theorem foldl_snoc {α β : Type} {f : β → α → β} {s : β} {l : List α} {i : Nat} {x : α} (h : l[i]? = some x) : (l.take (i + 1)).foldl f s = f ((l.take i).foldl f s) x := by
  rw [take_snoc h, List.foldl_append]; rfl
theorem paired_get {α β : Type} {F : α → β → Prop} : ∀ {l : List α} {m : List β} {i : Nat} {x : α}, Paired F l m → l[i]? = some x → ∃ y, m[i]? = some y ∧ F x y
  | _, _, _, _, .nil, h => by simp at h
  | _, _, 0, _, .cons r _, h => ⟨_, rfl, by have e := Option.some.inj h; rw [← e]; exact r⟩
  | _, _, i + 1, _, .cons _ t, h => paired_get (i := i) t h
theorem paired_get' {α β : Type} {F : α → β → Prop} : ∀ {l : List α} {m : List β} {i : Nat} {y : β}, Paired F l m → m[i]? = some y → ∃ x, l[i]? = some x ∧ F x y
  | _, _, _, _, .nil, h => by simp at h
  | _, _, 0, _, .cons r _, h => ⟨_, rfl, by have e := Option.some.inj h; rw [← e]; exact r⟩
  | _, _, i + 1, _, .cons _ t, h => paired_get' (i := i) t h
end VS
set_option Elab.async false
set_option linter.all false
set_option maxRecDepth 100000
set_option maxHeartbeats 1000000
namespace VS
open PySem PySem.Spec PyProof.Rows L2
/-! ### the head's facts by names -/
structure TX (K : PySem.W.Frag) (mg : Str → Option Value) : Prop where
  d : He.SaysD fa fn K
  ex : exV K = true
  kh : ∃ h : Heap, K.In h ∧ h.Ns mainGlobals mg
section
variable {K : PySem.W.Frag} {mg : Str → Option Value}
theorem TX.glo (T : TX K mg) (i : Nat) {x : Str} (h : fa[i]? = some (.glo x) := by rfl) : mg x = some (.ref (He.ga K x)) :=
  T.kh.elim fun _ k => He.glo_ok k.1 k.2 (T.d.fact i h)
theorem TX.free (T : TX K mg) (i : Nat) {x : Str} (h : fa[i]? = some (.free x) := by rfl) : mg x = none :=
  T.kh.elim fun _ k => He.free_ok k.1 k.2 (T.d.fact i h)
theorem TX.g_dealt (T : TX K mg) : mg "dealt" = some (.ref (He.ga K "dealt")) := T.glo 0
theorem TX.g_under (T : TX K mg) : mg "under" = some (.ref (He.ga K "under")) := T.glo 1
theorem TX.g_Line (T : TX K mg) : mg "Line" = some (.ref (He.ga K "Line")) := T.glo 2
theorem TX.g_Basket (T : TX K mg) : mg "Basket" = some (.ref (He.ga K "Basket")) := T.glo 3
theorem TX.g_piece_price (T : TX K mg) : mg "piece_price" = some (.ref (He.ga K "piece_price")) := T.glo 4
theorem TX.g_Standing (T : TX K mg) : mg "Standing" = some (.ref (He.ga K "Standing")) := T.glo 5
theorem TX.g_about (T : TX K mg) : mg "about" = some (.ref (He.ga K "about")) := T.glo 6
theorem TX.g_hindrance (T : TX K mg) : mg "hindrance" = some (.ref (He.ga K "hindrance")) := T.glo 7
theorem TX.g_cuts (T : TX K mg) : mg "cuts" = some (.ref (He.ga K "cuts")) := T.glo 8
theorem TX.g_after (T : TX K mg) : mg "after" = some (.ref (He.ga K "after")) := T.glo 9
theorem TX.g_TillError (T : TX K mg) : mg "TillError" = some (.ref (He.ga K "TillError")) := T.glo 10
theorem TX.g_NotLet (T : TX K mg) : mg "NotLet" = some (.ref (He.ga K "NotLet")) := T.glo 11
theorem TX.g_NoPieces (T : TX K mg) : mg "NoPieces" = some (.ref (He.ga K "NoPieces")) := T.glo 12
theorem TX.g_LineError (T : TX K mg) : mg "LineError" = some (.ref (He.ga K "LineError")) := T.glo 13
theorem TX.g_never_beside (T : TX K mg) : mg "never_beside" = some (.ref (He.ga K "never_beside")) := T.glo 14
theorem TX.g_comes_late (T : TX K mg) : mg "comes_late" = some (.ref (He.ga K "comes_late")) := T.glo 15
theorem TX.g_word_of (T : TX K mg) : mg "word_of" = some (.ref (He.ga K "word_of")) := T.glo 16
theorem TX.g_lacking (T : TX K mg) : mg "lacking" = some (.ref (He.ga K "lacking")) := T.glo 17
theorem TX.g_fault (T : TX K mg) : mg "fault" = some (.ref (He.ga K "fault")) := T.glo 18
theorem TX.g_Bill (T : TX K mg) : mg "Bill" = some (.ref (He.ga K "Bill")) := T.glo 19
theorem TX.g_priced (T : TX K mg) : mg "priced" = some (.ref (He.ga K "priced")) := T.glo 20
theorem TX.g_what_stays (T : TX K mg) : mg "what_stays" = some (.ref (He.ga K "what_stays")) := T.glo 21
theorem TX.g_goes_on (T : TX K mg) : mg "goes_on" = some (.ref (He.ga K "goes_on")) := T.glo 22
theorem TX.g_gone_through (T : TX K mg) : mg "gone_through" = some (.ref (He.ga K "gone_through")) := T.glo 23
theorem TX.g_still_holding (T : TX K mg) : mg "still_holding" = some (.ref (He.ga K "still_holding")) := T.glo 24
theorem TX.g_Account (T : TX K mg) : mg "Account" = some (.ref (He.ga K "Account")) := T.glo 25
theorem TX.g_Till (T : TX K mg) : mg "Till" = some (.ref (He.ga K "Till")) := T.glo 26
theorem TX.g_Marks (T : TX K mg) : mg "Marks" = some (.ref (He.ga K "Marks")) := T.glo 27
theorem TX.g_Voucher (T : TX K mg) : mg "Voucher" = some (.ref (He.ga K "Voucher")) := T.glo 28
theorem TX.g_Off (T : TX K mg) : mg "Off" = some (.ref (He.ga K "Off")) := T.glo 29
theorem TX.g_Share (T : TX K mg) : mg "Share" = some (.ref (He.ga K "Share")) := T.glo 30
theorem TX.g_groups_of (T : TX K mg) : mg "groups_of" = some (.ref (He.ga K "groups_of")) := T.glo 31
theorem TX.g_Cheapest (T : TX K mg) : mg "Cheapest" = some (.ref (He.ga K "Cheapest")) := T.glo 32
theorem TX.g_Bundle (T : TX K mg) : mg "Bundle" = some (.ref (He.ga K "Bundle")) := T.glo 33
theorem TX.g_Carriage (T : TX K mg) : mg "Carriage" = some (.ref (He.ga K "Carriage")) := T.glo 34
theorem TX.g_law_cell_at (T : TX K mg) : mg "_law_cell_at" = some (.ref (He.ga K "_law_cell_at")) := T.glo 35
theorem TX.g_law_some (T : TX K mg) : mg "_law_some" = some (.ref (He.ga K "_law_some")) := T.glo 36
theorem TX.g_law_price (T : TX K mg) : mg "_law_price" = some (.ref (He.ga K "_law_price")) := T.glo 37
theorem TX.g_law_parents (T : TX K mg) : mg "_law_parents" = some (.ref (He.ga K "_law_parents")) := T.glo 38
theorem TX.g_law_basket (T : TX K mg) : mg "_law_basket" = some (.ref (He.ga K "_law_basket")) := T.glo 39
theorem TX.g_law_amount (T : TX K mg) : mg "_law_amount" = some (.ref (He.ga K "_law_amount")) := T.glo 40
theorem TX.g_law_marks (T : TX K mg) : mg "_law_marks" = some (.ref (He.ga K "_law_marks")) := T.glo 41
theorem TX.g_law_voucher (T : TX K mg) : mg "_law_voucher" = some (.ref (He.ga K "_law_voucher")) := T.glo 42
theorem TX.g_law_rules (T : TX K mg) : mg "_law_rules" = some (.ref (He.ga K "_law_rules")) := T.glo 43
theorem TX.g_law_worth (T : TX K mg) : mg "_law_worth" = some (.ref (He.ga K "_law_worth")) := T.glo 44
theorem TX.g_law_till (T : TX K mg) : mg "_law_till" = some (.ref (He.ga K "_law_till")) := T.glo 45
theorem TX.g_law_hand (T : TX K mg) : mg "_law_hand" = some (.ref (He.ga K "_law_hand")) := T.glo 46
theorem TX.g_law_going (T : TX K mg) : mg "_law_going" = some (.ref (He.ga K "_law_going")) := T.glo 47
theorem TX.g_law_order (T : TX K mg) : mg "_law_order" = some (.ref (He.ga K "_law_order")) := T.glo 48
theorem TX.g_law_take (T : TX K mg) : mg "_law_take" = some (.ref (He.ga K "_law_take")) := T.glo 49
theorem TX.g_law_drawn (T : TX K mg) : mg "_law_drawn" = some (.ref (He.ga K "_law_drawn")) := T.glo 50
theorem TX.g_law_told (T : TX K mg) : mg "_law_told" = some (.ref (He.ga K "_law_told")) := T.glo 51
theorem TX.g_law_refused (T : TX K mg) : mg "_law_refused" = some (.ref (He.ga K "_law_refused")) := T.glo 52
theorem TX.g_law_all_refused (T : TX K mg) : mg "_law_all_refused" = some (.ref (He.ga K "_law_all_refused")) := T.glo 53
theorem TX.g_law (T : TX K mg) : mg "law" = some (.ref (He.ga K "law")) := T.glo 54
theorem TX.f_sum (T : TX K mg) : mg "sum" = none := T.free 55
theorem TX.f_list (T : TX K mg) : mg "list" = none := T.free 56
theorem TX.f_enumerate (T : TX K mg) : mg "enumerate" = none := T.free 57
theorem TX.f_range (T : TX K mg) : mg "range" = none := T.free 58
theorem TX.f_len (T : TX K mg) : mg "len" = none := T.free 59
theorem TX.f_zip (T : TX K mg) : mg "zip" = none := T.free 60
theorem TX.f_min (T : TX K mg) : mg "min" = none := T.free 61
theorem TX.f_max (T : TX K mg) : mg "max" = none := T.free 62
theorem TX.f_set (T : TX K mg) : mg "set" = none := T.free 63
theorem TX.f_sorted (T : TX K mg) : mg "sorted" = none := T.free 64
theorem TX.f_int (T : TX K mg) : mg "int" = none := T.free 65
theorem TX.f_isinstance (T : TX K mg) : mg "isinstance" = none := T.free 66
theorem TX.f_ValueError (T : TX K mg) : mg "ValueError" = none := T.free 67
abbrev CLine (K : PySem.W.Frag) : Addr := He.ga K "Line"
theorem TX.c_Line (T : TX K mg) : Cls K (CLine K) := He.cls_ok (T.d.fact 68 (by rfl))
theorem TX.k_Line (T : TX K mg) : Mk K (CLine K) (He.ma K (CLine K) "__init__") := He.mkr_ok (T.d.fact 80 (by rfl))
theorem TX.n_Line_kind (T : TX K mg) : NoAttr K (CLine K) "kind" := He.noat_ok (T.d.fact 92 (by rfl))
theorem TX.n_Line_price (T : TX K mg) : NoAttr K (CLine K) "price" := He.noat_ok (T.d.fact 93 (by rfl))
theorem TX.n_Line_many (T : TX K mg) : NoAttr K (CLine K) "many" := He.noat_ok (T.d.fact 94 (by rfl))
theorem TX.n_Line_special (T : TX K mg) : NoAttr K (CLine K) "special" := He.noat_ok (T.d.fact 95 (by rfl))
abbrev CBasket (K : PySem.W.Frag) : Addr := He.ga K "Basket"
theorem TX.c_Basket (T : TX K mg) : Cls K (CBasket K) := He.cls_ok (T.d.fact 69 (by rfl))
theorem TX.k_Basket (T : TX K mg) : Mk K (CBasket K) (He.ma K (CBasket K) "__init__") := He.mkr_ok (T.d.fact 81 (by rfl))
theorem TX.n_Basket_lines (T : TX K mg) : NoAttr K (CBasket K) "lines" := He.noat_ok (T.d.fact 96 (by rfl))
theorem TX.n_Basket_carriage (T : TX K mg) : NoAttr K (CBasket K) "carriage" := He.noat_ok (T.d.fact 97 (by rfl))
theorem TX.n_Basket_member (T : TX K mg) : NoAttr K (CBasket K) "member" := He.noat_ok (T.d.fact 98 (by rfl))
abbrev CStanding (K : PySem.W.Frag) : Addr := He.ga K "Standing"
theorem TX.c_Standing (T : TX K mg) : Cls K (CStanding K) := He.cls_ok (T.d.fact 70 (by rfl))
theorem TX.k_Standing (T : TX K mg) : Mk K (CStanding K) (He.ma K (CStanding K) "__init__") := He.mkr_ok (T.d.fact 82 (by rfl))
theorem TX.n_Standing_owners (T : TX K mg) : NoAttr K (CStanding K) "owners" := He.noat_ok (T.d.fact 99 (by rfl))
theorem TX.n_Standing_prices (T : TX K mg) : NoAttr K (CStanding K) "prices" := He.noat_ok (T.d.fact 100 (by rfl))
theorem TX.n_Standing_carriage (T : TX K mg) : NoAttr K (CStanding K) "carriage" := He.noat_ok (T.d.fact 101 (by rfl))
theorem TX.n_Standing_marked (T : TX K mg) : NoAttr K (CStanding K) "marked" := He.noat_ok (T.d.fact 102 (by rfl))
abbrev CBill (K : PySem.W.Frag) : Addr := He.ga K "Bill"
theorem TX.c_Bill (T : TX K mg) : Cls K (CBill K) := He.cls_ok (T.d.fact 71 (by rfl))
theorem TX.k_Bill (T : TX K mg) : Mk K (CBill K) (He.ma K (CBill K) "__init__") := He.mkr_ok (T.d.fact 83 (by rfl))
theorem TX.n_Bill_order (T : TX K mg) : NoAttr K (CBill K) "order" := He.noat_ok (T.d.fact 103 (by rfl))
theorem TX.n_Bill_steps (T : TX K mg) : NoAttr K (CBill K) "steps" := He.noat_ok (T.d.fact 104 (by rfl))
theorem TX.n_Bill_prices (T : TX K mg) : NoAttr K (CBill K) "prices" := He.noat_ok (T.d.fact 105 (by rfl))
theorem TX.n_Bill_carriage (T : TX K mg) : NoAttr K (CBill K) "carriage" := He.noat_ok (T.d.fact 106 (by rfl))
theorem TX.n_Bill_total (T : TX K mg) : NoAttr K (CBill K) "total" := He.noat_ok (T.d.fact 107 (by rfl))
abbrev CAccount (K : PySem.W.Frag) : Addr := He.ga K "Account"
theorem TX.c_Account (T : TX K mg) : Cls K (CAccount K) := He.cls_ok (T.d.fact 72 (by rfl))
theorem TX.k_Account (T : TX K mg) : Mk K (CAccount K) (He.ma K (CAccount K) "__init__") := He.mkr_ok (T.d.fact 84 (by rfl))
theorem TX.n_Account_counter (T : TX K mg) : NoAttr K (CAccount K) "counter" := He.noat_ok (T.d.fact 108 (by rfl))
theorem TX.n_Account_bought (T : TX K mg) : NoAttr K (CAccount K) "bought" := He.noat_ok (T.d.fact 109 (by rfl))
theorem TX.n_Account_holding (T : TX K mg) : NoAttr K (CAccount K) "holding" := He.noat_ok (T.d.fact 110 (by rfl))
theorem TX.n_Account_shares (T : TX K mg) : NoAttr K (CAccount K) "shares" := He.noat_ok (T.d.fact 111 (by rfl))
theorem TX.n_Account_order (T : TX K mg) : NoAttr K (CAccount K) "order" := He.noat_ok (T.d.fact 112 (by rfl))
theorem TX.n_Account_fallen (T : TX K mg) : NoAttr K (CAccount K) "fallen" := He.noat_ok (T.d.fact 113 (by rfl))
theorem TX.n_Account_many (T : TX K mg) : NoAttr K (CAccount K) "many" := He.noat_ok (T.d.fact 114 (by rfl))
theorem TX.n_Account_paid (T : TX K mg) : NoAttr K (CAccount K) "paid" := He.noat_ok (T.d.fact 115 (by rfl))
theorem TX.n_Account_owed (T : TX K mg) : NoAttr K (CAccount K) "owed" := He.noat_ok (T.d.fact 116 (by rfl))
abbrev CTill (K : PySem.W.Frag) : Addr := He.ga K "Till"
theorem TX.c_Till (T : TX K mg) : Cls K (CTill K) := He.cls_ok (T.d.fact 73 (by rfl))
theorem TX.k_Till (T : TX K mg) : Mk K (CTill K) (He.ma K (CTill K) "__init__") := He.mkr_ok (T.d.fact 85 (by rfl))
theorem TX.n_Till_parents (T : TX K mg) : NoAttr K (CTill K) "parents" := He.noat_ok (T.d.fact 117 (by rfl))
theorem TX.n_Till_vouchers (T : TX K mg) : NoAttr K (CTill K) "vouchers" := He.noat_ok (T.d.fact 118 (by rfl))
theorem TX.n_Till_rules (T : TX K mg) : NoAttr K (CTill K) "rules" := He.noat_ok (T.d.fact 119 (by rfl))
theorem TX.n_Till_back (T : TX K mg) : NoAttr K (CTill K) "back" := He.noat_ok (T.d.fact 120 (by rfl))
abbrev CMarks (K : PySem.W.Frag) : Addr := He.ga K "Marks"
theorem TX.c_Marks (T : TX K mg) : Cls K (CMarks K) := He.cls_ok (T.d.fact 74 (by rfl))
theorem TX.k_Marks (T : TX K mg) : Mk K (CMarks K) (He.ma K (CMarks K) "__init__") := He.mkr_ok (T.d.fact 86 (by rfl))
theorem TX.n_Marks_kind (T : TX K mg) : NoAttr K (CMarks K) "kind" := He.noat_ok (T.d.fact 121 (by rfl))
theorem TX.n_Marks_needs (T : TX K mg) : NoAttr K (CMarks K) "needs" := He.noat_ok (T.d.fact 122 (by rfl))
theorem TX.n_Marks_most (T : TX K mg) : NoAttr K (CMarks K) "most" := He.noat_ok (T.d.fact 123 (by rfl))
theorem TX.n_Marks_member (T : TX K mg) : NoAttr K (CMarks K) "member" := He.noat_ok (T.d.fact 124 (by rfl))
theorem TX.n_Marks_once (T : TX K mg) : NoAttr K (CMarks K) "once" := He.noat_ok (T.d.fact 125 (by rfl))
theorem TX.n_Marks_lone (T : TX K mg) : NoAttr K (CMarks K) "lone" := He.noat_ok (T.d.fact 126 (by rfl))
abbrev COff (K : PySem.W.Frag) : Addr := He.ga K "Off"
theorem TX.c_Off (T : TX K mg) : Cls K (COff K) := He.cls_ok (T.d.fact 75 (by rfl))
theorem TX.k_Off (T : TX K mg) : Mk K (COff K) (He.ma K (COff K) "__init__") := He.mkr_ok (T.d.fact 87 (by rfl))
theorem TX.n_Off_marks (T : TX K mg) : NoAttr K (COff K) "marks" := He.noat_ok (T.d.fact 127 (by rfl))
theorem TX.n_Off_amount (T : TX K mg) : NoAttr K (COff K) "amount" := He.noat_ok (T.d.fact 128 (by rfl))
abbrev CShare (K : PySem.W.Frag) : Addr := He.ga K "Share"
theorem TX.c_Share (T : TX K mg) : Cls K (CShare K) := He.cls_ok (T.d.fact 76 (by rfl))
theorem TX.k_Share (T : TX K mg) : Mk K (CShare K) (He.ma K (CShare K) "__init__") := He.mkr_ok (T.d.fact 88 (by rfl))
theorem TX.n_Share_marks (T : TX K mg) : NoAttr K (CShare K) "marks" := He.noat_ok (T.d.fact 129 (by rfl))
theorem TX.n_Share_share (T : TX K mg) : NoAttr K (CShare K) "share" := He.noat_ok (T.d.fact 130 (by rfl))
theorem TX.n_Share_by_line (T : TX K mg) : NoAttr K (CShare K) "by_line" := He.noat_ok (T.d.fact 131 (by rfl))
abbrev CCheapest (K : PySem.W.Frag) : Addr := He.ga K "Cheapest"
theorem TX.c_Cheapest (T : TX K mg) : Cls K (CCheapest K) := He.cls_ok (T.d.fact 77 (by rfl))
theorem TX.k_Cheapest (T : TX K mg) : Mk K (CCheapest K) (He.ma K (CCheapest K) "__init__") := He.mkr_ok (T.d.fact 89 (by rfl))
theorem TX.n_Cheapest_marks (T : TX K mg) : NoAttr K (CCheapest K) "marks" := He.noat_ok (T.d.fact 132 (by rfl))
theorem TX.n_Cheapest_many (T : TX K mg) : NoAttr K (CCheapest K) "many" := He.noat_ok (T.d.fact 133 (by rfl))
abbrev CBundle (K : PySem.W.Frag) : Addr := He.ga K "Bundle"
theorem TX.c_Bundle (T : TX K mg) : Cls K (CBundle K) := He.cls_ok (T.d.fact 78 (by rfl))
theorem TX.k_Bundle (T : TX K mg) : Mk K (CBundle K) (He.ma K (CBundle K) "__init__") := He.mkr_ok (T.d.fact 90 (by rfl))
theorem TX.n_Bundle_marks (T : TX K mg) : NoAttr K (CBundle K) "marks" := He.noat_ok (T.d.fact 134 (by rfl))
theorem TX.n_Bundle_many (T : TX K mg) : NoAttr K (CBundle K) "many" := He.noat_ok (T.d.fact 135 (by rfl))
theorem TX.n_Bundle_price (T : TX K mg) : NoAttr K (CBundle K) "price" := He.noat_ok (T.d.fact 136 (by rfl))
abbrev CCarriage (K : PySem.W.Frag) : Addr := He.ga K "Carriage"
theorem TX.c_Carriage (T : TX K mg) : Cls K (CCarriage K) := He.cls_ok (T.d.fact 79 (by rfl))
theorem TX.k_Carriage (T : TX K mg) : Mk K (CCarriage K) (He.ma K (CCarriage K) "__init__") := He.mkr_ok (T.d.fact 91 (by rfl))
theorem TX.n_Carriage_marks (T : TX K mg) : NoAttr K (CCarriage K) "marks" := He.noat_ok (T.d.fact 137 (by rfl))
theorem TX.m_Standing_whole (T : TX K mg) : Meth K (CStanding K) "whole" (He.ma K (CStanding K) "whole") := He.meth_ok (T.d.fact 138 (by rfl))
theorem TX.m_Account_take_back (T : TX K mg) : Meth K (CAccount K) "take_back" (He.ma K (CAccount K) "take_back") := He.meth_ok (T.d.fact 139 (by rfl))
theorem TX.m_Account_worth_of (T : TX K mg) : Meth K (CAccount K) "worth_of" (He.ma K (CAccount K) "worth_of") := He.meth_ok (T.d.fact 140 (by rfl))
theorem TX.m_Account_due_again (T : TX K mg) : Meth K (CAccount K) "due_again" (He.ma K (CAccount K) "due_again") := He.meth_ok (T.d.fact 141 (by rfl))
theorem TX.m_Account_settled (T : TX K mg) : Meth K (CAccount K) "settled" (He.ma K (CAccount K) "settled") := He.meth_ok (T.d.fact 142 (by rfl))
theorem TX.m_Off_wanted (T : TX K mg) : Meth K (COff K) "wanted" (He.ma K (COff K) "wanted") := He.meth_ok (T.d.fact 143 (by rfl))
theorem TX.m_Off_wanted_carriage (T : TX K mg) : Meth K (COff K) "wanted_carriage" (He.ma K (COff K) "wanted_carriage") := He.meth_ok (T.d.fact 144 (by rfl))
theorem TX.m_Share_wanted (T : TX K mg) : Meth K (CShare K) "wanted" (He.ma K (CShare K) "wanted") := He.meth_ok (T.d.fact 145 (by rfl))
theorem TX.m_Share_wanted_carriage (T : TX K mg) : Meth K (CShare K) "wanted_carriage" (He.ma K (CShare K) "wanted_carriage") := He.meth_ok (T.d.fact 146 (by rfl))
theorem TX.m_Cheapest_wanted (T : TX K mg) : Meth K (CCheapest K) "wanted" (He.ma K (CCheapest K) "wanted") := He.meth_ok (T.d.fact 147 (by rfl))
theorem TX.m_Cheapest_wanted_carriage (T : TX K mg) : Meth K (CCheapest K) "wanted_carriage" (He.ma K (CCheapest K) "wanted_carriage") := He.meth_ok (T.d.fact 148 (by rfl))
theorem TX.m_Bundle_wanted (T : TX K mg) : Meth K (CBundle K) "wanted" (He.ma K (CBundle K) "wanted") := He.meth_ok (T.d.fact 149 (by rfl))
theorem TX.m_Bundle_wanted_carriage (T : TX K mg) : Meth K (CBundle K) "wanted_carriage" (He.ma K (CBundle K) "wanted_carriage") := He.meth_ok (T.d.fact 150 (by rfl))
theorem TX.m_Carriage_wanted (T : TX K mg) : Meth K (CCarriage K) "wanted" (He.ma K (CCarriage K) "wanted") := He.meth_ok (T.d.fact 151 (by rfl))
theorem TX.m_Carriage_wanted_carriage (T : TX K mg) : Meth K (CCarriage K) "wanted_carriage" (He.ma K (CCarriage K) "wanted_carriage") := He.meth_ok (T.d.fact 152 (by rfl))
theorem TX.df_dealt (T : TX K mg) : ∃ fd, FunD K "dealt" "dealt" (defArgs s_dealt) (defBody s_dealt) (defScope s_dealt) [] [] (He.ga K "dealt") fd := T.d.def_ 0 (d := d_dealt) (by rfl)
theorem TX.df_under (T : TX K mg) : ∃ fd, FunD K "under" "under" (defArgs s_under) (defBody s_under) (defScope s_under) [] [] (He.ga K "under") fd := T.d.def_ 1 (d := d_under) (by rfl)
theorem TX.df_Line_init (T : TX K mg) : ∃ fd, FunD K "__init__" "Line.__init__" (defArgs s_Line_init) (defBody s_Line_init) (defScope s_Line_init) [V.non] [] (He.ma K (He.ga K "Line") "__init__") fd := T.d.def_ 2 (d := d_Line_init) (by rfl)
theorem TX.df_Basket_init (T : TX K mg) : ∃ fd, FunD K "__init__" "Basket.__init__" (defArgs s_Basket_init) (defBody s_Basket_init) (defScope s_Basket_init) [V.int 0, V.bl false] [] (He.ma K (He.ga K "Basket") "__init__") fd := T.d.def_ 3 (d := d_Basket_init) (by rfl)
theorem TX.df_piece_price (T : TX K mg) : ∃ fd, FunD K "piece_price" "piece_price" (defArgs s_piece_price) (defBody s_piece_price) (defScope s_piece_price) [] [] (He.ga K "piece_price") fd := T.d.def_ 4 (d := d_piece_price) (by rfl)
theorem TX.df_Standing_init (T : TX K mg) : ∃ fd, FunD K "__init__" "Standing.__init__" (defArgs s_Standing_init) (defBody s_Standing_init) (defScope s_Standing_init) [] [] (He.ma K (He.ga K "Standing") "__init__") fd := T.d.def_ 5 (d := d_Standing_init) (by rfl)
theorem TX.df_Standing_whole (T : TX K mg) : ∃ fd, FunD K "whole" "Standing.whole" (defArgs s_Standing_whole) (defBody s_Standing_whole) (defScope s_Standing_whole) [] [] (He.ma K (He.ga K "Standing") "whole") fd := T.d.def_ 6 (d := d_Standing_whole) (by rfl)
theorem TX.df_about (T : TX K mg) : ∃ fd, FunD K "about" "about" (defArgs s_about) (defBody s_about) (defScope s_about) [] [] (He.ga K "about") fd := T.d.def_ 7 (d := d_about) (by rfl)
theorem TX.df_hindrance (T : TX K mg) : ∃ fd, FunD K "hindrance" "hindrance" (defArgs s_hindrance) (defBody s_hindrance) (defScope s_hindrance) [] [] (He.ga K "hindrance") fd := T.d.def_ 8 (d := d_hindrance) (by rfl)
theorem TX.df_cuts (T : TX K mg) : ∃ fd, FunD K "cuts" "cuts" (defArgs s_cuts) (defBody s_cuts) (defScope s_cuts) [] [] (He.ga K "cuts") fd := T.d.def_ 9 (d := d_cuts) (by rfl)
theorem TX.df_after (T : TX K mg) : ∃ fd, FunD K "after" "after" (defArgs s_after) (defBody s_after) (defScope s_after) [] [] (He.ga K "after") fd := T.d.def_ 10 (d := d_after) (by rfl)
theorem TX.df_never_beside (T : TX K mg) : ∃ fd, FunD K "never_beside" "never_beside" (defArgs s_never_beside) (defBody s_never_beside) (defScope s_never_beside) [] [] (He.ga K "never_beside") fd := T.d.def_ 11 (d := d_never_beside) (by rfl)
theorem TX.df_comes_late (T : TX K mg) : ∃ fd, FunD K "comes_late" "comes_late" (defArgs s_comes_late) (defBody s_comes_late) (defScope s_comes_late) [] [] (He.ga K "comes_late") fd := T.d.def_ 12 (d := d_comes_late) (by rfl)
theorem TX.df_word_of (T : TX K mg) : ∃ fd, FunD K "word_of" "word_of" (defArgs s_word_of) (defBody s_word_of) (defScope s_word_of) [] [] (He.ga K "word_of") fd := T.d.def_ 13 (d := d_word_of) (by rfl)
theorem TX.df_lacking (T : TX K mg) : ∃ fd, FunD K "lacking" "lacking" (defArgs s_lacking) (defBody s_lacking) (defScope s_lacking) [] [] (He.ga K "lacking") fd := T.d.def_ 14 (d := d_lacking) (by rfl)
theorem TX.df_fault (T : TX K mg) : ∃ fd, FunD K "fault" "fault" (defArgs s_fault) (defBody s_fault) (defScope s_fault) [] [] (He.ga K "fault") fd := T.d.def_ 15 (d := d_fault) (by rfl)
theorem TX.df_Bill_init (T : TX K mg) : ∃ fd, FunD K "__init__" "Bill.__init__" (defArgs s_Bill_init) (defBody s_Bill_init) (defScope s_Bill_init) [] [] (He.ma K (He.ga K "Bill") "__init__") fd := T.d.def_ 16 (d := d_Bill_init) (by rfl)
theorem TX.df_priced (T : TX K mg) : ∃ fd, FunD K "priced" "priced" (defArgs s_priced) (defBody s_priced) (defScope s_priced) [] [] (He.ga K "priced") fd := T.d.def_ 17 (d := d_priced) (by rfl)
theorem TX.df_what_stays (T : TX K mg) : ∃ fd, FunD K "what_stays" "what_stays" (defArgs s_what_stays) (defBody s_what_stays) (defScope s_what_stays) [] [] (He.ga K "what_stays") fd := T.d.def_ 18 (d := d_what_stays) (by rfl)
theorem TX.df_goes_on (T : TX K mg) : ∃ fd, FunD K "goes_on" "goes_on" (defArgs s_goes_on) (defBody s_goes_on) (defScope s_goes_on) [] [] (He.ga K "goes_on") fd := T.d.def_ 19 (d := d_goes_on) (by rfl)
theorem TX.df_gone_through (T : TX K mg) : ∃ fd, FunD K "gone_through" "gone_through" (defArgs s_gone_through) (defBody s_gone_through) (defScope s_gone_through) [] [] (He.ga K "gone_through") fd := T.d.def_ 20 (d := d_gone_through) (by rfl)
theorem TX.df_still_holding (T : TX K mg) : ∃ fd, FunD K "still_holding" "still_holding" (defArgs s_still_holding) (defBody s_still_holding) (defScope s_still_holding) [] [] (He.ga K "still_holding") fd := T.d.def_ 21 (d := d_still_holding) (by rfl)
theorem TX.df_Account_init (T : TX K mg) : ∃ fd, FunD K "__init__" "Account.__init__" (defArgs s_Account_init) (defBody s_Account_init) (defScope s_Account_init) [] [] (He.ma K (He.ga K "Account") "__init__") fd := T.d.def_ 22 (d := d_Account_init) (by rfl)
theorem TX.df_Account_take_back (T : TX K mg) : ∃ fd, FunD K "take_back" "Account.take_back" (defArgs s_Account_take_back) (defBody s_Account_take_back) (defScope s_Account_take_back) [] [] (He.ma K (He.ga K "Account") "take_back") fd := T.d.def_ 23 (d := d_Account_take_back) (by rfl)
theorem TX.df_Account_worth_of (T : TX K mg) : ∃ fd, FunD K "worth_of" "Account.worth_of" (defArgs s_Account_worth_of) (defBody s_Account_worth_of) (defScope s_Account_worth_of) [] [] (He.ma K (He.ga K "Account") "worth_of") fd := T.d.def_ 24 (d := d_Account_worth_of) (by rfl)
theorem TX.df_Account_due_again (T : TX K mg) : ∃ fd, FunD K "due_again" "Account.due_again" (defArgs s_Account_due_again) (defBody s_Account_due_again) (defScope s_Account_due_again) [] [] (He.ma K (He.ga K "Account") "due_again") fd := T.d.def_ 25 (d := d_Account_due_again) (by rfl)
theorem TX.df_Account_settled (T : TX K mg) : ∃ fd, FunD K "settled" "Account.settled" (defArgs s_Account_settled) (defBody s_Account_settled) (defScope s_Account_settled) [] [] (He.ma K (He.ga K "Account") "settled") fd := T.d.def_ 26 (d := d_Account_settled) (by rfl)
theorem TX.df_Till_init (T : TX K mg) : ∃ fd, FunD K "__init__" "Till.__init__" (defArgs s_Till_init) (defBody s_Till_init) (defScope s_Till_init) [V.str "again"] [] (He.ma K (He.ga K "Till") "__init__") fd := T.d.def_ 27 (d := d_Till_init) (by rfl)
theorem TX.df_Marks_init (T : TX K mg) : ∃ fd, FunD K "__init__" "Marks.__init__" (defArgs s_Marks_init) (defBody s_Marks_init) (defScope s_Marks_init) [V.non, V.int 0, V.non, V.bl false, V.bl false, V.bl false] [] (He.ma K (He.ga K "Marks") "__init__") fd := T.d.def_ 28 (d := d_Marks_init) (by rfl)
theorem TX.df_Voucher_init (T : TX K mg) : ∃ fd, FunD K "__init__" "Voucher.__init__" (defArgs s_Voucher_init) (defBody s_Voucher_init) (defScope s_Voucher_init) [V.non] [] (He.ma K (He.ga K "Voucher") "__init__") fd := T.d.def_ 29 (d := d_Voucher_init) (by rfl)
theorem TX.df_Off_init (T : TX K mg) : ∃ fd, FunD K "__init__" "Off.__init__" (defArgs s_Off_init) (defBody s_Off_init) (defScope s_Off_init) [V.non] [] (He.ma K (He.ga K "Off") "__init__") fd := T.d.def_ 30 (d := d_Off_init) (by rfl)
theorem TX.df_Off_wanted (T : TX K mg) : ∃ fd, FunD K "wanted" "Off.wanted" (defArgs s_Off_wanted) (defBody s_Off_wanted) (defScope s_Off_wanted) [] [] (He.ma K (He.ga K "Off") "wanted") fd := T.d.def_ 31 (d := d_Off_wanted) (by rfl)
theorem TX.df_Share_init (T : TX K mg) : ∃ fd, FunD K "__init__" "Share.__init__" (defArgs s_Share_init) (defBody s_Share_init) (defScope s_Share_init) [V.bl false, V.non] [] (He.ma K (He.ga K "Share") "__init__") fd := T.d.def_ 32 (d := d_Share_init) (by rfl)
theorem TX.df_Share_wanted (T : TX K mg) : ∃ fd, FunD K "wanted" "Share.wanted" (defArgs s_Share_wanted) (defBody s_Share_wanted) (defScope s_Share_wanted) [] [] (He.ma K (He.ga K "Share") "wanted") fd := T.d.def_ 33 (d := d_Share_wanted) (by rfl)
theorem TX.df_groups_of (T : TX K mg) : ∃ fd, FunD K "groups_of" "groups_of" (defArgs s_groups_of) (defBody s_groups_of) (defScope s_groups_of) [] [] (He.ga K "groups_of") fd := T.d.def_ 34 (d := d_groups_of) (by rfl)
theorem TX.df_Cheapest_init (T : TX K mg) : ∃ fd, FunD K "__init__" "Cheapest.__init__" (defArgs s_Cheapest_init) (defBody s_Cheapest_init) (defScope s_Cheapest_init) [V.non] [] (He.ma K (He.ga K "Cheapest") "__init__") fd := T.d.def_ 35 (d := d_Cheapest_init) (by rfl)
theorem TX.df_Cheapest_wanted (T : TX K mg) : ∃ fd, FunD K "wanted" "Cheapest.wanted" (defArgs s_Cheapest_wanted) (defBody s_Cheapest_wanted) (defScope s_Cheapest_wanted) [] [] (He.ma K (He.ga K "Cheapest") "wanted") fd := T.d.def_ 36 (d := d_Cheapest_wanted) (by rfl)
theorem TX.df_Bundle_init (T : TX K mg) : ∃ fd, FunD K "__init__" "Bundle.__init__" (defArgs s_Bundle_init) (defBody s_Bundle_init) (defScope s_Bundle_init) [V.non] [] (He.ma K (He.ga K "Bundle") "__init__") fd := T.d.def_ 37 (d := d_Bundle_init) (by rfl)
theorem TX.df_Bundle_wanted (T : TX K mg) : ∃ fd, FunD K "wanted" "Bundle.wanted" (defArgs s_Bundle_wanted) (defBody s_Bundle_wanted) (defScope s_Bundle_wanted) [] [] (He.ma K (He.ga K "Bundle") "wanted") fd := T.d.def_ 38 (d := d_Bundle_wanted) (by rfl)
theorem TX.df_Carriage_wanted_carriage (T : TX K mg) : ∃ fd, FunD K "wanted_carriage" "Carriage.wanted_carriage" (defArgs s_Carriage_wanted_carriage) (defBody s_Carriage_wanted_carriage) (defScope s_Carriage_wanted_carriage) [] [] (He.ma K (He.ga K "Carriage") "wanted_carriage") fd := T.d.def_ 39 (d := d_Carriage_wanted_carriage) (by rfl)
theorem TX.df_law_cell_at (T : TX K mg) : ∃ fd, FunD K "_law_cell_at" "_law_cell_at" (defArgs s_law_cell_at) (defBody s_law_cell_at) (defScope s_law_cell_at) [] [] (He.ga K "_law_cell_at") fd := T.d.def_ 40 (d := d_law_cell_at) (by rfl)
theorem TX.df_law_some (T : TX K mg) : ∃ fd, FunD K "_law_some" "_law_some" (defArgs s_law_some) (defBody s_law_some) (defScope s_law_some) [] [] (He.ga K "_law_some") fd := T.d.def_ 41 (d := d_law_some) (by rfl)
theorem TX.df_law_price (T : TX K mg) : ∃ fd, FunD K "_law_price" "_law_price" (defArgs s_law_price) (defBody s_law_price) (defScope s_law_price) [] [] (He.ga K "_law_price") fd := T.d.def_ 42 (d := d_law_price) (by rfl)
theorem TX.df_law_parents (T : TX K mg) : ∃ fd, FunD K "_law_parents" "_law_parents" (defArgs s_law_parents) (defBody s_law_parents) (defScope s_law_parents) [] [] (He.ga K "_law_parents") fd := T.d.def_ 43 (d := d_law_parents) (by rfl)
theorem TX.df_law_basket (T : TX K mg) : ∃ fd, FunD K "_law_basket" "_law_basket" (defArgs s_law_basket) (defBody s_law_basket) (defScope s_law_basket) [] [] (He.ga K "_law_basket") fd := T.d.def_ 44 (d := d_law_basket) (by rfl)
theorem TX.df_law_amount (T : TX K mg) : ∃ fd, FunD K "_law_amount" "_law_amount" (defArgs s_law_amount) (defBody s_law_amount) (defScope s_law_amount) [] [] (He.ga K "_law_amount") fd := T.d.def_ 45 (d := d_law_amount) (by rfl)
theorem TX.df_law_marks (T : TX K mg) : ∃ fd, FunD K "_law_marks" "_law_marks" (defArgs s_law_marks) (defBody s_law_marks) (defScope s_law_marks) [] [] (He.ga K "_law_marks") fd := T.d.def_ 46 (d := d_law_marks) (by rfl)
theorem TX.df_law_voucher (T : TX K mg) : ∃ fd, FunD K "_law_voucher" "_law_voucher" (defArgs s_law_voucher) (defBody s_law_voucher) (defScope s_law_voucher) [] [] (He.ga K "_law_voucher") fd := T.d.def_ 47 (d := d_law_voucher) (by rfl)
theorem TX.df_law_rules (T : TX K mg) : ∃ fd, FunD K "_law_rules" "_law_rules" (defArgs s_law_rules) (defBody s_law_rules) (defScope s_law_rules) [] [] (He.ga K "_law_rules") fd := T.d.def_ 48 (d := d_law_rules) (by rfl)
theorem TX.df_law_worth (T : TX K mg) : ∃ fd, FunD K "_law_worth" "_law_worth" (defArgs s_law_worth) (defBody s_law_worth) (defScope s_law_worth) [] [] (He.ga K "_law_worth") fd := T.d.def_ 49 (d := d_law_worth) (by rfl)
theorem TX.df_law_till (T : TX K mg) : ∃ fd, FunD K "_law_till" "_law_till" (defArgs s_law_till) (defBody s_law_till) (defScope s_law_till) [] [] (He.ga K "_law_till") fd := T.d.def_ 50 (d := d_law_till) (by rfl)
theorem TX.df_law_hand (T : TX K mg) : ∃ fd, FunD K "_law_hand" "_law_hand" (defArgs s_law_hand) (defBody s_law_hand) (defScope s_law_hand) [] [] (He.ga K "_law_hand") fd := T.d.def_ 51 (d := d_law_hand) (by rfl)
theorem TX.df_law_going (T : TX K mg) : ∃ fd, FunD K "_law_going" "_law_going" (defArgs s_law_going) (defBody s_law_going) (defScope s_law_going) [] [] (He.ga K "_law_going") fd := T.d.def_ 52 (d := d_law_going) (by rfl)
theorem TX.df_law_order (T : TX K mg) : ∃ fd, FunD K "_law_order" "_law_order" (defArgs s_law_order) (defBody s_law_order) (defScope s_law_order) [] [] (He.ga K "_law_order") fd := T.d.def_ 53 (d := d_law_order) (by rfl)
theorem TX.df_law_take (T : TX K mg) : ∃ fd, FunD K "_law_take" "_law_take" (defArgs s_law_take) (defBody s_law_take) (defScope s_law_take) [] [] (He.ga K "_law_take") fd := T.d.def_ 54 (d := d_law_take) (by rfl)
theorem TX.df_law_drawn (T : TX K mg) : ∃ fd, FunD K "_law_drawn" "_law_drawn" (defArgs s_law_drawn) (defBody s_law_drawn) (defScope s_law_drawn) [] [] (He.ga K "_law_drawn") fd := T.d.def_ 55 (d := d_law_drawn) (by rfl)
theorem TX.df_law_told (T : TX K mg) : ∃ fd, FunD K "_law_told" "_law_told" (defArgs s_law_told) (defBody s_law_told) (defScope s_law_told) [] [] (He.ga K "_law_told") fd := T.d.def_ 56 (d := d_law_told) (by rfl)
theorem TX.df_law_refused (T : TX K mg) : ∃ fd, FunD K "_law_refused" "_law_refused" (defArgs s_law_refused) (defBody s_law_refused) (defScope s_law_refused) [] [] (He.ga K "_law_refused") fd := T.d.def_ 57 (d := d_law_refused) (by rfl)
theorem TX.df_law_all_refused (T : TX K mg) : ∃ fd, FunD K "_law_all_refused" "_law_all_refused" (defArgs s_law_all_refused) (defBody s_law_all_refused) (defScope s_law_all_refused) [] [] (He.ga K "_law_all_refused") fd := T.d.def_ 58 (d := d_law_all_refused) (by rfl)
theorem TX.df_law (T : TX K mg) : ∃ fd, FunD K "law" "law" (defArgs s_law) (defBody s_law) (defScope s_law) [] [] (He.ga K "law") fd := T.d.def_ 59 (d := d_law) (by rfl)
theorem TX.df_Carriage_wanted (T : TX K mg) : ∃ fd, FunD K "wanted" "Voucher.wanted" (defArgs s_Voucher_wanted) (defBody s_Voucher_wanted) (defScope s_Voucher_wanted) [] [] (He.ma K (He.ga K "Carriage") "wanted") fd := T.d.def_ 60 (d := d_Carriage_wanted) (by rfl)
theorem TX.df_Off_wanted_carriage (T : TX K mg) : ∃ fd, FunD K "wanted_carriage" "Voucher.wanted_carriage" (defArgs s_Voucher_wanted_carriage) (defBody s_Voucher_wanted_carriage) (defScope s_Voucher_wanted_carriage) [] [] (He.ma K (He.ga K "Off") "wanted_carriage") fd := T.d.def_ 61 (d := d_Off_wanted_carriage) (by rfl)
theorem TX.df_Share_wanted_carriage (T : TX K mg) : ∃ fd, FunD K "wanted_carriage" "Voucher.wanted_carriage" (defArgs s_Voucher_wanted_carriage) (defBody s_Voucher_wanted_carriage) (defScope s_Voucher_wanted_carriage) [] [] (He.ma K (He.ga K "Share") "wanted_carriage") fd := T.d.def_ 62 (d := d_Share_wanted_carriage) (by rfl)
theorem TX.df_Cheapest_wanted_carriage (T : TX K mg) : ∃ fd, FunD K "wanted_carriage" "Voucher.wanted_carriage" (defArgs s_Voucher_wanted_carriage) (defBody s_Voucher_wanted_carriage) (defScope s_Voucher_wanted_carriage) [] [] (He.ma K (He.ga K "Cheapest") "wanted_carriage") fd := T.d.def_ 63 (d := d_Cheapest_wanted_carriage) (by rfl)
theorem TX.df_Bundle_wanted_carriage (T : TX K mg) : ∃ fd, FunD K "wanted_carriage" "Voucher.wanted_carriage" (defArgs s_Voucher_wanted_carriage) (defBody s_Voucher_wanted_carriage) (defScope s_Voucher_wanted_carriage) [] [] (He.ma K (He.ga K "Bundle") "wanted_carriage") fd := T.d.def_ 64 (d := d_Bundle_wanted_carriage) (by rfl)
theorem TX.df_Carriage_init (T : TX K mg) : ∃ fd, FunD K "__init__" "Voucher.__init__" (defArgs s_Voucher_init) (defBody s_Voucher_init) (defScope s_Voucher_init) [V.non] [] (He.ma K (He.ga K "Carriage") "__init__") fd := T.d.def_ 65 (d := d_Carriage_init) (by rfl)
end
/-! ### a class's attributes in order -/
def aLine (v0 v1 v2 v3 : V) : List (Str × V) := [("kind", v0), ("price", v1), ("many", v2), ("special", v3)]
section
variable {v0 v1 v2 v3 w : V} {K : PySem.W.Frag} {mg : Str → Option Value} {H : Hp} {p dx : Addr} {N : V → Prop}
theorem aLine_kind : (aLine v0 v1 v2 v3).lookup ("kind" : Str) = some v0 := by kernel_rfl
/-- e.kind is read -/
theorem TX.r_Line_kind (T : TX K mg) (h : H p = some (.ins (CLine K) dx (aLine v0 v1 v2 v3))) (q : N v0) : ∃ a C d fs v, V.ref p = .ref a ∧ H a = some (.ins C d fs) ∧ Cls K C ∧ NoAttr K C "kind" ∧ fs.lookup ("kind" : Str) = some v ∧ N v :=
  ⟨_, _, _, _, _, rfl, h, T.c_Line, T.n_Line_kind, aLine_kind, q⟩
theorem aLine_price : (aLine v0 v1 v2 v3).lookup ("price" : Str) = some v1 := by kernel_rfl
/-- e.price is read -/
theorem TX.r_Line_price (T : TX K mg) (h : H p = some (.ins (CLine K) dx (aLine v0 v1 v2 v3))) (q : N v1) : ∃ a C d fs v, V.ref p = .ref a ∧ H a = some (.ins C d fs) ∧ Cls K C ∧ NoAttr K C "price" ∧ fs.lookup ("price" : Str) = some v ∧ N v :=
  ⟨_, _, _, _, _, rfl, h, T.c_Line, T.n_Line_price, aLine_price, q⟩
theorem aLine_many : (aLine v0 v1 v2 v3).lookup ("many" : Str) = some v2 := by kernel_rfl
/-- e.many is read -/
theorem TX.r_Line_many (T : TX K mg) (h : H p = some (.ins (CLine K) dx (aLine v0 v1 v2 v3))) (q : N v2) : ∃ a C d fs v, V.ref p = .ref a ∧ H a = some (.ins C d fs) ∧ Cls K C ∧ NoAttr K C "many" ∧ fs.lookup ("many" : Str) = some v ∧ N v :=
  ⟨_, _, _, _, _, rfl, h, T.c_Line, T.n_Line_many, aLine_many, q⟩
theorem aLine_special : (aLine v0 v1 v2 v3).lookup ("special" : Str) = some v3 := by kernel_rfl
/-- e.special is read -/
theorem TX.r_Line_special (T : TX K mg) (h : H p = some (.ins (CLine K) dx (aLine v0 v1 v2 v3))) (q : N v3) : ∃ a C d fs v, V.ref p = .ref a ∧ H a = some (.ins C d fs) ∧ Cls K C ∧ NoAttr K C "special" ∧ fs.lookup ("special" : Str) = some v ∧ N v :=
  ⟨_, _, _, _, _, rfl, h, T.c_Line, T.n_Line_special, aLine_special, q⟩
theorem aLine_i0 : putF ("kind" : Str) v0 ([] : List (Str × V)) = ([("kind", v0)] : List (Str × V)) := by kernel_rfl
theorem aLine_i1 : putF ("price" : Str) v1 ([("kind", v0)] : List (Str × V)) = ([("kind", v0), ("price", v1)] : List (Str × V)) := by kernel_rfl
theorem aLine_i2 : putF ("many" : Str) v2 ([("kind", v0), ("price", v1)] : List (Str × V)) = ([("kind", v0), ("price", v1), ("many", v2)] : List (Str × V)) := by kernel_rfl
theorem aLine_i3 : putF ("special" : Str) v3 ([("kind", v0), ("price", v1), ("many", v2)] : List (Str × V)) = ([("kind", v0), ("price", v1), ("many", v2), ("special", v3)] : List (Str × V)) := by kernel_rfl
end
def aBasket (v0 v1 v2 : V) : List (Str × V) := [("lines", v0), ("carriage", v1), ("member", v2)]
section
variable {v0 v1 v2 w : V} {K : PySem.W.Frag} {mg : Str → Option Value} {H : Hp} {p dx : Addr} {N : V → Prop}
theorem aBasket_lines : (aBasket v0 v1 v2).lookup ("lines" : Str) = some v0 := by kernel_rfl
/-- e.lines is read -/
theorem TX.r_Basket_lines (T : TX K mg) (h : H p = some (.ins (CBasket K) dx (aBasket v0 v1 v2))) (q : N v0) : ∃ a C d fs v, V.ref p = .ref a ∧ H a = some (.ins C d fs) ∧ Cls K C ∧ NoAttr K C "lines" ∧ fs.lookup ("lines" : Str) = some v ∧ N v :=
  ⟨_, _, _, _, _, rfl, h, T.c_Basket, T.n_Basket_lines, aBasket_lines, q⟩
theorem aBasket_carriage : (aBasket v0 v1 v2).lookup ("carriage" : Str) = some v1 := by kernel_rfl
/-- e.carriage is read -/
theorem TX.r_Basket_carriage (T : TX K mg) (h : H p = some (.ins (CBasket K) dx (aBasket v0 v1 v2))) (q : N v1) : ∃ a C d fs v, V.ref p = .ref a ∧ H a = some (.ins C d fs) ∧ Cls K C ∧ NoAttr K C "carriage" ∧ fs.lookup ("carriage" : Str) = some v ∧ N v :=
  ⟨_, _, _, _, _, rfl, h, T.c_Basket, T.n_Basket_carriage, aBasket_carriage, q⟩
theorem aBasket_member : (aBasket v0 v1 v2).lookup ("member" : Str) = some v2 := by kernel_rfl
/-- e.member is read -/
theorem TX.r_Basket_member (T : TX K mg) (h : H p = some (.ins (CBasket K) dx (aBasket v0 v1 v2))) (q : N v2) : ∃ a C d fs v, V.ref p = .ref a ∧ H a = some (.ins C d fs) ∧ Cls K C ∧ NoAttr K C "member" ∧ fs.lookup ("member" : Str) = some v ∧ N v :=
  ⟨_, _, _, _, _, rfl, h, T.c_Basket, T.n_Basket_member, aBasket_member, q⟩
theorem aBasket_i0 : putF ("lines" : Str) v0 ([] : List (Str × V)) = ([("lines", v0)] : List (Str × V)) := by kernel_rfl
theorem aBasket_i1 : putF ("carriage" : Str) v1 ([("lines", v0)] : List (Str × V)) = ([("lines", v0), ("carriage", v1)] : List (Str × V)) := by kernel_rfl
theorem aBasket_i2 : putF ("member" : Str) v2 ([("lines", v0), ("carriage", v1)] : List (Str × V)) = ([("lines", v0), ("carriage", v1), ("member", v2)] : List (Str × V)) := by kernel_rfl
end
def aStanding (v0 v1 v2 v3 : V) : List (Str × V) := [("owners", v0), ("prices", v1), ("carriage", v2), ("marked", v3)]
section
variable {v0 v1 v2 v3 w : V} {K : PySem.W.Frag} {mg : Str → Option Value} {H : Hp} {p dx : Addr} {N : V → Prop}
theorem aStanding_owners : (aStanding v0 v1 v2 v3).lookup ("owners" : Str) = some v0 := by kernel_rfl
/-- e.owners is read -/
theorem TX.r_Standing_owners (T : TX K mg) (h : H p = some (.ins (CStanding K) dx (aStanding v0 v1 v2 v3))) (q : N v0) : ∃ a C d fs v, V.ref p = .ref a ∧ H a = some (.ins C d fs) ∧ Cls K C ∧ NoAttr K C "owners" ∧ fs.lookup ("owners" : Str) = some v ∧ N v :=
  ⟨_, _, _, _, _, rfl, h, T.c_Standing, T.n_Standing_owners, aStanding_owners, q⟩
theorem aStanding_prices : (aStanding v0 v1 v2 v3).lookup ("prices" : Str) = some v1 := by kernel_rfl
/-- e.prices is read -/
theorem TX.r_Standing_prices (T : TX K mg) (h : H p = some (.ins (CStanding K) dx (aStanding v0 v1 v2 v3))) (q : N v1) : ∃ a C d fs v, V.ref p = .ref a ∧ H a = some (.ins C d fs) ∧ Cls K C ∧ NoAttr K C "prices" ∧ fs.lookup ("prices" : Str) = some v ∧ N v :=
  ⟨_, _, _, _, _, rfl, h, T.c_Standing, T.n_Standing_prices, aStanding_prices, q⟩
theorem aStanding_carriage : (aStanding v0 v1 v2 v3).lookup ("carriage" : Str) = some v2 := by kernel_rfl
/-- e.carriage is read -/
theorem TX.r_Standing_carriage (T : TX K mg) (h : H p = some (.ins (CStanding K) dx (aStanding v0 v1 v2 v3))) (q : N v2) : ∃ a C d fs v, V.ref p = .ref a ∧ H a = some (.ins C d fs) ∧ Cls K C ∧ NoAttr K C "carriage" ∧ fs.lookup ("carriage" : Str) = some v ∧ N v :=
  ⟨_, _, _, _, _, rfl, h, T.c_Standing, T.n_Standing_carriage, aStanding_carriage, q⟩
theorem aStanding_marked : (aStanding v0 v1 v2 v3).lookup ("marked" : Str) = some v3 := by kernel_rfl
/-- e.marked is read -/
theorem TX.r_Standing_marked (T : TX K mg) (h : H p = some (.ins (CStanding K) dx (aStanding v0 v1 v2 v3))) (q : N v3) : ∃ a C d fs v, V.ref p = .ref a ∧ H a = some (.ins C d fs) ∧ Cls K C ∧ NoAttr K C "marked" ∧ fs.lookup ("marked" : Str) = some v ∧ N v :=
  ⟨_, _, _, _, _, rfl, h, T.c_Standing, T.n_Standing_marked, aStanding_marked, q⟩
theorem aStanding_i0 : putF ("owners" : Str) v0 ([] : List (Str × V)) = ([("owners", v0)] : List (Str × V)) := by kernel_rfl
theorem aStanding_i1 : putF ("prices" : Str) v1 ([("owners", v0)] : List (Str × V)) = ([("owners", v0), ("prices", v1)] : List (Str × V)) := by kernel_rfl
theorem aStanding_i2 : putF ("carriage" : Str) v2 ([("owners", v0), ("prices", v1)] : List (Str × V)) = ([("owners", v0), ("prices", v1), ("carriage", v2)] : List (Str × V)) := by kernel_rfl
theorem aStanding_i3 : putF ("marked" : Str) v3 ([("owners", v0), ("prices", v1), ("carriage", v2)] : List (Str × V)) = ([("owners", v0), ("prices", v1), ("carriage", v2), ("marked", v3)] : List (Str × V)) := by kernel_rfl
end
def aBill (v0 v1 v2 v3 v4 : V) : List (Str × V) := [("order", v0), ("steps", v1), ("prices", v2), ("carriage", v3), ("total", v4)]
section
variable {v0 v1 v2 v3 v4 w : V} {K : PySem.W.Frag} {mg : Str → Option Value} {H : Hp} {p dx : Addr} {N : V → Prop}
theorem aBill_order : (aBill v0 v1 v2 v3 v4).lookup ("order" : Str) = some v0 := by kernel_rfl
/-- e.order is read -/
theorem TX.r_Bill_order (T : TX K mg) (h : H p = some (.ins (CBill K) dx (aBill v0 v1 v2 v3 v4))) (q : N v0) : ∃ a C d fs v, V.ref p = .ref a ∧ H a = some (.ins C d fs) ∧ Cls K C ∧ NoAttr K C "order" ∧ fs.lookup ("order" : Str) = some v ∧ N v :=
  ⟨_, _, _, _, _, rfl, h, T.c_Bill, T.n_Bill_order, aBill_order, q⟩
theorem aBill_steps : (aBill v0 v1 v2 v3 v4).lookup ("steps" : Str) = some v1 := by kernel_rfl
/-- e.steps is read -/
theorem TX.r_Bill_steps (T : TX K mg) (h : H p = some (.ins (CBill K) dx (aBill v0 v1 v2 v3 v4))) (q : N v1) : ∃ a C d fs v, V.ref p = .ref a ∧ H a = some (.ins C d fs) ∧ Cls K C ∧ NoAttr K C "steps" ∧ fs.lookup ("steps" : Str) = some v ∧ N v :=
  ⟨_, _, _, _, _, rfl, h, T.c_Bill, T.n_Bill_steps, aBill_steps, q⟩
theorem aBill_prices : (aBill v0 v1 v2 v3 v4).lookup ("prices" : Str) = some v2 := by kernel_rfl
/-- e.prices is read -/
theorem TX.r_Bill_prices (T : TX K mg) (h : H p = some (.ins (CBill K) dx (aBill v0 v1 v2 v3 v4))) (q : N v2) : ∃ a C d fs v, V.ref p = .ref a ∧ H a = some (.ins C d fs) ∧ Cls K C ∧ NoAttr K C "prices" ∧ fs.lookup ("prices" : Str) = some v ∧ N v :=
  ⟨_, _, _, _, _, rfl, h, T.c_Bill, T.n_Bill_prices, aBill_prices, q⟩
theorem aBill_carriage : (aBill v0 v1 v2 v3 v4).lookup ("carriage" : Str) = some v3 := by kernel_rfl
/-- e.carriage is read -/
theorem TX.r_Bill_carriage (T : TX K mg) (h : H p = some (.ins (CBill K) dx (aBill v0 v1 v2 v3 v4))) (q : N v3) : ∃ a C d fs v, V.ref p = .ref a ∧ H a = some (.ins C d fs) ∧ Cls K C ∧ NoAttr K C "carriage" ∧ fs.lookup ("carriage" : Str) = some v ∧ N v :=
  ⟨_, _, _, _, _, rfl, h, T.c_Bill, T.n_Bill_carriage, aBill_carriage, q⟩
theorem aBill_total : (aBill v0 v1 v2 v3 v4).lookup ("total" : Str) = some v4 := by kernel_rfl
/-- e.total is read -/
theorem TX.r_Bill_total (T : TX K mg) (h : H p = some (.ins (CBill K) dx (aBill v0 v1 v2 v3 v4))) (q : N v4) : ∃ a C d fs v, V.ref p = .ref a ∧ H a = some (.ins C d fs) ∧ Cls K C ∧ NoAttr K C "total" ∧ fs.lookup ("total" : Str) = some v ∧ N v :=
  ⟨_, _, _, _, _, rfl, h, T.c_Bill, T.n_Bill_total, aBill_total, q⟩
theorem aBill_i0 : putF ("order" : Str) v0 ([] : List (Str × V)) = ([("order", v0)] : List (Str × V)) := by kernel_rfl
theorem aBill_i1 : putF ("steps" : Str) v1 ([("order", v0)] : List (Str × V)) = ([("order", v0), ("steps", v1)] : List (Str × V)) := by kernel_rfl
theorem aBill_i2 : putF ("prices" : Str) v2 ([("order", v0), ("steps", v1)] : List (Str × V)) = ([("order", v0), ("steps", v1), ("prices", v2)] : List (Str × V)) := by kernel_rfl
theorem aBill_i3 : putF ("carriage" : Str) v3 ([("order", v0), ("steps", v1), ("prices", v2)] : List (Str × V)) = ([("order", v0), ("steps", v1), ("prices", v2), ("carriage", v3)] : List (Str × V)) := by kernel_rfl
theorem aBill_i4 : putF ("total" : Str) v4 ([("order", v0), ("steps", v1), ("prices", v2), ("carriage", v3)] : List (Str × V)) = ([("order", v0), ("steps", v1), ("prices", v2), ("carriage", v3), ("total", v4)] : List (Str × V)) := by kernel_rfl
end
def aAccount (v0 v1 v2 v3 v4 v5 v6 v7 v8 : V) : List (Str × V) := [("counter", v0), ("bought", v1), ("holding", v2), ("shares", v3), ("order", v4), ("fallen", v5), ("many", v6), ("paid", v7), ("owed", v8)]
section
variable {v0 v1 v2 v3 v4 v5 v6 v7 v8 w : V} {K : PySem.W.Frag} {mg : Str → Option Value} {H : Hp} {p dx : Addr} {N : V → Prop}
theorem aAccount_counter : (aAccount v0 v1 v2 v3 v4 v5 v6 v7 v8).lookup ("counter" : Str) = some v0 := by kernel_rfl
/-- e.counter is read -/
theorem TX.r_Account_counter (T : TX K mg) (h : H p = some (.ins (CAccount K) dx (aAccount v0 v1 v2 v3 v4 v5 v6 v7 v8))) (q : N v0) : ∃ a C d fs v, V.ref p = .ref a ∧ H a = some (.ins C d fs) ∧ Cls K C ∧ NoAttr K C "counter" ∧ fs.lookup ("counter" : Str) = some v ∧ N v :=
  ⟨_, _, _, _, _, rfl, h, T.c_Account, T.n_Account_counter, aAccount_counter, q⟩
theorem aAccount_bought : (aAccount v0 v1 v2 v3 v4 v5 v6 v7 v8).lookup ("bought" : Str) = some v1 := by kernel_rfl
/-- e.bought is read -/
theorem TX.r_Account_bought (T : TX K mg) (h : H p = some (.ins (CAccount K) dx (aAccount v0 v1 v2 v3 v4 v5 v6 v7 v8))) (q : N v1) : ∃ a C d fs v, V.ref p = .ref a ∧ H a = some (.ins C d fs) ∧ Cls K C ∧ NoAttr K C "bought" ∧ fs.lookup ("bought" : Str) = some v ∧ N v :=
  ⟨_, _, _, _, _, rfl, h, T.c_Account, T.n_Account_bought, aAccount_bought, q⟩
theorem aAccount_holding : (aAccount v0 v1 v2 v3 v4 v5 v6 v7 v8).lookup ("holding" : Str) = some v2 := by kernel_rfl
/-- e.holding is read -/
theorem TX.r_Account_holding (T : TX K mg) (h : H p = some (.ins (CAccount K) dx (aAccount v0 v1 v2 v3 v4 v5 v6 v7 v8))) (q : N v2) : ∃ a C d fs v, V.ref p = .ref a ∧ H a = some (.ins C d fs) ∧ Cls K C ∧ NoAttr K C "holding" ∧ fs.lookup ("holding" : Str) = some v ∧ N v :=
  ⟨_, _, _, _, _, rfl, h, T.c_Account, T.n_Account_holding, aAccount_holding, q⟩
theorem aAccount_shares : (aAccount v0 v1 v2 v3 v4 v5 v6 v7 v8).lookup ("shares" : Str) = some v3 := by kernel_rfl
/-- e.shares is read -/
theorem TX.r_Account_shares (T : TX K mg) (h : H p = some (.ins (CAccount K) dx (aAccount v0 v1 v2 v3 v4 v5 v6 v7 v8))) (q : N v3) : ∃ a C d fs v, V.ref p = .ref a ∧ H a = some (.ins C d fs) ∧ Cls K C ∧ NoAttr K C "shares" ∧ fs.lookup ("shares" : Str) = some v ∧ N v :=
  ⟨_, _, _, _, _, rfl, h, T.c_Account, T.n_Account_shares, aAccount_shares, q⟩
theorem aAccount_order : (aAccount v0 v1 v2 v3 v4 v5 v6 v7 v8).lookup ("order" : Str) = some v4 := by kernel_rfl
/-- e.order is read -/
theorem TX.r_Account_order (T : TX K mg) (h : H p = some (.ins (CAccount K) dx (aAccount v0 v1 v2 v3 v4 v5 v6 v7 v8))) (q : N v4) : ∃ a C d fs v, V.ref p = .ref a ∧ H a = some (.ins C d fs) ∧ Cls K C ∧ NoAttr K C "order" ∧ fs.lookup ("order" : Str) = some v ∧ N v :=
  ⟨_, _, _, _, _, rfl, h, T.c_Account, T.n_Account_order, aAccount_order, q⟩
theorem aAccount_fallen : (aAccount v0 v1 v2 v3 v4 v5 v6 v7 v8).lookup ("fallen" : Str) = some v5 := by kernel_rfl
/-- e.fallen is read -/
theorem TX.r_Account_fallen (T : TX K mg) (h : H p = some (.ins (CAccount K) dx (aAccount v0 v1 v2 v3 v4 v5 v6 v7 v8))) (q : N v5) : ∃ a C d fs v, V.ref p = .ref a ∧ H a = some (.ins C d fs) ∧ Cls K C ∧ NoAttr K C "fallen" ∧ fs.lookup ("fallen" : Str) = some v ∧ N v :=
  ⟨_, _, _, _, _, rfl, h, T.c_Account, T.n_Account_fallen, aAccount_fallen, q⟩
theorem aAccount_many : (aAccount v0 v1 v2 v3 v4 v5 v6 v7 v8).lookup ("many" : Str) = some v6 := by kernel_rfl
/-- e.many is read -/
theorem TX.r_Account_many (T : TX K mg) (h : H p = some (.ins (CAccount K) dx (aAccount v0 v1 v2 v3 v4 v5 v6 v7 v8))) (q : N v6) : ∃ a C d fs v, V.ref p = .ref a ∧ H a = some (.ins C d fs) ∧ Cls K C ∧ NoAttr K C "many" ∧ fs.lookup ("many" : Str) = some v ∧ N v :=
  ⟨_, _, _, _, _, rfl, h, T.c_Account, T.n_Account_many, aAccount_many, q⟩
theorem aAccount_paid : (aAccount v0 v1 v2 v3 v4 v5 v6 v7 v8).lookup ("paid" : Str) = some v7 := by kernel_rfl
/-- e.paid is read -/
theorem TX.r_Account_paid (T : TX K mg) (h : H p = some (.ins (CAccount K) dx (aAccount v0 v1 v2 v3 v4 v5 v6 v7 v8))) (q : N v7) : ∃ a C d fs v, V.ref p = .ref a ∧ H a = some (.ins C d fs) ∧ Cls K C ∧ NoAttr K C "paid" ∧ fs.lookup ("paid" : Str) = some v ∧ N v :=
  ⟨_, _, _, _, _, rfl, h, T.c_Account, T.n_Account_paid, aAccount_paid, q⟩
theorem aAccount_owed : (aAccount v0 v1 v2 v3 v4 v5 v6 v7 v8).lookup ("owed" : Str) = some v8 := by kernel_rfl
/-- e.owed is read -/
theorem TX.r_Account_owed (T : TX K mg) (h : H p = some (.ins (CAccount K) dx (aAccount v0 v1 v2 v3 v4 v5 v6 v7 v8))) (q : N v8) : ∃ a C d fs v, V.ref p = .ref a ∧ H a = some (.ins C d fs) ∧ Cls K C ∧ NoAttr K C "owed" ∧ fs.lookup ("owed" : Str) = some v ∧ N v :=
  ⟨_, _, _, _, _, rfl, h, T.c_Account, T.n_Account_owed, aAccount_owed, q⟩
theorem aAccount_i0 : putF ("counter" : Str) v0 ([] : List (Str × V)) = ([("counter", v0)] : List (Str × V)) := by kernel_rfl
theorem aAccount_i1 : putF ("bought" : Str) v1 ([("counter", v0)] : List (Str × V)) = ([("counter", v0), ("bought", v1)] : List (Str × V)) := by kernel_rfl
theorem aAccount_i2 : putF ("holding" : Str) v2 ([("counter", v0), ("bought", v1)] : List (Str × V)) = ([("counter", v0), ("bought", v1), ("holding", v2)] : List (Str × V)) := by kernel_rfl
theorem aAccount_i3 : putF ("shares" : Str) v3 ([("counter", v0), ("bought", v1), ("holding", v2)] : List (Str × V)) = ([("counter", v0), ("bought", v1), ("holding", v2), ("shares", v3)] : List (Str × V)) := by kernel_rfl
theorem aAccount_i4 : putF ("order" : Str) v4 ([("counter", v0), ("bought", v1), ("holding", v2), ("shares", v3)] : List (Str × V)) = ([("counter", v0), ("bought", v1), ("holding", v2), ("shares", v3), ("order", v4)] : List (Str × V)) := by kernel_rfl
theorem aAccount_i5 : putF ("fallen" : Str) v5 ([("counter", v0), ("bought", v1), ("holding", v2), ("shares", v3), ("order", v4)] : List (Str × V)) = ([("counter", v0), ("bought", v1), ("holding", v2), ("shares", v3), ("order", v4), ("fallen", v5)] : List (Str × V)) := by kernel_rfl
theorem aAccount_i6 : putF ("many" : Str) v6 ([("counter", v0), ("bought", v1), ("holding", v2), ("shares", v3), ("order", v4), ("fallen", v5)] : List (Str × V)) = ([("counter", v0), ("bought", v1), ("holding", v2), ("shares", v3), ("order", v4), ("fallen", v5), ("many", v6)] : List (Str × V)) := by kernel_rfl
theorem aAccount_i7 : putF ("paid" : Str) v7 ([("counter", v0), ("bought", v1), ("holding", v2), ("shares", v3), ("order", v4), ("fallen", v5), ("many", v6)] : List (Str × V)) = ([("counter", v0), ("bought", v1), ("holding", v2), ("shares", v3), ("order", v4), ("fallen", v5), ("many", v6), ("paid", v7)] : List (Str × V)) := by kernel_rfl
theorem aAccount_i8 : putF ("owed" : Str) v8 ([("counter", v0), ("bought", v1), ("holding", v2), ("shares", v3), ("order", v4), ("fallen", v5), ("many", v6), ("paid", v7)] : List (Str × V)) = ([("counter", v0), ("bought", v1), ("holding", v2), ("shares", v3), ("order", v4), ("fallen", v5), ("many", v6), ("paid", v7), ("owed", v8)] : List (Str × V)) := by kernel_rfl
end
def aTill (v0 v1 v2 v3 : V) : List (Str × V) := [("parents", v0), ("vouchers", v1), ("rules", v2), ("back", v3)]
section
variable {v0 v1 v2 v3 w : V} {K : PySem.W.Frag} {mg : Str → Option Value} {H : Hp} {p dx : Addr} {N : V → Prop}
theorem aTill_parents : (aTill v0 v1 v2 v3).lookup ("parents" : Str) = some v0 := by kernel_rfl
/-- e.parents is read -/
theorem TX.r_Till_parents (T : TX K mg) (h : H p = some (.ins (CTill K) dx (aTill v0 v1 v2 v3))) (q : N v0) : ∃ a C d fs v, V.ref p = .ref a ∧ H a = some (.ins C d fs) ∧ Cls K C ∧ NoAttr K C "parents" ∧ fs.lookup ("parents" : Str) = some v ∧ N v :=
  ⟨_, _, _, _, _, rfl, h, T.c_Till, T.n_Till_parents, aTill_parents, q⟩
theorem aTill_vouchers : (aTill v0 v1 v2 v3).lookup ("vouchers" : Str) = some v1 := by kernel_rfl
/-- e.vouchers is read -/
theorem TX.r_Till_vouchers (T : TX K mg) (h : H p = some (.ins (CTill K) dx (aTill v0 v1 v2 v3))) (q : N v1) : ∃ a C d fs v, V.ref p = .ref a ∧ H a = some (.ins C d fs) ∧ Cls K C ∧ NoAttr K C "vouchers" ∧ fs.lookup ("vouchers" : Str) = some v ∧ N v :=
  ⟨_, _, _, _, _, rfl, h, T.c_Till, T.n_Till_vouchers, aTill_vouchers, q⟩
theorem aTill_rules : (aTill v0 v1 v2 v3).lookup ("rules" : Str) = some v2 := by kernel_rfl
/-- e.rules is read -/
theorem TX.r_Till_rules (T : TX K mg) (h : H p = some (.ins (CTill K) dx (aTill v0 v1 v2 v3))) (q : N v2) : ∃ a C d fs v, V.ref p = .ref a ∧ H a = some (.ins C d fs) ∧ Cls K C ∧ NoAttr K C "rules" ∧ fs.lookup ("rules" : Str) = some v ∧ N v :=
  ⟨_, _, _, _, _, rfl, h, T.c_Till, T.n_Till_rules, aTill_rules, q⟩
theorem aTill_back : (aTill v0 v1 v2 v3).lookup ("back" : Str) = some v3 := by kernel_rfl
/-- e.back is read -/
theorem TX.r_Till_back (T : TX K mg) (h : H p = some (.ins (CTill K) dx (aTill v0 v1 v2 v3))) (q : N v3) : ∃ a C d fs v, V.ref p = .ref a ∧ H a = some (.ins C d fs) ∧ Cls K C ∧ NoAttr K C "back" ∧ fs.lookup ("back" : Str) = some v ∧ N v :=
  ⟨_, _, _, _, _, rfl, h, T.c_Till, T.n_Till_back, aTill_back, q⟩
theorem aTill_i0 : putF ("parents" : Str) v0 ([] : List (Str × V)) = ([("parents", v0)] : List (Str × V)) := by kernel_rfl
theorem aTill_i1 : putF ("vouchers" : Str) v1 ([("parents", v0)] : List (Str × V)) = ([("parents", v0), ("vouchers", v1)] : List (Str × V)) := by kernel_rfl
theorem aTill_i2 : putF ("rules" : Str) v2 ([("parents", v0), ("vouchers", v1)] : List (Str × V)) = ([("parents", v0), ("vouchers", v1), ("rules", v2)] : List (Str × V)) := by kernel_rfl
theorem aTill_i3 : putF ("back" : Str) v3 ([("parents", v0), ("vouchers", v1), ("rules", v2)] : List (Str × V)) = ([("parents", v0), ("vouchers", v1), ("rules", v2), ("back", v3)] : List (Str × V)) := by kernel_rfl
end
def aMarks (v0 v1 v2 v3 v4 v5 : V) : List (Str × V) := [("kind", v0), ("needs", v1), ("most", v2), ("member", v3), ("once", v4), ("lone", v5)]
section
variable {v0 v1 v2 v3 v4 v5 w : V} {K : PySem.W.Frag} {mg : Str → Option Value} {H : Hp} {p dx : Addr} {N : V → Prop}
theorem aMarks_kind : (aMarks v0 v1 v2 v3 v4 v5).lookup ("kind" : Str) = some v0 := by kernel_rfl
/-- e.kind is read -/
theorem TX.r_Marks_kind (T : TX K mg) (h : H p = some (.ins (CMarks K) dx (aMarks v0 v1 v2 v3 v4 v5))) (q : N v0) : ∃ a C d fs v, V.ref p = .ref a ∧ H a = some (.ins C d fs) ∧ Cls K C ∧ NoAttr K C "kind" ∧ fs.lookup ("kind" : Str) = some v ∧ N v :=
  ⟨_, _, _, _, _, rfl, h, T.c_Marks, T.n_Marks_kind, aMarks_kind, q⟩
theorem aMarks_needs : (aMarks v0 v1 v2 v3 v4 v5).lookup ("needs" : Str) = some v1 := by kernel_rfl
/-- e.needs is read -/
theorem TX.r_Marks_needs (T : TX K mg) (h : H p = some (.ins (CMarks K) dx (aMarks v0 v1 v2 v3 v4 v5))) (q : N v1) : ∃ a C d fs v, V.ref p = .ref a ∧ H a = some (.ins C d fs) ∧ Cls K C ∧ NoAttr K C "needs" ∧ fs.lookup ("needs" : Str) = some v ∧ N v :=
  ⟨_, _, _, _, _, rfl, h, T.c_Marks, T.n_Marks_needs, aMarks_needs, q⟩
theorem aMarks_most : (aMarks v0 v1 v2 v3 v4 v5).lookup ("most" : Str) = some v2 := by kernel_rfl
/-- e.most is read -/
theorem TX.r_Marks_most (T : TX K mg) (h : H p = some (.ins (CMarks K) dx (aMarks v0 v1 v2 v3 v4 v5))) (q : N v2) : ∃ a C d fs v, V.ref p = .ref a ∧ H a = some (.ins C d fs) ∧ Cls K C ∧ NoAttr K C "most" ∧ fs.lookup ("most" : Str) = some v ∧ N v :=
  ⟨_, _, _, _, _, rfl, h, T.c_Marks, T.n_Marks_most, aMarks_most, q⟩
theorem aMarks_member : (aMarks v0 v1 v2 v3 v4 v5).lookup ("member" : Str) = some v3 := by kernel_rfl
/-- e.member is read -/
theorem TX.r_Marks_member (T : TX K mg) (h : H p = some (.ins (CMarks K) dx (aMarks v0 v1 v2 v3 v4 v5))) (q : N v3) : ∃ a C d fs v, V.ref p = .ref a ∧ H a = some (.ins C d fs) ∧ Cls K C ∧ NoAttr K C "member" ∧ fs.lookup ("member" : Str) = some v ∧ N v :=
  ⟨_, _, _, _, _, rfl, h, T.c_Marks, T.n_Marks_member, aMarks_member, q⟩
theorem aMarks_once : (aMarks v0 v1 v2 v3 v4 v5).lookup ("once" : Str) = some v4 := by kernel_rfl
/-- e.once is read -/
theorem TX.r_Marks_once (T : TX K mg) (h : H p = some (.ins (CMarks K) dx (aMarks v0 v1 v2 v3 v4 v5))) (q : N v4) : ∃ a C d fs v, V.ref p = .ref a ∧ H a = some (.ins C d fs) ∧ Cls K C ∧ NoAttr K C "once" ∧ fs.lookup ("once" : Str) = some v ∧ N v :=
  ⟨_, _, _, _, _, rfl, h, T.c_Marks, T.n_Marks_once, aMarks_once, q⟩
theorem aMarks_lone : (aMarks v0 v1 v2 v3 v4 v5).lookup ("lone" : Str) = some v5 := by kernel_rfl
/-- e.lone is read -/
theorem TX.r_Marks_lone (T : TX K mg) (h : H p = some (.ins (CMarks K) dx (aMarks v0 v1 v2 v3 v4 v5))) (q : N v5) : ∃ a C d fs v, V.ref p = .ref a ∧ H a = some (.ins C d fs) ∧ Cls K C ∧ NoAttr K C "lone" ∧ fs.lookup ("lone" : Str) = some v ∧ N v :=
  ⟨_, _, _, _, _, rfl, h, T.c_Marks, T.n_Marks_lone, aMarks_lone, q⟩
theorem aMarks_i0 : putF ("kind" : Str) v0 ([] : List (Str × V)) = ([("kind", v0)] : List (Str × V)) := by kernel_rfl
theorem aMarks_i1 : putF ("needs" : Str) v1 ([("kind", v0)] : List (Str × V)) = ([("kind", v0), ("needs", v1)] : List (Str × V)) := by kernel_rfl
theorem aMarks_i2 : putF ("most" : Str) v2 ([("kind", v0), ("needs", v1)] : List (Str × V)) = ([("kind", v0), ("needs", v1), ("most", v2)] : List (Str × V)) := by kernel_rfl
theorem aMarks_i3 : putF ("member" : Str) v3 ([("kind", v0), ("needs", v1), ("most", v2)] : List (Str × V)) = ([("kind", v0), ("needs", v1), ("most", v2), ("member", v3)] : List (Str × V)) := by kernel_rfl
theorem aMarks_i4 : putF ("once" : Str) v4 ([("kind", v0), ("needs", v1), ("most", v2), ("member", v3)] : List (Str × V)) = ([("kind", v0), ("needs", v1), ("most", v2), ("member", v3), ("once", v4)] : List (Str × V)) := by kernel_rfl
theorem aMarks_i5 : putF ("lone" : Str) v5 ([("kind", v0), ("needs", v1), ("most", v2), ("member", v3), ("once", v4)] : List (Str × V)) = ([("kind", v0), ("needs", v1), ("most", v2), ("member", v3), ("once", v4), ("lone", v5)] : List (Str × V)) := by kernel_rfl
end
def aOff (v0 v1 : V) : List (Str × V) := [("marks", v0), ("amount", v1)]
section
variable {v0 v1 w : V} {K : PySem.W.Frag} {mg : Str → Option Value} {H : Hp} {p dx : Addr} {N : V → Prop}
theorem aOff_marks : (aOff v0 v1).lookup ("marks" : Str) = some v0 := by kernel_rfl
/-- e.marks is read -/
theorem TX.r_Off_marks (T : TX K mg) (h : H p = some (.ins (COff K) dx (aOff v0 v1))) (q : N v0) : ∃ a C d fs v, V.ref p = .ref a ∧ H a = some (.ins C d fs) ∧ Cls K C ∧ NoAttr K C "marks" ∧ fs.lookup ("marks" : Str) = some v ∧ N v :=
  ⟨_, _, _, _, _, rfl, h, T.c_Off, T.n_Off_marks, aOff_marks, q⟩
theorem aOff_amount : (aOff v0 v1).lookup ("amount" : Str) = some v1 := by kernel_rfl
/-- e.amount is read -/
theorem TX.r_Off_amount (T : TX K mg) (h : H p = some (.ins (COff K) dx (aOff v0 v1))) (q : N v1) : ∃ a C d fs v, V.ref p = .ref a ∧ H a = some (.ins C d fs) ∧ Cls K C ∧ NoAttr K C "amount" ∧ fs.lookup ("amount" : Str) = some v ∧ N v :=
  ⟨_, _, _, _, _, rfl, h, T.c_Off, T.n_Off_amount, aOff_amount, q⟩
theorem aOff_i0 : putF ("marks" : Str) v0 ([] : List (Str × V)) = ([("marks", v0)] : List (Str × V)) := by kernel_rfl
theorem aOff_i1 : putF ("amount" : Str) v1 ([("marks", v0)] : List (Str × V)) = ([("marks", v0), ("amount", v1)] : List (Str × V)) := by kernel_rfl
end
def aShare (v0 v1 v2 : V) : List (Str × V) := [("marks", v0), ("share", v1), ("by_line", v2)]
section
variable {v0 v1 v2 w : V} {K : PySem.W.Frag} {mg : Str → Option Value} {H : Hp} {p dx : Addr} {N : V → Prop}
theorem aShare_marks : (aShare v0 v1 v2).lookup ("marks" : Str) = some v0 := by kernel_rfl
/-- e.marks is read -/
theorem TX.r_Share_marks (T : TX K mg) (h : H p = some (.ins (CShare K) dx (aShare v0 v1 v2))) (q : N v0) : ∃ a C d fs v, V.ref p = .ref a ∧ H a = some (.ins C d fs) ∧ Cls K C ∧ NoAttr K C "marks" ∧ fs.lookup ("marks" : Str) = some v ∧ N v :=
  ⟨_, _, _, _, _, rfl, h, T.c_Share, T.n_Share_marks, aShare_marks, q⟩
theorem aShare_share : (aShare v0 v1 v2).lookup ("share" : Str) = some v1 := by kernel_rfl
/-- e.share is read -/
theorem TX.r_Share_share (T : TX K mg) (h : H p = some (.ins (CShare K) dx (aShare v0 v1 v2))) (q : N v1) : ∃ a C d fs v, V.ref p = .ref a ∧ H a = some (.ins C d fs) ∧ Cls K C ∧ NoAttr K C "share" ∧ fs.lookup ("share" : Str) = some v ∧ N v :=
  ⟨_, _, _, _, _, rfl, h, T.c_Share, T.n_Share_share, aShare_share, q⟩
theorem aShare_by_line : (aShare v0 v1 v2).lookup ("by_line" : Str) = some v2 := by kernel_rfl
/-- e.by_line is read -/
theorem TX.r_Share_by_line (T : TX K mg) (h : H p = some (.ins (CShare K) dx (aShare v0 v1 v2))) (q : N v2) : ∃ a C d fs v, V.ref p = .ref a ∧ H a = some (.ins C d fs) ∧ Cls K C ∧ NoAttr K C "by_line" ∧ fs.lookup ("by_line" : Str) = some v ∧ N v :=
  ⟨_, _, _, _, _, rfl, h, T.c_Share, T.n_Share_by_line, aShare_by_line, q⟩
theorem aShare_i0 : putF ("marks" : Str) v0 ([] : List (Str × V)) = ([("marks", v0)] : List (Str × V)) := by kernel_rfl
theorem aShare_i1 : putF ("share" : Str) v1 ([("marks", v0)] : List (Str × V)) = ([("marks", v0), ("share", v1)] : List (Str × V)) := by kernel_rfl
theorem aShare_i2 : putF ("by_line" : Str) v2 ([("marks", v0), ("share", v1)] : List (Str × V)) = ([("marks", v0), ("share", v1), ("by_line", v2)] : List (Str × V)) := by kernel_rfl
end
def aCheapest (v0 v1 : V) : List (Str × V) := [("marks", v0), ("many", v1)]
section
variable {v0 v1 w : V} {K : PySem.W.Frag} {mg : Str → Option Value} {H : Hp} {p dx : Addr} {N : V → Prop}
theorem aCheapest_marks : (aCheapest v0 v1).lookup ("marks" : Str) = some v0 := by kernel_rfl
/-- e.marks is read -/
theorem TX.r_Cheapest_marks (T : TX K mg) (h : H p = some (.ins (CCheapest K) dx (aCheapest v0 v1))) (q : N v0) : ∃ a C d fs v, V.ref p = .ref a ∧ H a = some (.ins C d fs) ∧ Cls K C ∧ NoAttr K C "marks" ∧ fs.lookup ("marks" : Str) = some v ∧ N v :=
  ⟨_, _, _, _, _, rfl, h, T.c_Cheapest, T.n_Cheapest_marks, aCheapest_marks, q⟩
theorem aCheapest_many : (aCheapest v0 v1).lookup ("many" : Str) = some v1 := by kernel_rfl
/-- e.many is read -/
theorem TX.r_Cheapest_many (T : TX K mg) (h : H p = some (.ins (CCheapest K) dx (aCheapest v0 v1))) (q : N v1) : ∃ a C d fs v, V.ref p = .ref a ∧ H a = some (.ins C d fs) ∧ Cls K C ∧ NoAttr K C "many" ∧ fs.lookup ("many" : Str) = some v ∧ N v :=
  ⟨_, _, _, _, _, rfl, h, T.c_Cheapest, T.n_Cheapest_many, aCheapest_many, q⟩
theorem aCheapest_i0 : putF ("marks" : Str) v0 ([] : List (Str × V)) = ([("marks", v0)] : List (Str × V)) := by kernel_rfl
theorem aCheapest_i1 : putF ("many" : Str) v1 ([("marks", v0)] : List (Str × V)) = ([("marks", v0), ("many", v1)] : List (Str × V)) := by kernel_rfl
end
def aBundle (v0 v1 v2 : V) : List (Str × V) := [("marks", v0), ("many", v1), ("price", v2)]
section
variable {v0 v1 v2 w : V} {K : PySem.W.Frag} {mg : Str → Option Value} {H : Hp} {p dx : Addr} {N : V → Prop}
theorem aBundle_marks : (aBundle v0 v1 v2).lookup ("marks" : Str) = some v0 := by kernel_rfl
/-- e.marks is read -/
theorem TX.r_Bundle_marks (T : TX K mg) (h : H p = some (.ins (CBundle K) dx (aBundle v0 v1 v2))) (q : N v0) : ∃ a C d fs v, V.ref p = .ref a ∧ H a = some (.ins C d fs) ∧ Cls K C ∧ NoAttr K C "marks" ∧ fs.lookup ("marks" : Str) = some v ∧ N v :=
  ⟨_, _, _, _, _, rfl, h, T.c_Bundle, T.n_Bundle_marks, aBundle_marks, q⟩
theorem aBundle_many : (aBundle v0 v1 v2).lookup ("many" : Str) = some v1 := by kernel_rfl
/-- e.many is read -/
theorem TX.r_Bundle_many (T : TX K mg) (h : H p = some (.ins (CBundle K) dx (aBundle v0 v1 v2))) (q : N v1) : ∃ a C d fs v, V.ref p = .ref a ∧ H a = some (.ins C d fs) ∧ Cls K C ∧ NoAttr K C "many" ∧ fs.lookup ("many" : Str) = some v ∧ N v :=
  ⟨_, _, _, _, _, rfl, h, T.c_Bundle, T.n_Bundle_many, aBundle_many, q⟩
theorem aBundle_price : (aBundle v0 v1 v2).lookup ("price" : Str) = some v2 := by kernel_rfl
/-- e.price is read -/
theorem TX.r_Bundle_price (T : TX K mg) (h : H p = some (.ins (CBundle K) dx (aBundle v0 v1 v2))) (q : N v2) : ∃ a C d fs v, V.ref p = .ref a ∧ H a = some (.ins C d fs) ∧ Cls K C ∧ NoAttr K C "price" ∧ fs.lookup ("price" : Str) = some v ∧ N v :=
  ⟨_, _, _, _, _, rfl, h, T.c_Bundle, T.n_Bundle_price, aBundle_price, q⟩
theorem aBundle_i0 : putF ("marks" : Str) v0 ([] : List (Str × V)) = ([("marks", v0)] : List (Str × V)) := by kernel_rfl
theorem aBundle_i1 : putF ("many" : Str) v1 ([("marks", v0)] : List (Str × V)) = ([("marks", v0), ("many", v1)] : List (Str × V)) := by kernel_rfl
theorem aBundle_i2 : putF ("price" : Str) v2 ([("marks", v0), ("many", v1)] : List (Str × V)) = ([("marks", v0), ("many", v1), ("price", v2)] : List (Str × V)) := by kernel_rfl
end
def aCarriage (v0 : V) : List (Str × V) := [("marks", v0)]
section
variable {v0 w : V} {K : PySem.W.Frag} {mg : Str → Option Value} {H : Hp} {p dx : Addr} {N : V → Prop}
theorem aCarriage_marks : (aCarriage v0).lookup ("marks" : Str) = some v0 := by kernel_rfl
/-- e.marks is read -/
theorem TX.r_Carriage_marks (T : TX K mg) (h : H p = some (.ins (CCarriage K) dx (aCarriage v0))) (q : N v0) : ∃ a C d fs v, V.ref p = .ref a ∧ H a = some (.ins C d fs) ∧ Cls K C ∧ NoAttr K C "marks" ∧ fs.lookup ("marks" : Str) = some v ∧ N v :=
  ⟨_, _, _, _, _, rfl, h, T.c_Carriage, T.n_Carriage_marks, aCarriage_marks, q⟩
theorem aCarriage_i0 : putF ("marks" : Str) v0 ([] : List (Str × V)) = ([("marks", v0)] : List (Str × V)) := by kernel_rfl
end
theorem aStanding_p_prices {v0 v1 v2 v3 w : V} : putF ("prices" : Str) w (aStanding v0 v1 v2 v3) = aStanding v0 w v2 v3 := by kernel_rfl
theorem aStanding_p_carriage {v0 v1 v2 v3 w : V} : putF ("carriage" : Str) w (aStanding v0 v1 v2 v3) = aStanding v0 v1 w v3 := by kernel_rfl
theorem aStanding_p_marked {v0 v1 v2 v3 w : V} : putF ("marked" : Str) w (aStanding v0 v1 v2 v3) = aStanding v0 v1 v2 w := by kernel_rfl
theorem aAccount_p_order {v0 v1 v2 v3 v4 v5 v6 v7 v8 w : V} : putF ("order" : Str) w (aAccount v0 v1 v2 v3 v4 v5 v6 v7 v8) = aAccount v0 v1 v2 v3 w v5 v6 v7 v8 := by kernel_rfl
theorem aAccount_p_paid {v0 v1 v2 v3 v4 v5 v6 v7 v8 w : V} : putF ("paid" : Str) w (aAccount v0 v1 v2 v3 v4 v5 v6 v7 v8) = aAccount v0 v1 v2 v3 v4 v5 v6 w v8 := by kernel_rfl
theorem aAccount_p_owed {v0 v1 v2 v3 v4 v5 v6 v7 v8 w : V} : putF ("owed" : Str) w (aAccount v0 v1 v2 v3 v4 v5 v6 v7 v8) = aAccount v0 v1 v2 v3 v4 v5 v6 v7 w := by kernel_rfl
end VS
set_option Elab.async false
set_option linter.all false
set_option maxRecDepth 100000
set_option maxHeartbeats 1000000
namespace VS
open PySem PySem.Spec PyProof.Rows L2
/-! ### a def, a method, a class's making, with the promise that it keeps -/
structure Cal (P : Program) (w : World) (K : PySem.W.Frag) (mg : Str → Option Value) (base : Heap) (k : Nat) (x : Str) (sp : Sp) : Prop where
  is : ∃ f fd ps, mg x = some (.ref f) ∧ PySem.W.keepIn K (.ref f) = true ∧ Binds K fd ps [] ∧ FnOk P w K mg base CX0 k f fd ps sp
structure Met (P : Program) (w : World) (K : PySem.W.Frag) (mg : Str → Option Value) (base : Heap) (k : Nat) (C : Addr) (m : Str) (sp : Sp) : Prop where
  is : ∃ f fd ps, Cls K C ∧ Meth K C m f ∧ Binds K fd ps [] ∧ FnOk P w K mg base CX0 k f fd ps sp
structure Mak (P : Program) (w : World) (K : PySem.W.Frag) (mg : Str → Option Value) (base : Heap) (k : Nat) (x : Str) (C : Addr) (sp : Sp) (dvs : List V) : Prop where
  is : ∃ f fd ps ds, mg x = some (.ref C) ∧ Mk K C f ∧ Binds K fd ps ds ∧ Vals dvs ds ∧ FnOk P w K mg base CX0 k f fd ps sp
section
variable {X : Cx} {k j : Nat} {C : Addr} {x m : Str} {sp : Sp} {dvs : List V} {p pos apos : Pos} {e o : Expr} {es : List Expr} {ta : TE} {t : TA}
theorem pe_c (c : Cal X.prog X.w X.K X.mg X.base k x sp) (hr : Room j X.A) (hk : k ≤ j) (hg : Gl X x) (ha : PA X (e :: es) t) (hdb : (x == ("__debug__" : Str)) = false := by decide)
    (he : starEach (e :: es) X.env = (false, eval e X.env) :: starEach es X.env := by rfl) (hpl : (backTo pos (starEach es X.env)).any (·.1) = false := by rfl) : PE X (.Call (.Name x p) (e :: es) [] pos) (tCall sp [] E0 t) :=
  have ⟨_, _, _, hm, kp, b, F⟩ := c.is
  pe_call F (hr.mono hk) hg hm kp b .nil pass0 ha hdb he hpl
theorem pe_mk (c : Mak X.prog X.w X.K X.mg X.base k x C sp dvs) (hr : Room j X.A) (hk : k + 1 ≤ j) (hg : Gl X x) (ha : PA X (e :: es) t) (hdb : (x == ("__debug__" : Str)) = false := by decide)
    (he : starEach (e :: es) X.env = (false, eval e X.env) :: starEach es X.env := by rfl) (hpl : (backTo pos (starEach es X.env)).any (·.1) = false := by rfl) : PE X (.Call (.Name x p) (e :: es) [] pos) (tMake C sp dvs E0 t) :=
  have ⟨_, _, _, _, hm, M, b, d, F⟩ := c.is
  pe_make M F (hr.mono hk) hg hm b d pass0 ha hdb he hpl
theorem pe_mk0 (c : Mak X.prog X.w X.K X.mg X.base k x C sp dvs) (hr : Room j X.A) (hk : k + 1 ≤ j) (hg : Gl X x) (hdb : (x == ("__debug__" : Str)) = false := by decide) : PE X (.Call (.Name x p) [] [] pos) (tMake C sp dvs E0 tNil) :=
  have ⟨_, _, _, _, hm, M, b, d, F⟩ := c.is
  pe_make0 M F (hr.mono hk) hg hm b d pass0 hdb
theorem pe_mt {pl : Sem Bool} (c : Met X.prog X.w X.K X.mg X.base k C m sp) (hr : Room j X.A) (hk : k ≤ j) (he : PE X o ta) (ha : PA X (e :: es) t)
    (hst : starEach (e :: es) X.env = (false, eval e X.env) :: starEach es X.env := by rfl) (hpl : (backTo pos (starEach es X.env)).any (·.1) = false := by rfl)
    (ht : eval (.Call (.Attribute o m apos) (e :: es) [] pos) X.env = (eval o X.env >>= fun ov => standAt apos.atName >>= fun _ => holding [ov] (getMethod ov m pl) >>= fun fp =>
      callWith pos fp.1 fp.2 (backTo pos (starEach (e :: es) X.env)) (backToKw pos (keywordEach [] X.env))) := by rfl) :
    PE X (.Call (.Attribute o m apos) (e :: es) [] pos) (tMeth C m sp [] E0 ta t) :=
  have ⟨_, _, _, hc, hm, b, F⟩ := c.is
  pe_meth (pl := pl) he hc hm F (hr.mono hk) b .nil pass0 ha hst hpl ht
theorem pe_mt0 {pl : Sem Bool} (c : Met X.prog X.w X.K X.mg X.base k C m sp) (hr : Room j X.A) (hk : k ≤ j) (he : PE X o ta)
    (ht : eval (.Call (.Attribute o m apos) [] [] pos) X.env = (eval o X.env >>= fun ov => standAt apos.atName >>= fun _ => holding [ov] (getMethod ov m pl) >>= fun fp =>
      callWith pos fp.1 fp.2 (backTo pos (starEach [] X.env)) (backToKw pos (keywordEach [] X.env))) := by rfl) :
    PE X (.Call (.Attribute o m apos) [] [] pos) (tMeth C m sp [] E0 ta tNil) :=
  have ⟨_, _, _, hc, hm, b, F⟩ := c.is
  pe_meth0 (pl := pl) he hc hm F (hr.mono hk) b .nil pass0 ht
end
section
variable {P : Program} {w : World} {K : PySem.W.Frag} {mg : Str → Option Value} {base : Heap}
theorem cal_of {x : Str} {st : Stmt} {f : Addr} {fd : FuncData} {ps : List Str} {sp : Sp} {k : Nat} (F : FunD K x x (defArgs st) (defBody st) (defScope st) [] [] f fd) (hm : mg x = some (.ref f)) (G : FnOk P w K mg base CX0 k f fd ps sp) (b : Binds K fd ps []) : Cal P w K mg base k x sp :=
  ⟨_, _, _, hm, F.kp, b, G⟩
theorem met_of {m : Str} {C f : Addr} {fd : FuncData} {ps : List Str} {sp : Sp} {k : Nat} (c : Cls K C) (h : Meth K C m f) (G : FnOk P w K mg base CX0 k f fd ps sp) (b : Binds K fd ps []) : Met P w K mg base k C m sp :=
  ⟨_, _, _, c, h, b, G⟩
theorem mak_of {x : Str} {C f : Addr} {fd : FuncData} {ps : List Str} {ds : List Value} {dvs : List V} {sp : Sp} {k : Nat} (hm : mg x = some (.ref C)) (M : Mk K C f) (G : FnOk P w K mg base CX0 k f fd ps sp) (b : Binds K fd ps ds) (d : Vals dvs ds) : Mak P w K mg base k x C sp dvs :=
  ⟨_, _, _, _, hm, M, b, d, G⟩
end
/-! ### built-ins as the module finds them -/
theorem B_sum : bootBuiltins ("sum" : Str) = some (.builtin "sum") := by decide +kernel
theorem B_list : bootBuiltins ("list" : Str) = some (.type "list") := by decide +kernel
theorem B_len : bootBuiltins ("len" : Str) = some (.builtin "len") := by decide +kernel
theorem B_min : bootBuiltins ("min" : Str) = some (.builtin "min") := by decide +kernel
theorem B_max : bootBuiltins ("max" : Str) = some (.builtin "max") := by decide +kernel
theorem B_int : bootBuiltins ("int" : Str) = some (.type "int") := by decide +kernel
theorem B_set : bootBuiltins ("set" : Str) = some (.type "set") := by decide +kernel
theorem B_sorted : bootBuiltins ("sorted" : Str) = some (.builtin "sorted") := by decide +kernel
theorem B_isinstance : bootBuiltins ("isinstance" : Str) = some (.builtin "isinstance") := by decide +kernel
theorem if_t {c : Prop} [Decidable c] {A B : Prop} (hc : c) (h : A) : if decide c = true then A else B := by
  rw [decide_eq_true hc]; exact iteT h
theorem if_f {c : Prop} [Decidable c] {A B : Prop} (hc : ¬ c) (h : B) : if decide c = true then A else B := by
  rw [decide_eq_false hc]; exact iteF h
/-- both ways of a decided test -/
theorem if_d {c : Prop} [Decidable c] {A B : Prop} (h1 : c → A) (h2 : ¬ c → B) : if decide c = true then A else B := by
  by_cases h : c
  · exact if_t h (h1 h)
  · exact if_f h (h2 h)
theorem if_b {b : Bool} {A B : Prop} (h1 : b = true → A) (h2 : b = false → B) : if b = true then A else B := by
  cases b with
  | true => exact iteT (h1 rfl)
  | false => exact iteF (h2 rfl)
end VS
set_option Elab.async false
set_option linter.all false
set_option maxRecDepth 100000
set_option maxHeartbeats 4000000
namespace VS
open PySem PySem.Spec PyProof.Rows L2
/-! ### dealt -/
def shareF (cut whole upto : Int) : Int := if 0 < whole then cut * upto / whole else 0
def dealtStep (cut whole : Int) (st : List Int × Int × Int) (w : Int) : List Int × Int × Int :=
  (st.1 ++ [shareF cut whole (st.2.1 + w) - st.2.2], st.2.1 + w, shareF cut whole (st.2.1 + w))
def dealtF (cut : Int) (ws : List Int) : List Int := (ws.foldl (dealtStep cut ws.sum) ([], 0, 0)).1
def spDealt (tb : Addr) : Sp := fun vs H Q _ => ∃ (cut : Int) (a : Addr) (ws : List Int), vs = [.int cut, .ref a] ∧ H a = some (.lst (ivs ws)) ∧ ws.length ≤ 1000 ∧ (0 ≤ cut ∧ cut < 2 ^ 63) ∧ ws.sum < 2 ^ 63 ∧ NewL tb H (ivs (dealtF cut ws)) Q
theorem deal_len (cut whole : Int) (ws : List Int) : ∀ (st : List Int × Int × Int), (ws.foldl (dealtStep cut whole) st).1.length = st.1.length + ws.length := by
  induction ws with
  | nil => intro st; rfl
  | cons w r ih =>
    intro st
    rw [List.foldl_cons, ih]
    show (st.1 ++ [_]).length + r.length = st.1.length + (r.length + 1)
    rw [List.length_append, List.length_singleton]
    omega
section
variable {P : Program} {w : World} {K : PySem.W.Frag} {mg : Str → Option Value} {base : Heap} {tb : Addr}
theorem sc_dealt : FnScope ["cut", "weights", "whole", "parts", "upto", "given_out", "weight", "share"] ["cut", "weights"] (defScope s_dealt) := ⟨rfl, rfl, rfl, by decide +kernel, rfl, by decide +kernel, by decide +kernel⟩
theorem ok_dealt (T : TX K mg) : Cal P w K mg base 1 "dealt" (spDealt tb) := by
  obtain ⟨fd, F⟩ := T.df_dealt
  refine cal_of F T.g_dealt (ps := ["cut", "weights"]) (F.ok sc_dealt (fun vs H Q E h => ?_) fun cdv A outer s H vs Q E hr h => ?_) (F.bindsN fun _ _ _ _ _ _ us hl => match us, hl with | [_, _], _ => rfl)
  · obtain ⟨cut, a, ws, rfl, _⟩ := h
    rfl
  obtain ⟨cut, a, ws, rfl, ha, hn, hc, hs, q⟩ := h
  refine ⟨_, PSs.nox
    (pss_cons (ps_set (i := 2) sc_dealt.nd rfl (Or.inl rfl) (pe_callB (cr_sum rfl) rfl T.f_sum B_sum (pa_cons (pv 1) pa_nil)))
    (pss_cons (ps_set (i := 3) sc_dealt.nd rfl (Or.inl rfl) (pe_lst pa_nil))
    (pss_cons (ps_set (i := 4) sc_dealt.nd rfl (Or.inl rfl) pe_int)
    (pss_cons (ps_set (i := 5) sc_dealt.nd rfl (Or.inl rfl) pe_int)
    (pss_cons (ps_for PassesOwn.never rfl (pi_list (pv 1)) (pg_name (i := 6) sc_dealt.nd rfl (Or.inl rfl))
      (pss_cons (ps_aug (i := 4) sc_dealt.nd rfl (Or.inl rfl) (pv 6) ip_add)
      (pss_cons (ps_set (i := 7) sc_dealt.nd rfl (Or.inl rfl) (pe_ifExp (pt_cmpR op_gt (pv 2) pe_int (nomark _)) (pe_op op_fdivW (pe_op op_mul (pv 0) (pv 4)) (pv 2)) pe_int))
      (pss_cons (ps_expr (pe_bm PySem.F.plainAttrs_list PySem.F.slot_list_append PySem.F.type_list_append mt_append (pv 3) (pa_cons (pe_op op_sub (pv 7) (pv 5)) pa_nil)))
      (pss_one (ps_set (i := 5) sc_dealt.nd rfl (Or.inl rfl) (pv 7)))))))
    (pss_one (ps_ret (pv 3)))))))), ?_⟩
  refine ⟨_, rfl, a, ws, rfl, SqL.of ha, Nat.zero_le _, fun p hp => ?_⟩
  have np : a ≠ p := ne_of_none ha hp
  refine ⟨_, rfl, a, rfl, ⟨_, SqL.of (by rw [upd_ne np]; exact ha)⟩, for_it (walk_list (xs := ivs ws)) (fun i σ H' => ∃ v s, σ = [some (.int cut), some (.ref a), some (.int ws.sum), some (.ref p), some (.int ((ws.take i).foldl (dealtStep cut ws.sum) ([], 0, 0)).2.1), some (.int ((ws.take i).foldl (dealtStep cut ws.sum) ([], 0, 0)).2.2), v, s] ∧
    Gr tb H H' ∧ H' p = some (.lst (ivs ((ws.take i).foldl (dealtStep cut ws.sum) ([], 0, 0)).1))) ⟨none, none, rfl, Gr.new hp, upd_same⟩ (fun i σ H' _ ⟨_, _, _, g, _⟩ => SqL.of (g.lst ha)) ?_ ?_⟩
  · rintro i y σ H' H2 hi ⟨v, s, rfl, g, hl⟩ ⟨rfl, hy⟩
    obtain ⟨z, hz, rfl⟩ := ivs_of hy
    rw [foldl_snoc hz]
    generalize hst : (ws.take i).foldl (dealtStep cut ws.sum) ([], 0, 0) = st at hl ⊢
    have hlen : (ivs st.1).length < sizeLine := by
      rw [ivs_len, ← hst, deal_len, List.length_take]
      exact small1000 (by show 0 + _ ≤ _; omega)
    have fin : ∀ s : Int, shareF cut ws.sum (st.2.1 + z) = s → dealtStep cut ws.sum st z = (st.1 ++ [s - st.2.2], st.2.1 + z, s) := by
      rintro s rfl
      rfl
    refine ⟨_, rfl, _, rfl, _, _, rfl, rfl, _, rfl, _, _, rfl, rfl, _, rfl, if_d (fun hw => ?_) (fun hw => ?_)⟩
    · refine ⟨_, rfl, _, rfl, _, _, rfl, rfl, .inl ⟨by omega, by omega⟩, _, rfl, _, _, rfl, rfl, wide_div (b := 63) hw (by omega) (by decide) (by decide), ?_⟩
      refine ⟨_, rfl, .inl ⟨rfl, _, SqL.of hl⟩, _, rfl, _, rfl, _, _, rfl, rfl, p, _, _, rfl, rfl, hl, hlen, _, rfl, ?_⟩
      rw [fin _ (if_pos hw)]
      exact ⟨_, _, rfl, g.putL hp hl, by rw [upd_same, ivs_app]; rfl⟩
    · refine ⟨_, rfl, .inl ⟨rfl, _, SqL.of hl⟩, _, rfl, _, rfl, _, _, rfl, rfl, p, _, _, rfl, rfl, hl, hlen, _, rfl, ?_⟩
      rw [fin _ (if_neg hw)]
      exact ⟨_, _, rfl, g.putL hp hl, by rw [upd_same, ivs_app]; rfl⟩
  · rintro σ H' ⟨v, s, rfl, g, hl⟩
    rw [ivs_len, List.take_length] at hl ⊢
    exact ⟨_, rfl, q p H' g hp hl⟩
end
end VS
set_option Elab.async false
set_option linter.all false
set_option maxRecDepth 100000
set_option maxHeartbeats 1000000
namespace VS
open PySem PySem.Spec PyProof.Rows L2
/-! ### the data -/
structure LineD where
  kind : Int
  price : Int
  many : Int
  special : Option Int
structure BasketD where
  lines : List LineD
  carriage : Int
  member : Bool
structure StandD where
  owners : List Int
  prices : List Int
  carriage : Int
  marked : List Bool
structure MarksD where
  kind : Option Int
  needs : Int
  most : Option Int
  member : Bool
  once : Bool
  lone : Bool
inductive SortD where
  | off (amount : Int)
  | share (n : Int) (byLine : Bool)
  | cheapest (many : Int)
  | bundle (many price : Int)
  | carriage
structure VouD where
  marks : MarksD
  sort : SortD
structure RuleD where
  word : Str
  one : Int
  other : Int
structure TillD where
  parents : List (Option Int)
  vouchers : List VouD
  rules : List RuleD
  back : Str
instance : Inhabited LineD := ⟨⟨0, 0, 0, none⟩⟩
instance : Inhabited VouD := ⟨⟨⟨none, 0, none, false, false, false⟩, .carriage⟩⟩
def optV : Option Int → V
  | none => .non
  | some i => .int i
/-! ### how it stands in the heap -/
def LineAt (K : PySem.W.Frag) (H : Hp) (v : V) (L : LineD) : Prop := ∃ a dx, v = .ref a ∧ H a = some (.ins (CLine K) dx (aLine (.int L.kind) (.int L.price) (.int L.many) (optV L.special)))
def BasketAt (K : PySem.W.Frag) (H : Hp) (v : V) (B : BasketD) : Prop := ∃ a dx l vs, v = .ref a ∧ H a = some (.ins (CBasket K) dx (aBasket (.ref l) (.int B.carriage) (.bl B.member))) ∧ H l = some (.lst vs) ∧ Paired (LineAt K H) vs B.lines
def StandAt (K : PySem.W.Frag) (H : Hp) (v : V) (S : StandD) : Prop := ∃ a dx o p m, v = .ref a ∧ H a = some (.ins (CStanding K) dx (aStanding (.ref o) (.ref p) (.int S.carriage) (.ref m))) ∧
  H o = some (.lst (ivs S.owners)) ∧ H p = some (.lst (ivs S.prices)) ∧ H m = some (.lst (S.marked.map V.bl))
def MarksAt (K : PySem.W.Frag) (H : Hp) (v : V) (M : MarksD) : Prop := ∃ a dx, v = .ref a ∧ H a = some (.ins (CMarks K) dx (aMarks (optV M.kind) (.int M.needs) (optV M.most) (.bl M.member) (.bl M.once) (.bl M.lone)))
def sortC (K : PySem.W.Frag) : SortD → Addr
  | .off _ => COff K
  | .share _ _ => CShare K
  | .cheapest _ => CCheapest K
  | .bundle _ _ => CBundle K
  | .carriage => CCarriage K
def sortA (m : V) : SortD → List (Str × V)
  | .off n => aOff m (.int n)
  | .share n b => aShare m (.int n) (.bl b)
  | .cheapest n => aCheapest m (.int n)
  | .bundle n p => aBundle m (.int n) (.int p)
  | .carriage => aCarriage m
def VouAt (K : PySem.W.Frag) (H : Hp) (v : V) (u : VouD) : Prop := ∃ a dx m, v = .ref a ∧ H a = some (.ins (sortC K u.sort) dx (sortA m u.sort)) ∧ MarksAt K H m u.marks
def RuleAt (H : Hp) (v : V) (r : RuleD) : Prop := ∃ a, v = .ref a ∧ H a = some (.tup [.str r.word, .int r.one, .int r.other])
def TillAt (K : PySem.W.Frag) (H : Hp) (v : V) (T : TillD) : Prop := ∃ a dx p u r vs rs, v = .ref a ∧ H a = some (.ins (CTill K) dx (aTill (.ref p) (.ref u) (.ref r) (.str T.back))) ∧
  H p = some (.lst (T.parents.map optV)) ∧ (H u = some (.lst vs) ∧ Paired (VouAt K H) vs T.vouchers) ∧ H r = some (.lst rs) ∧ Paired (RuleAt H) rs T.rules
section
variable {K : PySem.W.Frag} {tb : Addr} {H H' : Hp} {v : V}
theorem LineAt.gr (g : Gr tb H H') {L : LineD} : LineAt K H v L → LineAt K H' v L := fun ⟨a, dx, e, h⟩ => ⟨a, dx, e, g.ins h⟩
theorem BasketAt.gr (g : Gr tb H H') {B : BasketD} : BasketAt K H v B → BasketAt K H' v B := fun ⟨a, dx, l, vs, e, h, hl, hp⟩ => ⟨a, dx, l, vs, e, g.ins h, g.lst hl, Paired.mapP hp fun _ _ => LineAt.gr g⟩
theorem StandAt.gr (g : Gr tb H H') {S : StandD} : StandAt K H v S → StandAt K H' v S := fun ⟨a, dx, o, p, m, e, h, h1, h2, h3⟩ => ⟨a, dx, o, p, m, e, g.ins h, g.lst h1, g.lst h2, g.lst h3⟩
theorem MarksAt.gr (g : Gr tb H H') {M : MarksD} : MarksAt K H v M → MarksAt K H' v M := fun ⟨a, dx, e, h⟩ => ⟨a, dx, e, g.ins h⟩
theorem VouAt.gr (g : Gr tb H H') {u : VouD} : VouAt K H v u → VouAt K H' v u := fun ⟨a, dx, m, e, h, hm⟩ => ⟨a, dx, m, e, g.ins h, hm.gr g⟩
theorem RuleAt.gr (g : Gr tb H H') {r : RuleD} : RuleAt H v r → RuleAt H' v r := fun ⟨a, e, h⟩ => ⟨a, e, g.tup h⟩
theorem TillAt.gr (g : Gr tb H H') {T : TillD} : TillAt K H v T → TillAt K H' v T := fun ⟨a, dx, p, u, r, vs, rs, e, h, h1, ⟨h2, h3⟩, h4, h5⟩ =>
  ⟨a, dx, p, u, r, vs, rs, e, g.ins h, g.lst h1, ⟨g.lst h2, Paired.mapP h3 fun _ _ => VouAt.gr g⟩, g.lst h4, Paired.mapP h5 fun _ _ => RuleAt.gr g⟩
end
/-! ### items by their place -/
def gi (xs : List Int) (i : Int) : Int := xs.getD i.toNat 0
section
variable {α : Type}
theorem at_i {xs : List α} {i : Int} (h0 : 0 ≤ i) (h1 : i < xs.length) (d : α) : atI xs i = some (xs.getD i.toNat d) := by
  have h2 : i.toNat < xs.length := by omega
  have h3 : i = ((i.toNat : Nat) : Int) := by omega
  rw [h3]
  have h4 : xs[i.toNat]? = some (xs.getD i.toNat d) := by rw [List.getD_eq_getElem?_getD, List.getElem?_eq_getElem h2]; rfl
  rw [Int.toNat_natCast]
  exact atI_nat h4
theorem get_d {xs : List α} {n : Nat} (h : n < xs.length) (d : α) : xs[n]? = some (xs.getD n d) := by rw [List.getD_eq_getElem?_getD, List.getElem?_eq_getElem h]; rfl
theorem getD_of {xs : List α} {n : Nat} {x d : α} (h : xs[n]? = some x) : xs.getD n d = x := by rw [List.getD_eq_getElem?_getD, h]; rfl
end
theorem at_ivs {xs : List Int} {i : Int} (h0 : 0 ≤ i) (h1 : i < xs.length) : atI (ivs xs) i = some (.int (gi xs i)) := by
  have h2 : i.toNat < xs.length := by omega
  have h3 : i = ((i.toNat : Nat) : Int) := by omega
  have h4 : xs[i.toNat]? = some (gi xs i) := get_d h2 0
  have h5 := atI_nat (ivs_get h4)
  rw [← h3] at h5
  exact h5
theorem at_paired {β : Type} {F : V → β → Prop} {vs : List V} {bs : List β} (h : Paired F vs bs) {i : Int} (h0 : 0 ≤ i) (h1 : i < bs.length) (d : β) : ∃ v, atI vs i = some v ∧ F v (bs.getD i.toNat d) := by
  have h2 : i.toNat < bs.length := by omega
  obtain ⟨v, e, f⟩ := paired_get' h (get_d h2 d)
  have h3 : i = ((i.toNat : Nat) : Int) := by omega
  exact ⟨v, by rw [h3]; exact atI_nat e, f⟩
theorem gi_mem {xs : List Int} {i : Int} (h0 : 0 ≤ i) (h1 : i < xs.length) : gi xs i ∈ xs := List.mem_of_getElem? (get_d (by omega) 0)
/-! ### what is sound -/
def ParOk (ps : List (Option Int)) : Prop := ∀ (i : Nat) (k : Int), ps[i]? = some (some k) → 0 ≤ k ∧ k < i
def Coin (p : Int) : Prop := 0 ≤ p ∧ p ≤ 1000000000000
structure LineOk (n : Nat) (L : LineD) : Prop where
  kind : 0 ≤ L.kind ∧ L.kind < n
  price : Coin L.price
  many : 0 ≤ L.many ∧ L.many ≤ 60
  special : ∀ s, L.special = some s → Coin s
def manySum (ls : List LineD) : Int := (ls.map LineD.many).sum
structure BasketOk (n : Nat) (B : BasketD) : Prop where
  lines : ∀ L ∈ B.lines, LineOk n L
  len : B.lines.length ≤ 60
  many : manySum B.lines ≤ 60
structure StandOk (n : Nat) (S : StandD) : Prop where
  len : S.owners.length = S.prices.length
  most : S.prices.length ≤ 60
  own : ∀ o ∈ S.owners, 0 ≤ o ∧ o < n
  coin : ∀ p ∈ S.prices, Coin p
  mark : S.marked.length = n
def SortOk : SortD → Prop
  | .off n => 0 ≤ n
  | .share n _ => 0 ≤ n ∧ n ≤ 1000
  | .cheapest n => 2 ≤ n ∧ n ≤ 100
  | .bundle n p => 2 ≤ n ∧ n ≤ 100 ∧ 0 ≤ p
  | .carriage => True
structure VouOk (u : VouD) : Prop where
  most : ∀ m, u.marks.most = some m → 0 ≤ m
  sort : SortOk u.sort
structure TillOk (T : TillD) : Prop where
  par : ParOk T.parents
  vou : ∀ u ∈ T.vouchers, VouOk u
  rul : ∀ r ∈ T.rules, (0 ≤ r.one ∧ r.one < T.vouchers.length) ∧ 0 ≤ r.other ∧ r.other < T.vouchers.length
def OrdOk (T : TillD) (o : List Int) : Prop := ∀ v ∈ o, 0 ≤ v ∧ v < T.vouchers.length
/-! ### comprehensions -/
section
variable {J : It} {n : Nat} {G : Hp → Prop} {Y : Nat → Hp → V → Hp → Prop} {tb : Addr} {g : TG} {te : TE} {vs : List Nat} {σ : L2.St} {H1 : Hp} {D : Addr} {Qd : Hp → Prop}
/-- no test; the i-th element is ys i -/
theorem lc_gr (w : Walk J n G Y) (ys : List V) (hn : ys.length = n) (hz : n ≤ 100000) (hD : H1 D = none) (hG : ∀ H, Gr tb H1 H → G H)
    (hs : ∀ i x H H' (y : V) (N : V → Hp → Prop), i < n → ys[i]? = some y → Gr tb H1 H → Y i H x H' → (∀ H4, Gr tb H H4 → N y H4) → g x (wipe σ vs) H' fun σ2 H2 => wipe σ2 vs = wipe σ vs ∧ te σ2 H2 N)
    (hd : ∀ H, Gr tb H1 H → H D = some (.lst ys) → Qd H) :
    ∃ W : Nat → Nat → Hp → Prop, (∃ m, W 0 m (upd H1 D (.lst []))) ∧ ∀ i m H, W i m H →
      (J.stop i H ∧ Qd H) ∨ (J.go i H ∧ ∃ Nx : Hp → Prop, (∀ H', Nx H' → ∃ m', m' < m ∧ W (i + 1) m' H') ∧ ∀ x H', J.yld i H x H' → g x (wipe σ vs) H' fun σ2 H2 => wipe σ2 vs = wipe σ vs ∧ tYes σ2 H2 fun b H3 =>
        if b = true then te σ2 H3 fun y H4 => ∃ acc, H4 D = some (.lst acc) ∧ acc.length < sizeLine ∧ Nx (upd H4 D (.lst (acc ++ [y]))) else Nx H3) := by
  refine lc_it w (fun i H => Gr tb H1 H ∧ H D = some (.lst (ys.take i))) ⟨Gr.new hD, upd_same⟩ (fun i H _ p => hG H p.1) (fun i x H H' hi p y => ?_) fun H p => hd H p.1 ?_
  · have hg : ys[i]? = some ys[i] := List.getElem?_eq_getElem (by omega)
    refine hs i x H H' ys[i] _ hi hg p.1 y fun H4 g4 => ⟨_, g4.lst p.2, ?_, Gr.putL (GrB.trans p.1 g4) hD (g4.lst p.2), by rw [upd_same, take_snoc hg]⟩
    rw [List.length_take]
    exact Nat.lt_of_le_of_lt (Nat.le_trans (Nat.min_le_left _ _) (Nat.le_trans (Nat.le_of_lt hi) hz)) (by decide)
  · have e := p.2
    rw [List.take_of_length_le (Nat.le_of_eq hn)] at e
    exact e
/-- with a test: zs i is what the first i turns have kept -/
theorem lc_if {tt : TT} (w : Walk J n G Y) (zs : Nat → List V) (h0 : zs 0 = []) (hz : ∀ i, (zs i).length ≤ 100000) (hD : H1 D = none) (hG : ∀ H, Gr tb H1 H → G H)
    (hs : ∀ i x H H' (N : V → Hp → Prop) (N' : Hp → Prop), i < n → Gr tb H1 H → Y i H x H' → (∀ y H4, Gr tb H H4 → zs (i + 1) = zs i ++ [y] → N y H4) → (∀ H4, Gr tb H H4 → zs (i + 1) = zs i → N' H4) →
      g x (wipe σ vs) H' fun σ2 H2 => wipe σ2 vs = wipe σ vs ∧ tt σ2 H2 fun b H3 => if b = true then te σ2 H3 N else N' H3)
    (hd : ∀ H, Gr tb H1 H → H D = some (.lst (zs n)) → Qd H) :
    ∃ W : Nat → Nat → Hp → Prop, (∃ m, W 0 m (upd H1 D (.lst []))) ∧ ∀ i m H, W i m H →
      (J.stop i H ∧ Qd H) ∨ (J.go i H ∧ ∃ Nx : Hp → Prop, (∀ H', Nx H' → ∃ m', m' < m ∧ W (i + 1) m' H') ∧ ∀ x H', J.yld i H x H' → g x (wipe σ vs) H' fun σ2 H2 => wipe σ2 vs = wipe σ vs ∧ tt σ2 H2 fun b H3 =>
        if b = true then te σ2 H3 fun y H4 => ∃ acc, H4 D = some (.lst acc) ∧ acc.length < sizeLine ∧ Nx (upd H4 D (.lst (acc ++ [y]))) else Nx H3) := by
  refine lc_it w (fun i H => Gr tb H1 H ∧ H D = some (.lst (zs i))) ⟨Gr.new hD, by rw [h0]; exact upd_same⟩ (fun i H _ p => hG H p.1) (fun i x H H' hi p y => ?_) fun H p => hd H p.1 p.2
  refine hs i x H H' _ _ hi p.1 y (fun y H4 g4 e => ⟨_, g4.lst p.2, Nat.lt_of_le_of_lt (hz i) (by decide), Gr.putL (GrB.trans p.1 g4) hD (g4.lst p.2), by rw [upd_same, e]⟩) fun H4 g4 e => ⟨p.1.trans g4, by rw [e]; exact g4.lst p.2⟩
/-- no test; the elements are new objects that tell bs -/
theorem lc_rel {β : Type} (F : Hp → V → β → Prop) (w : Walk J n G Y) (bs : List β) (hn : bs.length = n) (hz : n ≤ 100000) (hD : H1 D = none) (hG : ∀ H, Gr tb H1 H → G H)
    (hm : ∀ H H' v b, Gr tb H H' → F H v b → F H' v b) (hp : ∀ H xs ys v b, H D = some (.lst xs) → F H v b → F (upd H D (.lst ys)) v b)
    (hs : ∀ i x H H' (b : β) (N : V → Hp → Prop), i < n → bs[i]? = some b → Gr tb H1 H → Y i H x H' → (∀ y H4, Gr tb H H4 → F H4 y b → N y H4) → g x (wipe σ vs) H' fun σ2 H2 => wipe σ2 vs = wipe σ vs ∧ te σ2 H2 N)
    (hd : ∀ H ys, Gr tb H1 H → H D = some (.lst ys) → Paired (F H) ys bs → Qd H) :
    ∃ W : Nat → Nat → Hp → Prop, (∃ m, W 0 m (upd H1 D (.lst []))) ∧ ∀ i m H, W i m H →
      (J.stop i H ∧ Qd H) ∨ (J.go i H ∧ ∃ Nx : Hp → Prop, (∀ H', Nx H' → ∃ m', m' < m ∧ W (i + 1) m' H') ∧ ∀ x H', J.yld i H x H' → g x (wipe σ vs) H' fun σ2 H2 => wipe σ2 vs = wipe σ vs ∧ tYes σ2 H2 fun b H3 =>
        if b = true then te σ2 H3 fun y H4 => ∃ acc, H4 D = some (.lst acc) ∧ acc.length < sizeLine ∧ Nx (upd H4 D (.lst (acc ++ [y]))) else Nx H3) := by
  refine lc_it w (fun i H => Gr tb H1 H ∧ ∃ ys, H D = some (.lst ys) ∧ Paired (F H) ys (bs.take i)) ⟨Gr.new hD, [], upd_same, .nil⟩ (fun i H _ p => hG H p.1) (fun i x H H' hi p y => ?_) fun H p => ?_
  · obtain ⟨p1, ys, p2, p3⟩ := p
    have hg : bs[i]? = some bs[i] := List.getElem?_eq_getElem (by omega)
    refine hs i x H H' bs[i] _ hi hg p1 y fun y H4 g4 f => ⟨ys, g4.lst p2, ?_, Gr.putL (GrB.trans p1 g4) hD (g4.lst p2), _, upd_same, ?_⟩
    · rw [p3.length, List.length_take]
      exact Nat.lt_of_le_of_lt (Nat.le_trans (Nat.min_le_left _ _) (Nat.le_trans (Nat.le_of_lt hi) hz)) (by decide)
    · rw [take_snoc hg]
      exact Paired.snoc (Paired.mapP p3 fun v b q => hp _ _ _ _ _ (g4.lst p2) (hm _ _ _ _ g4 q)) (hp _ _ _ _ _ (g4.lst p2) f)
  · obtain ⟨p1, ys, p2, p3⟩ := p
    rw [List.take_of_length_le (Nat.le_of_eq hn)] at p3
    exact hd H ys p1 p2 p3
end
end VS
set_option Elab.async false
set_option linter.all false
set_option maxRecDepth 100000
set_option maxHeartbeats 4000000
namespace VS
open PySem PySem.Spec PyProof.Rows L2
section
variable {P : Program} {w : World} {K : PySem.W.Frag} {mg : Str → Option Value} {base : Heap} {tb : Addr}
/-- a field is stored -/
theorem st_fld {H : Hp} {p C dx : Addr} {fs gs : List (Str × V)} {f : Str} {y : V} {N : Hp → Prop} (h : H p = some (.ins C dx fs)) (c : Cls K C) (n : NoAttr K C f) (l : fs.length < 1000) (e : putF f y fs = gs) (q : ∀ H', GrB tb [p] H H' → H' p = some (.ins C dx gs) → N H') :
    ∃ a C' dx' fs', V.ref p = .ref a ∧ H a = some (.ins C' dx' fs') ∧ Cls K C' ∧ NoAttr K C' f ∧ fs'.length < 1000 ∧ N (upd H a (.ins C' dx' (putF f y fs'))) :=
  ⟨p, C, dx, fs, rfl, h, c, n, l, q _ (GrB.put h (fun _ z => nomatch z) fun _ z => nomatch z) (by rw [upd_same, e])⟩
/-! ### Line -/
def spLine (tb : Addr) (K : PySem.W.Frag) : Sp := fun vs H Q _ => ∃ p dx k r m s, vs = [.ref p, k, r, m, s] ∧ H p = some (.ins (CLine K) dx []) ∧ ∀ H', GrB tb [p] H H' → H' p = some (.ins (CLine K) dx (aLine k r m s)) → Q .non H'
theorem sc_Line_init : FnScope ["self", "kind", "price", "many", "special"] ["self", "kind", "price", "many", "special"] (defScope s_Line_init) := ⟨rfl, rfl, rfl, by decide +kernel, rfl, by decide +kernel, by decide +kernel⟩
theorem ok_Line (T : TX K mg) : Mak P w K mg base 1 "Line" (CLine K) (spLine tb K) [] := by
  obtain ⟨fd, F⟩ := T.df_Line_init
  obtain ⟨ds, hd, hb⟩ := F.binds1 (ps := ["self", "kind", "price", "many", "special"]) 5 1 (by simp) rfl fun T kV doc pm an cdv ct us its hu hi => match us, hu, its, hi with | [_, _, _, _, _], _, [_], _ => ⟨_, rfl, rfl⟩
  refine mak_of T.g_Line T.k_Line (F.ok sc_Line_init (fun vs H Q E h => ?_) fun cdv A outer s H vs Q E hr h => ?_) hb hd
  · obtain ⟨p, dx, k, r, m, s, rfl, _⟩ := h
    rfl
  obtain ⟨p, dx, k, r, m, s, rfl, hp, q⟩ := h
  refine ⟨_, PSs.nox
    (pss_cons (ps_fld (pv 0) (pv 1) rfl)
    (pss_cons (ps_fld (pv 0) (pv 2) rfl)
    (pss_cons (ps_fld (pv 0) (pv 3) rfl)
    (pss_one (ps_fld (pv 0) (pv 4) rfl))))), ?_⟩
  refine ⟨_, rfl, _, rfl, st_fld (tb := tb) hp T.c_Line T.n_Line_kind (by decide) aLine_i0 fun H1 g1 h1 => ?_⟩
  refine ⟨_, rfl, _, rfl, st_fld (tb := tb) h1 T.c_Line T.n_Line_price (by simp) aLine_i1 fun H2 g2 h2 => ?_⟩
  refine ⟨_, rfl, _, rfl, st_fld (tb := tb) h2 T.c_Line T.n_Line_many (by simp) aLine_i2 fun H3 g3 h3 => ?_⟩
  refine ⟨_, rfl, _, rfl, st_fld (tb := tb) h3 T.c_Line T.n_Line_special (by simp) aLine_i3 fun H4 g4 h4 => ?_⟩
  exact q H4 (((g1.trans g2).trans g3).trans g4) h4
/-! ### Basket -/
def spBasket (tb : Addr) (K : PySem.W.Frag) : Sp := fun vs H Q _ => ∃ p dx l xs c m, vs = [.ref p, .ref l, c, m] ∧ H p = some (.ins (CBasket K) dx []) ∧ H l = some (.lst xs) ∧
  ∀ H' l', GrB tb [p] H H' → H l' = none → H' l' = some (.lst xs) → H' p = some (.ins (CBasket K) dx (aBasket (.ref l') c m)) → Q .non H'
theorem sc_Basket_init : FnScope ["self", "lines", "carriage", "member"] ["self", "lines", "carriage", "member"] (defScope s_Basket_init) := ⟨rfl, rfl, rfl, by decide +kernel, rfl, by decide +kernel, by decide +kernel⟩
theorem ok_Basket (T : TX K mg) : Mak P w K mg base 1 "Basket" (CBasket K) (spBasket tb K) [] := by
  obtain ⟨fd, F⟩ := T.df_Basket_init
  obtain ⟨ds, hd, hb⟩ := F.binds1 (ps := ["self", "lines", "carriage", "member"]) 4 2 (by simp) rfl fun T kV doc pm an cdv ct us its hu hi => match us, hu, its, hi with | [_, _, _, _], _, [_, _], _ => ⟨_, rfl, rfl⟩
  refine mak_of T.g_Basket T.k_Basket (F.ok sc_Basket_init (fun vs H Q E h => ?_) fun cdv A outer s H vs Q E hr h => ?_) hb hd
  · obtain ⟨p, dx, l, xs, c, m, rfl, _⟩ := h
    rfl
  obtain ⟨p, dx, l, xs, c, m, rfl, hp, hl, q⟩ := h
  refine ⟨_, PSs.nox
    (pss_cons (ps_fld (pv 0) (pe_callTy call_list_of rfl T.f_list B_list (pa_cons (pv 1) pa_nil)) rfl)
    (pss_cons (ps_fld (pv 0) (pv 2) rfl)
    (pss_one (ps_fld (pv 0) (pv 3) rfl)))), ?_⟩
  refine ⟨_, rfl, l, xs, rfl, .inl (SqL.of hl), fun l' hl' => ?_⟩
  have npl : p ≠ l' := ne_of_none hp hl'
  have g0 : Gr tb H (upd H l' (.lst xs)) := Gr.new hl'
  refine ⟨_, rfl, st_fld (tb := tb) (g0.ins hp) T.c_Basket T.n_Basket_lines (by decide) aBasket_i0 fun H1 g1 h1 => ?_⟩
  refine ⟨_, rfl, _, rfl, st_fld (tb := tb) h1 T.c_Basket T.n_Basket_carriage (by simp) aBasket_i1 fun H2 g2 h2 => ?_⟩
  refine ⟨_, rfl, _, rfl, st_fld (tb := tb) h2 T.c_Basket T.n_Basket_member (by simp) aBasket_i2 fun H3 g3 h3 => ?_⟩
  have g := (g1.trans g2).trans g3
  exact q H3 l' (g0.of.trans g) hl' (g.lst upd_same (by simpa using Ne.symm npl)) h3
/-! ### piece_price -/
def pieceP (L : LineD) (member : Bool) : Int := if member then L.special.getD L.price else L.price
def spPiece (K : PySem.W.Frag) : Sp := fun vs H Q _ => ∃ v L b, vs = [v, .bl b] ∧ LineAt K H v L ∧ Q (.int (pieceP L b)) H
theorem sc_piece_price : FnScope ["line", "member"] ["line", "member"] (defScope s_piece_price) := ⟨rfl, rfl, rfl, by decide +kernel, rfl, by decide +kernel, by decide +kernel⟩
theorem ok_piece_price (T : TX K mg) : Cal P w K mg base 1 "piece_price" (spPiece K) := by
  obtain ⟨fd, F⟩ := T.df_piece_price
  refine cal_of F T.g_piece_price (ps := ["line", "member"]) (F.ok sc_piece_price (fun vs H Q E h => ?_) fun cdv A outer s H vs Q E hr h => ?_) (F.bindsN fun _ _ _ _ _ _ us hl => match us, hl with | [_, _], _ => rfl)
  · obtain ⟨v, L, b, rfl, _⟩ := h
    rfl
  obtain ⟨_, ⟨k, r, m, sp⟩, b, rfl, ⟨a, dx, rfl, ha⟩, q⟩ := h
  refine ⟨_, PSs.nox
    (pss_cons (ps_if (PW.pt (pw_and (pt_val (pv 1)) (pw_and1 (pt_cmp (pc_notN (pe_fld (pv 0) rfl))))))
      (pss_one (ps_ret (pe_fld (pv 0) rfl)))
      pss_nil)
    (pss_one (ps_ret (pe_fld (pv 0) rfl)))), ?_⟩
  refine ⟨_, rfl, b, rfl, ?_⟩
  cases b with
  | false => exact iteF (iteF ⟨_, rfl, T.r_Line_price ha q⟩)
  | true =>
    refine iteT ⟨_, rfl, T.r_Line_special ha ?_⟩
    cases sp with
    | none => exact ⟨_, rfl, iteF ⟨_, rfl, T.r_Line_price ha q⟩⟩
    | some z => exact ⟨_, rfl, iteT ⟨_, rfl, T.r_Line_special ha q⟩⟩
/-! ### under -/
def underF (ps : List (Option Int)) (other : Int) : Nat → Bool
  | k => if (k : Int) = other then true else match ps[k]? with
    | some (some p) => if h : p.toNat < k then underF ps other p.toNat else false
    | _ => false
termination_by k => k
theorem underF_eq (ps : List (Option Int)) (other : Int) (k : Nat) : underF ps other k = if (k : Int) = other then true else match ps[k]? with
    | some (some p) => if p.toNat < k then underF ps other p.toNat else false
    | _ => false := by
  rw [underF]
  split
  · rfl
  · split
    · split <;> rfl
    · rfl
def spUnder (K : PySem.W.Frag) : Sp := fun vs H Q _ => ∃ a ps one other, vs = [.ref a, .int one, .int other] ∧ H a = some (.lst (ps.map optV)) ∧ ParOk ps ∧ 0 ≤ one ∧ one < ps.length ∧ Q (.bl (underF ps other one.toNat)) H
theorem sc_under : FnScope ["parents", "one", "other"] ["parents", "one", "other"] (defScope s_under) := ⟨rfl, rfl, rfl, by decide +kernel, rfl, by decide +kernel, by decide +kernel⟩
theorem ok_under (T : TX K mg) : Cal P w K mg base 1 "under" (spUnder K) := by
  obtain ⟨fd, F⟩ := T.df_under
  refine cal_of F T.g_under (ps := ["parents", "one", "other"]) (F.ok sc_under (fun vs H Q E h => ?_) fun cdv A outer s H vs Q E hr h => ?_) (F.bindsN fun _ _ _ _ _ _ us hl => match us, hl with | [_, _, _], _ => rfl)
  · obtain ⟨a, ps, one, other, rfl, _⟩ := h
    rfl
  obtain ⟨a, ps, one, other, rfl, ha, po, h0, h1, q⟩ := h
  refine ⟨_, PSs.nox
    (pss_cons (ps_while PassesOwn.never (PW.pt (pw_and (pt_cmp (pc_notN (pv 1))) (pw_and1 (pt_cmpR op_ne (pv 1) (pv 2) (nomark _)))))
      (pss_one (ps_set (i := 1) sc_under.nd rfl (Or.inl rfl) (pe_ix ix_list (pv 0) (pv 1) (fun _ _ => rfl)))))
    (pss_one (ps_ret (pe_cmp (pc_notN (pv 1)))))), ?_⟩
  refine ⟨fun m σ H' => H' = H ∧ ∃ o : Option Int, σ = [some (.ref a), some (optV o), some (.int other)] ∧ match o with
      | none => underF ps other one.toNat = false
      | some k => m = k.toNat + 1 ∧ (0 ≤ k ∧ k < ps.length) ∧ underF ps other one.toNat = underF ps other k.toNat, ⟨one.toNat + 1, rfl, some one, rfl, rfl, ⟨h0, h1⟩, rfl⟩, ?_⟩
  rintro m σ H' ⟨rfl, o, rfl, ho⟩
  cases o with
  | none =>
    refine ⟨_, rfl, _, rfl, iteF (iteF ⟨_, rfl, ?_⟩)⟩
    rw [ho] at q
    exact q
  | some k =>
    obtain ⟨rfl, ⟨k0, k1⟩, hu⟩ := ho
    refine ⟨_, rfl, _, rfl, iteT ⟨_, rfl, _, rfl, rfl, _, rfl, ?_⟩⟩
    have kn : ((k.toNat : Nat) : Int) = k := by omega
    have hk : k.toNat < ps.length := by omega
    by_cases e : k = other
    · have ed : decide (optV (some k) = V.int other) = true := decide_eq_true (by rw [e]; rfl)
      rw [ed]
      refine iteF ⟨_, rfl, ?_⟩
      rw [hu, underF_eq ps other k.toNat, if_pos (by rw [kn]; exact e)] at q
      exact q
    · have ed : decide (optV (some k) = V.int other) = false := decide_eq_false (fun z => e (V.int.inj z))
      rw [ed]
      refine iteT ⟨_, fun _ _ z => z, _, rfl, _, rfl, a, _, k, _, rfl, rfl, SqL.of ha, at_i (by omega) (by rw [List.length_map]; omega) .non, ?_⟩
      have eg : (ps.map optV).getD k.toNat .non = optV ps[k.toNat] := getD_of (by rw [List.getElem?_map, List.getElem?_eq_getElem hk]; rfl)
      show ∃ m', m' < _ ∧ H' = H' ∧ ∃ o, [some (V.ref a), some ((ps.map optV).getD k.toNat .non), some (V.int other)] = [some (.ref a), some (optV o), some (.int other)] ∧ _
      rw [eg]
      have hg : ps[k.toNat]? = some ps[k.toNat] := List.getElem?_eq_getElem hk
      rw [underF_eq ps other k.toNat, if_neg (by rw [kn]; exact e), hg] at hu
      cases hp : ps[k.toNat] with
      | none =>
        rw [hp] at hu
        exact ⟨0, Nat.succ_pos _, rfl, none, rfl, hu⟩
      | some p =>
        rw [hp] at hu hg
        obtain ⟨p0, p1⟩ := po _ _ hg
        have hu : underF ps other one.toNat = if p.toNat < k.toNat then underF ps other p.toNat else false := hu
        rw [if_pos (by omega)] at hu
        exact ⟨p.toNat + 1, by omega, rfl, some p, rfl, rfl, ⟨p0, by omega⟩, hu⟩
end
end VS
set_option Elab.async false
set_option linter.all false
set_option maxRecDepth 100000
set_option maxHeartbeats 4000000
namespace VS
open PySem PySem.Spec PyProof.Rows L2
section
variable {tb : Addr} {S : List Addr} {H H' H0 H1 : Hp} {x p : Addr} {xs ys : List V} {o : HO}
theorem GrB.putL (g : GrB tb S H H') (n : H x = none) (h : H' x = some (.lst xs)) : GrB tb S H (upd H' x (.lst ys)) := by
  have k : GrB tb [x] H' (upd H' x (.lst ys)) := GrB.put h (fun _ z => nomatch z) fun _ z => nomatch z
  exact ⟨fun b o hb hS t => k.keep b o (g.keep b o hb hS t) (by simpa using ne_of_none hb n) t, fun b hb => g.free b (k.free b hb), fun t => k.tab (g.tab t)⟩
theorem GrB.add (g : GrB tb S H H') (h : H' p = none) : GrB tb S H (upd H' p o) := g.trans (Gr.new h).of
end
/-! ### Standing -/
def stStep (member : Bool) (st : List Int × List Int × Int) (L : LineD) : List Int × List Int × Int :=
  (st.1 ++ List.replicate L.many.toNat st.2.2, st.2.1 ++ List.replicate L.many.toNat (pieceP L member), st.2.2 + 1)
def stFold (B : BasketD) : List Int × List Int × Int := B.lines.foldl (stStep B.member) ([], [], 0)
def stand0 (B : BasketD) : StandD := ⟨(stFold B).1, (stFold B).2.1, B.carriage, B.lines.map fun _ => false⟩
structure SmallB (B : BasketD) : Prop where
  len : B.lines.length ≤ 60
  many : ∀ L ∈ B.lines, 0 ≤ L.many ∧ L.many ≤ 60
theorem stStep_len (m : Bool) : ∀ (ls : List LineD) (st : List Int × List Int × Int), (∀ L ∈ ls, 0 ≤ L.many ∧ L.many ≤ 60) → (ls.foldl (stStep m) st).1.length ≤ st.1.length + 60 * ls.length ∧ (ls.foldl (stStep m) st).2.1.length ≤ st.2.1.length + 60 * ls.length ∧ (ls.foldl (stStep m) st).2.2 = st.2.2 + ls.length
  | [], st, _ => by simp
  | L :: r, st, h => by
    have ih := stStep_len m r (stStep m st L) fun L' hL => h L' (List.mem_cons_of_mem _ hL)
    have hL := h L (List.mem_cons_self ..)
    rw [List.foldl_cons]
    have e1 : (stStep m st L).1.length = st.1.length + L.many.toNat := by unfold stStep; simp
    have e2 : (stStep m st L).2.1.length = st.2.1.length + L.many.toNat := by unfold stStep; simp
    have e3 : (stStep m st L).2.2 = st.2.2 + 1 := rfl
    rw [e1, e2, e3] at ih
    rw [List.length_cons]
    refine ⟨by omega, by omega, by omega⟩
/-- a standing whose lists are new to H0 -/
def StandNew (K : PySem.W.Frag) (H0 H : Hp) (a : Addr) (S : StandD) : Prop := ∃ dx o p m, H a = some (.ins (CStanding K) dx (aStanding (.ref o) (.ref p) (.int S.carriage) (.ref m))) ∧
  (H o = some (.lst (ivs S.owners)) ∧ H p = some (.lst (ivs S.prices)) ∧ H m = some (.lst (S.marked.map V.bl))) ∧ H0 o = none ∧ H0 p = none ∧ H0 m = none
theorem StandNew.at {K : PySem.W.Frag} {H0 H : Hp} {a : Addr} {S : StandD} (h : StandNew K H0 H a S) : StandAt K H (.ref a) S :=
  have ⟨dx, o, p, m, h1, ⟨h2, h3, h4⟩, _⟩ := h
  ⟨a, dx, o, p, m, rfl, h1, h2, h3, h4⟩
/-- a standing none of whose lists is l -/
def StandBut (K : PySem.W.Frag) (l : Addr) (H : Hp) (v : V) (S : StandD) : Prop := ∃ a dx o p m, v = .ref a ∧ H a = some (.ins (CStanding K) dx (aStanding (.ref o) (.ref p) (.int S.carriage) (.ref m))) ∧
  (H o = some (.lst (ivs S.owners)) ∧ H p = some (.lst (ivs S.prices)) ∧ H m = some (.lst (S.marked.map V.bl))) ∧ o ≠ l ∧ p ≠ l ∧ m ≠ l
theorem StandBut.at {K : PySem.W.Frag} {H : Hp} {l : Addr} {v : V} {S : StandD} (h : StandBut K l H v S) : StandAt K H v S :=
  have ⟨a, dx, o, p, m, e, h1, ⟨h2, h3, h4⟩, _⟩ := h
  ⟨a, dx, o, p, m, e, h1, h2, h3, h4⟩
theorem StandBut.gr {K : PySem.W.Frag} {tb : Addr} {H H' : Hp} {l : Addr} {v : V} {S : StandD} (g : Gr tb H H') (h : StandBut K l H v S) : StandBut K l H' v S :=
  have ⟨a, dx, o, p, m, e, h1, ⟨h2, h3, h4⟩, h5⟩ := h
  ⟨a, dx, o, p, m, e, g.ins h1, ⟨g.lst h2, g.lst h3, g.lst h4⟩, h5⟩
theorem StandNew.but {K : PySem.W.Frag} {H0 H : Hp} {a l : Addr} {S : StandD} {o : HO} (h : StandNew K H0 H a S) (hl : H0 l = some o) : StandBut K l H (.ref a) S :=
  have ⟨dx, o, p, m, h1, h2, h3, h4, h5⟩ := h
  ⟨a, dx, o, p, m, rfl, h1, h2, Ne.symm (ne_of_none hl h3), Ne.symm (ne_of_none hl h4), Ne.symm (ne_of_none hl h5)⟩
theorem StandAt.but {K : PySem.W.Frag} {H : Hp} {l : Addr} {v : V} {S : StandD} (h : StandAt K H v S) (hl : H l = none) : StandBut K l H v S :=
  have ⟨a, dx, o, p, m, e, h1, h2, h3, h4⟩ := h
  ⟨a, dx, o, p, m, e, h1, ⟨h2, h3, h4⟩, ne_of_none h2 hl, ne_of_none h3 hl, ne_of_none h4 hl⟩
theorem StandBut.put {K : PySem.W.Frag} {H : Hp} {l : Addr} {v : V} {S : StandD} {xs ys : List V} (h : StandBut K l H v S) (hl : H l = some (.lst xs)) : StandBut K l (upd H l (.lst ys)) v S := by
  obtain ⟨a, dx, o, p, m, e, h1, ⟨h2, h3, h4⟩, h5, h6, h7⟩ := h
  have na : a ≠ l := fun e => by rw [e, hl] at h1; cases h1
  exact ⟨a, dx, o, p, m, e, by rw [upd_ne na]; exact h1, ⟨by rw [upd_ne h5]; exact h2, by rw [upd_ne h6]; exact h3, by rw [upd_ne h7]; exact h4⟩, h5, h6, h7⟩
def spStanding (tb : Addr) (K : PySem.W.Frag) : Sp := fun vs H Q _ => ∃ H0 p dx b B, vs = [.ref p, b] ∧ Gr tb H0 H ∧ H0 p = none ∧ BasketAt K H0 b B ∧ SmallB B ∧ H p = some (.ins (CStanding K) dx []) ∧
  ∀ H', GrB tb [p] H H' → StandNew K H H' p (stand0 B) → Q .non H'
theorem ivs_rep (n : Nat) (x : Int) : ivs (List.replicate n x) = List.replicate n (.int x) := List.map_replicate ..
theorem rep_snoc {α : Type} (n : Nat) (x : α) : List.replicate (n + 1) x = List.replicate n x ++ [x] := List.replicate_succ'
section
variable {P : Program} {w : World} {K : PySem.W.Frag} {mg : Str → Option Value} {base : Heap} {tb : Addr}
theorem sc_Standing_init : FnScope ["self", "basket", "at", "line", "piece"] ["self", "basket"] (defScope s_Standing_init) := ⟨rfl, rfl, rfl, by decide +kernel, rfl, by decide +kernel, by decide +kernel⟩
theorem ok_Standing (T : TX K mg) : Mak P w K mg base 2 "Standing" (CStanding K) (spStanding tb K) [] := by
  obtain ⟨fd, F⟩ := T.df_Standing_init
  refine mak_of T.g_Standing T.k_Standing (F.ok (k := 1) sc_Standing_init (fun vs H Q E h => ?_) fun cdv A outer s H vs Q E hr h => ?_) (F.bindsN (ps := ["self", "basket"]) fun _ _ _ _ _ _ us hl => match us, hl with | [_, _], _ => rfl) .nil
  · obtain ⟨H0, p, dx, b, B, rfl, _⟩ := h
    rfl
  have c_piece_price : Cal P w K mg base 1 "piece_price" (spPiece K) := ok_piece_price T
  obtain ⟨H0, p, dx, b, B, rfl, g0, p0, hb, hB, hp, q⟩ := h
  obtain ⟨a, da, l, vs, rfl, ha, hl, hpl⟩ := id hb
  have lenB := hpl.length
  refine ⟨_, PSs.nox
    (pss_cons (ps_fld (pv 0) (pe_lst pa_nil) rfl)
    (pss_cons (ps_fld (pv 0) (pe_lst pa_nil) rfl)
    (pss_cons (ps_fld (pv 0) (pe_fld (pv 1) rfl) rfl)
    (pss_cons (ps_fld (pv 0) (pe_lc (own := [("line", 3)]) (g := (gName 3)) (tt := tYes) rfl sc_Standing_init.nd (pi_list (pe_fld (pv 1) rfl)) (blkOk_by (own := [("line", 3)]) (N := ["self", "basket", "at", "line", "piece"]) (sc := defScope s_Standing_init) (by decide +kernel)) (fun _ _ _ _ _ => (pg_name (i := 3) sc_Standing_init.nd rfl (Or.inl rfl))) (fun _ _ _ _ _ => pts_nil) (fun _ _ _ _ _ => pe_bl)) rfl)
    (pss_one (ps_for PassesOwn.never rfl (pi_enum rfl T.f_enumerate (pa_cons (pe_fld (pv 1) rfl) pa_nil)) (pg_tup rfl (pgs_cons (pg_name (i := 2) sc_Standing_init.nd rfl (Or.inl rfl)) (pgs_cons (pg_name (i := 3) sc_Standing_init.nd rfl (Or.inl rfl)) pgs_nil)))
      (pss_one (ps_for PassesOwn.never rfl (pi_range1 rfl T.f_range (pa_cons (pe_fld (pv 3) rfl) pa_nil)) (pg_name (i := 4) sc_Standing_init.nd rfl (Or.inl rfl))
        (pss_cons (ps_expr (pe_bm PySem.F.plainAttrs_list PySem.F.slot_list_append PySem.F.type_list_append mt_append (pe_fld (pv 0) rfl) (pa_cons (pv 2) pa_nil)))
        (pss_one (ps_expr (pe_bm PySem.F.plainAttrs_list PySem.F.slot_list_append PySem.F.type_list_append mt_append (pe_fld (pv 0) rfl) (pa_cons (pe_c c_piece_price hr (by decide) rfl (pa_cons (pv 3) (pa_cons (pe_fld (pv 1) rfl) pa_nil))) pa_nil))))))))))))), ?_⟩
  have bk : ∀ {H'}, GrB tb [p] H H' → Gr tb H0 H' := fun g => g.back g0 fun s hs => by rw [List.mem_singleton.mp hs]; exact p0
  -- owners = []
  refine ⟨Nat.zero_le _, fun lo hlo => ⟨_, rfl, ?_⟩⟩
  have n0 : p ≠ lo := ne_of_none hp hlo
  refine st_fld (tb := tb) (Gr.ins (tb := tb) (Gr.new hlo) hp) T.c_Standing T.n_Standing_owners (by decide) aStanding_i0 fun H1 g1 h1 => ?_
  have k1 : GrB tb [p] H H1 := (GrB.add (GrB.refl H) hlo).trans g1
  have o1 : H1 lo = some (.lst []) := g1.lst upd_same (by simpa using Ne.symm n0)
  -- prices = []
  refine ⟨Nat.zero_le _, fun lp hlp => ⟨_, rfl, ?_⟩⟩
  have n1 : p ≠ lp := ne_of_none h1 hlp
  have n2 : lo ≠ lp := ne_of_none o1 hlp
  refine st_fld (tb := tb) (Gr.ins (tb := tb) (Gr.new hlp) h1) T.c_Standing T.n_Standing_prices (by simp) aStanding_i1 fun H2 g2 h2 => ?_
  have k2 : GrB tb [p] H H2 := (GrB.add k1 hlp).trans g2
  have o2 : H2 lo = some (.lst []) := g2.lst (by rw [upd_ne n2]; exact o1) (by simpa using Ne.symm n0)
  have r2 : H2 lp = some (.lst []) := g2.lst upd_same (by simpa using Ne.symm n1)
  -- carriage
  refine ⟨_, rfl, T.r_Basket_carriage ((bk k2).ins ha) ?_⟩
  refine ⟨_, rfl, ?_⟩
  refine st_fld (tb := tb) h2 T.c_Standing T.n_Standing_carriage (by simp) aStanding_i2 fun H3 g3 h3 => ?_
  have k3 : GrB tb [p] H H3 := k2.trans g3
  have o3 : H3 lo = some (.lst []) := g3.lst o2 (by simpa using Ne.symm n0)
  have r3 : H3 lp = some (.lst []) := g3.lst r2 (by simpa using Ne.symm n1)
  -- marked
  refine ⟨_, rfl, T.r_Basket_lines ((bk k3).ins ha) ⟨_, rfl, ⟨_, SqL.of ((bk k3).lst hl)⟩, fun lm hlm => ?_⟩⟩
  refine lc_gr (tb := tb) (walk_list (xs := vs)) (B.lines.map fun _ => V.bl false) (by rw [List.length_map]; exact lenB.symm) (by rw [lenB]; exact Nat.le_trans hB.len (by decide)) hlm (fun H' g => SqL.of (g.lst ((bk k3).lst hl))) ?_ fun H4 g4 hm4 => ⟨_, rfl, ?_⟩
  · rintro i x H' _ y N hi hy g ⟨rfl, hx⟩ k
    have ey : y = V.bl false := by
      rw [List.getElem?_map] at hy
      cases e : B.lines[i]? with
      | none => rw [e] at hy; cases hy
      | some L => rw [e] at hy; exact (Option.some.inj hy).symm
    rw [ey] at k
    exact ⟨rfl, k _ (GrB.refl _)⟩
  refine st_fld (tb := tb) (g4.ins h3) T.c_Standing T.n_Standing_marked (by simp) aStanding_i3 fun H5 g5 h5 => ?_
  have n3 : p ≠ lm := ne_of_none h3 hlm
  have n4 : lo ≠ lm := ne_of_none o3 hlm
  have n5 : lp ≠ lm := ne_of_none r3 hlm
  have k5 : GrB tb [p] H H5 := (k3.trans g4.of).trans g5
  have o5 : H5 lo = some (.lst []) := g5.lst (g4.lst o3) (by simpa using Ne.symm n0)
  have r5 : H5 lp = some (.lst []) := g5.lst (g4.lst r3) (by simpa using Ne.symm n1)
  have m5 : H5 lm = some (.lst (B.lines.map fun _ => V.bl false)) := g5.lst hm4 (by simpa using Ne.symm n3)
  have f1 : H lo = none := hlo
  have f2 : H lp = none := k1.free _ hlp
  have f3 : H lm = none := k3.free _ hlm
  -- the loops
  refine ⟨_, rfl, T.r_Basket_lines ((bk k5).ins ha) ⟨_, vs, rfl, SqL.of ((bk k5).lst hl), ?_⟩⟩
  refine for_it (walk_enum (xs := vs)) (fun i σ H' => ∃ v2 v3 v4, σ = [some (.ref p), some (.ref a), v2, v3, v4] ∧ GrB tb [p] H H' ∧ H' p = some (.ins (CStanding K) dx (aStanding (.ref lo) (.ref lp) (.int B.carriage) (.ref lm))) ∧
    H' lm = some (.lst (B.lines.map fun _ => V.bl false)) ∧ H' lo = some (.lst (ivs ((B.lines.take i).foldl (stStep B.member) ([], [], 0)).1)) ∧ H' lp = some (.lst (ivs ((B.lines.take i).foldl (stStep B.member) ([], [], 0)).2.1)))
    ⟨none, none, none, rfl, k5, h5, m5, o5, r5⟩ (fun i σ H' _ ⟨_, _, _, _, g, _⟩ => SqL.of ((bk g).lst hl)) ?_ ?_
  · rintro i y σ H' _ hi ⟨v2, v3, v4, rfl, g, hp', hm', ho', hr'⟩ ⟨t, x1, x2, rfl, ht, rfl, e1, e2⟩
    cases e1
    obtain ⟨L, hL, hx2⟩ := paired_get hpl e2
    obtain ⟨c, dc, rfl, hc⟩ := id hx2
    have hLm := List.mem_of_getElem? hL
    obtain ⟨m0, m1⟩ := hB.many L hLm
    rw [foldl_snoc hL]
    obtain ⟨z1, z2, z3⟩ := stStep_len B.member (B.lines.take i) ([], [], 0) fun L' h' => hB.many L' (List.mem_of_mem_take h')
    dsimp only [List.length_nil] at z1 z2 z3
    generalize hst : (B.lines.take i).foldl (stStep B.member) ([], [], 0) = st at ho' hr' z1 z2 z3 ⊢
    have hi60 : (B.lines.take i).length ≤ 60 := by rw [List.length_take]; exact Nat.le_trans (Nat.min_le_right _ _) hB.len
    have hil : (B.lines.take i).length = i := by rw [List.length_take]; omega
    have ei : ((i : Nat) : Int) = st.2.2 := by rw [z3, hil]; show _ = (0 : Int) + _; omega
    have gt : GrB tb [p] H (upd H' t (.tup [.int (i : Nat), .ref c])) := g.add ht
    have ntp : p ≠ t := ne_of_none hp' ht
    refine ⟨t, _, rfl, .inl (.inl upd_same), rfl, _, _, rfl, _, _, rfl, rfl, ?_⟩
    refine ⟨_, rfl, T.r_Line_many ((bk gt).ins hc) ⟨_, rfl, by omega, by omega, ?_⟩⟩
    refine for_it walk_range (fun j σ H' => ∃ v4, σ = [some (.ref p), some (.ref a), some (.int (i : Nat)), some (.ref c), v4] ∧ GrB tb [p] H H' ∧ H' p = some (.ins (CStanding K) dx (aStanding (.ref lo) (.ref lp) (.int B.carriage) (.ref lm))) ∧
      H' lm = some (.lst (B.lines.map fun _ => V.bl false)) ∧ H' lo = some (.lst (ivs (st.1 ++ List.replicate j st.2.2))) ∧ H' lp = some (.lst (ivs (st.2.1 ++ List.replicate j (pieceP L B.member)))))
      ⟨v4, rfl, gt, by rw [upd_ne ntp]; exact hp', by rw [upd_ne (ne_of_none hm' ht)]; exact hm', by rw [upd_ne (ne_of_none ho' ht), List.replicate_zero, List.append_nil]; exact ho', by rw [upd_ne (ne_of_none hr' ht), List.replicate_zero, List.append_nil]; exact hr'⟩ (fun _ _ _ _ _ => trivial) ?_ ?_
    · rintro j _ σ _ H2 hj ⟨v4, rfl, g, hp', hm', ho', hr'⟩ ⟨rfl, rfl⟩
      refine ⟨_, rfl, T.r_Standing_owners hp' ⟨.inl ⟨rfl, _, SqL.of ho'⟩, _, rfl, lo, _, _, rfl, rfl, ho', ?_, ?_⟩⟩
      · rw [ivs_len, List.length_append, List.length_replicate]
        exact Nat.lt_of_le_of_lt (show _ ≤ 10000 by omega) (by decide)
      · have gb : GrB tb [p] H (upd H2 lo (.lst (ivs (st.1 ++ List.replicate j st.2.2) ++ [.int (i : Nat)]))) := g.putL f1 ho'
        have hr2 : upd H2 lo (.lst (ivs (st.1 ++ List.replicate j st.2.2) ++ [.int (i : Nat)])) lp = some (.lst (ivs (st.2.1 ++ List.replicate j (pieceP L B.member)))) := by rw [upd_ne (Ne.symm n2)]; exact hr'
        have hp2 : upd H2 lo (.lst (ivs (st.1 ++ List.replicate j st.2.2) ++ [.int (i : Nat)])) p = some (.ins (CStanding K) dx (aStanding (.ref lo) (.ref lp) (.int B.carriage) (.ref lm))) := by rw [upd_ne n0]; exact hp'
        refine ⟨_, rfl, T.r_Standing_prices hp2 ⟨.inl ⟨rfl, _, SqL.of hr2⟩, _, rfl, _, rfl, T.r_Basket_member ((bk gb).ins ha) ⟨_, L, B.member, rfl, hx2.gr (bk gb), ?_⟩⟩⟩
        refine ⟨lp, _, _, rfl, rfl, hr2, ?_, ?_⟩
        · rw [ivs_len, List.length_append, List.length_replicate]
          exact Nat.lt_of_le_of_lt (show _ ≤ 10000 by omega) (by decide)
        · refine ⟨_, rfl, gb.putL f2 hr2, by rw [upd_ne n1, upd_ne n0]; exact hp', by rw [upd_ne (Ne.symm n5), upd_ne (Ne.symm n4)]; exact hm', ?_, ?_⟩
          · rw [upd_ne n2, upd_same, ei, rep_snoc, ← List.append_assoc, ivs_app (st.1 ++ _)]; rfl
          · rw [upd_same, rep_snoc, ← List.append_assoc, ivs_app (st.2.1 ++ _)]; rfl
    · rintro σ H2 ⟨v4, rfl, g, hp', hm', ho', hr'⟩
      exact ⟨_, _, _, rfl, g, hp', hm', ho', hr'⟩
  · rintro σ H' ⟨v2, v3, v4, rfl, g, hp', hm', ho', hr'⟩
    rw [lenB, List.take_length] at ho' hr'
    exact q H' g ⟨dx, lo, lp, lm, hp', ⟨ho', hr', by rw [hm']; show _ = some (HO.lst ((B.lines.map fun _ => false).map V.bl)); rw [List.map_map]; rfl⟩, f1, f2, f3⟩
/-! ### whole -/
def wholeF (S : StandD) : Int := S.prices.sum + S.carriage
def spWhole (K : PySem.W.Frag) : Sp := fun vs H Q _ => ∃ v S, vs = [v] ∧ StandAt K H v S ∧ Q (.int (wholeF S)) H
theorem sc_Standing_whole : FnScope ["self"] ["self"] (defScope s_Standing_whole) := ⟨rfl, rfl, rfl, by decide +kernel, rfl, by decide +kernel, by decide +kernel⟩
theorem ok_whole (T : TX K mg) : Met P w K mg base 1 (CStanding K) "whole" (spWhole K) := by
  obtain ⟨fd, F⟩ := T.df_Standing_whole
  refine met_of T.c_Standing T.m_Standing_whole (F.ok sc_Standing_whole (fun vs H Q E h => ?_) fun cdv A outer s H vs Q E hr h => ?_) (F.bindsN fun _ _ _ _ _ _ us hl => match us, hl with | [_], _ => rfl)
  · obtain ⟨v, S, rfl, _⟩ := h
    rfl
  obtain ⟨_, S, rfl, ⟨a, dx, o, p, m, rfl, ha, ho, hp, hm⟩, q⟩ := h
  refine ⟨_, PSs.nox (pss_one (ps_ret (pe_op op_add (pe_callB (cr_sum rfl) rfl T.f_sum B_sum (pa_cons (pe_fld (pv 0) rfl) pa_nil)) (pe_fld (pv 0) rfl)))), ?_⟩
  exact ⟨_, rfl, T.r_Standing_prices ha ⟨p, S.prices, rfl, SqL.of hp, _, rfl, T.r_Standing_carriage ha ⟨_, _, rfl, rfl, q⟩⟩⟩
end
end VS
set_option Elab.async false
set_option linter.all false
set_option maxRecDepth 100000
set_option maxHeartbeats 4000000
namespace VS
open PySem PySem.Spec PyProof.Rows L2
/-! ### an if whose test is told by a truth value -/
theorem ifS_by {tc : TT} {t u : TS} {D : Ends} {σ : L2.St} {H : Hp} (b : Bool) (h : ∀ Q : Bool → Hp → Prop, Q b H → tc σ H Q) (ht : b = true → t D σ H) (hf : b = false → u D σ H) : tIfS tc t u D σ H := h _ (if_b ht hf)
theorem ifS_gr {tb : Addr} {tc : TT} {t u : TS} {D : Ends} {σ : L2.St} {H : Hp} (b : Bool) (h : ∀ Q : Bool → Hp → Prop, (∀ H1, Gr tb H H1 → Q b H1) → tc σ H Q) (ht : ∀ H1, Gr tb H H1 → b = true → t D σ H1) (hf : ∀ H1, Gr tb H H1 → b = false → u D σ H1) : tIfS tc t u D σ H :=
  h _ fun H1 g => if_b (ht H1 g) (hf H1 g)
/-- an if without an else -/
def tIf0 (tc : TT) (t : TS) : TS := fun D σ H => tc σ H fun b H1 => if b = true then t D σ H1 else D.nx σ H1
theorem ps_if0 {X : Cx} {c : Expr} {a : List Stmt} {pos : Pos} {tc : TT} {t : TS} (hc : PT X c tc) (ha : PSs X a t) : PS X (.If c a [] pos) (tIf0 tc t) := ps_if hc ha pss_nil
theorem if0_by {tc : TT} {t : TS} {D : Ends} {σ : L2.St} {H : Hp} (b : Bool) (h : ∀ Q : Bool → Hp → Prop, Q b H → tc σ H Q) (ht : b = true → t D σ H) (hf : b = false → D.nx σ H) : tIf0 tc t D σ H := h _ (if_b ht hf)
theorem if0_gr {tb : Addr} {tc : TT} {t : TS} {D : Ends} {σ : L2.St} {H : Hp} (b : Bool) (h : ∀ Q : Bool → Hp → Prop, (∀ H1, Gr tb H H1 → Q b H1) → tc σ H Q) (ht : ∀ H1, Gr tb H H1 → b = true → t D σ H1) (hf : ∀ H1, Gr tb H H1 → b = false → D.nx σ H1) : tIf0 tc t D σ H :=
  h _ fun H1 g => if_b (ht H1 g) (hf H1 g)
theorem seq_if0 {tc : TT} {t u : TS} {D : Ends} {σ : L2.St} {H : Hp} (b : Bool) (h : ∀ Q : Bool → Hp → Prop, Q b H → tc σ H Q) (ht : b = true → t { D with nx := u D } σ H) (hf : b = false → u D σ H) : tSeq (tIf0 tc t) u D σ H := h _ (if_b ht hf)
theorem seq_if0g {tb : Addr} {tc : TT} {t u : TS} {D : Ends} {σ : L2.St} {H : Hp} (b : Bool) (h : ∀ Q : Bool → Hp → Prop, (∀ H1, Gr tb H H1 → Q b H1) → tc σ H Q) (ht : ∀ H1, Gr tb H H1 → b = true → t { D with nx := u D } σ H1) (hf : ∀ H1, Gr tb H H1 → b = false → u D σ H1) : tSeq (tIf0 tc t) u D σ H :=
  h _ fun H1 g => if_b (ht H1 g) (hf H1 g)
theorem seq_ifS {tc : TT} {t u v : TS} {D : Ends} {σ : L2.St} {H : Hp} (b : Bool) (h : ∀ Q : Bool → Hp → Prop, Q b H → tc σ H Q) (ht : b = true → t { D with nx := v D } σ H) (hf : b = false → u { D with nx := v D } σ H) : tSeq (tIfS tc t u) v D σ H := h _ (if_b ht hf)
theorem nn_none : (!decide (optV none = V.non)) = false := by rw [decide_eq_true (show optV none = V.non from rfl)]; rfl
theorem nn_some (i : Int) : (!decide (optV (some i) = V.non)) = true := by rw [decide_eq_false (show ¬ optV (some i) = V.non from fun z => nomatch z)]; rfl
theorem paired_map {α β : Type} {F : α → β → Prop} {xs : List α} {ys : List β} {i : Nat} {x : α} (h : Paired F xs ys) (e : xs[i]? = some x) (d : β) : F x (ys.getD i d) := by
  obtain ⟨y, e2, f⟩ := paired_get h e
  rw [getD_of e2]; exact f
section
variable {K : PySem.W.Frag} {mg : Str → Option Value} {H : Hp} {p dx : Addr} {m : V} {N : V → Prop}
theorem TX.r_marks (T : TX K mg) {s : SortD} (h : H p = some (.ins (sortC K s) dx (sortA m s))) (q : N m) :
    ∃ a C d fs v, V.ref p = .ref a ∧ H a = some (.ins C d fs) ∧ Cls K C ∧ NoAttr K C "marks" ∧ fs.lookup ("marks" : Str) = some v ∧ N v := by
  cases s with
  | off n => exact T.r_Off_marks h q
  | share n b => exact T.r_Share_marks h q
  | cheapest n => exact T.r_Cheapest_marks h q
  | bundle n p => exact T.r_Bundle_marks h q
  | carriage => exact T.r_Carriage_marks h q
end
/-- what a cut is reckoned from -/
structure CutIn (K : PySem.W.Frag) (H : Hp) (v pv b s : V) (u : VouD) (ps : List (Option Int)) (B : BasketD) (S : StandD) : Prop where
  vou : VouAt K H v u
  par : ∃ a, pv = .ref a ∧ H a = some (.lst (ps.map optV))
  bas : BasketAt K H b B
  sta : StandAt K H s S
  po : ParOk ps
  bo : BasketOk ps.length B
  so : StandOk B.lines.length S
  vo : VouOk u
theorem CutIn.gr {K : PySem.W.Frag} {tb : Addr} {H H' : Hp} {v pv b s : V} {u : VouD} {ps : List (Option Int)} {B : BasketD} {S : StandD} (g : Gr tb H H') (c : CutIn K H v pv b s u ps B S) : CutIn K H' v pv b s u ps B S :=
  ⟨c.vou.gr g, c.par.elim fun a h => ⟨a, h.1, g.lst h.2⟩, c.bas.gr g, c.sta.gr g, c.po, c.bo, c.so, c.vo⟩
/-! ### about -/
def kindP (M : MarksD) (ps : List (Option Int)) (ls : List LineD) (S : StandD) (i : Nat) : Bool := match M.kind with
  | none => true
  | some k => underF ps k (ls.getD (S.owners.getD i 0).toNat default).kind.toNat
def loneP (M : MarksD) (S : StandD) (i : Nat) : Bool := M.lone && S.marked.getD (S.owners.getD i 0).toNat false
def keepP (M : MarksD) (ps : List (Option Int)) (ls : List LineD) (S : StandD) (i : Nat) : Bool := kindP M ps ls S i && !loneP M S i
def natI (i : Nat) : Int := i
def aboutF (M : MarksD) (ps : List (Option Int)) (ls : List LineD) (S : StandD) : List Int := ((List.range S.owners.length).filter (keepP M ps ls S)).map natI
def spAbout (tb : Addr) (K : PySem.W.Frag) : Sp := fun vs H Q _ => ∃ v pv b s u ps B S, vs = [v, pv, b, s] ∧ CutIn K H v pv b s u ps B S ∧ NewL tb H (ivs (aboutF u.marks ps B.lines S)) Q
theorem range_filter (p : Nat → Bool) (i : Nat) : (List.range (i + 1)).filter p = if p i = true then (List.range i).filter p ++ [i] else (List.range i).filter p := by
  rw [List.range_succ, List.filter_append]
  cases h : p i with
  | true => simp [h]
  | false => simp [h]
theorem about_len (M : MarksD) (ps : List (Option Int)) (ls : List LineD) (S : StandD) : (aboutF M ps ls S).length ≤ S.owners.length := by
  unfold aboutF
  rw [List.length_map]
  exact Nat.le_trans (List.length_filter_le ..) (Nat.le_of_eq List.length_range)
theorem about_mem {M : MarksD} {ps : List (Option Int)} {ls : List LineD} {S : StandD} {p : Int} (h : p ∈ aboutF M ps ls S) : 0 ≤ p ∧ p < S.owners.length := by
  obtain ⟨i, hi, rfl⟩ := List.mem_map.mp h
  have hi := List.mem_range.mp (List.mem_filter.mp hi).1
  exact ⟨Int.natCast_nonneg i, Int.ofNat_lt.mpr hi⟩
section
variable {P : Program} {w : World} {K : PySem.W.Frag} {mg : Str → Option Value} {base : Heap} {tb : Addr}
theorem sc_about : FnScope ["voucher", "parents", "basket", "standing", "marks", "found", "piece", "line"] ["voucher", "parents", "basket", "standing"] (defScope s_about) := ⟨rfl, rfl, rfl, by decide +kernel, rfl, by decide +kernel, by decide +kernel⟩
theorem ok_about (T : TX K mg) : Cal P w K mg base 2 "about" (spAbout tb K) := by
  obtain ⟨fd, F⟩ := T.df_about
  refine cal_of F T.g_about (ps := ["voucher", "parents", "basket", "standing"]) (F.ok (k := 1) sc_about (fun vs H Q E h => ?_) fun cdv A outer s H vs Q E hr h => ?_) (F.bindsN fun _ _ _ _ _ _ us hl => match us, hl with | [_, _, _, _], _ => rfl)
  · obtain ⟨v, pv, b, s, u, ps, B, S, rfl, _⟩ := h
    rfl
  have c_under : Cal P w K mg base 1 "under" (spUnder K) := ok_under T
  obtain ⟨v, pv_, b, s_, u, ps, B, S, rfl, c, q⟩ := h
  obtain ⟨⟨a, da, m, rfl, ha, hm⟩, ⟨pa, rfl, hpa⟩, hb, hs, po, bo, so, vo⟩ := c
  obtain ⟨ab, db, lb, vls, rfl, hab, hlb, hpl⟩ := hb
  obtain ⟨as, ds, so_, sp_, sm_, rfl, has, hso, hsp, hsm⟩ := hs
  obtain ⟨am, dm, rfl, ham⟩ := hm
  refine ⟨_, PSs.nox
    (pss_cons (ps_set (i := 4) sc_about.nd rfl (Or.inl rfl) (pe_fld (pv 0) rfl))
    (pss_cons (ps_set (i := 5) sc_about.nd rfl (Or.inl rfl) (pe_lst pa_nil))
    (pss_cons (ps_for PassesOwn.never rfl (pi_enum rfl T.f_enumerate (pa_cons (pe_fld (pv 3) rfl) pa_nil)) (pg_tup rfl (pgs_cons (pg_name (i := 6) sc_about.nd rfl (Or.inl rfl)) (pgs_cons (pg_name (i := 7) sc_about.nd rfl (Or.inl rfl)) pgs_nil)))
      (pss_cons (ps_if0 (PW.pt (pw_and (pt_cmp (pc_notN (pe_fld (pv 4) rfl))) (pw_and1 (pt_not (pt_val (pe_c c_under hr (by decide) rfl (pa_cons (pv 1) (pa_cons (pe_fld (pe_ix ix_list (pe_fld (pv 2) rfl) (pv 7) (fun _ _ => rfl)) rfl) (pa_cons (pe_fld (pv 4) rfl) pa_nil)))))))))
        (pss_one ps_continue))
      (pss_cons (ps_if0 (PW.pt (pw_and (pt_val (pe_fld (pv 4) rfl)) (pw_and1 (pt_val (pe_ix ix_list (pe_fld (pv 3) rfl) (pv 7) (fun _ _ => rfl))))))
        (pss_one ps_continue))
      (pss_one (ps_expr (pe_bm PySem.F.plainAttrs_list PySem.F.slot_list_append PySem.F.type_list_append mt_append (pv 5) (pa_cons (pv 6) pa_nil)))))))
    (pss_one (ps_ret (pv 5)))))), ?_⟩
  refine ⟨_, rfl, T.r_marks ha ?_⟩
  refine ⟨Nat.zero_le _, fun f hf => ?_⟩
  have g0 : Gr tb H (upd H f (.lst [])) := Gr.new hf
  refine ⟨_, rfl, T.r_Standing_owners (g0.ins has) ⟨so_, _, rfl, SqL.of (g0.lst hso), ?_⟩⟩
  refine for_it (walk_enum (xs := ivs S.owners)) (fun i σ H' => ∃ v6 v7, σ = [some (.ref a), some (.ref pa), some (.ref ab), some (.ref as), some (.ref am), some (.ref f), v6, v7] ∧ Gr tb H H' ∧ H' f = some (.lst (ivs (((List.range i).filter (keepP u.marks ps B.lines S)).map natI))))
    ⟨none, none, rfl, g0, upd_same⟩ (fun i σ H' _ ⟨_, _, _, g, _⟩ => SqL.of (g.lst hso)) ?_ ?_
  · rintro i y σ H' _ hi ⟨v6, v7, rfl, g, hf'⟩ ⟨t, x1, x2, rfl, ht, rfl, e1, e2⟩
    cases e1
    obtain ⟨o, ho, rfl⟩ := ivs_of e2
    have hi' : i < S.owners.length := (List.getElem?_eq_some_iff.mp ho).1
    obtain ⟨o0, o1⟩ := so.own o (List.mem_of_getElem? ho)
    have eo : S.owners.getD i 0 = o := getD_of ho
    have gt : Gr tb H (upd H' t (.tup [.int (i : Nat), .int o])) := g.add ht
    have hft : upd H' t (.tup [.int (i : Nat), .int o]) f = some (.lst (ivs (((List.range i).filter (keepP u.marks ps B.lines S)).map natI))) := by rw [upd_ne (ne_of_none hf' ht)]; exact hf'
    refine ⟨t, _, rfl, .inl (.inl upd_same), rfl, _, _, rfl, _, _, rfl, rfl, ?_⟩
    generalize upd H' t (.tup [.int (i : Nat), .int o]) = H2 at gt hft ⊢
    refine seq_if0 (!kindP u.marks ps B.lines S i) (fun R r => ?_) (fun hb => ?_) (fun hb => ?_)
    · refine ⟨_, rfl, T.r_Marks_kind (gt.ins ham) ⟨_, rfl, ?_⟩⟩
      unfold kindP at r
      cases hk : u.marks.kind with
      | none =>
        rw [hk] at r
        rw [nn_none]
        exact iteF r
      | some k =>
        rw [hk] at r
        rw [nn_some]
        refine iteT ⟨_, rfl, _, rfl, T.r_Basket_lines (gt.ins hab) ⟨_, rfl, ?_⟩⟩
        obtain ⟨vl, e3, hvl⟩ := at_paired hpl o0 o1 default
        obtain ⟨al, dl, rfl, hal⟩ := hvl
        refine ⟨lb, vls, o, _, rfl, rfl, SqL.of (gt.lst hlb), e3, T.r_Line_kind (gt.ins hal) ⟨_, rfl, T.r_Marks_kind (gt.ins ham) ?_⟩⟩
        obtain ⟨k0, k1⟩ := (bo.lines (B.lines.getD o.toNat default) (List.mem_of_getElem? (get_d (by omega) _))).kind
        rw [hk]
        rw [eo] at r
        exact ⟨pa, ps, _, k, rfl, gt.lst hpa, po, k0, k1, _, rfl, r⟩
    · have hk : kindP u.marks ps B.lines S i = false := by simpa using hb
      refine ⟨_, _, rfl, gt, ?_⟩
      rw [range_filter, if_neg (by unfold keepP; rw [hk]; exact Bool.false_ne_true)]
      exact hft
    · have hk : kindP u.marks ps B.lines S i = true := by simpa using hb
      refine seq_if0 (loneP u.marks S i) (fun R r => ?_) (fun hb => ?_) (fun hb => ?_)
      · refine ⟨_, rfl, T.r_Marks_lone (gt.ins ham) ⟨_, rfl, ?_⟩⟩
        unfold loneP at r
        cases hl : u.marks.lone with
        | false => rw [hl] at r; exact iteF r
        | true =>
          rw [hl, eo] at r
          have e4 : (S.marked.map V.bl).getD o.toNat .non = V.bl (S.marked.getD o.toNat false) := by
            refine getD_of ?_
            rw [List.getElem?_map, get_d (show o.toNat < S.marked.length by rw [so.mark]; omega) false]; rfl
          refine iteT ⟨_, rfl, T.r_Standing_marked (gt.ins has) ⟨_, rfl, sm_, _, o, _, rfl, rfl, SqL.of (gt.lst hsm), at_i o0 (by rw [List.length_map, so.mark]; exact o1) .non, _, e4, r⟩⟩
      · refine ⟨_, _, rfl, gt, ?_⟩
        rw [range_filter, if_neg (by unfold keepP; rw [hk, hb]; exact Bool.false_ne_true)]
        exact hft
      · refine ⟨_, rfl, .inl ⟨rfl, _, SqL.of hft⟩, _, rfl, f, _, _, rfl, rfl, hft, ?_, ?_⟩
        · rw [ivs_len, List.length_map]
          exact Nat.lt_of_le_of_lt (Nat.le_trans (List.length_filter_le ..) (by rw [List.length_range]; exact Nat.le_of_lt (Nat.lt_of_lt_of_le hi' (show _ ≤ 1000 by rw [so.len]; have := so.most; omega)))) (by decide)
        · refine ⟨_, _, rfl, gt.putL hf hft, ?_⟩
          rw [upd_same, range_filter, if_pos (by unfold keepP; rw [hk, hb]; rfl), List.map_append, ivs_app]; rfl
  · rintro σ H' ⟨v6, v7, rfl, g, hf'⟩
    rw [ivs_len] at hf'
    exact ⟨_, rfl, q f H' g hf hf'⟩
end
end VS
set_option Elab.async false
set_option linter.all false
set_option maxRecDepth 100000
set_option maxHeartbeats 4000000
namespace VS
open PySem PySem.Spec PyProof.Rows L2
/-! ### rules whose K is the head's own (within a comprehension) -/
section
variable {K : PySem.W.Frag} {mg : Str → Option Value} {X : Cx} {e : Expr} {ta : TE} {f : Str} {pos : Pos}
theorem ix_l (T : TX K mg) (h : X.K = K := by rfl) : IxR X (rIxL K) := by rw [← h]; exact ix_list
theorem ix_t (T : TX K mg) (h : X.K = K := by rfl) : IxR X (rIxT K) := by rw [← h]; exact ix_tup
theorem sl_l (T : TX K mg) (h : X.K = K := by rfl) : SlR X (rSlL K) := by rw [← h]; exact sl_list
theorem pe_fl (T : TX K mg) (he : PE X e ta) (hb : attributeBase e f X.env (eval e X.env) = eval e X.env) (h : X.K = K := by rfl) : PE X (.Attribute e f pos) (tFld K ta f) := by rw [← h]; exact pe_fld he hb
def rLenK (K : PySem.W.Frag) : List V → Hp → VK → Prop := fun xs H Q => ∃ p ys, xs = [.ref p] ∧ (SqL K H p ys ∨ SqT K H p ys) ∧ Q (.int ys.length) H
theorem len_l (T : TX K mg) (h : X.K = K := by rfl) : CallR X (.builtin "len") (rLenK K) := by rw [← h]; exact call_len_seq
end
/-- a name is set, then the rest -/
theorem seq_set {te : TE} {i : Nat} {u : TS} {D : Ends} {σ : L2.St} {H : Hp} (h : te σ H fun x H1 => u D (σ.set i (some x)) H1) : tSeq (tAsg te (gName i)) u D σ H := h
theorem one_set {te : TE} {i : Nat} {D : Ends} {σ : L2.St} {H : Hp} (h : te σ H fun x H1 => D.nx (σ.set i (some x)) H1) : tAsg te (gName i) D σ H := h
theorem seq_drop {te : TE} {u : TS} {D : Ends} {σ : L2.St} {H : Hp} (h : te σ H fun _ H1 => u D σ H1) : tSeq (tDrop te) u D σ H := h
/-! ### x in a list of ints -/
theorem in_ivs (x : Int) (xs : List Int) : inV (.int x) (ivs xs) = xs.contains x := by
  show (xs.map V.int).any (fun y => eqV y (.int x)) = _
  rw [List.any_map]
  induction xs with
  | nil => rfl
  | cons a r ih =>
    rw [List.any_cons, List.contains_cons, ih]
    show ((a == x) || _) = ((x == a) || _)
    rw [show (a == x) = (x == a) from by rw [Bool.eq_iff_iff, beq_iff_eq, beq_iff_eq]; exact eq_comm]
theorem ivs_flat (xs : List Int) : (ivs xs).all flatV = true := by
  show (xs.map V.int).all flatV = true
  rw [List.all_map]
  exact List.all_eq_true.mpr fun _ _ => rfl
theorem rIn_i {K : PySem.W.Frag} {H : Hp} {p : Addr} {xs : List Int} {x : Int} {Q : VK} (h : SqL K H p (ivs xs)) (q : Q (.bl (xs.contains x)) H) : rIn K false (.int x) (.ref p) H Q :=
  ⟨p, ivs xs, rfl, .inl h, rfl, ivs_flat xs, by show Q (.bl (inV (.int x) (ivs xs))) H; rw [in_ivs]; exact q⟩
theorem rNi_i {K : PySem.W.Frag} {H : Hp} {p : Addr} {xs : List Int} {x : Int} {Q : VK} (h : SqL K H p (ivs xs)) (q : Q (.bl (!xs.contains x)) H) : rIn K true (.int x) (.ref p) H Q :=
  ⟨p, ivs xs, rfl, .inl h, rfl, ivs_flat xs, by show Q (.bl (!inV (.int x) (ivs xs))) H; rw [in_ivs]; exact q⟩
theorem dec_int (a b : Int) : decide (V.int a = V.int b) = (a == b) := by
  rw [Bool.eq_iff_iff, decide_eq_true_iff, beq_iff_eq]
  exact ⟨fun h => V.int.inj h, fun h => by rw [h]⟩
theorem dec_str (a b : Str) : decide (V.str a = V.str b) = decide (a = b) := by
  rw [Bool.eq_iff_iff, decide_eq_true_iff, decide_eq_true_iff]
  exact ⟨fun h => V.str.inj h, fun h => by rw [h]⟩
theorem any_take {α : Type} {p : α → Bool} {l : List α} {i : Nat} {x : α} (h : l[i]? = some x) : (l.take (i + 1)).any p = ((l.take i).any p || p x) := by
  rw [take_snoc h, List.any_append, List.any_cons, List.any_nil, Bool.or_false]
theorem find_at {α : Type} {p : α → Bool} : ∀ {l : List α} {i : Nat} {x : α}, l[i]? = some x → (l.take i).any p = false → p x = true → l.find? p = some x
  | [], _, _, h, _, _ => by simp at h
  | a :: r, 0, x, h, _, hp => by
    have e : a = x := Option.some.inj h
    rw [e, List.find?_cons, hp]
  | a :: r, i + 1, x, h, hn, hp => by
    rw [List.take_succ_cons, List.any_cons] at hn
    obtain ⟨h1, h2⟩ := Bool.or_eq_false_iff.mp hn
    rw [List.find?_cons, h1]
    exact find_at (l := r) (i := i) h h2 hp
theorem find_no {α : Type} {p : α → Bool} {l : List α} (h : l.any p = false) : l.find? p = none := by
  rw [List.find?_eq_none]
  intro x hx hp
  rw [List.any_eq_true.mpr ⟨x, hx, hp⟩] at h
  cases h
/-! ### hindrance -/
def strV : Option Str → V
  | none => .non
  | some x => .str x
def pricesOf (S : StandD) (pcs : List Int) : List Int := pcs.map (gi S.prices)
def hindF (u : VouD) (ps : List (Option Int)) (B : BasketD) (S : StandD) : Option Str :=
  if (u.marks.member && !B.member) = true then some "member" else
    if (aboutF u.marks ps B.lines S).length = 0 then some "nothing" else
      if (pricesOf S (aboutF u.marks ps B.lines S)).sum < u.marks.needs then some "needs" else none
def spHind (tb : Addr) (K : PySem.W.Frag) : Sp := fun vs H Q _ => ∃ v pv b s u ps B S, vs = [v, pv, b, s] ∧ CutIn K H v pv b s u ps B S ∧ ∀ H', Gr tb H H' → Q (strV (hindF u ps B S)) H'
section
variable {P : Program} {w : World} {K : PySem.W.Frag} {mg : Str → Option Value} {base : Heap} {tb : Addr}
theorem sc_hindrance : FnScope ["voucher", "parents", "basket", "standing", "pieces", "piece"] ["voucher", "parents", "basket", "standing"] (defScope s_hindrance) := ⟨rfl, rfl, rfl, by decide +kernel, rfl, by decide +kernel, by decide +kernel⟩
theorem ok_hindrance (T : TX K mg) : Cal P w K mg base 3 "hindrance" (spHind tb K) := by
  obtain ⟨fd, F⟩ := T.df_hindrance
  refine cal_of F T.g_hindrance (F.ok (k := 2) sc_hindrance (fun vs H Q E h => ?_) fun cdv A outer s H vs Q E hr h => ?_) (F.bindsN (ps := ["voucher", "parents", "basket", "standing"]) fun _ _ _ _ _ _ us hl => match us, hl with | [_, _, _, _], _ => rfl)
  · obtain ⟨v, pv, b, s, u, ps, B, S, rfl, _⟩ := h
    rfl
  have c_about : Cal P w K mg base 2 "about" (spAbout tb K) := ok_about T
  obtain ⟨v, pv_, b, s_, u, ps, B, S, rfl, c, q⟩ := h
  refine ⟨_, PSs.nox
    (pss_cons (ps_if0 (PW.pt (pw_and (pt_val (pe_fld (pe_fld (pv 0) rfl) rfl)) (pw_and1 (pt_not (pt_val (pe_fld (pv 2) rfl))))))
      (pss_one (ps_ret pe_str)))
    (pss_cons (ps_set (i := 4) sc_hindrance.nd rfl (Or.inl rfl) (pe_c c_about hr (by decide) rfl (pa_cons (pv 0) (pa_cons (pv 1) (pa_cons (pv 2) (pa_cons (pv 3) pa_nil))))))
    (pss_cons (ps_if0 (pt_cmpR op_eq (pe_callB call_len_seq rfl T.f_len B_len (pa_cons (pv 4) pa_nil)) pe_int (nomark _))
      (pss_one (ps_ret pe_str)))
    (pss_cons (ps_if0 (pt_cmpR op_lt (pe_callB (cr_sum rfl) rfl T.f_sum B_sum (pa_cons (pe_lc (own := [("piece", 5)]) (g := (gName 5)) (tt := tYes) rfl sc_hindrance.nd (pi_list (pv 4)) (blkOk_by (own := [("piece", 5)]) (N := ["voucher", "parents", "basket", "standing", "pieces", "piece"]) (sc := defScope s_hindrance) (by decide +kernel)) (fun _ _ _ _ _ => (pg_name (i := 5) sc_hindrance.nd rfl (Or.inl rfl))) (fun _ _ _ _ _ => pts_nil) (fun _ _ _ _ _ => (pe_ix (ix_l T) (pe_fl T (pv 3) rfl) (pv 5) (fun _ _ => rfl)))) pa_nil)) (pe_fld (pe_fld (pv 0) rfl) rfl) (nomark _))
      (pss_one (ps_ret pe_str)))
    (pss_one (ps_ret pe_non)))))), ?_⟩
  obtain ⟨a, da, m, rfl, ha, am, dm, rfl, ham⟩ := id c.vou
  obtain ⟨ab, db, lb, vls, rfl, hab, hlb, hpl⟩ := id c.bas
  obtain ⟨as, ds, so_, sp_, sm_, rfl, has, hso, hsp, hsm⟩ := id c.sta
  unfold hindF at q
  refine seq_if0 (u.marks.member && !B.member) (fun R r => ?_) (fun hb => ?_) (fun hb => ?_)
  · refine ⟨_, rfl, T.r_marks ha (T.r_Marks_member ham ⟨_, rfl, ?_⟩)⟩
    cases hm : u.marks.member with
    | false => rw [hm] at r; exact iteF r
    | true => rw [hm] at r; exact iteT ⟨_, rfl, T.r_Basket_member hab ⟨_, rfl, r⟩⟩
  · rw [if_pos hb] at q
    exact q H (GrB.refl _)
  rw [if_neg (by rw [hb]; exact Bool.false_ne_true)] at q
  refine seq_set ⟨_, rfl, _, rfl, _, rfl, _, rfl, _, _, _, _, u, ps, B, S, rfl, c, fun f H1 g1 hf hl => ?_⟩
  refine seq_if0 (decide ((aboutF u.marks ps B.lines S).length = 0)) (fun R r => ?_) (fun hb => ?_) (fun hb => ?_)
  · refine ⟨_, rfl, f, _, rfl, .inl (SqL.of hl), rfl, _, rfl, ?_⟩
    rw [ivs_len, dec_int]
    rw [show (((aboutF u.marks ps B.lines S).length : Int) == 0) = decide ((aboutF u.marks ps B.lines S).length = 0) from by rw [Bool.eq_iff_iff, beq_iff_eq, decide_eq_true_iff]; omega]
    exact r
  · rw [if_pos (of_decide_eq_true hb)] at q
    exact q H1 g1
  rw [if_neg (of_decide_eq_false hb)] at q
  refine ⟨_, rfl, f, rfl, ⟨_, SqL.of hl⟩, fun D hD => ?_⟩
  refine lc_gr (tb := tb) (walk_list (xs := ivs (aboutF u.marks ps B.lines S))) (ivs (pricesOf S (aboutF u.marks ps B.lines S))) (by rw [ivs_len, ivs_len]; exact List.length_map ..) ?_ hD (fun H' g => SqL.of (g.lst hl)) ?_ fun H2 g2 hd => ?_
  · rw [ivs_len]
    have := about_len u.marks ps B.lines S
    have := c.so.len
    have := c.so.most
    omega
  · rintro i x H' _ y N hi hy g ⟨rfl, hx⟩ k
    obtain ⟨z, hz, rfl⟩ := ivs_of hx
    obtain ⟨z0, z1⟩ := about_mem (List.mem_of_getElem? hz)
    obtain ⟨z2, hz2, rfl⟩ := ivs_of hy
    have e : z2 = gi S.prices z := by
      have hz2 : ((aboutF u.marks ps B.lines S).map (gi S.prices))[i]? = some z2 := hz2
      rw [List.getElem?_map, hz] at hz2
      exact (Option.some.inj hz2).symm
    rw [e] at k
    refine ⟨rfl, _, rfl, T.r_Standing_prices ((g1.trans g).ins has) ⟨_, rfl, sp_, _, z, _, rfl, rfl, SqL.of ((g1.trans g).lst hsp), at_ivs z0 (by rw [← c.so.len]; exact z1), k _ (GrB.refl _)⟩⟩
  · have g := g1.trans g2
    refine ⟨D, _, rfl, SqL.of hd, _, rfl, T.r_marks (g.ins ha) (T.r_Marks_needs (g.ins ham) ⟨_, _, rfl, rfl, _, rfl, if_d (fun hlt => ?_) (fun hlt => ?_)⟩)⟩
    · rw [if_pos hlt] at q
      exact q H2 g
    · rw [if_neg hlt] at q
      exact q H2 g
/-! ### the rules -/
def neverP (ahead : List Int) (v : Int) (r : RuleD) : Bool := decide (r.word = "never") && ((r.one == v && ahead.contains r.other) || (r.other == v && ahead.contains r.one))
def lateP (ahead : List Int) (v : Int) (r : RuleD) : Bool := decide (r.word = "ahead") && (r.one == v && ahead.contains r.other)
def lackP (order : List Int) (r : RuleD) : Bool := decide (r.word = "only") && (order.contains r.one && !order.contains r.other)
def spRul (K : PySem.W.Frag) (p : List Int → Int → RuleD → Bool) : Sp := fun vs H Q _ => ∃ t a v T o, vs = [t, .ref a, .int v] ∧ TillAt K H t T ∧ H a = some (.lst (ivs o)) ∧ Q (.bl (T.rules.any (p o v))) H
theorem sc_never_beside : FnScope ["till", "ahead", "voucher", "word", "one", "other"] ["till", "ahead", "voucher"] (defScope s_never_beside) := ⟨rfl, rfl, rfl, by decide +kernel, rfl, by decide +kernel, by decide +kernel⟩
theorem ok_never_beside (T : TX K mg) : Cal P w K mg base 1 "never_beside" (spRul K neverP) := by
  obtain ⟨fd, F⟩ := T.df_never_beside
  refine cal_of F T.g_never_beside (F.ok (k := 0) sc_never_beside (fun vs H Q E h => ?_) fun cdv A outer s H vs Q E hr h => ?_) (F.bindsN (ps := ["till", "ahead", "voucher"]) fun _ _ _ _ _ _ us hl => match us, hl with | [_, _, _], _ => rfl)
  · obtain ⟨t, a, v, D, o, rfl, _⟩ := h
    rfl
  obtain ⟨t, a, v, D, o, rfl, ⟨at_, dt, pp, uu, rr, vs, rs, rfl, ht, h1, h2, hr_, hrs⟩, ha, q⟩ := h
  refine ⟨_, PSs.nox
    (pss_cons (ps_for PassesOwn.never rfl (pi_list (pe_fld (pv 0) rfl)) (pg_tup rfl (pgs_cons (pg_name (i := 3) sc_never_beside.nd rfl (Or.inl rfl)) (pgs_cons (pg_name (i := 4) sc_never_beside.nd rfl (Or.inl rfl)) (pgs_cons (pg_name (i := 5) sc_never_beside.nd rfl (Or.inl rfl)) pgs_nil))))
      (pss_one (ps_if0 (PW.pt (pw_and (pt_cmpR op_eq (pv 3) pe_str (nomark _)) (pw_and1 (PW.pt (pw_or (PW.pt (pw_and (pt_cmpR op_eq (pv 4) (pv 2) (nomark _)) (pw_and1 (pt_cmpR op_in_seq (pv 5) (pv 1) rfl)))) (pw_or1 (PW.pt (pw_and (pt_cmpR op_eq (pv 5) (pv 2) (nomark _)) (pw_and1 (pt_cmpR op_in_seq (pv 4) (pv 1) rfl))))))))))
        (pss_one (ps_ret pe_bl)))))
    (pss_one (ps_ret pe_bl))), ?_⟩
  refine ⟨_, rfl, T.r_Till_rules ht ⟨rr, rfl, ⟨_, SqL.of hr_⟩, ?_⟩⟩
  refine for_it (walk_list (xs := rs)) (fun i σ H' => ∃ v3 v4 v5, σ = [some (.ref at_), some (.ref a), some (.int v), v3, v4, v5] ∧ H' = H ∧ (D.rules.take i).any (neverP o v) = false) ⟨none, none, none, rfl, rfl, rfl⟩ (fun i σ H' _ ⟨_, _, _, _, e, _⟩ => by rw [e]; exact SqL.of hr_) ?_ ?_
  · rintro i y σ _ H' hi ⟨v3, v4, v5, rfl, e1, hn⟩ ⟨rfl, hy⟩
    subst e1
    obtain ⟨r, hr2, tu, rfl, htu⟩ := paired_get hrs hy
    refine ⟨tu, _, rfl, SqT.of htu, rfl, _, _, rfl, _, _, rfl, _, _, rfl, rfl, ?_⟩
    refine if0_by (neverP o v r) (fun R k => ?_) (fun hb => ?_) (fun hb => ?_)
    · refine ⟨_, rfl, rfl, _, rfl, ?_⟩
      unfold neverP at k
      rw [dec_str]
      cases e1 : decide (r.word = "never") with
      | false => rw [e1] at k; exact iteF k
      | true =>
        rw [e1] at k
        refine iteT ⟨_, rfl, _, rfl, rfl, _, rfl, ?_⟩
        rw [dec_int]
        have last : (k' : R ((r.other == v && o.contains r.one)) H') → ∃ x, some (some (V.int r.other)) = some (some x) ∧ ∃ x1, some (some (V.int v)) = some (some x1) ∧ rEq x x1 H' fun x H' => ∃ k, x = .bl k ∧ if k = true then (∃ v_1, some (some (V.int r.one)) = some (some v_1) ∧ ∃ v_2, some (some (V.ref a)) = some (some v_2) ∧ rIn K false v_1 v_2 H' fun x H' => ∃ k, x = .bl k ∧ R k H') else R false H' := fun k' => by
          refine ⟨_, rfl, _, rfl, rfl, _, rfl, ?_⟩
          rw [dec_int]
          cases e3 : (r.other == v) with
          | false => rw [e3] at k'; exact iteF k'
          | true => rw [e3] at k'; exact iteT ⟨_, rfl, _, rfl, rIn_i (SqL.of ha) ⟨_, rfl, k'⟩⟩
        cases e2 : (r.one == v) with
        | false =>
          rw [e2] at k
          exact iteF (iteF (last k))
        | true =>
          rw [e2] at k
          refine iteT ⟨_, rfl, _, rfl, rIn_i (SqL.of ha) ⟨_, rfl, ?_⟩⟩
          cases e4 : o.contains r.other with
          | true => rw [e4] at k; exact iteT k
          | false => rw [e4] at k; exact iteF (last k)
    · rw [List.any_eq_true.mpr ⟨r, List.mem_of_getElem? hr2, hb⟩] at q
      exact q
    · exact ⟨_, _, _, rfl, rfl, by rw [any_take hr2, hn, hb]; rfl⟩
  · rintro σ H' ⟨v3, v4, v5, rfl, rfl, hn⟩
    rw [hrs.length, List.take_length] at hn
    rw [hn] at q
    exact q
theorem sc_comes_late : FnScope ["till", "ahead", "voucher", "word", "one", "other"] ["till", "ahead", "voucher"] (defScope s_comes_late) := ⟨rfl, rfl, rfl, by decide +kernel, rfl, by decide +kernel, by decide +kernel⟩
theorem ok_comes_late (T : TX K mg) : Cal P w K mg base 1 "comes_late" (spRul K lateP) := by
  obtain ⟨fd, F⟩ := T.df_comes_late
  refine cal_of F T.g_comes_late (F.ok (k := 0) sc_comes_late (fun vs H Q E h => ?_) fun cdv A outer s H vs Q E hr h => ?_) (F.bindsN (ps := ["till", "ahead", "voucher"]) fun _ _ _ _ _ _ us hl => match us, hl with | [_, _, _], _ => rfl)
  · obtain ⟨t, a, v, D, o, rfl, _⟩ := h
    rfl
  obtain ⟨t, a, v, D, o, rfl, ⟨at_, dt, pp, uu, rr, vs, rs, rfl, ht, h1, h2, hr_, hrs⟩, ha, q⟩ := h
  refine ⟨_, PSs.nox
    (pss_cons (ps_for PassesOwn.never rfl (pi_list (pe_fld (pv 0) rfl)) (pg_tup rfl (pgs_cons (pg_name (i := 3) sc_comes_late.nd rfl (Or.inl rfl)) (pgs_cons (pg_name (i := 4) sc_comes_late.nd rfl (Or.inl rfl)) (pgs_cons (pg_name (i := 5) sc_comes_late.nd rfl (Or.inl rfl)) pgs_nil))))
      (pss_one (ps_if0 (PW.pt (pw_and (pt_cmpR op_eq (pv 3) pe_str (nomark _)) (pw_and (pt_cmpR op_eq (pv 4) (pv 2) (nomark _)) (pw_and1 (pt_cmpR op_in_seq (pv 5) (pv 1) rfl)))))
        (pss_one (ps_ret pe_bl)))))
    (pss_one (ps_ret pe_bl))), ?_⟩
  refine ⟨_, rfl, T.r_Till_rules ht ⟨rr, rfl, ⟨_, SqL.of hr_⟩, ?_⟩⟩
  refine for_it (walk_list (xs := rs)) (fun i σ H' => ∃ v3 v4 v5, σ = [some (.ref at_), some (.ref a), some (.int v), v3, v4, v5] ∧ H' = H ∧ (D.rules.take i).any (lateP o v) = false) ⟨none, none, none, rfl, rfl, rfl⟩ (fun i σ H' _ ⟨_, _, _, _, e, _⟩ => by rw [e]; exact SqL.of hr_) ?_ ?_
  · rintro i y σ _ H' hi ⟨v3, v4, v5, rfl, e1, hn⟩ ⟨rfl, hy⟩
    subst e1
    obtain ⟨r, hr2, tu, rfl, htu⟩ := paired_get hrs hy
    refine ⟨tu, _, rfl, SqT.of htu, rfl, _, _, rfl, _, _, rfl, _, _, rfl, rfl, ?_⟩
    refine if0_by (lateP o v r) (fun R k => ?_) (fun hb => ?_) (fun hb => ?_)
    · refine ⟨_, rfl, rfl, _, rfl, ?_⟩
      unfold lateP at k
      rw [dec_str]
      cases e1 : decide (r.word = "ahead") with
      | false => rw [e1] at k; exact iteF k
      | true =>
        rw [e1] at k
        refine iteT ⟨_, rfl, _, rfl, rfl, _, rfl, ?_⟩
        rw [dec_int]
        cases e2 : (r.one == v) with
        | false => rw [e2] at k; exact iteF k
        | true => rw [e2] at k; exact iteT ⟨_, rfl, _, rfl, rIn_i (SqL.of ha) ⟨_, rfl, k⟩⟩
    · rw [List.any_eq_true.mpr ⟨r, List.mem_of_getElem? hr2, hb⟩] at q
      exact q
    · exact ⟨_, _, _, rfl, rfl, by rw [any_take hr2, hn, hb]; rfl⟩
  · rintro σ H' ⟨v3, v4, v5, rfl, rfl, hn⟩
    rw [hrs.length, List.take_length] at hn
    rw [hn] at q
    exact q
def spLack (K : PySem.W.Frag) : Sp := fun vs H Q _ => ∃ t a T o, vs = [t, .ref a] ∧ TillAt K H t T ∧ H a = some (.lst (ivs o)) ∧ (T.rules.find? (lackP o) = none → Q .non H) ∧ ∀ r v, T.rules.find? (lackP o) = some r → RuleAt H v r → Q v H
theorem sc_lacking : FnScope ["till", "order", "rule"] ["till", "order"] (defScope s_lacking) := ⟨rfl, rfl, rfl, by decide +kernel, rfl, by decide +kernel, by decide +kernel⟩
theorem ok_lacking (T : TX K mg) : Cal P w K mg base 1 "lacking" (spLack K) := by
  obtain ⟨fd, F⟩ := T.df_lacking
  refine cal_of F T.g_lacking (F.ok (k := 0) sc_lacking (fun vs H Q E h => ?_) fun cdv A outer s H vs Q E hr h => ?_) (F.bindsN (ps := ["till", "order"]) fun _ _ _ _ _ _ us hl => match us, hl with | [_, _], _ => rfl)
  · obtain ⟨t, a, D, o, rfl, _⟩ := h
    rfl
  obtain ⟨t, a, D, o, rfl, ⟨at_, dt, pp, uu, rr, vs, rs, rfl, ht, h1, h2, hr_, hrs⟩, ha, q1, q2⟩ := h
  refine ⟨_, PSs.nox
    (pss_cons (ps_for PassesOwn.never rfl (pi_list (pe_fld (pv 0) rfl)) (pg_name (i := 2) sc_lacking.nd rfl (Or.inl rfl))
      (pss_one (ps_if0 (PW.pt (pw_and (pt_cmpR op_eq (pe_ix ix_tup (pv 2) pe_int (fun _ _ => rfl)) pe_str (nomark _)) (pw_and (pt_cmpR op_in_seq (pe_ix ix_tup (pv 2) pe_int (fun _ _ => rfl)) (pv 1) rfl) (pw_and1 (pt_cmpR op_notIn_seq (pe_ix ix_tup (pv 2) pe_int (fun _ _ => rfl)) (pv 1) rfl)))))
        (pss_one (ps_ret (pv 2))))))
    (pss_one (ps_ret pe_non))), ?_⟩
  refine ⟨_, rfl, T.r_Till_rules ht ⟨rr, rfl, ⟨_, SqL.of hr_⟩, ?_⟩⟩
  refine for_it (walk_list (xs := rs)) (fun i σ H' => ∃ v2, σ = [some (.ref at_), some (.ref a), v2] ∧ H' = H ∧ (D.rules.take i).any (lackP o) = false) ⟨none, rfl, rfl, rfl⟩ (fun i σ H' _ ⟨_, _, e, _⟩ => by rw [e]; exact SqL.of hr_) ?_ ?_
  · rintro i y σ _ H' hi ⟨v2, rfl, e1, hn⟩ ⟨rfl, hy⟩
    subst e1
    obtain ⟨r, hr2, tu, rfl, htu⟩ := paired_get hrs hy
    refine if0_by (lackP o r) (fun R k => ?_) (fun hb => ?_) (fun hb => ?_)
    · refine ⟨_, rfl, tu, _, 0, _, rfl, rfl, SqT.of htu, atI_nat (j := 0) rfl, rfl, _, rfl, ?_⟩
      unfold lackP at k
      rw [dec_str]
      cases e1 : decide (r.word = "only") with
      | false => rw [e1] at k; exact iteF k
      | true =>
        rw [e1] at k
        refine iteT ⟨_, rfl, tu, _, 1, _, rfl, rfl, SqT.of htu, atI_nat (j := 1) rfl, _, rfl, rIn_i (SqL.of ha) ⟨_, rfl, ?_⟩⟩
        cases e2 : o.contains r.one with
        | false => rw [e2] at k; exact iteF k
        | true => rw [e2] at k; exact iteT ⟨_, rfl, tu, _, 2, _, rfl, rfl, SqT.of htu, atI_nat (j := 2) rfl, _, rfl, rNi_i (SqL.of ha) ⟨_, rfl, k⟩⟩
    · exact ⟨_, rfl, q2 r _ (find_at hr2 hn hb) ⟨tu, rfl, htu⟩⟩
    · exact ⟨_, rfl, rfl, by rw [any_take hr2, hn, hb]; rfl⟩
  · rintro σ H' ⟨v2, rfl, rfl, hn⟩
    rw [hrs.length, List.take_length] at hn
    exact q1 (find_no hn)
end
end VS
set_option Elab.async false
set_option linter.all false
set_option maxRecDepth 100000
set_option maxHeartbeats 4000000
namespace VS
open PySem PySem.Spec PyProof.Rows L2
/-! ### what is cut off, in plain lists -/
def min2 (a b : Int) : Int := if b < a then b else a
def max2 (a b : Int) : Int := if b > a then b else a
def cutI (xs : List Int) (lo hi : Option Int) : List Int := (xs.drop (HT.sIx xs.length 0 lo)).take (HT.sIx xs.length xs.length hi - HT.sIx xs.length 0 lo)
theorem cutV_ivs (xs : List Int) (lo hi : Option Int) : cutV (ivs xs) lo hi = ivs (cutI xs lo hi) := by
  unfold cutV cutI ivs
  rw [List.length_map, List.map_take, List.map_drop]
theorem cutI_mem {xs : List Int} {lo hi : Option Int} {x : Int} (h : x ∈ cutI xs lo hi) : x ∈ xs := List.mem_of_mem_drop (List.mem_of_mem_take h)
theorem cutI_len {xs : List Int} {lo k : Int} (h0 : 0 ≤ lo) (hk : 0 ≤ k) (h1 : lo + k ≤ xs.length) : (cutI xs (some lo) (some (lo + k))).length = k.toNat := by
  unfold cutI
  have e1 : HT.sIx xs.length 0 (some lo) = lo.toNat := by
    show (if lo < 0 then _ else min lo.toNat xs.length) = _
    rw [if_neg (by omega)]; omega
  have e2 : HT.sIx xs.length xs.length (some (lo + k)) = (lo + k).toNat := by
    show (if lo + k < 0 then _ else min (lo + k).toNat xs.length) = _
    rw [if_neg (by omega)]; omega
  rw [e1, e2, List.length_take, List.length_drop]
  omega
def setI (t : List Int) (i x : Int) : List Int := t.set i.toNat x
theorem setI_ivs (t : List Int) (i x : Int) : (ivs t).set i.toNat (.int x) = ivs (setI t i x) := by unfold ivs setI; rw [List.map_set]
def scatF (t : List Int) (zs : List (Int × Int)) : List Int := zs.foldl (fun t z => setI t z.1 z.2) t
def keyD (ps : List Int) (b : Int) : PyData := .tuple [.int (-(gi ps b)), .int b]
def leP (ps : List Int) : Int → Int → Bool := PySem.W.dataLe false (keyD ps)
def rngI (n : Nat) : List Int := (List.range n).map natI
def placesF (ps : List Int) : List Int := (rngI ps.length).mergeSort (leP ps)
def grpN (n : Nat) (many : Int) : Nat := (Builtin.Range.rangeSize 0 ((n : Int) - many + 1) many).toNat
def grpF (ps : List Int) (many : Int) (i : Nat) : List Int := cutI (placesF ps) (some ((i : Int) * many)) (some ((i : Int) * many + many))
def groupsF (ps : List Int) (many : Int) : List (List Int) := (List.range (grpN ps.length many)).map (grpF ps many)
def linesF (os : List Int) : List Int := (rngI 60).filter fun k => os.contains k
def ownP (ps : List Int) (pl : List Int) : List Int := pl.map (gi ps)
def plcF (os : List Int) (n : Nat) (l : Int) : List Int := (rngI n).filter fun at_ => gi os at_ == l
def shStep (n : Int) (ps os : List Int) (t : List Int) (l : Int) : List Int :=
  scatF t ((plcF os ps.length l).zip (dealtF ((ownP ps (plcF os ps.length l)).sum * n / 1000) (ownP ps (plcF os ps.length l))))
def lastI (g : List Int) : Int := g.getLastD 0
def chStep (ps : List Int) (t : List Int) (g : List Int) : List Int := setI t (lastI g) (gi ps (lastI g))
def buStep (p : Int) (ps : List Int) (t : List Int) (g : List Int) : List Int := scatF t (g.zip (dealtF (max2 0 ((ownP ps g).sum - p)) (ownP ps g)))
def zerosI (n : Nat) : List Int := List.replicate n 0
def wantedF : SortD → List Int → List Int → List Int
  | .off n, ps, _ => dealtF (min2 n ps.sum) ps
  | .share n false, ps, _ => dealtF (ps.sum * n / 1000) ps
  | .share n true, ps, os => (linesF os).foldl (shStep n ps os) (zerosI ps.length)
  | .cheapest n, ps, _ => (groupsF ps n).foldl (chStep ps) (zerosI ps.length)
  | .bundle n p, ps, _ => (groupsF ps n).foldl (buStep p ps) (zerosI ps.length)
  | .carriage, ps, _ => zerosI ps.length
def feeF : SortD → Int → Int
  | .carriage, c => c
  | _, _ => 0
/-! ### bounds -/
def Bd (t p : List Int) : Prop := t.length = p.length ∧ ∀ (i : Nat), i < p.length → 0 ≤ t.getD i 0 ∧ t.getD i 0 ≤ p.getD i 0
def NN (p : List Int) : Prop := ∀ x ∈ p, 0 ≤ x
theorem nn_sum : ∀ {p : List Int}, NN p → 0 ≤ p.sum
  | [], _ => Int.le_refl _
  | a :: r, h => by
    rw [List.sum_cons]
    have h1 := h a (List.mem_cons_self ..)
    have h2 := nn_sum (p := r) fun x hx => h x (List.mem_cons_of_mem _ hx)
    omega
theorem nn_get {p : List Int} (h : NN p) (i : Nat) : 0 ≤ p.getD i 0 := by
  rw [List.getD_eq_getElem?_getD]
  cases e : p[i]? with
  | none => exact Int.le_refl _
  | some x => exact h x (List.mem_of_getElem? e)
theorem sum_le {p : List Int} {c : Int} (h : ∀ x ∈ p, x ≤ c) : p.sum ≤ c * p.length := by
  induction p with
  | nil => simp
  | cons a r ih =>
    rw [List.sum_cons, List.length_cons]
    have h1 := h a (List.mem_cons_self ..)
    have h2 := ih fun x hx => h x (List.mem_cons_of_mem _ hx)
    have h3 : c * ((r.length + 1 : Nat) : Int) = c * (r.length : Int) + c := by
      rw [Int.natCast_add, Int.mul_add]; simp
    omega
theorem bd_nn {t p : List Int} (h : Bd t p) : NN t := fun x hx => by
  obtain ⟨i, hi⟩ := List.mem_iff_getElem?.mp hx
  have hlt : i < t.length := (List.getElem?_eq_some_iff.mp hi).1
  have := (h.2 i (by rw [← h.1]; exact hlt)).1
  rw [getD_of hi] at this
  exact this
theorem bd_zero {p : List Int} (h : NN p) : Bd (zerosI p.length) p := by
  refine ⟨List.length_replicate, fun i hi => ?_⟩
  have e : (zerosI p.length).getD i 0 = 0 := getD_of (by unfold zerosI; rw [List.getElem?_replicate, if_pos hi])
  rw [e]
  exact ⟨Int.le_refl _, nn_get h i⟩
theorem bd_set {t p : List Int} {i x : Int} (h : Bd t p) (h0 : 0 ≤ x) (h1 : x ≤ gi p i) : Bd (setI t i x) p := by
  refine ⟨by unfold setI; rw [List.length_set]; exact h.1, fun j hj => ?_⟩
  unfold setI
  rw [List.getD_eq_getElem?_getD, List.getElem?_set]
  by_cases e : i.toNat = j
  · subst e
    rw [if_pos rfl, if_pos (by rw [h.1]; exact hj)]
    exact ⟨h0, h1⟩
  · rw [if_neg e, ← List.getD_eq_getElem?_getD]
    exact h.2 j hj
theorem bd_scat {p : List Int} : ∀ {zs : List (Int × Int)} {t : List Int}, Bd t p → (∀ z ∈ zs, 0 ≤ z.2 ∧ z.2 ≤ gi p z.1) → Bd (scatF t zs) p
  | [], _, h, _ => h
  | z :: r, t, h, hz => bd_scat (zs := r) (bd_set h (hz z (List.mem_cons_self ..)).1 (hz z (List.mem_cons_self ..)).2) fun y hy => hz y (List.mem_cons_of_mem _ hy)
theorem bd_fold {α : Type} {p : List Int} {f : List Int → α → List Int} : ∀ {l : List α} {t : List Int}, Bd t p → (∀ t a, a ∈ l → Bd t p → Bd (f t a) p) → Bd (l.foldl f t) p
  | [], _, h, _ => h
  | a :: r, t, h, hf => bd_fold (l := r) (hf t a (List.mem_cons_self ..) h) fun t b hb => hf t b (List.mem_cons_of_mem _ hb)
theorem share_step {c W u w : Int} (c0 : 0 ≤ c) (c1 : c ≤ W) (w0 : 0 ≤ w) : 0 ≤ shareF c W (u + w) - shareF c W u ∧ shareF c W (u + w) - shareF c W u ≤ w := by
  unfold shareF
  by_cases hW : 0 < W
  · rw [if_pos hW, if_pos hW]
    have e1 : c * (u + w) = c * u + c * w := Int.mul_add ..
    have p1 : 0 ≤ c * w := Int.mul_nonneg c0 w0
    have p2 : c * w ≤ W * w := Int.mul_le_mul_of_nonneg_right c1 w0
    have m1 : c * u / W ≤ c * (u + w) / W := Int.ediv_le_ediv hW (by omega)
    have m2 : c * (u + w) / W ≤ (c * u + W * w) / W := Int.ediv_le_ediv hW (by omega)
    rw [Int.add_mul_ediv_left _ _ (by omega)] at m2
    omega
  · rw [if_neg hW, if_neg hW]
    omega
theorem deal_bd {c W : Int} (c0 : 0 ≤ c) (c1 : c ≤ W) : ∀ (ws done : List Int) (st : List Int × Int × Int), NN ws → Bd st.1 done → st.2.2 = shareF c W st.2.1 → Bd (ws.foldl (dealtStep c W) st).1 (done ++ ws)
  | [], done, st, _, h, _ => by rw [List.append_nil]; exact h
  | w :: r, done, st, hn, h, he => by
    rw [List.foldl_cons, show done ++ w :: r = (done ++ [w]) ++ r from by rw [List.append_assoc]; rfl]
    have w0 := hn w (List.mem_cons_self ..)
    refine deal_bd c0 c1 r (done ++ [w]) _ (fun x hx => hn x (List.mem_cons_of_mem _ hx)) ?_ rfl
    obtain ⟨s1, s2⟩ := share_step (u := st.2.1) c0 c1 w0
    rw [← he] at s1 s2
    refine ⟨by show (st.1 ++ [_]).length = _; rw [List.length_append, List.length_append, h.1]; rfl, fun i hi => ?_⟩
    show 0 ≤ (st.1 ++ [_]).getD i 0 ∧ (st.1 ++ [_]).getD i 0 ≤ _
    rw [List.length_append, List.length_singleton] at hi
    by_cases hlt : i < done.length
    · rw [List.getD_eq_getElem?_getD, List.getElem?_append_left (by rw [h.1]; exact hlt), ← List.getD_eq_getElem?_getD, List.getD_eq_getElem?_getD (l := done ++ [w]), List.getElem?_append_left hlt, ← List.getD_eq_getElem?_getD]
      exact h.2 i hlt
    · have e : i = done.length := by omega
      rw [getD_of (x := shareF c W (st.2.1 + w) - st.2.2) (by rw [e, ← h.1, List.getElem?_append_right (Nat.le_refl _), Nat.sub_self]; rfl), getD_of (x := w) (by rw [e, List.getElem?_append_right (Nat.le_refl _), Nat.sub_self]; rfl)]
      exact ⟨s1, s2⟩
theorem dealt_bd {c : Int} {ws : List Int} (h : NN ws) (c0 : 0 ≤ c) (c1 : c ≤ ws.sum) : Bd (dealtF c ws) ws := by
  have := deal_bd c0 c1 ws [] ([], 0, 0) h ⟨rfl, fun i hi => absurd hi (by simp)⟩ (by unfold shareF; split <;> simp)
  rw [List.nil_append] at this
  exact this
theorem dealt_len (c : Int) (ws : List Int) : (dealtF c ws).length = ws.length := by
  unfold dealtF
  rw [deal_len]
  simp
theorem own_nn {ps pl : List Int} (h : NN ps) : NN (ownP ps pl) := fun x hx => by
  obtain ⟨a, _, rfl⟩ := List.mem_map.mp hx
  exact nn_get h _
theorem zip_bd {ps pl d : List Int} (h : Bd d (ownP ps pl)) : ∀ z ∈ pl.zip d, 0 ≤ z.2 ∧ z.2 ≤ gi ps z.1 := by
  intro z hz
  obtain ⟨i, hi⟩ := List.mem_iff_getElem?.mp hz
  rw [List.getElem?_zip_eq_some] at hi
  have hlt : i < pl.length := (List.getElem?_eq_some_iff.mp hi.1).1
  have b := h.2 i (by unfold ownP; rw [List.length_map]; exact hlt)
  have e : (ownP ps pl).getD i 0 = gi ps z.1 := getD_of (by unfold ownP; rw [List.getElem?_map, hi.1]; rfl)
  rw [getD_of hi.2, e] at b
  exact b
theorem min2_le (a b : Int) : min2 a b ≤ a ∧ min2 a b ≤ b := by unfold min2; split <;> omega
theorem min2_ge {a b c : Int} (h1 : c ≤ a) (h2 : c ≤ b) : c ≤ min2 a b := by unfold min2; split <;> omega
theorem share_le {s n : Int} (h : 0 ≤ s) (n0 : 0 ≤ n) (n1 : n ≤ 1000) : 0 ≤ s * n / 1000 ∧ s * n / 1000 ≤ s := by
  have h1 : s * n ≤ s * 1000 := Int.mul_le_mul_of_nonneg_left n1 h
  have h2 : 0 ≤ s * n := Int.mul_nonneg h n0
  omega
theorem max2_bd {s p : Int} (h : 0 ≤ s) (hp : 0 ≤ p) : 0 ≤ max2 0 (s - p) ∧ max2 0 (s - p) ≤ s := by unfold max2; split <;> omega
theorem wanted_bd {u : SortD} {ps os : List Int} (h : NN ps) (hs : SortOk u) : Bd (wantedF u ps os) ps := by
  have s0 := nn_sum h
  cases u with
  | off n => exact dealt_bd h (min2_ge hs s0) (min2_le _ _).2
  | share n b =>
    cases b with
    | false => exact dealt_bd h (share_le s0 hs.1 hs.2).1 (share_le s0 hs.1 hs.2).2
    | true =>
      refine bd_fold (bd_zero h) fun t l _ ht => bd_scat ht (zip_bd ?_)
      have o := nn_sum (own_nn (pl := plcF os ps.length l) h)
      exact dealt_bd (own_nn h) (share_le o hs.1 hs.2).1 (share_le o hs.1 hs.2).2
  | cheapest n => exact bd_fold (bd_zero h) fun t g _ ht => bd_set ht (nn_get h _) (Int.le_refl _)
  | bundle n p =>
    refine bd_fold (bd_zero h) fun t g _ ht => bd_scat ht (zip_bd ?_)
    have o := nn_sum (own_nn (pl := g) h)
    exact dealt_bd (own_nn h) (max2_bd o hs.2.2).1 (max2_bd o hs.2.2).2
  | carriage => exact bd_zero h
theorem fee_bd {u : SortD} {c : Int} (h : 0 ≤ c) : 0 ≤ feeF u c ∧ feeF u c ≤ c := by
  cases u <;> first | exact ⟨Int.le_refl _, h⟩ | exact ⟨h, Int.le_refl _⟩
/-! ### groups -/
theorem rngI_mem {n : Nat} {x : Int} : x ∈ rngI n ↔ 0 ≤ x ∧ x < n := by
  unfold rngI natI
  rw [List.mem_map]
  constructor
  · rintro ⟨i, hi, rfl⟩
    have := List.mem_range.mp hi
    exact ⟨by omega, by omega⟩
  · rintro ⟨h0, h1⟩
    exact ⟨x.toNat, List.mem_range.mpr (by omega), by omega⟩
theorem rngI_len (n : Nat) : (rngI n).length = n := by unfold rngI; rw [List.length_map, List.length_range]
theorem places_len (ps : List Int) : (placesF ps).length = ps.length := by unfold placesF; rw [List.length_mergeSort, rngI_len]
theorem places_mem {ps : List Int} {x : Int} (h : x ∈ placesF ps) : 0 ≤ x ∧ x < ps.length := rngI_mem.mp (by unfold placesF at h; exact List.mem_mergeSort.mp h)
theorem grp_in {n : Nat} {many : Int} {i : Nat} (h2 : 2 ≤ many) (hi : i < grpN n many) : 0 ≤ (i : Int) * many ∧ (i : Int) * many + many ≤ n := by
  unfold grpN Builtin.Range.rangeSize at hi
  rw [if_pos (by omega)] at hi
  have p0 : 0 ≤ (i : Int) * many := Int.mul_nonneg (by omega) (by omega)
  by_cases hb : (0 : Int) < (n : Int) - many + 1
  · rw [if_pos hb] at hi
    have hq : (i : Int) ≤ ((n : Int) - many + 1 - 0 - 1) / many := by omega
    have hm : (i : Int) * many ≤ ((n : Int) - many + 1 - 0 - 1) / many * many := Int.mul_le_mul_of_nonneg_right hq (by omega)
    have hd := Int.ediv_mul_le ((n : Int) - many + 1 - 0 - 1) (show many ≠ 0 by omega)
    omega
  · rw [if_neg hb] at hi
    simp at hi
theorem grpN_le {n : Nat} {many : Int} (h2 : 2 ≤ many) : grpN n many ≤ n := by
  by_cases h : grpN n many = 0
  · omega
  · have := grp_in (n := n) (i := grpN n many - 1) h2 (by omega)
    have h3 : ((grpN n many - 1 : Nat) : Int) * 2 ≤ ((grpN n many - 1 : Nat) : Int) * many := Int.mul_le_mul_of_nonneg_left h2 (by omega)
    omega
theorem grp_len {ps : List Int} {many : Int} {i : Nat} (h2 : 2 ≤ many) (hi : i < grpN ps.length many) : (grpF ps many i).length = many.toNat := by
  have := grp_in h2 hi
  exact cutI_len this.1 (by omega) (by rw [places_len]; exact this.2)
theorem grp_mem {ps : List Int} {many : Int} {g : List Int} (h : g ∈ groupsF ps many) {x : Int} (hx : x ∈ g) : 0 ≤ x ∧ x < ps.length := by
  obtain ⟨i, _, rfl⟩ := List.mem_map.mp h
  exact places_mem (cutI_mem hx)
end VS
set_option Elab.async false
set_option linter.all false
set_option maxRecDepth 100000
set_option maxHeartbeats 4000000
namespace VS
open PySem PySem.Spec PyProof.Rows L2
theorem ixN_in {n : Nat} {k : Int} (h0 : 0 ≤ k) (h1 : k < n) : ixN n k = some k.toNat := by unfold ixN; rw [if_pos h0, if_pos h1]
/-- a list of whole numbers -/
def ListAt (H : Hp) (v : V) (g : List Int) : Prop := ∃ b, v = .ref b ∧ H b = some (.lst (ivs g))
theorem ListAt.gr {tb : Addr} {H H' : Hp} (g : Gr tb H H') {v : V} {l : List Int} : ListAt H v l → ListAt H' v l := fun ⟨b, e, h⟩ => ⟨b, e, g.lst h⟩
/-- one that is new to H0 -/
def NListAt (H0 H : Hp) (v : V) (g : List Int) : Prop := ∃ b, v = .ref b ∧ H0 b = none ∧ H b = some (.lst (ivs g))
/-- told[k] = x, all else stays -/
theorem set_in {tb : Addr} {H0 H : Hp} {p : Addr} {xs : List Int} {k x : Int} {N : Hp → Prop} (g : GrB tb [p] H0 H) (h : H p = some (.lst (ivs xs))) (k0 : 0 ≤ k) (k1 : k < xs.length)
    (q : ∀ H', GrB tb [p] H0 H' → H' p = some (.lst (ivs (setI xs k x))) → N H') : rSetL (.ref p) (.int k) (.int x) H N :=
  ⟨p, _, k, _, rfl, rfl, h, ixN_in k0 (by rw [ivs_len]; exact k1), q _ (g.trans (GrB.put h (fun _ z => nomatch z) fun _ z => nomatch z)) (by rw [upd_same, setI_ivs])⟩
/-- told[k] = x, told a new list of ints -/
theorem set_at {tb : Addr} {H0 H : Hp} {p : Addr} {xs : List Int} {k x : Int} {N : Hp → Prop} (g : Gr tb H0 H) (n : H0 p = none) (h : H p = some (.lst (ivs xs))) (k0 : 0 ≤ k) (k1 : k < xs.length)
    (q : ∀ H', Gr tb H0 H' → H' p = some (.lst (ivs (setI xs k x))) → N H') : rSetL (.ref p) (.int k) (.int x) H N :=
  ⟨p, _, k, _, rfl, rfl, h, ixN_in k0 (by rw [ivs_len]; exact k1), q _ (g.putL n h) (by rw [upd_same, setI_ivs])⟩
theorem zip_get {a b : List Int} {i : Nat} {x y : Int} (h1 : a[i]? = some x) (h2 : b[i]? = some y) : (a.zip b)[i]? = some (x, y) := List.getElem?_zip_eq_some.mpr ⟨h1, h2⟩
theorem scat_snoc {t : List Int} {zs : List (Int × Int)} {i : Nat} {x y : Int} (h : zs[i]? = some (x, y)) : scatF t (zs.take (i + 1)) = setI (scatF t (zs.take i)) x y := foldl_snoc h
theorem scat_len {t : List Int} {zs : List (Int × Int)} : (scatF t zs).length = t.length := by
  induction zs generalizing t with
  | nil => rfl
  | cons z r ih => exact (ih (t := setI t z.1 z.2)).trans (by unfold setI; rw [List.length_set])
theorem setI_len (t : List Int) (i x : Int) : (setI t i x).length = t.length := by unfold setI; rw [List.length_set]
theorem zeros_ivs (n : Nat) : (List.replicate n [V.int 0]).flatten = ivs (zerosI n) := by
  unfold ivs zerosI
  rw [List.map_replicate]
  induction n with
  | zero => rfl
  | succ n ih => rw [List.replicate_succ, List.flatten_cons, ih]; rfl
/-! ### what each sort wants -/
def spWanted (tb : Addr) (K : PySem.W.Frag) (s : SortD) : Sp := fun vs H Q _ => ∃ a dx m p o ps os, vs = [.ref a, .ref p, .ref o] ∧ H a = some (.ins (sortC K s) dx (sortA m s)) ∧ H p = some (.lst (ivs ps)) ∧ H o = some (.lst (ivs os)) ∧
  os.length = ps.length ∧ ps.length ≤ 60 ∧ (NN ps ∧ ps.sum < 1125899906842624) ∧ (∀ x ∈ os, 0 ≤ x ∧ x < 60) ∧ SortOk s ∧ LamX.TabS H tb lamQ ∧ NewL tb H (ivs (wantedF s ps os)) Q
def spFee (K : PySem.W.Frag) (s : SortD) : Sp := fun vs H Q _ => ∃ a dx m c, vs = [.ref a, .int c] ∧ H a = some (.ins (sortC K s) dx (sortA m s)) ∧ Q (.int (feeF s c)) H
def spGroups (tb : Addr) : Sp := fun vs H Q _ => ∃ a ps many, vs = [.ref a, .int many] ∧ H a = some (.lst (ivs ps)) ∧ ps.length ≤ 60 ∧ 2 ≤ many ∧ many ≤ 100 ∧ LamX.TabS H tb lamQ ∧
  ∀ H' l gs, Gr tb H H' → H l = none → H' l = some (.lst gs) → Paired (NListAt H H') gs (groupsF ps many) → Q (.ref l) H'
section
variable {P : Program} {w : World} {K : PySem.W.Frag} {mg : Str → Option Value} {base : Heap} {tb : Addr}
theorem sc_Off_wanted : FnScope ["self", "prices", "owners"] ["self", "prices", "owners"] (defScope s_Off_wanted) := ⟨rfl, rfl, rfl, by decide +kernel, rfl, by decide +kernel, by decide +kernel⟩
theorem ok_Off_wanted (T : TX K mg) (n : Int) : Met P w K mg base 3 (COff K) "wanted" (spWanted tb K (.off n)) := by
  obtain ⟨fd, F⟩ := T.df_Off_wanted
  refine met_of T.c_Off T.m_Off_wanted (F.ok (k := 2) sc_Off_wanted (fun vs H Q E h => ?_) fun cdv A outer s H vs Q E hr h => ?_) (F.bindsN (ps := ["self", "prices", "owners"]) fun _ _ _ _ _ _ us hl => match us, hl with | [_, _, _], _ => rfl)
  · obtain ⟨a, dx, m, p, o, ps, os, rfl, _⟩ := h
    rfl
  have c_dealt : Cal P w K mg base 1 "dealt" (spDealt tb) := ok_dealt T
  obtain ⟨a, dx, m, p, o, ps, os, rfl, ha, hp, ho, hl, h60, ⟨hn, hs⟩, hx, hk, ht, q⟩ := h
  refine ⟨_, PSs.nox
    (pss_one (ps_ret (pe_c c_dealt hr (by decide) rfl (pa_cons (pe_callB (call_min2 rfl) rfl T.f_min B_min (pa_cons (pe_fld (pv 0) rfl) (pa_cons (pe_callB (cr_sum rfl) rfl T.f_sum B_sum (pa_cons (pv 1) pa_nil)) pa_nil))) (pa_cons (pv 1) pa_nil))))), ?_⟩
  have hk : 0 ≤ n := hk
  have s0 := nn_sum hn
  have b1 := (min2_le n ps.sum).2
  have b2 : 0 ≤ min2 n ps.sum := min2_ge hk s0
  refine ⟨_, rfl, T.r_Off_amount ha ⟨_, rfl, p, ps, rfl, SqL.of hp, _, _, rfl, _, rfl, _, _, _, rfl, hp, by omega, ⟨b2, Int.lt_of_le_of_lt b1 (by omega)⟩, by omega, ?_⟩⟩
  exact q
theorem sc_Voucher_wanted : FnScope ["self", "prices", "owners"] ["self", "prices", "owners"] (defScope s_Voucher_wanted) := ⟨rfl, rfl, rfl, by decide +kernel, rfl, by decide +kernel, by decide +kernel⟩
theorem ok_Carriage_wanted (T : TX K mg) : Met P w K mg base 3 (CCarriage K) "wanted" (spWanted tb K .carriage) := by
  obtain ⟨fd, F⟩ := T.df_Carriage_wanted
  refine met_of T.c_Carriage T.m_Carriage_wanted (F.ok (k := 2) sc_Voucher_wanted (fun vs H Q E h => ?_) fun cdv A outer s H vs Q E hr h => ?_) (F.bindsN (ps := ["self", "prices", "owners"]) fun _ _ _ _ _ _ us hl => match us, hl with | [_, _, _], _ => rfl)
  · obtain ⟨a, dx, m, p, o, ps, os, rfl, _⟩ := h
    rfl
  obtain ⟨a, dx, m, p, o, ps, os, rfl, ha, hp, ho, hl, h60, ⟨hn, hs⟩, hx, hk, ht, q⟩ := h
  refine ⟨_, PSs.nox
    (pss_one (ps_ret (pe_op op_rep (pe_lst (pa_cons pe_int pa_nil)) (pe_callB call_len_seq rfl T.f_len B_len (pa_cons (pv 1) pa_nil))))), ?_⟩
  refine ⟨Nat.le_of_lt (small1000 (by decide)), fun z hz => ?_⟩
  have nz := ne_of_none hp hz
  refine ⟨_, rfl, p, _, rfl, .inl (SqL.of (by rw [upd_ne nz]; exact hp)), z, _, _, rfl, rfl, upd_same, by omega, by rw [ivs_len]; omega, ?_, fun f hf => ?_⟩
  · rw [ivs_len]
    exact Nat.le_of_lt (small1000 (by simp; omega))
  refine q f _ ((Gr.new hz).add hf) (GrB.free (S := []) (tb := tb) (Gr.new hz) f hf) ?_
  rw [upd_same, ivs_len, Int.toNat_natCast, zeros_ivs]
  rfl
/-! ### what is wanted off the carriage -/
theorem sc_Voucher_wanted_carriage : FnScope ["self", "carriage"] ["self", "carriage"] (defScope s_Voucher_wanted_carriage) := ⟨rfl, rfl, rfl, by decide +kernel, rfl, by decide +kernel, by decide +kernel⟩
theorem ok_Off_fee (T : TX K mg) (n : Int) : Met P w K mg base 3 (COff K) "wanted_carriage" (spFee K (.off n)) := by
  obtain ⟨fd, F⟩ := T.df_Off_wanted_carriage
  refine met_of T.c_Off T.m_Off_wanted_carriage (F.ok (k := 2) sc_Voucher_wanted_carriage (fun vs H Q E h => ?_) fun cdv A outer s H vs Q E hr h => ?_) (F.bindsN (ps := ["self", "carriage"]) fun _ _ _ _ _ _ us hl => match us, hl with | [_, _], _ => rfl)
  · obtain ⟨a, dx, m, c, rfl, _⟩ := h
    rfl
  obtain ⟨a, dx, m, c, rfl, ha, q⟩ := h
  exact ⟨_, PSs.nox
    (pss_one (ps_ret pe_int)), q⟩
theorem ok_Share_fee (T : TX K mg) (n : Int) (b : Bool) : Met P w K mg base 3 (CShare K) "wanted_carriage" (spFee K (.share n b)) := by
  obtain ⟨fd, F⟩ := T.df_Share_wanted_carriage
  refine met_of T.c_Share T.m_Share_wanted_carriage (F.ok (k := 2) sc_Voucher_wanted_carriage (fun vs H Q E h => ?_) fun cdv A outer s H vs Q E hr h => ?_) (F.bindsN (ps := ["self", "carriage"]) fun _ _ _ _ _ _ us hl => match us, hl with | [_, _], _ => rfl)
  · obtain ⟨a, dx, m, c, rfl, _⟩ := h
    rfl
  obtain ⟨a, dx, m, c, rfl, ha, q⟩ := h
  exact ⟨_, PSs.nox
    (pss_one (ps_ret pe_int)), q⟩
theorem ok_Cheapest_fee (T : TX K mg) (n : Int) : Met P w K mg base 3 (CCheapest K) "wanted_carriage" (spFee K (.cheapest n)) := by
  obtain ⟨fd, F⟩ := T.df_Cheapest_wanted_carriage
  refine met_of T.c_Cheapest T.m_Cheapest_wanted_carriage (F.ok (k := 2) sc_Voucher_wanted_carriage (fun vs H Q E h => ?_) fun cdv A outer s H vs Q E hr h => ?_) (F.bindsN (ps := ["self", "carriage"]) fun _ _ _ _ _ _ us hl => match us, hl with | [_, _], _ => rfl)
  · obtain ⟨a, dx, m, c, rfl, _⟩ := h
    rfl
  obtain ⟨a, dx, m, c, rfl, ha, q⟩ := h
  exact ⟨_, PSs.nox
    (pss_one (ps_ret pe_int)), q⟩
theorem ok_Bundle_fee (T : TX K mg) (n p : Int) : Met P w K mg base 3 (CBundle K) "wanted_carriage" (spFee K (.bundle n p)) := by
  obtain ⟨fd, F⟩ := T.df_Bundle_wanted_carriage
  refine met_of T.c_Bundle T.m_Bundle_wanted_carriage (F.ok (k := 2) sc_Voucher_wanted_carriage (fun vs H Q E h => ?_) fun cdv A outer s H vs Q E hr h => ?_) (F.bindsN (ps := ["self", "carriage"]) fun _ _ _ _ _ _ us hl => match us, hl with | [_, _], _ => rfl)
  · obtain ⟨a, dx, m, c, rfl, _⟩ := h
    rfl
  obtain ⟨a, dx, m, c, rfl, ha, q⟩ := h
  exact ⟨_, PSs.nox
    (pss_one (ps_ret pe_int)), q⟩
theorem sc_Carriage_wanted_carriage : FnScope ["self", "carriage"] ["self", "carriage"] (defScope s_Carriage_wanted_carriage) := ⟨rfl, rfl, rfl, by decide +kernel, rfl, by decide +kernel, by decide +kernel⟩
theorem ok_Carriage_fee (T : TX K mg) : Met P w K mg base 3 (CCarriage K) "wanted_carriage" (spFee K .carriage) := by
  obtain ⟨fd, F⟩ := T.df_Carriage_wanted_carriage
  refine met_of T.c_Carriage T.m_Carriage_wanted_carriage (F.ok (k := 2) sc_Carriage_wanted_carriage (fun vs H Q E h => ?_) fun cdv A outer s H vs Q E hr h => ?_) (F.bindsN (ps := ["self", "carriage"]) fun _ _ _ _ _ _ us hl => match us, hl with | [_, _], _ => rfl)
  · obtain ⟨a, dx, m, c, rfl, _⟩ := h
    rfl
  obtain ⟨a, dx, m, c, rfl, ha, q⟩ := h
  exact ⟨_, PSs.nox
    (pss_one (ps_ret (pv 1))), _, rfl, q⟩
theorem ok_fee (T : TX K mg) (s : SortD) : Met P w K mg base 3 (sortC K s) "wanted_carriage" (spFee K s) := by
  cases s with
  | off n => exact ok_Off_fee T n
  | share n b => exact ok_Share_fee T n b
  | cheapest n => exact ok_Cheapest_fee T n
  | bundle n p => exact ok_Bundle_fee T n p
  | carriage => exact ok_Carriage_fee T
end
end VS
set_option Elab.async false
set_option linter.all false
set_option maxRecDepth 100000
set_option maxHeartbeats 4000000
namespace VS
open PySem PySem.Spec PyProof.Rows L2
theorem last_ix {g : List Int} {m : Nat} (h : g.length = m) (h1 : 1 ≤ m) : atI (ivs g) (-1) = some (.int (lastI g)) ∧ lastI g ∈ g := by
  have hn : g ≠ [] := fun e => by rw [e] at h; simp at h; omega
  have el : lastI g = g.getLast hn := by unfold lastI; rw [List.getLastD_eq_getLast?, List.getLast?_eq_some_getLast hn]; rfl
  refine ⟨?_, by rw [el]; exact List.getLast_mem hn⟩
  have hg : g[g.length - 1]? = some (lastI g) := by rw [el, List.getLast_eq_getElem]; exact List.getElem?_eq_getElem (by omega)
  unfold atI ixN
  rw [ivs_len, if_neg (by omega), if_pos (by omega)]
  show (ivs g)[((-1 : Int) + g.length).toNat]? = _
  rw [show ((-1 : Int) + g.length).toNat = g.length - 1 from by omega]
  exact ivs_get hg
theorem groups_at {ps : List Int} {many : Int} {i : Nat} {g : List Int} (h2 : 2 ≤ many) (h : (groupsF ps many)[i]? = some g) : g.length = many.toNat ∧ ∀ x ∈ g, 0 ≤ x ∧ x < ps.length := by
  refine ⟨?_, fun x hx => grp_mem (List.mem_of_getElem? h) hx⟩
  unfold groupsF at h
  obtain ⟨hj, e⟩ := List.getElem?_eq_some_iff.mp h
  rw [List.getElem_map, List.getElem_range] at e
  rw [← e]
  rw [List.length_map, List.length_range] at hj
  exact grp_len h2 hj
theorem groups_len {ps : List Int} {many : Int} (h2 : 2 ≤ many) : (groupsF ps many).length ≤ ps.length := by
  unfold groupsF
  rw [List.length_map, List.length_range]
  exact grpN_le h2
section
variable {P : Program} {w : World} {K : PySem.W.Frag} {mg : Str → Option Value} {base : Heap} {tb : Addr}
theorem sc_Cheapest_wanted : FnScope ["self", "prices", "owners", "told", "group"] ["self", "prices", "owners"] (defScope s_Cheapest_wanted) := ⟨rfl, rfl, rfl, by decide +kernel, rfl, by decide +kernel, by decide +kernel⟩
theorem ok_Cheapest_wanted (T : TX K mg) (c_groups_of : Cal P w K mg base 2 "groups_of" (spGroups tb)) (n : Int) : Met P w K mg base 3 (CCheapest K) "wanted" (spWanted tb K (.cheapest n)) := by
  obtain ⟨fd, F⟩ := T.df_Cheapest_wanted
  refine met_of T.c_Cheapest T.m_Cheapest_wanted (F.ok (k := 2) sc_Cheapest_wanted (fun vs H Q E h => ?_) fun cdv A outer s H vs Q E hr h => ?_) (F.bindsN (ps := ["self", "prices", "owners"]) fun _ _ _ _ _ _ us hl => match us, hl with | [_, _, _], _ => rfl)
  · obtain ⟨a, dx, m, p, o, ps, os, rfl, _⟩ := h
    rfl
  obtain ⟨a, dx, m, p, o, ps, os, rfl, ha, hp, ho, hl, h60, ⟨hn, hs⟩, hx, hk, ht, q⟩ := h
  have k2 : 2 ≤ n := hk.1
  refine ⟨_, PSs.nox
    (pss_cons (ps_set (i := 3) sc_Cheapest_wanted.nd rfl (Or.inl rfl) (pe_op op_rep (pe_lst (pa_cons pe_int pa_nil)) (pe_callB call_len_seq rfl T.f_len B_len (pa_cons (pv 1) pa_nil))))
    (pss_cons (ps_for PassesOwn.never rfl (pi_list (pe_c c_groups_of hr (by decide) rfl (pa_cons (pv 1) (pa_cons (pe_fld (pv 0) rfl) pa_nil)))) (pg_name (i := 4) sc_Cheapest_wanted.nd rfl (Or.inl rfl))
      (pss_one (ps_asg (pe_ix ix_list (pv 1) (pe_ix ix_list (pv 4) (pe_un un_neg pe_int) (fun _ _ => rfl)) (fun _ _ => rfl)) (pg_sub (pv 3) (pe_ix ix_list (pv 4) (pe_un un_neg pe_int) (fun _ _ => rfl)) set_list))))
    (pss_one (ps_ret (pv 3))))), ?_⟩
  refine seq_set ⟨Nat.le_of_lt (small1000 (by decide)), fun z hz => ?_⟩
  have nz := ne_of_none hp hz
  refine ⟨_, rfl, p, _, rfl, .inl (SqL.of (by rw [upd_ne nz]; exact hp)), z, _, _, rfl, rfl, upd_same, by omega, by rw [ivs_len]; omega, ?_, fun f hf => ?_⟩
  · rw [ivs_len]
    exact Nat.le_of_lt (small1000 (by simp; omega))
  have g0 : Gr tb H (upd (upd H z (.lst [.int 0])) f (.lst (List.replicate ((ivs ps).length : Int).toNat [V.int 0]).flatten)) := (Gr.new hz).add hf
  have f0 : H f = none := GrB.free (S := []) (tb := tb) (Gr.new hz) f hf
  have hf0 : upd (upd H z (.lst [.int 0])) f (.lst (List.replicate ((ivs ps).length : Int).toNat [V.int 0]).flatten) f = some (.lst (ivs (zerosI ps.length))) := by
    rw [upd_same, ivs_len, Int.toNat_natCast, zeros_ivs]
  generalize upd (upd H z (.lst [.int 0])) f (.lst (List.replicate ((ivs ps).length : Int).toNat [V.int 0]).flatten) = H1 at g0 hf0 ⊢
  refine ⟨_, rfl, _, rfl, T.r_Cheapest_many (g0.ins ha) ⟨p, ps, n, rfl, g0.lst hp, h60, k2, hk.2, g0.tab ht, fun H2 l gs g1 nl hl2 hgs => ⟨l, rfl, ⟨_, SqL.of hl2⟩, ?_⟩⟩⟩
  have g2 := g0.trans g1
  have nfl : l ≠ f := Ne.symm (ne_of_none hf0 nl)
  have back : ∀ {H'}, GrB tb [f] H2 H' → Gr tb H H' := fun g => g.back g2 fun s hs => by rw [List.mem_singleton.mp hs]; exact f0
  refine for_it (walk_list (xs := gs)) (fun i σ H' => ∃ v4, σ = [some (.ref a), some (.ref p), some (.ref o), some (.ref f), v4] ∧ GrB tb [f] H2 H' ∧ H' f = some (.lst (ivs (((groupsF ps n).take i).foldl (chStep ps) (zerosI ps.length)))))
    ⟨none, rfl, GrB.refl _, g1.lst hf0⟩ (fun i σ H' _ ⟨_, _, g, _⟩ => SqL.of (g.lst hl2 (by simpa using nfl))) ?_ ?_
  · rintro i y σ _ H' hi ⟨v4, rfl, g, hf'⟩ ⟨rfl, hy⟩
    obtain ⟨gr, hgr, b, rfl, nb, hb⟩ := paired_get hgs hy
    obtain ⟨gl, gm⟩ := groups_at k2 hgr
    obtain ⟨e1, e2⟩ := last_ix gl (by omega)
    obtain ⟨m0, m1⟩ := gm _ e2
    have nbf : b ≠ f := Ne.symm (ne_of_none hf0 nb)
    have hb' : H' b = some (.lst (ivs gr)) := g.lst hb (by simpa using nbf)
    have hp' : H' p = some (.lst (ivs ps)) := (back g).lst hp
    rw [foldl_snoc hgr]
    refine ⟨_, rfl, _, rfl, _, rfl, b, _, _, _, rfl, rfl, SqL.of hb', e1, p, _, _, _, rfl, rfl, SqL.of hp', at_ivs m0 m1, _, rfl, _, rfl, _, rfl, b, _, _, _, rfl, rfl, SqL.of hb', e1, ?_⟩
    refine set_in g hf' m0 ?_ fun H3 g3 h3 => ⟨_, rfl, g3, h3⟩
    rw [(bd_fold (f := chStep ps) (bd_zero hn) fun t g _ ht => bd_set ht (nn_get hn _) (Int.le_refl _)).1]
    exact m1
  · rintro σ H' ⟨v4, rfl, g, hf'⟩
    rw [hgs.length, List.take_length] at hf'
    exact ⟨_, rfl, q f H' (back g) f0 hf'⟩
end
end VS
set_option Elab.async false
set_option linter.all false
set_option maxRecDepth 100000
set_option maxHeartbeats 4000000
namespace VS
open PySem PySem.Spec PyProof.Rows L2
theorem own_get {ps pl : List Int} {i : Nat} {z : Int} {y : V} (hz : pl[i]? = some z) (hy : (ivs (ownP ps pl))[i]? = some y) : y = .int (gi ps z) := by
  obtain ⟨z2, hz2, rfl⟩ := ivs_of hy
  have hz2 : (pl.map (gi ps))[i]? = some z2 := hz2
  rw [List.getElem?_map, hz] at hz2
  rw [(Option.some.inj hz2).symm]
theorem own_len (ps pl : List Int) : (ownP ps pl).length = pl.length := List.length_map ..
theorem own_le {ps pl : List Int} (h : NN ps) : (ownP ps pl).sum ≤ ps.sum * pl.length := by
  rw [← own_len ps pl]
  refine sum_le fun x hx => ?_
  obtain ⟨a, ha, rfl⟩ := List.mem_map.mp hx
  show ps.getD a.toNat 0 ≤ _
  clear hx ha
  generalize a.toNat = i
  induction ps generalizing i with
  | nil => simp
  | cons b r ih =>
    have hr : NN r := fun x hx => h x (List.mem_cons_of_mem _ hx)
    have hb := h b (List.mem_cons_self ..)
    have hs := nn_sum hr
    rw [List.sum_cons]
    cases i with
    | zero => show b ≤ _; omega
    | succ i => have := ih hr i; show r.getD i 0 ≤ _; omega
section
variable {P : Program} {w : World} {K : PySem.W.Frag} {mg : Str → Option Value} {base : Heap} {tb : Addr}
theorem sc_Bundle_wanted : FnScope ["self", "prices", "owners", "told", "group", "own", "more", "at", "part"] ["self", "prices", "owners"] (defScope s_Bundle_wanted) := ⟨rfl, rfl, rfl, by decide +kernel, rfl, by decide +kernel, by decide +kernel⟩
theorem ok_Bundle_wanted (T : TX K mg) (c_groups_of : Cal P w K mg base 2 "groups_of" (spGroups tb)) (n c : Int) : Met P w K mg base 3 (CBundle K) "wanted" (spWanted tb K (.bundle n c)) := by
  obtain ⟨fd, F⟩ := T.df_Bundle_wanted
  refine met_of T.c_Bundle T.m_Bundle_wanted (F.ok (k := 2) sc_Bundle_wanted (fun vs H Q E h => ?_) fun cdv A outer s H vs Q E hr h => ?_) (F.bindsN (ps := ["self", "prices", "owners"]) fun _ _ _ _ _ _ us hl => match us, hl with | [_, _, _], _ => rfl)
  · obtain ⟨a, dx, m, p, o, ps, os, rfl, _⟩ := h
    rfl
  have c_dealt : Cal P w K mg base 1 "dealt" (spDealt tb) := ok_dealt T
  obtain ⟨a, dx, m, p, o, ps, os, rfl, ha, hp, ho, hl, h60, ⟨hn, hs⟩, hx, hk, ht, q⟩ := h
  have k2 : 2 ≤ n := hk.1
  refine ⟨_, PSs.nox
    (pss_cons (ps_set (i := 3) sc_Bundle_wanted.nd rfl (Or.inl rfl) (pe_op op_rep (pe_lst (pa_cons pe_int pa_nil)) (pe_callB call_len_seq rfl T.f_len B_len (pa_cons (pv 1) pa_nil))))
    (pss_cons (ps_for PassesOwn.never rfl (pi_list (pe_c c_groups_of hr (by decide) rfl (pa_cons (pv 1) (pa_cons (pe_fld (pv 0) rfl) pa_nil)))) (pg_name (i := 4) sc_Bundle_wanted.nd rfl (Or.inl rfl))
      (pss_cons (ps_setLc (i := 5) (own := [("at", 7)]) (g := (gName 7)) (tt := tYes) rfl sc_Bundle_wanted.nd rfl rfl (sw_true rfl rfl rfl (by decide +kernel)) (pi_list (pv 4)) (blkOk_by (own := [("at", 7)]) (N := ["self", "prices", "owners", "told", "group", "own", "more", "at", "part"]) (sc := defScope s_Bundle_wanted) (by decide +kernel)) (fun _ _ _ _ _ => (pg_name (i := 7) sc_Bundle_wanted.nd rfl (Or.inl rfl))) (fun _ _ _ _ _ => pts_nil) (fun _ _ _ _ _ => (pe_ix (ix_l T) (pv 1) (pv 7) (fun _ _ => rfl))))
      (pss_cons (ps_set (i := 6) sc_Bundle_wanted.nd rfl (Or.inl rfl) (pe_callB (call_max2 rfl) rfl T.f_max B_max (pa_cons pe_int (pa_cons (pe_op op_sub (pe_callB (cr_sum rfl) rfl T.f_sum B_sum (pa_cons (pv 5) pa_nil)) (pe_fld (pv 0) rfl)) pa_nil))))
      (pss_one (ps_for PassesOwn.never rfl (pi_zip rfl T.f_zip (pa_cons (pv 4) (pa_cons (pe_c c_dealt hr (by decide) rfl (pa_cons (pv 6) (pa_cons (pv 5) pa_nil))) pa_nil))) (pg_tup rfl (pgs_cons (pg_name (i := 7) sc_Bundle_wanted.nd rfl (Or.inl rfl)) (pgs_cons (pg_name (i := 8) sc_Bundle_wanted.nd rfl (Or.inl rfl)) pgs_nil)))
        (pss_one (ps_asg (pv 8) (pg_sub (pv 3) (pv 7) set_list))))))))
    (pss_one (ps_ret (pv 3))))), ?_⟩
  refine seq_set ⟨Nat.le_of_lt (small1000 (by decide)), fun z hz => ?_⟩
  have nz := ne_of_none hp hz
  refine ⟨_, rfl, p, _, rfl, .inl (SqL.of (by rw [upd_ne nz]; exact hp)), z, _, _, rfl, rfl, upd_same, by omega, by rw [ivs_len]; omega, ?_, fun f hf => ?_⟩
  · rw [ivs_len]
    exact Nat.le_of_lt (small1000 (by simp; omega))
  have g0 : Gr tb H (upd (upd H z (.lst [.int 0])) f (.lst (List.replicate ((ivs ps).length : Int).toNat [V.int 0]).flatten)) := (Gr.new hz).add hf
  have f0 : H f = none := GrB.free (S := []) (tb := tb) (Gr.new hz) f hf
  have hf0 : upd (upd H z (.lst [.int 0])) f (.lst (List.replicate ((ivs ps).length : Int).toNat [V.int 0]).flatten) f = some (.lst (ivs (zerosI ps.length))) := by
    rw [upd_same, ivs_len, Int.toNat_natCast, zeros_ivs]
  generalize upd (upd H z (.lst [.int 0])) f (.lst (List.replicate ((ivs ps).length : Int).toNat [V.int 0]).flatten) = H1 at g0 hf0 ⊢
  refine ⟨_, rfl, _, rfl, T.r_Bundle_many (g0.ins ha) ⟨p, ps, n, rfl, g0.lst hp, h60, k2, hk.2.1, g0.tab ht, fun H2 l gs g1 nl hl2 hgs => ⟨l, rfl, ⟨_, SqL.of hl2⟩, ?_⟩⟩⟩
  have g2 := g0.trans g1
  have nfl : l ≠ f := Ne.symm (ne_of_none hf0 nl)
  have back : ∀ {H'}, GrB tb [f] H2 H' → Gr tb H H' := fun g => g.back g2 fun s hs => by rw [List.mem_singleton.mp hs]; exact f0
  have lent : ∀ {t} {l : List (List Int)}, t.length = ps.length → (l.foldl (buStep c ps) t).length = ps.length := fun {t} {l} ht => by
    induction l generalizing t with
    | nil => exact ht
    | cons g r ih => rw [List.foldl_cons]; exact ih (by unfold buStep; rw [scat_len]; exact ht)
  refine for_it (walk_list (xs := gs)) (fun i σ H' => ∃ v4 v5 v6 v7 v8, σ = [some (.ref a), some (.ref p), some (.ref o), some (.ref f), v4, v5, v6, v7, v8] ∧ GrB tb [f] H2 H' ∧ H' f = some (.lst (ivs (((groupsF ps n).take i).foldl (buStep c ps) (zerosI ps.length)))))
    ⟨none, none, none, none, none, rfl, GrB.refl _, g1.lst hf0⟩ (fun i σ H' _ ⟨_, _, _, _, _, _, g, _⟩ => SqL.of (g.lst hl2 (by simpa using nfl))) ?_ ?_
  · rintro i y σ _ H' hi ⟨v4, v5, v6, v7, v8, rfl, g, hf'⟩ ⟨rfl, hy⟩
    obtain ⟨gr, hgr, b, rfl, nb, hb⟩ := paired_get hgs hy
    obtain ⟨gl, gm⟩ := groups_at k2 hgr
    have glen : gr.length ≤ 100 := by rw [gl]; have := hk.2.1; omega
    have nbf : b ≠ f := Ne.symm (ne_of_none hf0 nb)
    have hb' : H' b = some (.lst (ivs gr)) := g.lst hb (by simpa using nbf)
    have hp' : H' p = some (.lst (ivs ps)) := (back g).lst hp
    have lt0 := lent (t := zerosI ps.length) (l := (groupsF ps n).take i) List.length_replicate
    rw [foldl_snoc hgr]
    generalize ((groupsF ps n).take i).foldl (buStep c ps) (zerosI ps.length) = t0 at hf' lt0 ⊢
    have on := own_nn (pl := gr) hn
    have os0 := nn_sum on
    have ole := own_le (pl := gr) hn
    have mb := max2_bd (p := c) os0 hk.2.2
    have big : (ownP ps gr).sum < 2 ^ 63 := by
      have : ps.sum * (gr.length : Int) ≤ 1125899906842624 * (gr.length : Int) := Int.mul_le_mul_of_nonneg_right (by omega) (by omega)
      omega
    -- own
    refine seq_set ⟨_, rfl, b, rfl, ⟨_, SqL.of hb'⟩, fun D hD => ?_⟩
    refine lc_gr (tb := tb) (walk_list (xs := ivs gr)) (ivs (ownP ps gr)) (by rw [ivs_len, ivs_len, own_len]) (by rw [ivs_len]; omega) hD (fun H'' g => SqL.of (g.lst hb')) ?_ fun H3 g3 hd => ?_
    · rintro i x H'' _ y N hi hy g' ⟨rfl, hx⟩ k
      obtain ⟨z, hz, rfl⟩ := ivs_of hx
      obtain ⟨z0, z1⟩ := gm z (List.mem_of_getElem? hz)
      rw [own_get hz hy] at k
      exact ⟨rfl, _, rfl, _, rfl, p, _, z, _, rfl, rfl, SqL.of (g'.lst hp'), at_ivs z0 z1, k _ (GrB.refl _)⟩
    -- more
    refine seq_set ⟨_, rfl, D, _, rfl, SqL.of hd, _, rfl, T.r_Bundle_price ((back (g.trans g3.of)).ins ha) ⟨_, _, rfl, rfl, _, _, rfl, ?_⟩⟩
    -- the parts
    refine ⟨_, rfl, _, rfl, _, rfl, _, D, _, rfl, hd, by rw [own_len]; omega, ⟨mb.1, Int.lt_of_le_of_lt mb.2 big⟩, big, fun d H4 g4 nd hd4 => ?_⟩
    have hb4 : H4 b = some (.lst (ivs gr)) := g4.lst (g3.lst hb')
    have hf4 : H4 f = some (.lst (ivs t0)) := g4.lst (g3.lst hf')
    have nfd : d ≠ f := Ne.symm (ne_of_none (g3.lst hf') nd)
    have gg : GrB tb [f] H2 H4 := g.trans (Gr.of (g3.trans g4))
    refine ⟨b, d, _, _, rfl, SqL.of hb4, SqL.of hd4, ?_⟩
    refine for_it (walk_zip (xs := ivs gr) (ys := ivs (dealtF (max2 0 ((ownP ps gr).sum - c)) (ownP ps gr))) rfl) (fun j σ H' => ∃ v7 v8, σ = [some (.ref a), some (.ref p), some (.ref o), some (.ref f), some (.ref b), some (.ref D), some (.int (max2 0 ((ownP ps gr).sum - c))), v7, v8] ∧ GrB tb [f] H4 H' ∧ H' f = some (.lst (ivs (scatF t0 ((gr.zip (dealtF (max2 0 ((ownP ps gr).sum - c)) (ownP ps gr))).take j)))))
      ⟨v7, v8, rfl, GrB.refl _, hf4⟩ (fun i σ H' _ ⟨_, _, _, g, _⟩ => ⟨SqL.of (g.lst hb4 (by simpa using nbf)), SqL.of (g.lst hd4 (by simpa using nfd))⟩) ?_ ?_
    · rintro j y σ H' _ hj ⟨v7, v8, rfl, g', hf'⟩ ⟨t, x1, x2, rfl, ht, rfl, e1, e2⟩
      obtain ⟨z1, hz1, rfl⟩ := ivs_of e1
      obtain ⟨z2, hz2, rfl⟩ := ivs_of e2
      obtain ⟨m0, m1⟩ := gm z1 (List.mem_of_getElem? hz1)
      refine ⟨t, _, rfl, .inl (.inl upd_same), rfl, _, _, rfl, _, _, rfl, rfl, ?_⟩
      refine ⟨_, rfl, _, rfl, _, rfl, set_in (g'.add ht) (by rw [upd_ne (ne_of_none hf' ht)]; exact hf') m0 (by rw [scat_len, lt0]; exact m1) fun H5 g5 h5 => ⟨_, _, rfl, g5, ?_⟩⟩
      rw [scat_snoc (zip_get hz1 hz2)]
      exact h5
    · rintro σ H' ⟨v7, v8, rfl, g', hf'⟩
      refine ⟨_, _, _, _, _, rfl, gg.trans g', ?_⟩
      rw [ivs_len, ivs_len, List.take_of_length_le (by rw [List.length_zip]; exact Nat.le_refl _)] at hf'
      exact hf'
  · rintro σ H' ⟨v4, v5, v6, v7, v8, rfl, g, hf'⟩
    rw [hgs.length, List.take_length] at hf'
    exact ⟨_, rfl, q f H' (back g) f0 hf'⟩
end
end VS
set_option Elab.async false
set_option linter.all false
set_option maxRecDepth 100000
set_option maxHeartbeats 4000000
namespace VS
open PySem PySem.Spec PyProof.Rows L2
/-- an if without an else whose both ways meet in R -/
theorem seq_if0k {tc : TT} {t u : TS} {D : Ends} {σ : L2.St} {H : Hp} (b : Bool) (R : L2.St → Hp → Prop) (h : ∀ Q : Bool → Hp → Prop, Q b H → tc σ H Q)
    (ht : b = true → ∀ N : L2.St → Hp → Prop, (∀ σ' H', R σ' H' → N σ' H') → t { D with nx := N } σ H) (hf : b = false → R σ H) (hR : ∀ σ' H', R σ' H' → u D σ' H') : tSeq (tIf0 tc t) u D σ H :=
  h _ (if_b (fun e => ht e _ hR) fun e => hR _ _ (hf e))
/-! ### cuts -/
def capB (most : Option Int) (w : List Int) (fee : Int) : Bool := match most with
  | none => false
  | some m => decide (w.sum + fee > m)
def capF (most : Option Int) (w : List Int) (fee : Int) : List Int × Int := if capB most w fee then (dealtF (min2 (most.getD 0) w.sum) w, min2 (most.getD 0) fee) else (w, fee)
def pcsF (u : VouD) (ps : List (Option Int)) (B : BasketD) (S : StandD) : List Int := aboutF u.marks ps B.lines S
def capsF (u : VouD) (ps : List (Option Int)) (B : BasketD) (S : StandD) : List Int × Int :=
  capF u.marks.most (wantedF u.sort (ownP S.prices (pcsF u ps B S)) (ownP S.owners (pcsF u ps B S))) (feeF u.sort S.carriage)
def cutsF (u : VouD) (ps : List (Option Int)) (B : BasketD) (S : StandD) : List Int × Int :=
  (scatF (zerosI S.prices.length) ((pcsF u ps B S).zip (capsF u ps B S).1), (capsF u ps B S).2)
def spCuts (tb : Addr) (K : PySem.W.Frag) : Sp := fun vs H Q _ => ∃ v pv b s u ps B S, vs = [v, pv, b, s] ∧ CutIn K H v pv b s u ps B S ∧ 0 ≤ S.carriage ∧ LamX.TabS H tb lamQ ∧
  ∀ H' t l, Gr tb H H' → H' t = some (.tup [.ref l, .int (cutsF u ps B S).2]) → H' l = some (.lst (ivs (cutsF u ps B S).1)) → Q (.ref t) H'
theorem cap_bd {most : Option Int} {w q : List Int} {fee c : Int} (hw : Bd w q) (hf : 0 ≤ fee ∧ fee ≤ c) (hm : ∀ m, most = some m → 0 ≤ m) : Bd (capF most w fee).1 q ∧ 0 ≤ (capF most w fee).2 ∧ (capF most w fee).2 ≤ c := by
  unfold capF
  by_cases h : capB most w fee = true
  · rw [if_pos h]
    cases most with
    | none => cases h
    | some m =>
      have m0 := hm m rfl
      have n := bd_nn hw
      have b := dealt_bd n (min2_ge m0 (nn_sum n)) (min2_le m w.sum).2
      refine ⟨⟨b.1.trans hw.1, fun i hi => ?_⟩, min2_ge m0 hf.1, Int.le_trans (min2_le _ _).2 hf.2⟩
      have b1 := b.2 i (by rw [hw.1]; exact hi)
      have b2 := hw.2 i hi
      exact ⟨b1.1, Int.le_trans b1.2 b2.2⟩
  · rw [if_neg h]
    exact ⟨hw, hf⟩
theorem coin_nn {S : StandD} {n : Nat} (h : StandOk n S) : NN S.prices := fun x hx => (h.coin x hx).1
theorem own_sum {S : StandD} {n : Nat} {pl : List Int} (h : StandOk n S) (hl : pl.length ≤ 60) : (ownP S.prices pl).sum ≤ 60000000000000 := by
  have : (ownP S.prices pl).sum ≤ 1000000000000 * ((ownP S.prices pl).length : Int) := sum_le fun x hx => by
    obtain ⟨a, _, rfl⟩ := List.mem_map.mp hx
    show S.prices.getD a.toNat 0 ≤ _
    rw [List.getD_eq_getElem?_getD]
    cases e : S.prices[a.toNat]? with
    | none => decide
    | some x => exact (h.coin x (List.mem_of_getElem? e)).2
  rw [own_len] at this
  omega
section
variable {K : PySem.W.Frag} {H : Hp} {v pv b s : V} {u : VouD} {ps : List (Option Int)} {B : BasketD} {S : StandD}
theorem pcs_len (so : StandOk B.lines.length S) : (pcsF u ps B S).length ≤ 60 := by
  have := about_len u.marks ps B.lines S
  have := so.len
  have := so.most
  unfold pcsF
  omega
theorem caps_bd (so : StandOk B.lines.length S) (vo : VouOk u) (c0 : 0 ≤ S.carriage) : Bd (capsF u ps B S).1 (ownP S.prices (pcsF u ps B S)) ∧ 0 ≤ (capsF u ps B S).2 ∧ (capsF u ps B S).2 ≤ S.carriage :=
  cap_bd (wanted_bd (own_nn (coin_nn so)) vo.sort) (fee_bd c0) vo.most
theorem cuts_bd (so : StandOk B.lines.length S) (vo : VouOk u) (c0 : 0 ≤ S.carriage) : Bd (cutsF u ps B S).1 S.prices ∧ 0 ≤ (cutsF u ps B S).2 ∧ (cutsF u ps B S).2 ≤ S.carriage :=
  have h := caps_bd (ps := ps) so vo c0
  ⟨bd_scat (bd_zero (coin_nn so)) (zip_bd h.1), h.2⟩
end
theorem sortA_w (m : V) (s : SortD) : (sortA m s).lookup ("wanted" : Str) = none := by cases s <;> rfl
theorem sortA_c (m : V) (s : SortD) : (sortA m s).lookup ("wanted_carriage" : Str) = none := by cases s <;> rfl
theorem bd_sum : ∀ {t p : List Int}, Bd t p → t.sum ≤ p.sum
  | [], [], _ => Int.le_refl _
  | [], b :: q, h => by simp [Bd] at h
  | a :: r, [], h => by simp [Bd] at h
  | a :: r, b :: q, h => by
    have h0 := (h.2 0 (by simp)).2
    have ih := bd_sum (t := r) (p := q) ⟨by have := h.1; simpa using this, fun i hi => h.2 (i + 1) (by simpa using hi)⟩
    have h0 : a ≤ b := h0
    rw [List.sum_cons, List.sum_cons]
    omega
section
variable {P : Program} {w : World} {K : PySem.W.Frag} {mg : Str → Option Value} {base : Heap} {tb : Addr}
theorem sc_cuts : FnScope ["voucher", "parents", "basket", "standing", "pieces", "prices", "wanted", "fee", "most", "told", "piece", "cut"] ["voucher", "parents", "basket", "standing"] (defScope s_cuts) := ⟨rfl, rfl, rfl, by decide +kernel, rfl, by decide +kernel, by decide +kernel⟩
theorem ok_cuts (T : TX K mg) (W : ∀ s, Met P w K mg base 3 (sortC K s) "wanted" (spWanted tb K s)) : Cal P w K mg base 4 "cuts" (spCuts tb K) := by
  obtain ⟨fd, F⟩ := T.df_cuts
  refine cal_of F T.g_cuts (F.ok (k := 3) sc_cuts (fun vs H Q E h => ?_) fun cdv A outer s H vs Q E hr h => ?_) (F.bindsN (ps := ["voucher", "parents", "basket", "standing"]) fun _ _ _ _ _ _ us hl => match us, hl with | [_, _, _, _], _ => rfl)
  · obtain ⟨v, pv, b, s, u, ps, B, S, rfl, _⟩ := h
    rfl
  have c_dealt : Cal P w K mg base 1 "dealt" (spDealt tb) := ok_dealt T
  have c_about : Cal P w K mg base 2 "about" (spAbout tb K) := ok_about T
  obtain ⟨v, pv_, b, s_, u, ps, B, S, rfl, c, c0, ht, q⟩ := h
  have mt_wanted := W u.sort
  have mt_wanted_carriage : Met P w K mg base 3 (sortC K u.sort) "wanted_carriage" (spFee K u.sort) := ok_fee T u.sort
  refine ⟨_, PSs.nox
    (pss_cons (ps_set (i := 4) sc_cuts.nd rfl (Or.inl rfl) (pe_c c_about hr (by decide) rfl (pa_cons (pv 0) (pa_cons (pv 1) (pa_cons (pv 2) (pa_cons (pv 3) pa_nil))))))
    (pss_cons (ps_setLc (i := 5) (own := [("piece", 10)]) (g := (gName 10)) (tt := tYes) rfl sc_cuts.nd rfl rfl (sw_true rfl rfl rfl (by decide +kernel)) (pi_list (pv 4)) (blkOk_by (own := [("piece", 10)]) (N := ["voucher", "parents", "basket", "standing", "pieces", "prices", "wanted", "fee", "most", "told", "piece", "cut"]) (sc := defScope s_cuts) (by decide +kernel)) (fun _ _ _ _ _ => (pg_name (i := 10) sc_cuts.nd rfl (Or.inl rfl))) (fun _ _ _ _ _ => pts_nil) (fun _ _ _ _ _ => (pe_ix (ix_l T) (pe_fl T (pv 3) rfl) (pv 10) (fun _ _ => rfl))))
    (pss_cons (ps_set (i := 6) sc_cuts.nd rfl (Or.inl rfl) (pe_mt mt_wanted hr (by decide) (pv 0) (pa_cons (pv 5) (pa_cons (pe_lc (own := [("piece", 10)]) (g := (gName 10)) (tt := tYes) rfl sc_cuts.nd (pi_list (pv 4)) (blkOk_by (own := [("piece", 10)]) (N := ["voucher", "parents", "basket", "standing", "pieces", "prices", "wanted", "fee", "most", "told", "piece", "cut"]) (sc := defScope s_cuts) (by decide +kernel)) (fun _ _ _ _ _ => (pg_name (i := 10) sc_cuts.nd rfl (Or.inl rfl))) (fun _ _ _ _ _ => pts_nil) (fun _ _ _ _ _ => (pe_ix (ix_l T) (pe_fl T (pv 3) rfl) (pv 10) (fun _ _ => rfl)))) pa_nil))))
    (pss_cons (ps_set (i := 7) sc_cuts.nd rfl (Or.inl rfl) (pe_mt mt_wanted_carriage hr (by decide) (pv 0) (pa_cons (pe_fld (pv 3) rfl) pa_nil)))
    (pss_cons (ps_set (i := 8) sc_cuts.nd rfl (Or.inl rfl) (pe_fld (pe_fld (pv 0) rfl) rfl))
    (pss_cons (ps_if0 (PW.pt (pw_and (pt_cmp (pc_notN (pv 8))) (pw_and1 (pt_cmpR op_gt (pe_op op_add (pe_callB (cr_sum rfl) rfl T.f_sum B_sum (pa_cons (pv 6) pa_nil)) (pv 7)) (pv 8) (nomark _)))))
      (pss_cons (ps_set (i := 6) sc_cuts.nd rfl (Or.inl rfl) (pe_c c_dealt hr (by decide) rfl (pa_cons (pe_callB (call_min2 rfl) rfl T.f_min B_min (pa_cons (pv 8) (pa_cons (pe_callB (cr_sum rfl) rfl T.f_sum B_sum (pa_cons (pv 6) pa_nil)) pa_nil))) (pa_cons (pv 6) pa_nil))))
      (pss_one (ps_set (i := 7) sc_cuts.nd rfl (Or.inl rfl) (pe_callB (call_min2 rfl) rfl T.f_min B_min (pa_cons (pv 8) (pa_cons (pv 7) pa_nil)))))))
    (pss_cons (ps_set (i := 9) sc_cuts.nd rfl (Or.inl rfl) (pe_op op_rep (pe_lst (pa_cons pe_int pa_nil)) (pe_callB call_len_seq rfl T.f_len B_len (pa_cons (pe_fld (pv 3) rfl) pa_nil))))
    (pss_cons (ps_for PassesOwn.never rfl (pi_zip rfl T.f_zip (pa_cons (pv 4) (pa_cons (pv 6) pa_nil))) (pg_tup rfl (pgs_cons (pg_name (i := 10) sc_cuts.nd rfl (Or.inl rfl)) (pgs_cons (pg_name (i := 11) sc_cuts.nd rfl (Or.inl rfl)) pgs_nil)))
      (pss_one (ps_asg (pv 11) (pg_sub (pv 9) (pv 10) set_list))))
    (pss_one (ps_ret (pe_tup (pa_cons (pv 9) (pa_cons (pv 7) pa_nil))))))))))))), ?_⟩
  obtain ⟨a, da, m, rfl, ha, am, dm, rfl, ham⟩ := id c.vou
  obtain ⟨ab, db, lb, vls, rfl, hab, hlb, hpl⟩ := id c.bas
  obtain ⟨as, ds, so_, sp_, sm_, rfl, has, hso, hsp, hsm⟩ := id c.sta
  have pl60 := pcs_len (u := u) (ps := ps) c.so
  have osum := own_sum (pl := pcsF u ps B S) c.so pl60
  have onn := own_nn (pl := pcsF u ps B S) (coin_nn c.so)
  have cb := caps_bd (ps := ps) c.so c.vo c0
  have hw := wanted_bd (os := ownP S.owners (pcsF u ps B S)) onn c.vo.sort
  have pm : ∀ z ∈ pcsF u ps B S, 0 ≤ z ∧ z < S.owners.length := fun z hz => about_mem hz
  have pm2 : ∀ z ∈ pcsF u ps B S, 0 ≤ z ∧ z < S.prices.length := fun z hz => by rw [← c.so.len]; exact pm z hz
  unfold cutsF at q
  dsimp only at q
  -- pieces
  refine seq_set ⟨_, rfl, _, rfl, _, rfl, _, rfl, _, _, _, _, u, ps, B, S, rfl, c, fun f H1 g1 hf hl => ?_⟩
  -- prices
  refine seq_set ⟨_, rfl, f, rfl, ⟨_, SqL.of hl⟩, fun D hD => ?_⟩
  refine lc_gr (tb := tb) (walk_list (xs := ivs (pcsF u ps B S))) (ivs (ownP S.prices (pcsF u ps B S))) (by rw [ivs_len, ivs_len, own_len]) (by rw [ivs_len]; omega) hD (fun H' g => SqL.of (g.lst hl)) ?_ fun H2 g2 hd => ?_
  · rintro i x H' _ y N hi hy g ⟨rfl, hx⟩ k
    obtain ⟨z, hz, rfl⟩ := ivs_of hx
    obtain ⟨z0, z1⟩ := pm2 z (List.mem_of_getElem? hz)
    rw [own_get hz hy] at k
    exact ⟨rfl, _, rfl, T.r_Standing_prices ((g1.trans g).ins has) ⟨_, rfl, sp_, _, z, _, rfl, rfl, SqL.of ((g1.trans g).lst hsp), at_ivs z0 z1, k _ (GrB.refl _)⟩⟩
  have k2 := g1.trans g2
  have hf2 := g2.lst hl
  -- owners
  refine seq_set ⟨_, rfl, a, da, _, rfl, k2.ins ha, sortA_w (.ref am) u.sort, _, rfl, _, rfl, f, rfl, ⟨_, SqL.of hf2⟩, fun D2 hD2 => ?_⟩
  refine lc_gr (tb := tb) (walk_list (xs := ivs (pcsF u ps B S))) (ivs (ownP S.owners (pcsF u ps B S))) (by rw [ivs_len, ivs_len, own_len]) (by rw [ivs_len]; omega) hD2 (fun H' g => SqL.of (g.lst hf2)) ?_ fun H3 g3 hd3 => ?_
  · rintro i x H' _ y N hi hy g ⟨rfl, hx⟩ k
    obtain ⟨z, hz, rfl⟩ := ivs_of hx
    obtain ⟨z0, z1⟩ := pm z (List.mem_of_getElem? hz)
    rw [own_get hz hy] at k
    exact ⟨rfl, _, rfl, T.r_Standing_owners ((k2.trans g).ins has) ⟨_, rfl, so_, _, z, _, rfl, rfl, SqL.of ((k2.trans g).lst hso), at_ivs z0 z1, k _ (GrB.refl _)⟩⟩
  have k3 := k2.trans g3
  have hf3 := g3.lst hf2
  have hd32 := g3.lst hd
  -- wanted
  refine ⟨a, da, _, D, D2, _, _, rfl, k3.ins ha, hd32, hd3, by rw [own_len, own_len], by rw [own_len]; exact pl60, ⟨onn, by omega⟩, ?_, c.vo.sort, k3.tab ht, fun wl H4 g4 nw hwl => ?_⟩
  · intro x hx
    obtain ⟨z, hz, rfl⟩ := List.mem_map.mp hx
    obtain ⟨z0, z1⟩ := pm z hz
    have := c.so.own _ (gi_mem z0 z1)
    have := c.bo.len
    omega
  have k4 := k3.trans g4
  have hf4 := g4.lst hf3
  -- fee
  refine seq_set ⟨_, rfl, a, da, _, rfl, k4.ins ha, sortA_c (.ref am) u.sort, _, rfl, T.r_Standing_carriage (k4.ins has) ⟨a, da, _, _, rfl, k4.ins ha, ?_⟩⟩
  -- most
  refine seq_set ⟨_, rfl, T.r_marks (k4.ins ha) (T.r_Marks_most (k4.ins ham) ?_)⟩
  -- the cap
  have ecap : capsF u ps B S = capF u.marks.most (wantedF u.sort (ownP S.prices (pcsF u ps B S)) (ownP S.owners (pcsF u ps B S))) (feeF u.sort S.carriage) := rfl
  have wsum := bd_sum hw
  have wlen : (wantedF u.sort (ownP S.prices (pcsF u ps B S)) (ownP S.owners (pcsF u ps B S))).length ≤ 60 := by rw [hw.1, own_len]; exact pl60
  generalize wantedF u.sort (ownP S.prices (pcsF u ps B S)) (ownP S.owners (pcsF u ps B S)) = wt at hwl hw ecap wsum wlen ⊢
  have fee0 := fee_bd (u := u.sort) c0
  generalize feeF u.sort S.carriage = fe at fee0 ecap ⊢
  refine seq_if0k (capB u.marks.most wt fe) (fun σ H' => ∃ wl', σ = [some (.ref a), some pv_, some (.ref ab), some (.ref as), some (.ref f), some (.ref D), some (.ref wl'), some (.int (capsF u ps B S).2), some (optV u.marks.most), none, none, none] ∧ Gr tb H4 H' ∧ H' wl' = some (.lst (ivs (capsF u ps B S).1)))
    (fun R r => ?_) (fun hb N hN => ?_) (fun hb => ?_) ?_
  · unfold capB at r
    refine ⟨_, rfl, ?_⟩
    cases hm : u.marks.most with
    | none => rw [hm] at r; rw [nn_none]; exact ⟨_, rfl, iteF r⟩
    | some k =>
      rw [hm] at r
      rw [nn_some]
      exact ⟨_, rfl, iteT ⟨_, rfl, wl, _, rfl, SqL.of hwl, _, rfl, _, _, rfl, rfl, _, rfl, _, _, rfl, rfl, _, rfl, r⟩⟩
  · cases hm : u.marks.most with
    | none => rw [hm] at hb; cases hb
    | some k =>
      have k0 := c.vo.most k hm
      have wnn := bd_nn hw
      have b1 := (min2_le k wt.sum).2
      have b2 : 0 ≤ min2 k wt.sum := min2_ge k0 (nn_sum wnn)
      rw [hm] at hb
      have ecap : capsF u ps B S = (dealtF (min2 k wt.sum) wt, min2 k fe) := by rw [ecap, hm]; unfold capF; rw [if_pos hb]; rfl
      refine seq_set ⟨_, rfl, _, rfl, wl, _, rfl, SqL.of hwl, _, _, rfl, _, rfl, _, _, _, rfl, hwl, by omega, ⟨b2, by show min2 k wt.sum < _; omega⟩, by omega, fun d H5 g5 nd hd5 => ?_⟩
      refine one_set ⟨_, rfl, _, rfl, _, _, rfl, ?_⟩
      refine hN _ _ ⟨d, ?_, g5, by rw [ecap]; exact hd5⟩
      rw [ecap, hm]
      rfl
  · have ecap : capsF u ps B S = (wt, fe) := by rw [ecap]; unfold capF; rw [if_neg (by rw [hb]; exact Bool.false_ne_true)]
    exact ⟨wl, by rw [ecap]; rfl, GrB.refl _, by rw [ecap]; exact hwl⟩
  rintro σ H5 ⟨wl', rfl, g5, hwl'⟩
  have k5 := k4.trans g5
  have hf5 := g5.lst hf4
  -- told
  refine seq_set ⟨Nat.le_of_lt (small1000 (by decide)), fun z hz => ?_⟩
  have kz := k5.add hz (o := .lst [.int 0])
  refine ⟨_, rfl, T.r_Standing_prices (kz.ins has) ⟨sp_, _, rfl, .inl (SqL.of (kz.lst hsp)), z, _, _, rfl, rfl, upd_same, by omega, by rw [ivs_len]; have := c.so.most; omega, ?_, fun tl htl => ?_⟩⟩
  · rw [ivs_len]
    exact Nat.le_of_lt (small1000 (by have := c.so.most; simp; omega))
  have k6 := kz.add htl (o := .lst (List.replicate ((ivs S.prices).length : Int).toNat [V.int 0]).flatten)
  have tl0 : H tl = none := kz.free tl htl
  have htl6 : upd (upd H5 z (.lst [.int 0])) tl (.lst (List.replicate ((ivs S.prices).length : Int).toNat [V.int 0]).flatten) tl = some (.lst (ivs (zerosI S.prices.length))) := by
    rw [upd_same, ivs_len, Int.toNat_natCast, zeros_ivs]
  have g6 : Gr tb H5 (upd (upd H5 z (.lst [.int 0])) tl (.lst (List.replicate ((ivs S.prices).length : Int).toNat [V.int 0]).flatten)) := (Gr.new hz).add htl
  have nt : H5 tl = none := GrB.free (S := []) (tb := tb) (Gr.new hz) tl htl
  generalize upd (upd H5 z (.lst [.int 0])) tl (.lst (List.replicate ((ivs S.prices).length : Int).toNat [V.int 0]).flatten) = H6 at k6 htl6 g6 ⊢
  refine ⟨_, rfl, _, rfl, f, wl', _, _, rfl, SqL.of (g6.lst hf5), SqL.of (g6.lst hwl'), ?_⟩
  refine for_it (walk_zip (xs := ivs (pcsF u ps B S)) (ys := ivs (capsF u ps B S).1) rfl) (fun j σ H' => ∃ v10 v11, σ = [some (.ref a), some pv_, some (.ref ab), some (.ref as), some (.ref f), some (.ref D), some (.ref wl'), some (.int (capsF u ps B S).2), some (optV u.marks.most), some (.ref tl), v10, v11] ∧ Gr tb H5 H' ∧ H' tl = some (.lst (ivs (scatF (zerosI S.prices.length) (((pcsF u ps B S).zip (capsF u ps B S).1).take j)))))
    ⟨none, none, rfl, g6, htl6⟩ (fun i σ H' _ ⟨_, _, _, g, _⟩ => ⟨SqL.of (g.lst hf5), SqL.of (g.lst hwl')⟩) ?_ ?_
  · rintro j y σ H' _ hj ⟨v7, v8, rfl, g', hf'⟩ ⟨t, x1, x2, rfl, ht', rfl, e1, e2⟩
    obtain ⟨z1, hz1, rfl⟩ := ivs_of e1
    obtain ⟨z2, hz2, rfl⟩ := ivs_of e2
    obtain ⟨m0, m1⟩ := pm2 z1 (List.mem_of_getElem? hz1)
    refine ⟨t, _, rfl, .inl (.inl upd_same), rfl, _, _, rfl, _, _, rfl, rfl, ?_⟩
    refine ⟨_, rfl, _, rfl, _, rfl, set_at (g'.add ht') nt (by rw [upd_ne (ne_of_none hf' ht')]; exact hf') m0 (by rw [scat_len]; unfold zerosI; rw [List.length_replicate]; exact m1) fun H7 g7 h7 => ⟨_, _, rfl, g7, ?_⟩⟩
    rw [scat_snoc (zip_get hz1 hz2)]
    exact h7
  · rintro σ H' ⟨v7, v8, rfl, g', hf'⟩
    rw [ivs_len, ivs_len, List.take_of_length_le (by rw [List.length_zip]; exact Nat.le_refl _)] at hf'
    exact ⟨_, rfl, _, rfl, Nat.le_of_lt (small1000 (show 2 ≤ 1000 by decide)), fun t ht => q _ t tl ((k5.trans g').add ht) upd_same (by rw [upd_ne (ne_of_none hf' ht)]; exact hf')⟩
end
end VS
set_option Elab.async false
set_option linter.all false
set_option maxRecDepth 100000
set_option maxHeartbeats 4000000
namespace VS
open PySem PySem.Spec PyProof.Rows L2
/-! ### how it stands behind a voucher -/
def markN (os told : List Int) (m : List Bool) : Nat → List Bool
  | 0 => m
  | i + 1 => if told.getD i 0 > 0 then (markN os told m i).set (os.getD i 0).toNat true else markN os told m i
theorem markN_len (os told : List Int) (m : List Bool) : ∀ n, (markN os told m n).length = m.length
  | 0 => rfl
  | n + 1 => by
    unfold markN
    split
    · rw [List.length_set]; exact markN_len os told m n
    · exact markN_len os told m n
def subI (a b : List Int) : List Int := List.zipWith (fun x y => x - y) a b
def afterF (u : VouD) (ps : List (Option Int)) (B : BasketD) (S : StandD) : StandD :=
  ⟨(stand0 B).owners, subI S.prices (cutsF u ps B S).1, S.carriage - (cutsF u ps B S).2, if u.marks.lone then markN S.owners (cutsF u ps B S).1 S.marked (cutsF u ps B S).1.length else S.marked⟩
/-- how a basket can stand -/
structure StOk (B : BasketD) (S : StandD) : Prop where
  so : StandOk B.lines.length S
  c0 : 0 ≤ S.carriage
  own : S.owners = (stand0 B).owners
theorem after_ok {u : VouD} {ps : List (Option Int)} {B : BasketD} {S : StandD} (h : StOk B S) (vo : VouOk u) : StOk B (afterF u ps B S) := by
  obtain ⟨b1, b2, b3⟩ := cuts_bd (ps := ps) h.so vo h.c0
  have hl : (subI S.prices (cutsF u ps B S).1).length = S.prices.length := by unfold subI; rw [List.length_zipWith, b1.1]; omega
  refine ⟨⟨?_, ?_, ?_, ?_, ?_⟩, ?_, rfl⟩
  · show (stand0 B).owners.length = (subI S.prices (cutsF u ps B S).1).length
    rw [hl, ← h.own]; exact h.so.len
  · show (subI S.prices (cutsF u ps B S).1).length ≤ 60
    rw [hl]; exact h.so.most
  · show ∀ o ∈ (stand0 B).owners, _
    rw [← h.own]; exact h.so.own
  · intro p hp
    have hp : p ∈ subI S.prices (cutsF u ps B S).1 := hp
    obtain ⟨i, hi⟩ := List.mem_iff_getElem?.mp hp
    unfold subI at hi
    rw [List.getElem?_zipWith_eq_some] at hi
    obtain ⟨x, y, hx, hy, rfl⟩ := hi
    have c := h.so.coin x (List.mem_of_getElem? hx)
    have b := b1.2 i (List.getElem?_eq_some_iff.mp hx).1
    rw [getD_of hx, getD_of hy] at b
    unfold Coin at c ⊢
    omega
  · show (if u.marks.lone then _ else _ : List Bool).length = _
    split
    · rw [markN_len]; exact h.so.mark
    · exact h.so.mark
  · show 0 ≤ S.carriage - (cutsF u ps B S).2
    omega
theorem sub_snoc {a b : List Int} {i : Nat} {y : V} (h : (ivs (subI a b))[i]? = some y) {x z : Int} (h1 : a[i]? = some x) (h2 : b[i]? = some z) : y = .int (x - z) := by
  obtain ⟨t, ht, rfl⟩ := ivs_of h
  unfold subI at ht
  rw [List.getElem?_zipWith_eq_some] at ht
  obtain ⟨x', z', e1, e2, e3⟩ := ht
  rw [h1] at e1; rw [h2] at e2
  cases e1; cases e2
  rw [← e3]
/-! ### the first standing -/
theorem stFold_ok (m : Bool) (n : Nat) : ∀ (ls : List LineD) (st : List Int × List Int × Int), (∀ L ∈ ls, LineOk n L) → st.1.length = st.2.1.length → (∀ o ∈ st.1, 0 ≤ o ∧ o < st.2.2) → (∀ p ∈ st.2.1, Coin p) → 0 ≤ st.2.2 →
    (ls.foldl (stStep m) st).1.length = (ls.foldl (stStep m) st).2.1.length ∧ (∀ o ∈ (ls.foldl (stStep m) st).1, 0 ≤ o ∧ o < st.2.2 + ls.length) ∧ (∀ p ∈ (ls.foldl (stStep m) st).2.1, Coin p) ∧ ((ls.foldl (stStep m) st).2.1.length : Int) = st.2.1.length + manySum ls
  | [], st, _, h1, h2, h3, h4 => ⟨h1, by simpa using h2, h3, by simp [manySum]⟩
  | L :: r, st, hL, h1, h2, h3, h4 => by
    have ok := hL L (List.mem_cons_self ..)
    obtain ⟨i1, i2, i3, i4⟩ := stFold_ok m n r (stStep m st L) (fun L' h => hL L' (List.mem_cons_of_mem _ h)) (by unfold stStep; simp [h1]) (by
      intro o ho
      have ho : o ∈ st.1 ++ List.replicate L.many.toNat st.2.2 := ho
      show 0 ≤ o ∧ o < st.2.2 + 1
      rcases List.mem_append.mp ho with h | h
      · have := h2 o h; omega
      · have := List.eq_of_mem_replicate h; omega) (by
      intro p hp
      have hp : p ∈ st.2.1 ++ List.replicate L.many.toNat (pieceP L m) := hp
      rcases List.mem_append.mp hp with h | h
      · exact h3 p h
      · rw [List.eq_of_mem_replicate h]
        unfold pieceP
        cases m with
        | false => exact ok.price
        | true =>
          cases e : L.special with
          | none => exact ok.price
          | some s => exact ok.special s e) (by show 0 ≤ st.2.2 + 1; omega)
    rw [List.foldl_cons]
    refine ⟨i1, fun o ho => ?_, i3, ?_⟩
    · have := i2 o ho
      have e3 : (stStep m st L).2.2 = st.2.2 + 1 := rfl
      rw [e3] at this
      rw [List.length_cons]
      omega
    · rw [i4]
      have e2 : (stStep m st L).2.1.length = st.2.1.length + L.many.toNat := by unfold stStep; simp
      have em : manySum (L :: r) = L.many + manySum r := List.sum_cons
      have := ok.many
      omega
theorem stand0_ok {n : Nat} {B : BasketD} (h : BasketOk n B) (c : 0 ≤ B.carriage) : StOk B (stand0 B) := by
  obtain ⟨h1, h2, h3, h4⟩ := stFold_ok B.member n B.lines ([], [], 0) h.lines rfl (fun _ h => absurd h (by simp)) (fun _ h => absurd h (by simp)) (Int.le_refl _)
  refine ⟨⟨h1, ?_, ?_, h3, ?_⟩, c, rfl⟩
  · show (stFold B).2.1.length ≤ 60
    have := h.many
    have h4 : ((stFold B).2.1.length : Int) = (0 : Nat) + manySum B.lines := h4
    omega
  · intro o ho
    have := h2 o ho
    dsimp only at this
    omega
  · show (B.lines.map fun _ => false).length = _
    rw [List.length_map]
theorem small_of {n : Nat} {B : BasketD} (h : BasketOk n B) : SmallB B := ⟨h.len, fun L hL => (h.lines L hL).many⟩
/-- a new standing -/
theorem mk_St {tb : Addr} {K : PySem.W.Frag} {H : Hp} {b : V} {B : BasketD} {Q : VK} {E : XK} {x dx : Addr} (hb : BasketAt K H b B) (sm : SmallB B) (hx : H x = none) (hd : H dx = none) (ne : dx ≠ x) (q : ∀ H', Gr tb H H' → StandNew K H H' x (stand0 B) → Q .non H') :
    spStanding tb K (.ref x :: ([b] ++ [])) (upd (upd H dx (.own x)) x (.ins (CStanding K) dx [])) Q E := by
  have hx2 : (upd H dx (.own x)) x = none := by rw [upd_ne (Ne.symm ne)]; exact hx
  have g0 : Gr tb H (upd (upd H dx (.own x)) x (.ins (CStanding K) dx [])) := (Gr.new hd).trans (Gr.new hx2)
  exact ⟨H, x, dx, b, B, rfl, g0, hx, hb, sm, upd_same, fun H' g ⟨d, o, p, m, h1, h2, h3, h4, h5⟩ => q H' (Gr.made hx hd ne g) ⟨d, o, p, m, h1, h2, g0.free _ h3, g0.free _ h4, g0.free _ h5⟩⟩
/-- a sound cut from a basket's standing -/
structure AftIn (K : PySem.W.Frag) (tb : Addr) (H : Hp) (v pv b s : V) (u : VouD) (ps : List (Option Int)) (B : BasketD) (S : StandD) : Prop where
  cut : CutIn K H v pv b s u ps B S
  st : StOk B S
  tab : LamX.TabS H tb lamQ
theorem AftIn.gr {K : PySem.W.Frag} {tb : Addr} {H H' : Hp} {v pv b s : V} {u : VouD} {ps : List (Option Int)} {B : BasketD} {S : StandD} (g : Gr tb H H') (c : AftIn K tb H v pv b s u ps B S) : AftIn K tb H' v pv b s u ps B S :=
  ⟨c.cut.gr g, c.st, g.tab c.tab⟩
def spAfter (tb : Addr) (K : PySem.W.Frag) : Sp := fun vs H Q _ => ∃ v pv b s u ps B S, vs = [v, pv, b, s] ∧ AftIn K tb H v pv b s u ps B S ∧ ∀ H' x, Gr tb H H' → H x = none → StandNew K H H' x (afterF u ps B S) → Q (.ref x) H'
theorem bl_set (m : List Bool) (i : Nat) (b : Bool) : (m.map V.bl).set i (.bl b) = (m.set i b).map V.bl := by rw [List.map_set]
section
variable {P : Program} {w : World} {K : PySem.W.Frag} {mg : Str → Option Value} {base : Heap} {tb : Addr}
theorem sc_after : FnScope ["voucher", "parents", "basket", "standing", "told", "fee", "left", "piece", "cut", "price"] ["voucher", "parents", "basket", "standing"] (defScope s_after) := ⟨rfl, rfl, rfl, by decide +kernel, rfl, by decide +kernel, by decide +kernel⟩
theorem ok_after (T : TX K mg) (W : ∀ s, Met P w K mg base 3 (sortC K s) "wanted" (spWanted tb K s)) : Cal P w K mg base 5 "after" (spAfter tb K) := by
  obtain ⟨fd, F⟩ := T.df_after
  refine cal_of F T.g_after (F.ok (k := 4) sc_after (fun vs H Q E h => ?_) fun cdv A outer s H vs Q E hr h => ?_) (F.bindsN (ps := ["voucher", "parents", "basket", "standing"]) fun _ _ _ _ _ _ us hl => match us, hl with | [_, _, _, _], _ => rfl)
  · obtain ⟨v, pv, b, s, u, ps, B, S, rfl, _⟩ := h
    rfl
  have c_cuts : Cal P w K mg base 4 "cuts" (spCuts tb K) := ok_cuts T W
  have k_Standing : Mak P w K mg base 2 "Standing" (CStanding K) (spStanding tb K) [] := ok_Standing T
  obtain ⟨v, pv_, b, s_, u, ps, B, S, rfl, ⟨c, st, tabs⟩, q⟩ := h
  refine ⟨_, PSs.nox
    (pss_cons (ps_asg (pe_c c_cuts hr (by decide) rfl (pa_cons (pv 0) (pa_cons (pv 1) (pa_cons (pv 2) (pa_cons (pv 3) pa_nil))))) (pg_tup rfl (pgs_cons (pg_name (i := 4) sc_after.nd rfl (Or.inl rfl)) (pgs_cons (pg_name (i := 5) sc_after.nd rfl (Or.inl rfl)) pgs_nil))))
    (pss_cons (ps_set (i := 6) sc_after.nd rfl (Or.inl rfl) (pe_mk k_Standing hr (by decide) rfl (pa_cons (pv 2) pa_nil)))
    (pss_cons (ps_fld (pv 6) (pe_lc (own := [("price", 9), ("cut", 8)]) (g := (gTup K 2 (gCons (gName 9) (gCons (gName 8) gNil)))) (tt := tYes) rfl sc_after.nd (pi_zip rfl T.f_zip (pa_cons (pe_fld (pv 3) rfl) (pa_cons (pv 4) pa_nil))) (blkOk_by (own := [("price", 9), ("cut", 8)]) (N := ["voucher", "parents", "basket", "standing", "told", "fee", "left", "piece", "cut", "price"]) (sc := defScope s_after) (by decide +kernel)) (fun _ _ _ _ _ => (pg_tup rfl (pgs_cons (pg_name (i := 9) sc_after.nd rfl (Or.inl rfl)) (pgs_cons (pg_name (i := 8) sc_after.nd rfl (Or.inl rfl)) pgs_nil)))) (fun _ _ _ _ _ => pts_nil) (fun _ _ _ _ _ => (pe_op op_sub (pv 9) (pv 8)))) rfl)
    (pss_cons (ps_fld (pv 6) (pe_op op_sub (pe_fld (pv 3) rfl) (pv 5)) rfl)
    (pss_cons (ps_fld (pv 6) (pe_callTy call_list_of rfl T.f_list B_list (pa_cons (pe_fld (pv 3) rfl) pa_nil)) rfl)
    (pss_cons (ps_if0 (pt_val (pe_fld (pe_fld (pv 0) rfl) rfl))
      (pss_one (ps_for PassesOwn.never rfl (pi_enum rfl T.f_enumerate (pa_cons (pv 4) pa_nil)) (pg_tup rfl (pgs_cons (pg_name (i := 7) sc_after.nd rfl (Or.inl rfl)) (pgs_cons (pg_name (i := 8) sc_after.nd rfl (Or.inl rfl)) pgs_nil)))
        (pss_one (ps_if0 (pt_cmpR op_gt (pv 8) pe_int (nomark _))
          (pss_one (ps_asg pe_bl (pg_sub (pe_fld (pv 6) rfl) (pe_ix ix_list (pe_fld (pv 3) rfl) (pv 7) (fun _ _ => rfl)) set_list))))))))
    (pss_one (ps_ret (pv 6))))))))), ?_⟩
  obtain ⟨a, da, m, rfl, ha, am, dm, rfl, ham⟩ := id c.vou
  obtain ⟨as, ds, so_, sp_, sm_, rfl, has, hso, hsp, hsm⟩ := id c.sta
  have cb := cuts_bd (ps := ps) c.so c.vo st.c0
  have clen : (cutsF u ps B S).1.length ≤ 60 := by rw [cb.1.1]; exact c.so.most
  -- told, fee
  refine ⟨_, rfl, _, rfl, _, rfl, _, rfl, _, _, _, _, u, ps, B, S, rfl, c, st.c0, tabs, fun H1 t tl g1 ht htl => ⟨t, _, rfl, SqT.of ht, rfl, _, _, rfl, _, _, rfl, rfl, ?_⟩⟩
  unfold afterF at q
  generalize cutsF u ps B S = cf at ht htl q cb clen ⊢
  -- left
  refine ⟨_, rfl, fun x _ nx nd ne => mk_St (c.bas.gr g1) (small_of c.bo) nx nd ne fun H2 g2 hx => ⟨rfl, ?_⟩⟩
  have k2 := g1.trans g2
  obtain ⟨dx, lo, lp, lm, hx2, ⟨hlo, hlp, hlm⟩, lo1, _⟩ := hx
  have x0 : H x = none := g1.free x nx
  have back : ∀ {H'}, GrB tb [x] H1 H' → Gr tb H H' := fun g => g.back g1 fun s hs => by rw [List.mem_singleton.mp hs]; exact x0
  have htl2 := g2.lst htl
  -- prices
  refine ⟨_, rfl, T.r_Standing_prices (k2.ins has) ⟨_, rfl, sp_, tl, _, _, rfl, SqL.of (k2.lst hsp), SqL.of htl2, fun D hD => ?_⟩⟩
  refine lc_gr (tb := tb) (walk_zip (xs := ivs S.prices) (ys := ivs cf.1) rfl) (ivs (subI S.prices cf.1)) (by rw [ivs_len, ivs_len, ivs_len]; unfold subI; rw [List.length_zipWith]) (by rw [ivs_len]; have := c.so.most; omega) hD (fun H' g => ⟨SqL.of ((k2.trans g).lst hsp), SqL.of (g.lst htl2)⟩) ?_ fun H3 g3 hd => ?_
  · rintro i _ H' _ y N hi hy g ⟨t, x1, x2, rfl, ht', rfl, e1, e2⟩ k
    obtain ⟨z1, hz1, rfl⟩ := ivs_of e1
    obtain ⟨z2, hz2, rfl⟩ := ivs_of e2
    rw [sub_snoc hy hz1 hz2] at k
    exact ⟨t, _, rfl, .inl (.inl upd_same), rfl, _, _, rfl, _, _, rfl, rfl, rfl, _, rfl, _, rfl, _, _, rfl, rfl, k _ (Gr.new ht')⟩
  have hx3 := g3.ins hx2
  refine ⟨_, rfl, st_fld (tb := tb) hx3 T.c_Standing T.n_Standing_prices (show 4 < 1000 by decide) aStanding_p_prices fun H4 g4 hx4 => ?_⟩
  have nDx : x ≠ D := ne_of_none hx2 hD
  have k4 : GrB tb [x] H1 H4 := (Gr.of (g2.trans g3)).trans g4
  have hD4 : H4 D = some (.lst (ivs (subI S.prices cf.1))) := g4.lst hd (by simpa using Ne.symm nDx)
  -- carriage
  refine ⟨_, rfl, T.r_Standing_carriage ((back k4).ins has) ⟨_, rfl, _, _, rfl, rfl, _, rfl, ?_⟩⟩
  refine st_fld (tb := tb) hx4 T.c_Standing T.n_Standing_carriage (show 4 < 1000 by decide) aStanding_p_carriage fun H5 g5 hx5 => ?_
  have k5 := k4.trans g5
  have hD5 := g5.lst hD4 (by simpa using Ne.symm nDx)
  -- marked
  refine ⟨_, rfl, T.r_Standing_marked ((back k5).ins has) ⟨sm_, _, rfl, .inl (SqL.of ((back k5).lst hsm)), fun M hM => ⟨_, rfl, ?_⟩⟩⟩
  have nMx : x ≠ M := ne_of_none hx5 hM
  have nMD : D ≠ M := ne_of_none hD5 hM
  have M0 : H1 M = none := k5.free M hM
  refine st_fld (tb := tb) (Gr.ins (tb := tb) (Gr.new hM) hx5) T.c_Standing T.n_Standing_marked (show 4 < 1000 by decide) aStanding_p_marked fun H6 g6 hx6 => ?_
  have k6 : GrB tb [x] H1 H6 := (k5.add hM).trans g6
  have hD6 : H6 D = some (.lst (ivs (subI S.prices cf.1))) := g6.lst (by rw [upd_ne nMD]; exact hD5) (by simpa using Ne.symm nDx)
  have hM6 : H6 M = some (.lst (S.marked.map V.bl)) := g6.lst upd_same (by simpa using Ne.symm nMx)
  have nlo : x ≠ lo := fun e => by rw [e, hlo] at hx2; cases hx2
  have hlo5 : H5 lo = some (.lst (ivs (stand0 B).owners)) := g5.lst (g4.lst (g3.lst hlo) (by simpa using Ne.symm nlo)) (by simpa using Ne.symm nlo)
  have nloM : lo ≠ M := ne_of_none hlo5 hM
  have hlo6 : H6 lo = some (.lst (ivs (stand0 B).owners)) := g6.lst (by rw [upd_ne nloM]; exact hlo5) (by simpa using Ne.symm nlo)
  have fin : ∀ H' ml, GrB tb [x] H1 H' → H' x = some (.ins (CStanding K) dx (aStanding (.ref lo) (.ref D) (.int (S.carriage - cf.2)) (.ref M))) → H' D = some (.lst (ivs (subI S.prices cf.1))) → H' lo = some (.lst (ivs (stand0 B).owners)) → H' M = some (.lst (ml.map V.bl)) →
      ml = (if u.marks.lone then markN S.owners cf.1 S.marked cf.1.length else S.marked) → Q (.ref x) H' := fun H' ml g h1 h2 h3 h4 e => by
    subst e
    exact q H' x (back g) x0 ⟨dx, lo, D, M, h1, ⟨h3, h2, h4⟩, g1.free lo lo1, k2.free D hD, g1.free M M0⟩
  have htl6 : H6 tl = some (.lst (ivs cf.1)) := k6.lst htl (by simpa using ne_of_none htl nx)
  -- marks
  dsimp only
  refine seq_if0 u.marks.lone (fun R r => ?_) (fun hb => ?_) (fun hb => ?_)
  · exact ⟨_, rfl, T.r_marks ((back k6).ins ha) (T.r_Marks_lone ((back k6).ins ham) ⟨_, rfl, r⟩)⟩
  · refine ⟨_, rfl, tl, _, rfl, SqL.of htl6, ?_⟩
    refine for_it (walk_enum (xs := ivs cf.1)) (fun i σ H' => ∃ v7 v8, σ = [some (.ref a), some pv_, some b, some (.ref as), some (.ref tl), some (.int cf.2), some (.ref x), v7, v8, none] ∧ GrB tb [x] H1 H' ∧ H' x = some (.ins (CStanding K) dx (aStanding (.ref lo) (.ref D) (.int (S.carriage - cf.2)) (.ref M))) ∧
      H' D = some (.lst (ivs (subI S.prices cf.1))) ∧ H' lo = some (.lst (ivs (stand0 B).owners)) ∧ H' M = some (.lst ((markN S.owners cf.1 S.marked i).map V.bl)))
      ⟨none, none, rfl, k6, hx6, hD6, hlo6, hM6⟩ (fun i σ H' _ ⟨_, _, _, g, _⟩ => SqL.of (g.lst htl (by simpa using ne_of_none htl nx))) ?_ ?_
    · rintro i y σ H' _ hi ⟨v7, v8, rfl, g, h1, h2, h3, h4⟩ ⟨t, x1, x2, rfl, ht', rfl, e1, e2⟩
      cases e1
      obtain ⟨z, hz, rfl⟩ := ivs_of e2
      have hi' : i < cf.1.length := (List.getElem?_eq_some_iff.mp hz).1
      have hio : i < S.owners.length := by rw [c.so.len, ← cb.1.1]; exact hi'
      have gt : GrB tb [x] H1 (upd H' t (.tup [.int (i : Nat), .int z])) := g.add ht'
      have w1 : upd H' t (.tup [.int (i : Nat), .int z]) x = some (.ins (CStanding K) dx (aStanding (.ref lo) (.ref D) (.int (S.carriage - cf.2)) (.ref M))) := by rw [upd_ne (ne_of_none h1 ht')]; exact h1
      have w2 : upd H' t (.tup [.int (i : Nat), .int z]) D = some (.lst (ivs (subI S.prices cf.1))) := by rw [upd_ne (ne_of_none h2 ht')]; exact h2
      have w3 : upd H' t (.tup [.int (i : Nat), .int z]) lo = some (.lst (ivs (stand0 B).owners)) := by rw [upd_ne (ne_of_none h3 ht')]; exact h3
      have w4 : upd H' t (.tup [.int (i : Nat), .int z]) M = some (.lst ((markN S.owners cf.1 S.marked i).map V.bl)) := by rw [upd_ne (ne_of_none h4 ht')]; exact h4
      refine ⟨t, _, rfl, .inl (.inl upd_same), rfl, _, _, rfl, _, _, rfl, rfl, ?_⟩
      generalize upd H' t (.tup [.int (i : Nat), .int z]) = H7 at gt w1 w2 w3 w4 ⊢
      have eN : markN S.owners cf.1 S.marked (i + 1) = if z > 0 then (markN S.owners cf.1 S.marked i).set (S.owners.getD i 0).toNat true else markN S.owners cf.1 S.marked i := by
        show (if cf.1.getD i 0 > 0 then _ else _) = _
        rw [getD_of hz]
      rw [eN]
      refine if0_by (decide (z > 0)) (fun R r => ?_) (fun hz0 => ?_) (fun hz0 => ?_)
      · exact ⟨_, rfl, _, _, rfl, rfl, _, rfl, r⟩
      · rw [if_pos (of_decide_eq_true hz0)]
        obtain ⟨o0, o1⟩ := c.so.own _ (gi_mem (xs := S.owners) (i := (i : Int)) (by omega) (by omega))
        have eg : gi S.owners (i : Int) = S.owners.getD i 0 := rfl
        have ml := markN_len S.owners cf.1 S.marked i
        have hmk := c.so.mark
        refine ⟨_, rfl, T.r_Standing_marked w1 ⟨_, rfl, T.r_Standing_owners ((back gt).ins has) ⟨_, rfl, so_, _, (i : Int), _, rfl, rfl, SqL.of ((back gt).lst hso), at_ivs (by omega) (by omega), M, _, _, _, rfl, rfl, w4, ixN_in o0 (by rw [List.length_map]; omega), ?_⟩⟩⟩
        have nn1 : x ≠ M := nMx
        exact ⟨_, _, rfl, gt.putL M0 w4, by rw [upd_ne nn1]; exact w1, by rw [upd_ne nMD]; exact w2, by rw [upd_ne nloM]; exact w3, by rw [upd_same, bl_set]; rfl⟩
      · rw [if_neg (of_decide_eq_false hz0)]
        exact ⟨_, _, rfl, gt, w1, w2, w3, w4⟩
    · rintro σ H' ⟨v7, v8, rfl, g, h1, h2, h3, h4⟩
      rw [ivs_len] at h4
      exact ⟨_, rfl, fin H' _ g h1 h2 h3 h4 (by rw [hb]; rfl)⟩
  · exact ⟨_, rfl, fin H6 _ k6 hx6 hD6 hlo6 hM6 (by rw [hb]; rfl)⟩
end
end VS
set_option Elab.async false
set_option linter.all false
set_option maxRecDepth 100000
set_option maxHeartbeats 4000000
namespace VS
open PySem PySem.Spec PyProof.Rows L2
/-- a till, a basket and a hand -/
structure Shop (K : PySem.W.Frag) (tb : Addr) (H : Hp) (t b h : V) (T : TillD) (B : BasketD) (hd : List Int) : Prop where
  till : TillAt K H t T
  bas : BasketAt K H b B
  hand : ListAt H h hd
  tok : TillOk T
  bok : BasketOk T.parents.length B
  c0 : 0 ≤ B.carriage
  hl : hd.length = T.vouchers.length
  tab : LamX.TabS H tb lamQ
theorem Shop.gr {K : PySem.W.Frag} {tb : Addr} {H H' : Hp} {t b h : V} {T : TillD} {B : BasketD} {hd : List Int} (g : Gr tb H H') (s : Shop K tb H t b h T B hd) : Shop K tb H' t b h T B hd :=
  ⟨s.till.gr g, s.bas.gr g, s.hand.gr g, s.tok, s.bok, s.c0, s.hl, g.tab s.tab⟩
def vouF (T : TillD) (v : Int) : VouD := T.vouchers.getD v.toNat default
theorem vou_at {K : PySem.W.Frag} {H : Hp} {T : TillD} {vs : List V} (h : Paired (VouAt K H) vs T.vouchers) (ok : TillOk T) {v : Int} (h0 : 0 ≤ v) (h1 : v < T.vouchers.length) : ∃ x, atI vs v = some x ∧ VouAt K H x (vouF T v) ∧ VouOk (vouF T v) := by
  obtain ⟨x, e, f⟩ := at_paired h h0 h1 default
  exact ⟨x, e, f, ok.vou _ (List.mem_of_getElem? (get_d (by omega) default))⟩
def wordF (T : TillD) (B : BasketD) (hd : List Int) (ahead : List Int) (v : Int) (S : StandD) : Option Str :=
  if gi hd v ≤ (ahead.count v : Nat) then some "held" else
    if ((vouF T v).marks.once && ahead.contains v) = true then some "once" else
      if T.rules.any (neverP ahead v) = true then some "never" else
        if T.rules.any (lateP ahead v) = true then some "ahead" else hindF (vouF T v) T.parents B S
def spWord (tb : Addr) (K : PySem.W.Frag) : Sp := fun vs H Q _ => ∃ t b h a v s T B hd o S, vs = [t, b, h, .ref a, .int v, s] ∧ Shop K tb H t b h T B hd ∧ H a = some (.lst (ivs o)) ∧ (0 ≤ v ∧ v < T.vouchers.length) ∧ StandAt K H s S ∧ StOk B S ∧
  ∀ H', Gr tb H H' → Q (strV (wordF T B hd o v S)) H'
section
variable {P : Program} {w : World} {K : PySem.W.Frag} {mg : Str → Option Value} {base : Heap} {tb : Addr}
theorem sc_word_of : FnScope ["till", "basket", "hand", "ahead", "voucher", "standing", "used"] ["till", "basket", "hand", "ahead", "voucher", "standing"] (defScope s_word_of) := ⟨rfl, rfl, rfl, by decide +kernel, rfl, by decide +kernel, by decide +kernel⟩
theorem ok_word_of (T : TX K mg) : Cal P w K mg base 4 "word_of" (spWord tb K) := by
  obtain ⟨fd, F⟩ := T.df_word_of
  refine cal_of F T.g_word_of (F.ok (k := 3) sc_word_of (fun vs H Q E h => ?_) fun cdv A outer s H vs Q E hr h => ?_) (F.bindsN (ps := ["till", "basket", "hand", "ahead", "voucher", "standing"]) fun _ _ _ _ _ _ us hl => match us, hl with | [_, _, _, _, _, _], _ => rfl)
  · obtain ⟨t, b, h, a, v, s, D, B, hd, o, S, rfl, _⟩ := h
    rfl
  have c_never_beside : Cal P w K mg base 1 "never_beside" (spRul K neverP) := ok_never_beside T
  have c_comes_late : Cal P w K mg base 1 "comes_late" (spRul K lateP) := ok_comes_late T
  have c_hindrance : Cal P w K mg base 3 "hindrance" (spHind tb K) := ok_hindrance T
  obtain ⟨t, b, h, a, v, s, D, B, hd, o, S, rfl, sh, ha, ⟨v0, v1⟩, hs, so, q⟩ := h
  refine ⟨_, PSs.nox
    (pss_cons (ps_set (i := 6) sc_word_of.nd rfl (Or.inl rfl) (pe_ix ix_list (pe_fld (pv 0) rfl) (pv 4) (fun _ _ => rfl)))
    (pss_cons (ps_if0 (pt_cmpR op_ge (pe_bm PySem.F.plainAttrs_list PySem.F.slot_list_count PySem.F.type_list_count mt_lcount (pv 3) (pa_cons (pv 4) pa_nil)) (pe_ix ix_list (pv 2) (pv 4) (fun _ _ => rfl)) (nomark _))
      (pss_one (ps_ret pe_str)))
    (pss_cons (ps_if0 (PW.pt (pw_and (pt_val (pe_fld (pe_fld (pv 6) rfl) rfl)) (pw_and1 (pt_cmpR op_in_seq (pv 4) (pv 3) rfl))))
      (pss_one (ps_ret pe_str)))
    (pss_cons (ps_if0 (pt_val (pe_c c_never_beside hr (by decide) rfl (pa_cons (pv 0) (pa_cons (pv 3) (pa_cons (pv 4) pa_nil)))))
      (pss_one (ps_ret pe_str)))
    (pss_cons (ps_if0 (pt_val (pe_c c_comes_late hr (by decide) rfl (pa_cons (pv 0) (pa_cons (pv 3) (pa_cons (pv 4) pa_nil)))))
      (pss_one (ps_ret pe_str)))
    (pss_one (ps_ret (pe_c c_hindrance hr (by decide) rfl (pa_cons (pv 6) (pa_cons (pe_fld (pv 0) rfl) (pa_cons (pv 1) (pa_cons (pv 5) pa_nil)))))))))))), ?_⟩
  obtain ⟨ta, dt, pp, uu, rr, vs, rs, rfl, hta, hpp, ⟨huu, hvs⟩, hrr, hrs⟩ := id sh.till
  obtain ⟨hh, rfl, hhd⟩ := id sh.hand
  obtain ⟨x, ex, hx, vok⟩ := vou_at hvs sh.tok v0 v1
  obtain ⟨xa, dx, m, rfl, hxa, hm⟩ := id hx
  obtain ⟨am, dm, rfl, ham⟩ := id hm
  unfold wordF at q
  refine seq_set ⟨_, rfl, T.r_Till_vouchers hta ⟨_, rfl, uu, _, v, _, rfl, rfl, SqL.of huu, ex, ?_⟩⟩
  refine seq_if0 (decide (gi hd v ≤ (o.count v : Nat))) (fun R r => ?_) (fun hb => ?_) (fun hb => ?_)
  · refine ⟨_, rfl, .inl ⟨rfl, _, SqL.of ha⟩, _, rfl, a, o, v, rfl, rfl, SqL.of ha, ?_⟩
    refine ⟨_, rfl, _, rfl, hh, _, v, _, rfl, rfl, SqL.of hhd, at_ivs v0 (by rw [sh.hl]; exact v1), _, _, rfl, rfl, _, rfl, r⟩
  · rw [if_pos (of_decide_eq_true hb)] at q
    exact q H (GrB.refl _)
  rw [if_neg (of_decide_eq_false hb)] at q
  refine seq_if0 ((vouF D v).marks.once && o.contains v) (fun R r => ?_) (fun hb => ?_) (fun hb => ?_)
  · refine ⟨_, rfl, T.r_marks hxa (T.r_Marks_once ham ⟨_, rfl, ?_⟩)⟩
    cases he : (vouF D v).marks.once with
    | false => rw [he] at r; exact iteF r
    | true => rw [he] at r; exact iteT ⟨_, rfl, _, rfl, rIn_i (SqL.of ha) ⟨_, rfl, r⟩⟩
  · rw [if_pos hb] at q
    exact q H (GrB.refl _)
  rw [if_neg (by rw [hb]; exact Bool.false_ne_true)] at q
  refine seq_if0 (D.rules.any (neverP o v)) (fun R r => ?_) (fun hb => ?_) (fun hb => ?_)
  · exact ⟨_, rfl, _, rfl, _, rfl, _, a, v, D, o, rfl, sh.till, ha, _, rfl, r⟩
  · rw [if_pos hb] at q
    exact q H (GrB.refl _)
  rw [if_neg (by rw [hb]; exact Bool.false_ne_true)] at q
  refine seq_if0 (D.rules.any (lateP o v)) (fun R r => ?_) (fun hb => ?_) (fun hb => ?_)
  · exact ⟨_, rfl, _, rfl, _, rfl, _, a, v, D, o, rfl, sh.till, ha, _, rfl, r⟩
  · rw [if_pos hb] at q
    exact q H (GrB.refl _)
  rw [if_neg (by rw [hb]; exact Bool.false_ne_true)] at q
  refine ⟨_, rfl, _, rfl, T.r_Till_parents hta ⟨_, rfl, _, rfl, _, _, _, _, _, D.parents, B, S, rfl, ⟨hx, ⟨pp, rfl, hpp⟩, sh.bas, hs, sh.tok.par, sh.bok, so.so, vok⟩, q⟩⟩
/-! ### fault -/
def stN (T : TillD) (B : BasketD) (o : List Int) : Nat → StandD
  | 0 => stand0 B
  | i + 1 => afterF (vouF T (o.getD i 0)) T.parents B (stN T B o i)
def wordN (T : TillD) (B : BasketD) (hd o : List Int) (i : Nat) : Option Str := wordF T B hd (o.take i) (o.getD i 0) (stN T B o i)
def badN (T : TillD) (B : BasketD) (hd o : List Int) (i : Nat) : Bool := (wordN T B hd o i).isSome
def badF (T : TillD) (B : BasketD) (hd o : List Int) : Option Nat := (List.range o.length).find? (badN T B hd o)
def faultF (T : TillD) (B : BasketD) (hd o : List Int) : Option (Int × Str) := match badF T B hd o with
  | some i => some ((i : Int), (wordN T B hd o i).getD "")
  | none => if (T.rules.find? (lackP o)).isSome then some ((o.length : Nat), "only") else none
theorem vou_ok {T : TillD} (ok : TillOk T) {v : Int} (h : 0 ≤ v ∧ v < T.vouchers.length) : VouOk (vouF T v) := ok.vou _ (List.mem_of_getElem? (get_d (by omega) default))
theorem stN_ok {T : TillD} {B : BasketD} {o : List Int} (tok : TillOk T) (bok : BasketOk T.parents.length B) (c0 : 0 ≤ B.carriage) (ho : OrdOk T o) : ∀ i, i ≤ o.length → StOk B (stN T B o i)
  | 0, _ => stand0_ok bok c0
  | i + 1, h => after_ok (stN_ok tok bok c0 ho i (by omega)) (vou_ok tok (ho _ (List.mem_of_getElem? (get_d h 0))))
def spFault (tb : Addr) (K : PySem.W.Frag) : Sp := fun vs H Q _ => ∃ t b h a T B hd o, vs = [t, b, h, .ref a] ∧ Shop K tb H t b h T B hd ∧ H a = some (.lst (ivs o)) ∧ OrdOk T o ∧ o.length ≤ 1000 ∧
  (faultF T B hd o = none → ∀ H', Gr tb H H' → Q .non H') ∧ ∀ i x, faultF T B hd o = some (i, x) → ∀ H' p, Gr tb H H' → H' p = some (.tup [.int i, .str x]) → Q (.ref p) H'
theorem sc_fault : FnScope ["till", "basket", "hand", "order", "standing", "ahead", "place", "voucher", "word"] ["till", "basket", "hand", "order"] (defScope s_fault) := ⟨rfl, rfl, rfl, by decide +kernel, rfl, by decide +kernel, by decide +kernel⟩
theorem ok_fault (T : TX K mg) (W : ∀ s, Met P w K mg base 3 (sortC K s) "wanted" (spWanted tb K s)) : Cal P w K mg base 6 "fault" (spFault tb K) := by
  obtain ⟨fd, F⟩ := T.df_fault
  refine cal_of F T.g_fault (F.ok (k := 5) sc_fault (fun vs H Q E h => ?_) fun cdv A outer s H vs Q E hr h => ?_) (F.bindsN (ps := ["till", "basket", "hand", "order"]) fun _ _ _ _ _ _ us hl => match us, hl with | [_, _, _, _], _ => rfl)
  · obtain ⟨t, b, h, a, D, B, hd, o, rfl, _⟩ := h
    rfl
  have c_word_of : Cal P w K mg base 4 "word_of" (spWord tb K) := ok_word_of T
  have c_after : Cal P w K mg base 5 "after" (spAfter tb K) := ok_after T W
  have c_lacking : Cal P w K mg base 1 "lacking" (spLack K) := ok_lacking T
  have k_Standing : Mak P w K mg base 2 "Standing" (CStanding K) (spStanding tb K) [] := ok_Standing T
  obtain ⟨t, b, h, a, D, B, hd, o, rfl, sh, ha, ho, o1000, qn, qs⟩ := h
  refine ⟨_, PSs.nox
    (pss_cons (ps_set (i := 4) sc_fault.nd rfl (Or.inl rfl) (pe_mk k_Standing hr (by decide) rfl (pa_cons (pv 1) pa_nil)))
    (pss_cons (ps_set (i := 5) sc_fault.nd rfl (Or.inl rfl) (pe_lst pa_nil))
    (pss_cons (ps_for PassesOwn.never rfl (pi_enum rfl T.f_enumerate (pa_cons (pv 3) pa_nil)) (pg_tup rfl (pgs_cons (pg_name (i := 6) sc_fault.nd rfl (Or.inl rfl)) (pgs_cons (pg_name (i := 7) sc_fault.nd rfl (Or.inl rfl)) pgs_nil)))
      (pss_cons (ps_set (i := 8) sc_fault.nd rfl (Or.inl rfl) (pe_c c_word_of hr (by decide) rfl (pa_cons (pv 0) (pa_cons (pv 1) (pa_cons (pv 2) (pa_cons (pv 5) (pa_cons (pv 7) (pa_cons (pv 4) pa_nil))))))))
      (pss_cons (ps_if0 (pt_cmp (pc_notN (pv 8)))
        (pss_one (ps_ret (pe_tup (pa_cons (pv 6) (pa_cons (pv 8) pa_nil))))))
      (pss_cons (ps_set (i := 4) sc_fault.nd rfl (Or.inl rfl) (pe_c c_after hr (by decide) rfl (pa_cons (pe_ix ix_list (pe_fld (pv 0) rfl) (pv 7) (fun _ _ => rfl)) (pa_cons (pe_fld (pv 0) rfl) (pa_cons (pv 1) (pa_cons (pv 4) pa_nil))))))
      (pss_one (ps_expr (pe_bm PySem.F.plainAttrs_list PySem.F.slot_list_append PySem.F.type_list_append mt_append (pv 5) (pa_cons (pv 7) pa_nil))))))))
    (pss_cons (ps_if0 (pt_cmp (pc_notN (pe_c c_lacking hr (by decide) rfl (pa_cons (pv 0) (pa_cons (pv 5) pa_nil)))))
      (pss_one (ps_ret (pe_tup (pa_cons (pe_callB call_len_seq rfl T.f_len B_len (pa_cons (pv 5) pa_nil)) (pa_cons pe_str pa_nil))))))
    (pss_one (ps_ret pe_non)))))), ?_⟩
  obtain ⟨ta, dt, pp, uu, rr, vs, rs, rfl, hta, hpp, ⟨huu, hvs⟩, hrr, hrs⟩ := id sh.till
  -- standing
  refine ⟨_, rfl, fun x _ nx nd ne => mk_St sh.bas (small_of sh.bok) nx nd ne fun H1 g1 hx => ⟨rfl, ?_⟩⟩
  -- ahead
  refine ⟨Nat.zero_le _, fun l hl => ?_⟩
  have l0 : H l = none := g1.free l hl
  have g2 : Gr tb H (upd H1 l (.lst [])) := g1.add hl
  refine ⟨_, rfl, a, _, rfl, SqL.of (g2.lst ha), ?_⟩
  refine for_it (walk_enum (xs := ivs o)) (fun i σ H' => ∃ sv v6 v7 v8, σ = [some (.ref ta), some b, some h, some (.ref a), some sv, some (.ref l), v6, v7, v8] ∧ Gr tb H H' ∧ H' l = some (.lst (ivs (o.take i))) ∧ StandBut K l H' sv (stN D B o i) ∧ (List.range i).any (badN D B hd o) = false)
    ⟨_, none, none, none, rfl, g2, upd_same, (hx.at.but hl).gr (tb := tb) (Gr.new hl), rfl⟩ (fun i σ H' _ ⟨_, _, _, _, _, g, _⟩ => SqL.of (g.lst ha)) ?_ ?_
  · rintro i y σ H' _ hi ⟨sv, v6, v7, v8, rfl, g, hl', hsv, hn⟩ ⟨tu, x1, x2, rfl, htu, rfl, e1, e2⟩
    cases e1
    obtain ⟨z, hz, rfl⟩ := ivs_of e2
    have hi' : i < o.length := (List.getElem?_eq_some_iff.mp hz).1
    have gz : o.getD i 0 = z := getD_of hz
    obtain ⟨z0, z1⟩ := ho z (List.mem_of_getElem? hz)
    have gt : Gr tb H (upd H' tu (.tup [.int (i : Nat), .int z])) := g.add htu
    have gn : Gr tb H' (upd H' tu (.tup [.int (i : Nat), .int z])) := Gr.new htu
    have so := stN_ok (T := D) (B := B) (o := o) sh.tok sh.bok sh.c0 ho i (by omega)
    refine ⟨tu, _, rfl, .inl (.inl upd_same), rfl, _, _, rfl, _, _, rfl, rfl, ?_⟩
    have hl2 := gn.lst hl'
    have hsv2 := hsv.gr gn
    generalize upd H' tu (.tup [.int (i : Nat), .int z]) = H2 at gt hl2 hsv2 ⊢
    refine ⟨_, rfl, _, rfl, _, rfl, _, rfl, _, rfl, _, rfl, _, _, _, l, z, _, D, B, hd, o.take i, stN D B o i, rfl, sh.gr gt, hl2, ⟨z0, z1⟩, hsv2.at, so, fun H3 g3 => ?_⟩
    have ew : wordF D B hd (o.take i) z (stN D B o i) = wordN D B hd o i := by unfold wordN; rw [gz]
    rw [ew]
    have k3 := gt.trans g3
    dsimp only [gName]
    refine seq_if0 (badN D B hd o i) (fun R r => ?_) (fun hb => ?_) (fun hb => ?_)
    · refine ⟨_, rfl, _, rfl, ?_⟩
      unfold badN at r
      cases hw : wordN D B hd o i with
      | none => rw [hw] at r; exact r
      | some x => rw [hw] at r; exact r
    · cases hw : wordN D B hd o i with
      | none => unfold badN at hb; rw [hw] at hb; cases hb
      | some x =>
        have ef : faultF D B hd o = some ((i : Int), x) := by
          have eb : badF D B hd o = some i := by
            unfold badF
            refine find_at (i := i) (by rw [List.getElem?_range hi']) ?_ hb
            rw [List.take_range, Nat.min_eq_left (Nat.le_of_lt hi')]
            exact hn
          unfold faultF
          rw [eb]
          show some ((i : Int), (wordN D B hd o i).getD "") = _
          rw [hw]
          rfl
        exact ⟨_, rfl, _, rfl, Nat.le_of_lt (small1000 (show 2 ≤ 1000 by decide)), fun p hp => qs _ _ ef _ p (k3.add hp) upd_same⟩
    · obtain ⟨x, ex, hx, vok⟩ := vou_at (Paired.mapP hvs fun _ _ => VouAt.gr k3) sh.tok z0 z1
      refine ⟨_, rfl, T.r_Till_vouchers (k3.ins hta) ⟨_, rfl, uu, _, z, _, rfl, rfl, SqL.of (k3.lst huu), ex, _, rfl, T.r_Till_parents (k3.ins hta) ⟨_, rfl, _, rfl, _, _, _, _, vouF D z, D.parents, B, stN D B o i, rfl, ⟨⟨hx, ⟨pp, rfl, k3.lst hpp⟩, sh.bas.gr k3, hsv2.at.gr g3, sh.tok.par, sh.bok, so.so, vok⟩, so, k3.tab sh.tab⟩, fun H4 x4 g4 nx4 hx4 => ?_⟩⟩⟩
      have k4 := k3.trans g4
      have hl4 := g4.lst (g3.lst hl2)
      refine ⟨_, rfl, .inl ⟨rfl, _, SqL.of hl4⟩, _, rfl, l, _, _, rfl, rfl, hl4, ?_, ?_⟩
      · rw [ivs_len, List.length_take]
        exact small1000 (by omega)
      · refine ⟨_, _, _, _, rfl, k4.putL l0 hl4, by rw [upd_same, take_snoc hz, ivs_app]; rfl, ?_, ?_⟩
        · have es : stN D B o (i + 1) = afterF (vouF D z) D.parents B (stN D B o i) := by show afterF (vouF D (o.getD i 0)) _ _ _ = _; rw [gz]
          rw [es]
          exact (hx4.but (g3.lst hl2)).put hl4
        · rw [List.range_succ, List.any_append, hn, List.any_cons, hb]; rfl
  · rintro σ H' ⟨sv, v6, v7, v8, rfl, g, hl', hsv, hn⟩
    rw [ivs_len] at hl' hn
    rw [List.take_length] at hl'
    have ef : faultF D B hd o = if (D.rules.find? (lackP o)).isSome then some (((o.length : Nat) : Int), ("only" : Str)) else none := by
      unfold faultF badF
      rw [find_no hn]
    dsimp only
    refine seq_if0 (D.rules.find? (lackP o)).isSome (fun R r => ?_) (fun hb => ?_) (fun hb => ?_)
    · refine ⟨_, rfl, _, rfl, _, l, D, o, rfl, sh.till.gr g, hl', fun e => ?_, fun ru v e hv => ?_⟩
      · rw [e] at r
        exact ⟨_, rfl, r⟩
      · obtain ⟨tu, rfl, _⟩ := hv
        rw [e] at r
        exact ⟨_, rfl, r⟩
    · refine ⟨_, rfl, l, _, rfl, .inl (SqL.of hl'), Nat.le_of_lt (small1000 (show 2 ≤ 1000 by decide)), fun p hp => qs _ _ (by rw [ef, if_pos hb]) _ p (g.add hp) ?_⟩
      rw [upd_same, ivs_len]
    · exact qn (by rw [ef, if_neg (by rw [hb]; exact Bool.false_ne_true)]) _ g
end
end VS
set_option Elab.async false
set_option linter.all false
set_option maxRecDepth 100000
set_option maxHeartbeats 4000000
namespace VS
open PySem PySem.Spec PyProof.Rows L2
/-! ### the bill -/
def BillAt (K : PySem.W.Frag) (H0 H : Hp) (x : Addr) (prs : List Int) (tot : Int) : Prop := ∃ dx o st pr c, H x = some (.ins (CBill K) dx (aBill o st (.ref pr) (.int c) (.int tot))) ∧ H pr = some (.lst (ivs prs)) ∧ H0 pr = none
def spBill (tb : Addr) (K : PySem.W.Frag) : Sp := fun vs H Q _ => ∃ H0 p dx o st s os xs S, vs = [.ref p, .ref o, .ref st, s] ∧ Gr tb H0 H ∧ H0 p = none ∧ H p = some (.ins (CBill K) dx []) ∧ H0 o = some (.lst os) ∧ H0 st = some (.lst xs) ∧ StandAt K H0 s S ∧
  ∀ H', GrB tb [p] H H' → BillAt K H H' p S.prices (wholeF S) → Q .non H'
section
variable {P : Program} {w : World} {K : PySem.W.Frag} {mg : Str → Option Value} {base : Heap} {tb : Addr}
theorem sc_Bill_init : FnScope ["self", "order", "steps", "standing"] ["self", "order", "steps", "standing"] (defScope s_Bill_init) := ⟨rfl, rfl, rfl, by decide +kernel, rfl, by decide +kernel, by decide +kernel⟩
theorem ok_Bill (T : TX K mg) : Mak P w K mg base 2 "Bill" (CBill K) (spBill tb K) [] := by
  obtain ⟨fd, F⟩ := T.df_Bill_init
  refine mak_of T.g_Bill T.k_Bill (F.ok (k := 1) sc_Bill_init (fun vs H Q E h => ?_) fun cdv A outer s H vs Q E hr h => ?_) (F.bindsN (ps := ["self", "order", "steps", "standing"]) fun _ _ _ _ _ _ us hl => match us, hl with | [_, _, _, _], _ => rfl) .nil
  · obtain ⟨H0, p, dx, o, st, s, os, xs, S, rfl, _⟩ := h
    rfl
  have mt_whole : Met P w K mg base 1 (CStanding K) "whole" (spWhole K) := ok_whole T
  obtain ⟨H0, p, dx, o, st, s, os, xs, S, rfl, g0, p0, hp, ho, hst, hs, q⟩ := h
  obtain ⟨sa, ds, so_, sp_, sm_, rfl, hsa, hso, hsp, hsm⟩ := id hs
  refine ⟨_, PSs.nox
    (pss_cons (ps_fld (pv 0) (pe_callTy call_list_of rfl T.f_list B_list (pa_cons (pv 1) pa_nil)) rfl)
    (pss_cons (ps_fld (pv 0) (pv 2) rfl)
    (pss_cons (ps_fld (pv 0) (pe_callTy call_list_of rfl T.f_list B_list (pa_cons (pe_fld (pv 3) rfl) pa_nil)) rfl)
    (pss_cons (ps_fld (pv 0) (pe_fld (pv 3) rfl) rfl)
    (pss_one (ps_fld (pv 0) (pe_mt0 mt_whole hr (by decide) (pv 3)) rfl)))))), ?_⟩
  have bk : ∀ {H'}, GrB tb [p] H H' → Gr tb H0 H' := fun g => g.back g0 fun s hs => by rw [List.mem_singleton.mp hs]; exact p0
  refine ⟨_, rfl, o, _, rfl, .inl (SqL.of (g0.lst ho)), fun l1 hl1 => ⟨_, rfl, ?_⟩⟩
  have n1 : p ≠ l1 := ne_of_none hp hl1
  refine st_fld (tb := tb) (Gr.ins (tb := tb) (Gr.new hl1) hp) T.c_Bill T.n_Bill_order (by decide) aBill_i0 fun H1 g1 h1 => ?_
  have k1 : GrB tb [p] H H1 := (GrB.add (GrB.refl H) hl1).trans g1
  refine ⟨_, rfl, _, rfl, st_fld (tb := tb) h1 T.c_Bill T.n_Bill_steps (by simp) aBill_i1 fun H2 g2 h2 => ?_⟩
  have k2 := k1.trans g2
  refine ⟨_, rfl, T.r_Standing_prices ((bk k2).ins hsa) ⟨sp_, _, rfl, .inl (SqL.of ((bk k2).lst hsp)), fun l2 hl2 => ⟨_, rfl, ?_⟩⟩⟩
  have n2 : p ≠ l2 := ne_of_none h2 hl2
  refine st_fld (tb := tb) (Gr.ins (tb := tb) (Gr.new hl2) h2) T.c_Bill T.n_Bill_prices (by simp) aBill_i2 fun H3 g3 h3 => ?_
  have k3 : GrB tb [p] H H3 := (k2.add hl2).trans g3
  have q3 : H3 l2 = some (.lst (ivs S.prices)) := g3.lst upd_same (by simpa using Ne.symm n2)
  refine ⟨_, rfl, T.r_Standing_carriage ((bk k3).ins hsa) ⟨_, rfl, st_fld (tb := tb) h3 T.c_Bill T.n_Bill_carriage (by simp) aBill_i3 fun H4 g4 h4 => ?_⟩⟩
  have k4 := k3.trans g4
  refine ⟨_, rfl, sa, ds, _, rfl, (bk k4).ins hsa, rfl, _, S, rfl, hs.gr (bk k4), _, rfl, st_fld (tb := tb) h4 T.c_Bill T.n_Bill_total (by simp) aBill_i4 fun H5 g5 h5 => ?_⟩
  exact q H5 (k4.trans g5) ⟨dx, _, _, l2, _, h5, g5.lst (g4.lst q3 (by simpa using Ne.symm n2)) (by simpa using Ne.symm n2), k2.free l2 hl2⟩
/-! ### priced -/
def spPriced (tb : Addr) (K : PySem.W.Frag) : Sp := fun vs H Q _ => ∃ t b h a T B hd o, vs = [t, b, h, .ref a] ∧ Shop K tb H t b h T B hd ∧ H a = some (.lst (ivs o)) ∧ OrdOk T o ∧ o.length ≤ 1000 ∧ faultF T B hd o = none ∧
  ∀ H' x, Gr tb H H' → BillAt K H H' x (stN T B o o.length).prices (wholeF (stN T B o o.length)) → Q (.ref x) H'
theorem sc_priced : FnScope ["till", "basket", "hand", "order", "found", "standing", "steps", "number", "voucher", "pieces", "carriage"] ["till", "basket", "hand", "order"] (defScope s_priced) := ⟨rfl, rfl, rfl, by decide +kernel, rfl, by decide +kernel, by decide +kernel⟩
theorem ok_priced (T : TX K mg) (W : ∀ s, Met P w K mg base 3 (sortC K s) "wanted" (spWanted tb K s)) : Cal P w K mg base 7 "priced" (spPriced tb K) := by
  obtain ⟨fd, F⟩ := T.df_priced
  refine cal_of F T.g_priced (F.ok (k := 6) sc_priced (fun vs H Q E h => ?_) fun cdv A outer s H vs Q E hr h => ?_) (F.bindsN (ps := ["till", "basket", "hand", "order"]) fun _ _ _ _ _ _ us hl => match us, hl with | [_, _, _, _], _ => rfl)
  · obtain ⟨t, b, h, a, D, B, hd, o, rfl, _⟩ := h
    rfl
  have c_fault : Cal P w K mg base 6 "fault" (spFault tb K) := ok_fault T W
  have c_after : Cal P w K mg base 5 "after" (spAfter tb K) := ok_after T W
  have c_cuts : Cal P w K mg base 4 "cuts" (spCuts tb K) := ok_cuts T W
  have k_Standing : Mak P w K mg base 2 "Standing" (CStanding K) (spStanding tb K) [] := ok_Standing T
  have k_Bill : Mak P w K mg base 2 "Bill" (CBill K) (spBill tb K) [] := ok_Bill T
  obtain ⟨t, b, h, a, D, B, hd, o, rfl, sh, ha, ho, o1000, hf, q⟩ := h
  refine ⟨_, PSs.nox
    (pss_cons (ps_set (i := 4) sc_priced.nd rfl (Or.inl rfl) (pe_c c_fault hr (by decide) rfl (pa_cons (pv 0) (pa_cons (pv 1) (pa_cons (pv 2) (pa_cons (pv 3) pa_nil))))))
    (pss_cons (ps_if0 (pt_cmp (pc_notN (pv 4)))
      (pss_one ps_never))
    (pss_cons (ps_set (i := 5) sc_priced.nd rfl (Or.inl rfl) (pe_mk k_Standing hr (by decide) rfl (pa_cons (pv 1) pa_nil)))
    (pss_cons (ps_set (i := 6) sc_priced.nd rfl (Or.inl rfl) (pe_lst pa_nil))
    (pss_cons (ps_for PassesOwn.never rfl (pi_list (pv 3)) (pg_name (i := 7) sc_priced.nd rfl (Or.inl rfl))
      (pss_cons (ps_set (i := 8) sc_priced.nd rfl (Or.inl rfl) (pe_ix ix_list (pe_fld (pv 0) rfl) (pv 7) (fun _ _ => rfl)))
      (pss_cons (ps_asg (pe_c c_cuts hr (by decide) rfl (pa_cons (pv 8) (pa_cons (pe_fld (pv 0) rfl) (pa_cons (pv 1) (pa_cons (pv 5) pa_nil))))) (pg_tup rfl (pgs_cons (pg_name (i := 9) sc_priced.nd rfl (Or.inl rfl)) (pgs_cons (pg_name (i := 10) sc_priced.nd rfl (Or.inl rfl)) pgs_nil))))
      (pss_cons (ps_expr (pe_bm PySem.F.plainAttrs_list PySem.F.slot_list_append PySem.F.type_list_append mt_append (pv 6) (pa_cons (pe_tup (pa_cons (pv 7) (pa_cons (pv 9) (pa_cons (pv 10) pa_nil)))) pa_nil)))
      (pss_one (ps_set (i := 5) sc_priced.nd rfl (Or.inl rfl) (pe_c c_after hr (by decide) rfl (pa_cons (pv 8) (pa_cons (pe_fld (pv 0) rfl) (pa_cons (pv 1) (pa_cons (pv 5) pa_nil)))))))))))
    (pss_one (ps_ret (pe_mk k_Bill hr (by decide) rfl (pa_cons (pv 3) (pa_cons (pv 6) (pa_cons (pv 5) pa_nil))))))))))), ?_⟩
  obtain ⟨ta, dt, pp, uu, rr, vs, rs, rfl, hta, hpp, ⟨huu, hvs⟩, hrr, hrs⟩ := id sh.till
  refine ⟨_, rfl, _, rfl, _, rfl, _, rfl, _, _, _, a, D, B, hd, o, rfl, sh, ha, ho, o1000, fun _ H1 g1 => ?_, fun i x e => by rw [hf] at e; cases e⟩
  dsimp only [gName]
  refine seq_if0 false (fun R r => ⟨_, rfl, _, rfl, r⟩) (fun hb => nomatch hb) (fun _ => ?_)
  -- standing
  refine ⟨_, rfl, fun x _ nx nd ne => mk_St (sh.bas.gr g1) (small_of sh.bok) nx nd ne fun H2 g2 hx => ⟨rfl, ?_⟩⟩
  have k2 := g1.trans g2
  refine ⟨Nat.zero_le _, fun l hl => ?_⟩
  have l0 : H l = none := k2.free l hl
  have g3 : Gr tb H (upd H2 l (.lst [])) := k2.add hl
  refine ⟨_, rfl, a, rfl, ⟨_, SqL.of (g3.lst ha)⟩, ?_⟩
  refine for_it (walk_list (xs := ivs o)) (fun i σ H' => ∃ sv v7 v8 v9 v10 xs, σ = [some (.ref ta), some b, some h, some (.ref a), some .non, some sv, some (.ref l), v7, v8, v9, v10] ∧ Gr tb H H' ∧ (H' l = some (.lst xs) ∧ xs.length = i) ∧ StandBut K l H' sv (stN D B o i))
    ⟨_, none, none, none, none, [], rfl, g3, ⟨upd_same, rfl⟩, (hx.at.but hl).gr (tb := tb) (Gr.new hl)⟩ (fun i σ H' _ ⟨_, _, _, _, _, _, _, g, _⟩ => SqL.of (g.lst ha)) ?_ ?_
  · rintro i y σ _ H' hi ⟨sv, v7, v8, v9, v10, xs, rfl, g, ⟨hl', hxs⟩, hsv⟩ ⟨rfl, hy⟩
    obtain ⟨z, hz, rfl⟩ := ivs_of hy
    have hi' : i < o.length := (List.getElem?_eq_some_iff.mp hz).1
    have gz : o.getD i 0 = z := getD_of hz
    obtain ⟨z0, z1⟩ := ho z (List.mem_of_getElem? hz)
    have so := stN_ok (T := D) (B := B) (o := o) sh.tok sh.bok sh.c0 ho i (by omega)
    obtain ⟨x, ex, hx, vok⟩ := vou_at (Paired.mapP hvs fun _ _ => VouAt.gr g) sh.tok z0 z1
    have ci : CutIn K H' x (.ref pp) b sv (vouF D z) D.parents B (stN D B o i) := ⟨hx, ⟨pp, rfl, g.lst hpp⟩, sh.bas.gr g, hsv.at, sh.tok.par, sh.bok, so.so, vok⟩
    refine ⟨_, rfl, T.r_Till_vouchers (g.ins hta) ⟨_, rfl, uu, _, z, _, rfl, rfl, SqL.of (g.lst huu), ex, ?_⟩⟩
    refine ⟨_, rfl, _, rfl, T.r_Till_parents (g.ins hta) ⟨_, rfl, _, rfl, _, _, _, _, vouF D z, D.parents, B, stN D B o i, rfl, ci, so.c0, g.tab sh.tab, fun H3 t3 l3 g3 ht3 hl3 => ?_⟩⟩
    have k3 := g.trans g3
    have hl'3 := g3.lst hl'
    refine ⟨t3, _, rfl, SqT.of ht3, rfl, _, _, rfl, _, _, rfl, rfl, ?_⟩
    refine ⟨_, rfl, .inl ⟨rfl, _, SqL.of hl'3⟩, _, rfl, _, rfl, _, rfl, Nat.le_of_lt (small1000 (show 3 ≤ 1000 by decide)), fun p hp => ?_⟩
    have gp : Gr tb H' (upd H3 p (.tup [.int z, .ref l3, .int (cutsF (vouF D z) D.parents B (stN D B o i)).2])) := g3.add hp
    have hlp : upd H3 p (.tup [.int z, .ref l3, .int (cutsF (vouF D z) D.parents B (stN D B o i)).2]) l = some (.lst xs) := by rw [upd_ne (ne_of_none hl'3 hp)]; exact hl'3
    refine ⟨l, _, _, rfl, rfl, hlp, small1000 (by omega), ?_⟩
    have gl : Gr tb H (upd (upd H3 p (.tup [.int z, .ref l3, .int (cutsF (vouF D z) D.parents B (stN D B o i)).2])) l (.lst (xs ++ [.ref p]))) := (g.trans gp).putL l0 hlp
    have hsl := (hsv.gr gp).put (ys := xs ++ [.ref p]) hlp
    have hll : upd (upd H3 p (.tup [.int z, .ref l3, .int (cutsF (vouF D z) D.parents B (stN D B o i)).2])) l (.lst (xs ++ [.ref p])) l = some (.lst (xs ++ [.ref p])) := upd_same
    generalize upd (upd H3 p (.tup [.int z, .ref l3, .int (cutsF (vouF D z) D.parents B (stN D B o i)).2])) l (.lst (xs ++ [.ref p])) = H4 at gl hsl hll ⊢
    obtain ⟨x', ex', hx', _⟩ := vou_at (Paired.mapP hvs fun _ _ => VouAt.gr gl) sh.tok z0 z1
    rw [ex] at ex'
    cases ex'
    have ci' : CutIn K H4 x (.ref pp) b sv (vouF D z) D.parents B (stN D B o i) := ⟨hx', ⟨pp, rfl, gl.lst hpp⟩, sh.bas.gr gl, hsl.at, sh.tok.par, sh.bok, so.so, vok⟩
    refine ⟨_, rfl, _, rfl, T.r_Till_parents (gl.ins hta) ⟨_, rfl, _, rfl, _, _, _, _, vouF D z, D.parents, B, stN D B o i, rfl, ⟨ci', so, gl.tab sh.tab⟩, fun H5 x5 g5 nx5 hx5 => ?_⟩⟩
    refine ⟨_, _, _, _, _, _, rfl, gl.trans g5, ⟨g5.lst hll, by rw [List.length_append, hxs]; rfl⟩, ?_⟩
    have es : stN D B o (i + 1) = afterF (vouF D z) D.parents B (stN D B o i) := by show afterF (vouF D (o.getD i 0)) _ _ _ = _; rw [gz]
    rw [es]
    exact hx5.but hll
  · rintro σ H' ⟨sv, v7, v8, v9, v10, xs, rfl, g, ⟨hl', hxs⟩, hsv⟩
    rw [ivs_len] at hsv
    refine ⟨_, rfl, _, rfl, _, rfl, fun x dx hx hdx ne => ?_⟩
    have hx2 : (upd H' dx (.own x)) x = none := by rw [upd_ne (Ne.symm ne)]; exact hx
    exact ⟨H', x, dx, a, l, sv, _, _, _, rfl, (Gr.new hdx).trans (Gr.new hx2), hx, upd_same, g.lst ha, hl', hsv.at, fun H6 g6 ⟨d6, o6, st6, pr6, c6, w1, w2, w3⟩ => ⟨rfl, q H6 x (g.trans (Gr.made hx hdx ne g6)) ⟨d6, o6, st6, pr6, c6, w1, w2, (g.trans ((Gr.new hdx).trans (Gr.new hx2))).free _ w3⟩⟩⟩
end
end VS
set_option Elab.async false
set_option linter.all false
set_option maxRecDepth 100000
set_option maxHeartbeats 4000000
namespace VS
open PySem PySem.Spec PyProof.Rows L2
/-! ### which vouchers hold -/
def goesF (T : TillD) (B : BasketD) (hd o : List Int) : Bool := match faultF T B hd o with
  | none => true
  | some x => decide (x.2 = "only")
def gtStep (T : TillD) (B : BasketD) (hd : List Int) (st : List Int × List Int) (n : Int) : List Int × List Int := if goesF T B hd (st.1 ++ [n]) = true then (st.1 ++ [n], st.2) else (st.1, st.2 ++ [n])
def gtF (T : TillD) (B : BasketD) (hd o fl : List Int) : List Int × List Int := o.foldl (gtStep T B hd) ([], fl)
def lackF (T : TillD) (o : List Int) : Option RuleD := T.rules.find? (lackP o)
def stillGo (T : TillD) (B : BasketD) (hd : List Int) : Nat → List Int × List Int → List Int × List Int
  | 0, st => st
  | n + 1, st => match lackF T st.1 with
    | none => st
    | some r => stillGo T B hd n (gtF T B hd (st.1.filter fun x => !(x == r.one)) (st.2 ++ st.1.filter fun x => x == r.one))
def stillF (T : TillD) (B : BasketD) (hd o fl : List Int) : List Int × List Int := stillGo T B hd (o.length + 1) (gtF T B hd o fl)
theorem word_not {T : TillD} {B : BasketD} {hd o : List Int} {v : Int} {S : StandD} {x : Str} (h : wordF T B hd o v S = some x) : x ≠ "only" := by
  unfold wordF hindF at h
  repeat' split at h
  all_goals first
    | (cases h; decide +kernel)
    | cases h
theorem goes_clean {T : TillD} {B : BasketD} {hd o : List Int} (h : goesF T B hd o = true) : badF T B hd o = none := by
  unfold goesF faultF at h
  cases e : badF T B hd o with
  | none => rfl
  | some i =>
    rw [e] at h
    have hb : badN T B hd o i = true := by unfold badF at e; exact List.find?_some e
    unfold badN at hb
    cases hw : wordN T B hd o i with
    | none => rw [hw] at hb; cases hb
    | some x =>
      have h : decide ((wordN T B hd o i).getD "" = ("only" : Str)) = true := h
      rw [hw] at h
      exact absurd (of_decide_eq_true h) (word_not (by unfold wordN at hw; exact hw))
theorem gt_all {T : TillD} {B : BasketD} {hd : List Int} : ∀ (o : List Int) (st : List Int × List Int), badF T B hd st.1 = none → (∀ x ∈ (o.foldl (gtStep T B hd) st).1, x ∈ st.1 ∨ x ∈ o) ∧ badF T B hd (o.foldl (gtStep T B hd) st).1 = none ∧
    (o.foldl (gtStep T B hd) st).1.length + (o.foldl (gtStep T B hd) st).2.length = st.1.length + st.2.length + o.length ∧ (o.foldl (gtStep T B hd) st).1.length ≤ st.1.length + o.length ∧ (∀ x ∈ (o.foldl (gtStep T B hd) st).2, x ∈ st.2 ∨ x ∈ o)
  | [], st, h => ⟨fun x hx => .inl hx, h, by simp, by simp, fun x hx => .inl hx⟩
  | n :: r, st, h => by
    rw [List.foldl_cons]
    by_cases hg : goesF T B hd (st.1 ++ [n]) = true
    · have e : gtStep T B hd st n = (st.1 ++ [n], st.2) := if_pos hg
      obtain ⟨i1, i2, i3, i4, i5⟩ := gt_all r (st.1 ++ [n], st.2) (goes_clean hg)
      rw [e]
      refine ⟨fun x hx => ?_, i2, ?_, ?_, fun x hx => ?_⟩
      · rcases i1 x hx with h | h
        · rcases List.mem_append.mp h with h | h
          · exact .inl h
          · exact .inr (by rw [List.mem_singleton.mp h]; exact List.mem_cons_self ..)
        · exact .inr (List.mem_cons_of_mem _ h)
      · rw [i3]; simp; omega
      · have := i4; simp at this ⊢; omega
      · rcases i5 x hx with h | h
        · exact .inl h
        · exact .inr (List.mem_cons_of_mem _ h)
    · have e : gtStep T B hd st n = (st.1, st.2 ++ [n]) := if_neg hg
      obtain ⟨i1, i2, i3, i4, i5⟩ := gt_all r (st.1, st.2 ++ [n]) h
      rw [e]
      refine ⟨fun x hx => ?_, i2, ?_, ?_, fun x hx => ?_⟩
      · rcases i1 x hx with h | h
        · exact .inl h
        · exact .inr (List.mem_cons_of_mem _ h)
      · rw [i3]; simp; omega
      · have := i4; simp at this ⊢; omega
      · rcases i5 x hx with h | h
        · rcases List.mem_append.mp h with h | h
          · exact .inl h
          · exact .inr (by rw [List.mem_singleton.mp h]; exact List.mem_cons_self ..)
        · exact .inr (List.mem_cons_of_mem _ h)
theorem bad_nil {T : TillD} {B : BasketD} {hd : List Int} : badF T B hd [] = none := rfl
theorem filt_len (l : List Int) (p : Int → Bool) : (l.filter fun x => !p x).length + (l.filter p).length = l.length := by
  induction l with
  | nil => rfl
  | cons a r ih =>
    cases h : p a with
    | true => rw [List.filter_cons_of_neg (by simp [h]), List.filter_cons_of_pos h, List.length_cons, List.length_cons]; omega
    | false => rw [List.filter_cons_of_pos (by simp [h]), List.filter_cons_of_neg (by simp [h]), List.length_cons, List.length_cons]; omega
theorem lack_in {T : TillD} {o : List Int} {r : RuleD} (h : lackF T o = some r) : r.one ∈ o ∧ r ∈ T.rules := by
  have h1 : lackP o r = true := List.find?_some h
  unfold lackP at h1
  simp at h1
  exact ⟨h1.2.1, List.mem_of_find?_eq_some h⟩
theorem lack_less {l : List Int} {k : Int} (h : k ∈ l) : (l.filter fun x => !(x == k)).length < l.length := by
  have h1 := filt_len l (fun x => x == k)
  have h2 : 0 < (l.filter fun x => x == k).length := List.length_pos_of_mem (List.mem_filter.mpr ⟨h, by simp⟩)
  omega
theorem still_all {T : TillD} {B : BasketD} {hd : List Int} : ∀ (n : Nat) (st : List Int × List Int), st.1.length < n → badF T B hd st.1 = none → (∀ x ∈ (stillGo T B hd n st).1, x ∈ st.1) ∧ badF T B hd (stillGo T B hd n st).1 = none ∧ lackF T (stillGo T B hd n st).1 = none ∧
    (stillGo T B hd n st).1.length + (stillGo T B hd n st).2.length = st.1.length + st.2.length ∧ (∀ x ∈ (stillGo T B hd n st).2, x ∈ st.2 ∨ x ∈ st.1)
  | 0, st, h, _ => absurd h (Nat.not_lt_zero _)
  | n + 1, st, h, hb => by
    unfold stillGo
    cases e : lackF T st.1 with
    | none => exact ⟨fun x hx => hx, hb, e, rfl, fun x hx => .inl hx⟩
    | some r =>
      obtain ⟨g1, g2, g3, g4, g5⟩ := gt_all (T := T) (B := B) (hd := hd) (st.1.filter fun x => !(x == r.one)) ([], st.2 ++ st.1.filter fun x => x == r.one) bad_nil
      have l1 := lack_less (lack_in e).1
      have l2 := filt_len st.1 (fun x => x == r.one)
      obtain ⟨i1, i2, i3, i4, i5⟩ := still_all n (gtF T B hd (st.1.filter fun x => !(x == r.one)) (st.2 ++ st.1.filter fun x => x == r.one)) (by unfold gtF; simp only [List.length_nil] at g4; omega) g2
      refine ⟨fun x hx => ?_, i2, i3, ?_, fun x hx => ?_⟩
      · rcases g1 x (i1 x hx) with h | h
        · exact absurd h (by simp)
        · exact (List.mem_filter.mp h).1
      · dsimp only
        rw [i4]
        unfold gtF
        rw [g3, List.length_append, List.length_nil]
        omega
      · rcases i5 x hx with h | h
        · rcases g5 x h with h | h
          · rcases List.mem_append.mp h with h | h
            · exact .inl h
            · exact .inr ((List.mem_filter.mp h).1)
          · exact .inr ((List.mem_filter.mp h).1)
        · rcases g1 x h with h | h
          · exact absurd h (by simp)
          · exact .inr ((List.mem_filter.mp h).1)
theorem fault_none {T : TillD} {B : BasketD} {hd o : List Int} (h : badF T B hd o = none) (l : lackF T o = none) : faultF T B hd o = none := by
  unfold faultF
  unfold lackF at l
  rw [h, l]
  rfl
theorem still_ok {T : TillD} {B : BasketD} {hd o fl : List Int} : (∀ x ∈ (stillF T B hd o fl).1, x ∈ o) ∧ faultF T B hd (stillF T B hd o fl).1 = none ∧ (stillF T B hd o fl).1.length + (stillF T B hd o fl).2.length = o.length + fl.length ∧ ∀ x ∈ (stillF T B hd o fl).2, x ∈ fl ∨ x ∈ o := by
  obtain ⟨g1, g2, g3, g4, g5⟩ := gt_all (T := T) (B := B) (hd := hd) o ([], fl) bad_nil
  simp only [List.length_nil] at g3 g4
  obtain ⟨i1, i2, i3, i4, i5⟩ := still_all (o.length + 1) (gtF T B hd o fl) (by unfold gtF; omega) g2
  refine ⟨fun x hx => ?_, fault_none i2 i3, ?_, fun x hx => ?_⟩
  · rcases g1 x (i1 x hx) with h | h
    · exact absurd h (by simp)
    · exact h
  · unfold stillF
    rw [i4]
    unfold gtF
    omega
  · rcases i5 x hx with h | h
    · exact g5 x h
    · rcases g1 x h with h | h
      · exact absurd h (by simp)
      · exact .inr h
/-! ### the walks -/
def spGoes (tb : Addr) (K : PySem.W.Frag) : Sp := fun vs H Q _ => ∃ t b h a T B hd o, vs = [t, b, h, .ref a] ∧ Shop K tb H t b h T B hd ∧ H a = some (.lst (ivs o)) ∧ OrdOk T o ∧ o.length ≤ 1000 ∧ ∀ H', Gr tb H H' → Q (.bl (goesF T B hd o)) H'
def spGone (tb : Addr) (K : PySem.W.Frag) (g : TillD → BasketD → List Int → List Int → List Int → List Int × List Int) : Sp := fun vs H Q _ => ∃ H0 t b h a f T B hd o fl, vs = [t, b, h, .ref a, .ref f] ∧ Gr tb H0 H ∧ Shop K tb H0 t b h T B hd ∧ H0 f = none ∧ H f = some (.lst (ivs fl)) ∧ a ≠ f ∧
  H a = some (.lst (ivs o)) ∧ OrdOk T o ∧ o.length + fl.length ≤ 1000 ∧ ∀ H' k, GrB tb [f] H H' → H k = none → H' k = some (.lst (ivs (g T B hd o fl).1)) → H' f = some (.lst (ivs (g T B hd o fl).2)) → Q (.ref k) H'
section
variable {P : Program} {w : World} {K : PySem.W.Frag} {mg : Str → Option Value} {base : Heap} {tb : Addr}
theorem sc_goes_on : FnScope ["till", "basket", "hand", "order", "found"] ["till", "basket", "hand", "order"] (defScope s_goes_on) := ⟨rfl, rfl, rfl, by decide +kernel, rfl, by decide +kernel, by decide +kernel⟩
theorem ok_goes_on (T : TX K mg) (W : ∀ s, Met P w K mg base 3 (sortC K s) "wanted" (spWanted tb K s)) : Cal P w K mg base 7 "goes_on" (spGoes tb K) := by
  obtain ⟨fd, F⟩ := T.df_goes_on
  refine cal_of F T.g_goes_on (F.ok (k := 6) sc_goes_on (fun vs H Q E h => ?_) fun cdv A outer s H vs Q E hr h => ?_) (F.bindsN (ps := ["till", "basket", "hand", "order"]) fun _ _ _ _ _ _ us hl => match us, hl with | [_, _, _, _], _ => rfl)
  · obtain ⟨t, b, h, a, D, B, hd, o, rfl, _⟩ := h
    rfl
  have c_fault : Cal P w K mg base 6 "fault" (spFault tb K) := ok_fault T W
  obtain ⟨t, b, h, a, D, B, hd, o, rfl, sh, ha, ho, hl, q⟩ := h
  refine ⟨_, PSs.nox
    (pss_cons (ps_set (i := 4) sc_goes_on.nd rfl (Or.inl rfl) (pe_c c_fault hr (by decide) rfl (pa_cons (pv 0) (pa_cons (pv 1) (pa_cons (pv 2) (pa_cons (pv 3) pa_nil))))))
    (pss_one (ps_ret (pe_or (pe_cmp (pc_isN (pv 4))) (pe_one (pe_cmpR op_eq (pe_ix ix_tup (pv 4) pe_int (fun _ _ => rfl)) pe_str (nomark _))))))), ?_⟩
  unfold goesF at q
  refine ⟨_, rfl, _, rfl, _, rfl, _, rfl, _, _, _, a, D, B, hd, o, rfl, sh, ha, ho, hl, fun e H1 g1 => ?_, fun i x e H1 p g1 hp => ?_⟩
  · rw [e] at q
    exact ⟨_, rfl, _, rfl, iteT (q H1 g1)⟩
  · rw [e] at q
    refine ⟨_, rfl, _, rfl, iteF ⟨_, rfl, p, _, 1, _, rfl, rfl, SqT.of hp, atI_nat (j := 1) rfl, rfl, ?_⟩⟩
    rw [dec_str]
    exact q H1 g1
theorem sc_gone_through : FnScope ["till", "basket", "hand", "order", "fallen", "kept", "number"] ["till", "basket", "hand", "order", "fallen"] (defScope s_gone_through) := ⟨rfl, rfl, rfl, by decide +kernel, rfl, by decide +kernel, by decide +kernel⟩
theorem ok_gone_through (T : TX K mg) (W : ∀ s, Met P w K mg base 3 (sortC K s) "wanted" (spWanted tb K s)) : Cal P w K mg base 8 "gone_through" (spGone tb K gtF) := by
  obtain ⟨fd, F⟩ := T.df_gone_through
  refine cal_of F T.g_gone_through (F.ok (k := 7) sc_gone_through (fun vs H Q E h => ?_) fun cdv A outer s H vs Q E hr h => ?_) (F.bindsN (ps := ["till", "basket", "hand", "order", "fallen"]) fun _ _ _ _ _ _ us hl => match us, hl with | [_, _, _, _, _], _ => rfl)
  · obtain ⟨H0, t, b, h, a, f, D, B, hd, o, fl, rfl, _⟩ := h
    rfl
  have c_goes_on : Cal P w K mg base 7 "goes_on" (spGoes tb K) := ok_goes_on T W
  obtain ⟨H0, t, b, h, a, f, D, B, hd, o, fl, rfl, g0, sh, f0, hf, naf, ha, ho, hl, q⟩ := h
  refine ⟨_, PSs.nox
    (pss_cons (ps_set (i := 5) sc_gone_through.nd rfl (Or.inl rfl) (pe_lst pa_nil))
    (pss_cons (ps_for PassesOwn.never rfl (pi_list (pv 3)) (pg_name (i := 6) sc_gone_through.nd rfl (Or.inl rfl))
      (pss_one (ps_if (pt_val (pe_c c_goes_on hr (by decide) rfl (pa_cons (pv 0) (pa_cons (pv 1) (pa_cons (pv 2) (pa_cons (pe_op op_cat (pv 5) (pe_lst (pa_cons (pv 6) pa_nil))) pa_nil))))))
        (pss_one (ps_expr (pe_bm PySem.F.plainAttrs_list PySem.F.slot_list_append PySem.F.type_list_append mt_append (pv 5) (pa_cons (pv 6) pa_nil))))
        (pss_one (ps_expr (pe_bm PySem.F.plainAttrs_list PySem.F.slot_list_append PySem.F.type_list_append mt_append (pv 4) (pa_cons (pv 6) pa_nil)))))))
    (pss_one (ps_ret (pv 5))))), ?_⟩
  have bk : ∀ {H'}, GrB tb [f] H H' → Gr tb H0 H' := fun g => g.back g0 fun s hs => by rw [List.mem_singleton.mp hs]; exact f0
  refine ⟨Nat.zero_le _, fun k hk => ?_⟩
  have nfk : f ≠ k := ne_of_none hf hk
  have g1 : GrB tb [f] H (upd H k (.lst [])) := Gr.of (Gr.new hk)
  refine ⟨_, rfl, a, rfl, ⟨_, SqL.of (g1.lst ha (by simpa using naf))⟩, ?_⟩
  refine for_it (walk_list (xs := ivs o)) (fun i σ H' => ∃ v6, σ = [some t, some b, some h, some (.ref a), some (.ref f), some (.ref k), v6] ∧ GrB tb [f] H H' ∧ H' k = some (.lst (ivs ((o.take i).foldl (gtStep D B hd) ([], fl)).1)) ∧ H' f = some (.lst (ivs ((o.take i).foldl (gtStep D B hd) ([], fl)).2)))
    ⟨none, rfl, g1, upd_same, by rw [upd_ne nfk]; exact hf⟩ (fun i σ H' _ ⟨_, _, g, _⟩ => SqL.of (g.lst ha (by simpa using naf))) ?_ ?_
  · rintro i y σ _ H' hi ⟨v6, rfl, g, hk', hf'⟩ ⟨rfl, hy⟩
    obtain ⟨z, hz, rfl⟩ := ivs_of hy
    have hi' : i < o.length := (List.getElem?_eq_some_iff.mp hz).1
    obtain ⟨a1, a2, a3, a4, a5⟩ := gt_all (T := D) (B := B) (hd := hd) (o.take i) ([], fl) bad_nil
    rw [foldl_snoc hz]
    generalize (o.take i).foldl (gtStep D B hd) ([], fl) = st at hk' hf' a1 a2 a3 a4 a5 ⊢
    rw [List.length_take] at a3 a4
    simp only [List.length_nil] at a3 a4
    refine ⟨_, rfl, _, rfl, _, rfl, _, rfl, _, rfl, Nat.le_of_lt (small1000 (show 1 ≤ 1000 by decide)), fun l hl' => ?_⟩
    have nkl : k ≠ l := ne_of_none hk' hl'
    refine ⟨k, l, _, _, rfl, rfl, by rw [upd_ne nkl]; exact hk', upd_same, Nat.le_of_lt (small1000 (by rw [ivs_len]; show _ + 1 ≤ 1000; omega)), fun c hc => ?_⟩
    have gc : Gr tb H' (upd (upd H' l (.lst [.int z])) c (.lst (ivs st.1 ++ [.int z]))) := (Gr.new hl').add hc
    have ho2 : OrdOk D (st.1 ++ [z]) := fun v hv => by
      rcases List.mem_append.mp hv with h | h
      · rcases a1 v h with h | h
        · exact absurd h (by simp)
        · exact ho v (List.mem_of_mem_take h)
      · rw [List.mem_singleton.mp h]; exact ho z (List.mem_of_getElem? hz)
    refine ⟨_, _, _, c, D, B, hd, st.1 ++ [z], rfl, sh.gr (bk (g.trans gc.of)), by rw [upd_same, ivs_app]; rfl, ho2, by rw [List.length_append]; show _ + 1 ≤ 1000; omega, fun H2 g2 => ⟨_, rfl, ?_⟩⟩
    have k2 : Gr tb H' H2 := gc.trans g2
    have hk2 := k2.lst hk'
    have hf2 := k2.lst hf'
    unfold gtStep
    refine if_b (fun hb => ?_) fun hb => ?_
    · rw [if_pos hb]
      refine ⟨_, rfl, .inl ⟨rfl, _, SqL.of hk2⟩, _, rfl, k, _, _, rfl, rfl, hk2, small1000 (by rw [ivs_len]; omega), ?_⟩
      exact ⟨_, rfl, GrB.putL (g.trans k2.of) hk hk2, by rw [upd_same, ivs_app]; rfl, by rw [upd_ne nfk]; exact hf2⟩
    · rw [if_neg (by rw [hb]; exact Bool.false_ne_true)]
      refine ⟨_, rfl, .inl ⟨rfl, _, SqL.of hf2⟩, _, rfl, f, _, _, rfl, rfl, hf2, small1000 (by rw [ivs_len]; omega), ?_⟩
      exact ⟨_, rfl, (g.trans k2.of).trans (GrB.put hf2 (fun _ z => nomatch z) fun _ z => nomatch z), by rw [upd_ne (Ne.symm nfk)]; exact hk2, by rw [upd_same, ivs_app]; rfl⟩
  · rintro σ H' ⟨v6, rfl, g, hk', hf'⟩
    rw [ivs_len, List.take_length] at hk' hf'
    exact ⟨_, rfl, q H' k g hk hk' hf'⟩
end
end VS
set_option Elab.async false
set_option linter.all false
set_option maxRecDepth 100000
set_option maxHeartbeats 4000000
namespace VS
open PySem PySem.Spec PyProof.Rows L2
theorem filt_snoc {p : Int → Bool} {l : List Int} {i : Nat} {x : Int} (h : l[i]? = some x) : (l.take (i + 1)).filter p = if p x = true then (l.take i).filter p ++ [x] else (l.take i).filter p := by
  rw [take_snoc h, List.filter_append]
  cases e : p x with
  | true => simp [e]
  | false => simp [e]
theorem dec_nint (a b : Int) : (!decide (V.int a = V.int b)) = !(a == b) := by rw [dec_int]
theorem bool_eta {b : Bool} {A B : Prop} : (if b = true then A else B) ↔ (b = true → A) ∧ (b = false → B) := by cases b <;> simp
theorem lack_te {K : PySem.W.Frag} {i j : Nat} {σ : L2.St} {H : Hp} {t : V} {k : Addr} {D : TillD} {kp : List Int} {Q : VK} (e0 : σ[i]? = some (some t)) (e1 : σ[j]? = some (some (.ref k))) (ht : TillAt K H t D) (hk : H k = some (.lst (ivs kp)))
    (hN : ∀ rv, (rv = .non ∧ lackF D kp = none ∨ ∃ r, lackF D kp = some r ∧ RuleAt H rv r) → Q rv H) : tCall (spLack K) [] E0 (tCons (tVar i) (tCons (tVar j) tNil)) σ H Q :=
  ⟨_, e0, _, e1, _, k, D, kp, rfl, ht, hk, fun e => hN _ (.inl ⟨rfl, e⟩), fun r v e hv => hN _ (.inr ⟨r, e, hv⟩)⟩
section
variable {P : Program} {w : World} {K : PySem.W.Frag} {mg : Str → Option Value} {base : Heap} {tb : Addr}
theorem sc_still_holding : FnScope ["till", "basket", "hand", "order", "fallen", "kept", "rule", "number"] ["till", "basket", "hand", "order", "fallen"] (defScope s_still_holding) := ⟨rfl, rfl, rfl, by decide +kernel, rfl, by decide +kernel, by decide +kernel⟩
theorem ok_still_holding (T : TX K mg) (W : ∀ s, Met P w K mg base 3 (sortC K s) "wanted" (spWanted tb K s)) : Cal P w K mg base 9 "still_holding" (spGone tb K stillF) := by
  obtain ⟨fd, F⟩ := T.df_still_holding
  refine cal_of F T.g_still_holding (F.ok (k := 8) sc_still_holding (fun vs H Q E h => ?_) fun cdv A outer s H vs Q E hr h => ?_) (F.bindsN (ps := ["till", "basket", "hand", "order", "fallen"]) fun _ _ _ _ _ _ us hl => match us, hl with | [_, _, _, _, _], _ => rfl)
  · obtain ⟨H0, t, b, h, a, f, D, B, hd, o, fl, rfl, _⟩ := h
    rfl
  have c_gone_through : Cal P w K mg base 8 "gone_through" (spGone tb K gtF) := ok_gone_through T W
  have c_lacking : Cal P w K mg base 1 "lacking" (spLack K) := ok_lacking T
  obtain ⟨H0, t, b, h, a, f, D, B, hd, o, fl, rfl, g0, sh, f0, hf, naf, ha, ho, hl, q⟩ := h
  refine ⟨_, PSs.nox
    (pss_cons (ps_set (i := 5) sc_still_holding.nd rfl (Or.inl rfl) (pe_c c_gone_through hr (by decide) rfl (pa_cons (pv 0) (pa_cons (pv 1) (pa_cons (pv 2) (pa_cons (pv 3) (pa_cons (pv 4) pa_nil)))))))
    (pss_cons (ps_set (i := 6) sc_still_holding.nd rfl (Or.inr rfl) (pe_c c_lacking hr (by decide) rfl (pa_cons (pv 0) (pa_cons (pv 5) pa_nil))))
    (pss_cons (ps_while PassesOwn.never (pt_cmp (pc_notN (pv 6)))
      (pss_cons (ps_expr (pe_bm PySem.F.plainAttrs_list PySem.F.slot_list_extend PySem.F.type_list_extend mt_extend (pv 4) (pa_cons (pe_lc (own := [("number", 7)]) (g := (gName 7)) (tt := _) rfl sc_still_holding.nd (pi_list (pv 5)) (blkOk_by (own := [("number", 7)]) (N := ["till", "basket", "hand", "order", "fallen", "kept", "rule", "number"]) (sc := defScope s_still_holding) (by decide +kernel)) (fun _ _ _ _ _ => (pg_name (i := 7) sc_still_holding.nd rfl (Or.inl rfl))) (fun _ _ _ _ _ => pts_one (pt_cmpR op_eq (pv 7) (pe_ix (ix_t T) (pv 6) pe_int (fun _ _ => rfl)) (nomark _))) (fun _ _ _ _ _ => (pv 7))) pa_nil)))
      (pss_cons (ps_set (i := 5) sc_still_holding.nd rfl (Or.inl rfl) (pe_c c_gone_through hr (by decide) rfl (pa_cons (pv 0) (pa_cons (pv 1) (pa_cons (pv 2) (pa_cons (pe_lc (own := [("number", 7)]) (g := (gName 7)) (tt := _) rfl sc_still_holding.nd (pi_list (pv 5)) (blkOk_by (own := [("number", 7)]) (N := ["till", "basket", "hand", "order", "fallen", "kept", "rule", "number"]) (sc := defScope s_still_holding) (by decide +kernel)) (fun _ _ _ _ _ => (pg_name (i := 7) sc_still_holding.nd rfl (Or.inl rfl))) (fun _ _ _ _ _ => pts_one (pt_cmpR op_ne (pv 7) (pe_ix (ix_t T) (pv 6) pe_int (fun _ _ => rfl)) (nomark _))) (fun _ _ _ _ _ => (pv 7))) (pa_cons (pv 4) pa_nil)))))))
      (pss_one (ps_set (i := 6) sc_still_holding.nd rfl (Or.inr rfl) (pe_c c_lacking hr (by decide) rfl (pa_cons (pv 0) (pa_cons (pv 5) pa_nil))))))))
    (pss_one (ps_ret (pv 5)))))), ?_⟩
  have bk : ∀ {H'}, GrB tb [f] H H' → Gr tb H0 H' := fun g => g.back g0 fun s hs => by rw [List.mem_singleton.mp hs]; exact f0
  unfold stillF at q
  refine ⟨_, rfl, _, rfl, _, rfl, _, rfl, _, rfl, H0, _, _, _, a, f, D, B, hd, o, fl, rfl, g0, sh, f0, hf, naf, ha, ho, hl, fun H1 k g1 nk hk hf1 => ?_⟩
  obtain ⟨a1, a2, a3, a4, a5⟩ := gt_all (T := D) (B := B) (hd := hd) o ([], fl) bad_nil
  simp only [List.length_nil] at a3 a4
  dsimp only [gName]
  refine seq_set (lack_te rfl rfl (sh.till.gr (bk g1)) hk fun rv hrv => ?_)
  refine ⟨fun m σ H' => ∃ v7 kp k rv, m = kp.1.length ∧ σ = [some t, some b, some h, some (.ref a), some (.ref f), some (.ref k), some rv, v7] ∧ GrB tb [f] H H' ∧ H k = none ∧ H' k = some (.lst (ivs kp.1)) ∧ H' f = some (.lst (ivs kp.2)) ∧
      (∃ n, kp.1.length < n ∧ stillGo D B hd n kp = stillGo D B hd (o.length + 1) (gtF D B hd o fl)) ∧ kp.1.length + kp.2.length ≤ 1000 ∧ (∀ x ∈ kp.1, x ∈ o) ∧ (rv = .non ∧ lackF D kp.1 = none ∨ ∃ r, lackF D kp.1 = some r ∧ RuleAt H' rv r),
    ⟨_, none, gtF D B hd o fl, k, rv, rfl, rfl, g1, nk, hk, hf1, ⟨_, by unfold gtF; omega, rfl⟩, by unfold gtF; omega, fun x hx => (a1 x hx).resolve_left (by simp), hrv⟩, ?_⟩
  rintro m σ H' ⟨v7, kp, k, rv, rfl, rfl, g, nk, hk, hf', ⟨n, hn, en⟩, hlen, hin, hrv⟩
  have nkf : k ≠ f := Ne.symm (ne_of_none hf nk)
  rcases hrv with ⟨rfl, hlk⟩ | ⟨r, hlk, tu, rfl, htu⟩
  · refine ⟨_, rfl, _, rfl, iteF ?_⟩
    have e : stillGo D B hd (o.length + 1) (gtF D B hd o fl) = kp := by
      rw [← en]
      cases n with
      | zero => omega
      | succ n => unfold stillGo; rw [hlk]
    rw [e] at q
    exact ⟨_, rfl, q H' k g nk hk hf'⟩
  · refine ⟨_, rfl, _, rfl, iteT ?_⟩
    have rl := lack_in hlk
    have fl1 := filt_len kp.1 (fun x => x == r.one)
    have fl2 := lack_less rl.1
    have hone : atI [V.str r.word, V.int r.one, V.int r.other] 1 = some (.int r.one) := atI_nat (j := 1) rfl
    -- the fallen ones
    refine ⟨_, fun _ _ z => z, _, rfl, .inl ⟨rfl, _, SqL.of hf'⟩, _, rfl, k, rfl, ⟨_, SqL.of hk⟩, fun Dd hDd => ?_⟩
    refine lc_if (tb := tb) (walk_list (xs := ivs kp.1)) (fun i => ivs ((kp.1.take i).filter fun x => x == r.one)) (by rw [List.take_zero]; rfl) (fun i => by rw [ivs_len]; have := List.length_filter_le (fun x => x == r.one) (kp.1.take i); rw [List.length_take] at this; omega) hDd (fun H'' g => SqL.of (g.lst hk)) ?_ fun H2 g2 hd2 => ?_
    · rintro i x H'' _ N N' hi g' ⟨rfl, hx⟩ ky kn
      obtain ⟨z, hz, rfl⟩ := ivs_of hx
      have fs := filt_snoc (p := fun x => x == r.one) hz
      refine ⟨rfl, _, rfl, _, rfl, tu, _, 1, _, rfl, rfl, SqT.of (g'.tup htu), hone, rfl, _, rfl, ?_⟩
      rw [dec_int]
      refine if_b (fun hb => ⟨_, rfl, ky _ _ (GrB.refl _) ?_⟩) fun hb => kn _ (GrB.refl _) ?_
      · rw [fs, if_pos hb, ivs_app]; rfl
      · rw [fs, if_neg (by rw [hb]; exact Bool.false_ne_true)]
    rw [ivs_len, List.take_length] at hd2
    have k2 := g2.lst hk
    have f2 := g2.lst hf'
    have nfd : f ≠ Dd := ne_of_none hf' hDd
    refine ⟨f, Dd, _, _, rfl, rfl, f2, hd2, Nat.le_of_lt (small1000 (by rw [ivs_len, ivs_len]; omega)), ?_⟩
    have gf : GrB tb [f] H' (upd H2 f (.lst (ivs kp.2 ++ ivs (kp.1.filter fun x => x == r.one)))) := g2.of.trans (GrB.put f2 (fun _ z => nomatch z) fun _ z => nomatch z)
    have f3 : upd H2 f (.lst (ivs kp.2 ++ ivs (kp.1.filter fun x => x == r.one))) f = some (.lst (ivs (kp.2 ++ kp.1.filter fun x => x == r.one))) := by rw [upd_same, ivs_app]
    have k3 : upd H2 f (.lst (ivs kp.2 ++ ivs (kp.1.filter fun x => x == r.one))) k = some (.lst (ivs kp.1)) := by rw [upd_ne nkf]; exact k2
    have tu3 : upd H2 f (.lst (ivs kp.2 ++ ivs (kp.1.filter fun x => x == r.one))) tu = some (.tup [.str r.word, .int r.one, .int r.other]) := by rw [upd_ne (fun e => by rw [e, hf'] at htu; cases htu)]; exact g2.tup htu
    generalize upd H2 f (.lst (ivs kp.2 ++ ivs (kp.1.filter fun x => x == r.one))) = H3 at gf f3 k3 tu3 ⊢
    have gk := g.trans gf
    -- those that stay
    refine ⟨_, rfl, _, rfl, _, rfl, _, rfl, k, rfl, ⟨_, SqL.of k3⟩, fun De hDe => ?_⟩
    refine lc_if (tb := tb) (walk_list (xs := ivs kp.1)) (fun i => ivs ((kp.1.take i).filter fun x => !(x == r.one))) (by rw [List.take_zero]; rfl) (fun i => by rw [ivs_len]; have := List.length_filter_le (fun x => !(x == r.one)) (kp.1.take i); rw [List.length_take] at this; omega) hDe (fun H'' g => SqL.of (g.lst k3)) ?_ fun H4 g4 hd4 => ?_
    · rintro i x H'' _ N N' hi g' ⟨rfl, hx⟩ ky kn
      obtain ⟨z, hz, rfl⟩ := ivs_of hx
      have fs := filt_snoc (p := fun x => !(x == r.one)) hz
      refine ⟨rfl, _, rfl, _, rfl, tu, _, 1, _, rfl, rfl, SqT.of (g'.tup tu3), hone, rfl, _, rfl, ?_⟩
      rw [dec_nint]
      refine if_b (fun hb => ⟨_, rfl, ky _ _ (GrB.refl _) ?_⟩) fun hb => kn _ (GrB.refl _) ?_
      · rw [fs, if_pos hb, ivs_app]; rfl
      · rw [fs, if_neg (by rw [hb]; exact Bool.false_ne_true)]
    rw [ivs_len, List.take_length] at hd4
    have nDf : De ≠ f := Ne.symm (ne_of_none f3 hDe)
    have g5 : GrB tb [f] H H4 := gk.trans g4.of
    obtain ⟨b1, b2, b3, b4, b5⟩ := gt_all (T := D) (B := B) (hd := hd) (kp.1.filter fun x => !(x == r.one)) ([], kp.2 ++ kp.1.filter fun x => x == r.one) bad_nil
    simp only [List.length_nil, List.length_append] at b3 b4
    refine ⟨_, rfl, H0, _, _, _, De, f, D, B, hd, _, _, rfl, bk g5, sh, f0, g4.lst f3, nDf, hd4, fun x hx => ho x (hin x (List.mem_filter.mp hx).1), by rw [List.length_append]; omega, fun H5 k' g6 nk' hk' hf5 => ?_⟩
    have g7 := g5.trans g6
    have nk5 : H k' = none := g5.free _ nk'
    have hin' : ∀ x ∈ (gtF D B hd (kp.1.filter fun x => !(x == r.one)) (kp.2 ++ kp.1.filter fun x => x == r.one)).1, x ∈ o := fun x hx => hin x (List.mem_filter.mp ((b1 x hx).resolve_left (by simp))).1
    have en' : ∃ n', (gtF D B hd (kp.1.filter fun x => !(x == r.one)) (kp.2 ++ kp.1.filter fun x => x == r.one)).1.length < n' ∧ stillGo D B hd n' (gtF D B hd (kp.1.filter fun x => !(x == r.one)) (kp.2 ++ kp.1.filter fun x => x == r.one)) = stillGo D B hd (o.length + 1) (gtF D B hd o fl) := by
      cases n with
      | zero => omega
      | succ n =>
        refine ⟨n, by unfold gtF; omega, ?_⟩
        rw [← en]
        conv => rhs; unfold stillGo
        rw [hlk]
    have hl' : (gtF D B hd (kp.1.filter fun x => !(x == r.one)) (kp.2 ++ kp.1.filter fun x => x == r.one)).1.length + (gtF D B hd (kp.1.filter fun x => !(x == r.one)) (kp.2 ++ kp.1.filter fun x => x == r.one)).2.length ≤ 1000 := by unfold gtF; omega
    dsimp only [gName]
    refine one_set (lack_te rfl rfl (sh.till.gr (bk g7)) hk' fun rv hrv => ?_)
    exact ⟨_, by show (gtF D B hd _ _).1.length < kp.1.length; unfold gtF; omega, _, _, k', rv, rfl, rfl, g7, nk5, hk', hf5, en', hl', hin', hrv⟩
end
end VS
set_option Elab.async false
set_option linter.all false
set_option maxRecDepth 100000
set_option maxHeartbeats 4000000
namespace VS
open PySem PySem.Spec PyProof.Rows L2
/-! ### a heap without what may change -/
def cut (S : List Addr) (H : Hp) : Hp := fun b => if b ∈ S then none else H b
/-- what may change is neither a table nor a code object -/
def Kind (S : List Addr) (H : Hp) : Prop := ∀ s ∈ S, ∃ o, H s = some o ∧ (∀ ps, o ≠ .tbl ps) ∧ ∀ φ, o ≠ .ext φ
section
variable {tb : Addr} {S D : List Addr} {H H' : Hp} {b : Addr} {o : HO}
theorem cut_in (h : b ∈ S) : cut S H b = none := if_pos h
theorem cut_of (n : b ∉ S) (h : H b = some o) : cut S H b = some o := by unfold cut; rw [if_neg n]; exact h
theorem cut_some (h : cut S H b = some o) : b ∉ S ∧ H b = some o := by
  unfold cut at h
  by_cases e : b ∈ S
  · rw [if_pos e] at h; cases h
  · rw [if_neg e] at h; exact ⟨e, h⟩
theorem cut_none (h : H b = none) : cut S H b = none := by
  unfold cut
  split
  · rfl
  · exact h
theorem gr_cut : Gr tb (cut S H) H := ⟨fun b o h _ _ => (cut_some h).2, fun b h => cut_none h, fun t => t.ext fun b o h => (cut_some h).2⟩
theorem gr_cutB (g : GrB tb D H H') (h : ∀ b ∈ D, b ∈ S) : Gr tb (cut S H) H' :=
  g.back gr_cut fun s hs => cut_in (h s hs)
theorem tab_cut (k : Kind S H) (t : LamX.TabS H tb lamQ) : LamX.TabS (cut S H) tb lamQ := by
  obtain ⟨ps, h1, h2, h3⟩ := t
  refine ⟨ps, cut_of (fun hs => ?_) h1, h2, fun pos cv hc => ?_⟩
  · obtain ⟨o, ho, n, _⟩ := k _ hs
    rw [h1] at ho
    exact n ps (Option.some.inj ho).symm
  · obtain ⟨c, e1, e2⟩ := h3 pos cv hc
    refine ⟨c, e1, cut_of (fun hs => ?_) e2⟩
    obtain ⟨o, ho, _, n⟩ := k _ hs
    rw [e2] at ho
    exact n _ (Option.some.inj ho).symm
theorem gr_cut2 (g : GrB tb D H H') (h : ∀ b ∈ D, b ∈ S) (k : Kind S H') : Gr tb (cut S H) (cut S H') := by
  refine ⟨fun b o hb _ t => ?_, fun b hb => ?_, fun t => tab_cut k ((gr_cutB g h).tab t)⟩
  · obtain ⟨n, e⟩ := cut_some hb
    exact cut_of n (g.keep b o e (fun z => n (h b z)) t)
  · unfold cut at hb ⊢
    by_cases e : b ∈ S
    · exact if_pos e
    · rw [if_neg e] at hb ⊢
      exact g.free b hb
end
/-! ### what stays -/
def staysF (B : BasketD) (many : List Int) : BasketD := ⟨List.zipWith (fun L m => ⟨L.kind, L.price, m, L.special⟩) B.lines many, B.carriage, B.member⟩
def LineNew (K : PySem.W.Frag) (H0 H : Hp) (v : V) (L : LineD) : Prop := LineAt K H v L ∧ ∃ c, v = .ref c ∧ H0 c = none
def BasketNew (K : PySem.W.Frag) (H0 H : Hp) (x : Addr) (B : BasketD) : Prop := ∃ dx l vs, H0 x = none ∧ H0 l = none ∧ H x = some (.ins (CBasket K) dx (aBasket (.ref l) (.int B.carriage) (.bl B.member))) ∧ H l = some (.lst vs) ∧ Paired (LineNew K H0 H) vs B.lines
theorem BasketNew.cut {K : PySem.W.Frag} {S : List Addr} {H0 H : Hp} {x : Addr} {B : BasketD} (h : BasketNew K H0 H x B) (k : Kind S H0) : BasketAt K (VS.cut S H) (.ref x) B := by
  obtain ⟨dx, l, vs, h1, h2, h3, h4, h5⟩ := h
  have n : ∀ {c}, H0 c = none → c ∉ S := fun hc hs => by obtain ⟨o, ho, _⟩ := k _ hs; rw [hc] at ho; cases ho
  exact ⟨x, dx, l, vs, rfl, cut_of (n h1) h3, cut_of (n h2) h4, Paired.mapP h5 fun v L ⟨⟨a, d, e, hl⟩, c, e2, hc⟩ => by
    subst e; cases e2
    exact ⟨a, d, rfl, cut_of (n hc) hl⟩⟩
theorem LineAt.new {K : PySem.W.Frag} {H : Hp} {a dx : Addr} {L : LineD} (h : H a = some (.ins (CLine K) dx (aLine (.int L.kind) (.int L.price) (.int L.many) (optV L.special)))) : LineAt K H (.ref a) L := ⟨a, dx, rfl, h⟩
def spStays (tb : Addr) (K : PySem.W.Frag) : Sp := fun vs H Q _ => ∃ b m B many, vs = [b, .ref m] ∧ BasketAt K H b B ∧ H m = some (.lst (ivs many)) ∧ many.length = B.lines.length ∧ B.lines.length ≤ 60 ∧ ∀ H' x, Gr tb H H' → BasketNew K H H' x (staysF B many) → Q (.ref x) H'
section
variable {P : Program} {w : World} {K : PySem.W.Frag} {mg : Str → Option Value} {base : Heap} {tb : Addr}
theorem sc_what_stays : FnScope ["basket", "many", "lines", "line", "left"] ["basket", "many"] (defScope s_what_stays) := ⟨rfl, rfl, rfl, by decide +kernel, rfl, by decide +kernel, by decide +kernel⟩
theorem ok_what_stays (T : TX K mg) : Cal P w K mg base 3 "what_stays" (spStays tb K) := by
  obtain ⟨fd, F⟩ := T.df_what_stays
  refine cal_of F T.g_what_stays (F.ok (k := 2) sc_what_stays (fun vs H Q E h => ?_) fun cdv A outer s H vs Q E hr h => ?_) (F.bindsN (ps := ["basket", "many"]) fun _ _ _ _ _ _ us hl => match us, hl with | [_, _], _ => rfl)
  · obtain ⟨b, m, B, many, rfl, _⟩ := h
    rfl
  have k_Line : Mak P w K mg base 1 "Line" (CLine K) (spLine tb K) [] := ok_Line T
  have k_Basket : Mak P w K mg base 1 "Basket" (CBasket K) (spBasket tb K) [] := ok_Basket T
  obtain ⟨b, m, B, many, rfl, hb, hm, hl, h60, q⟩ := h
  refine ⟨_, PSs.nox
    (pss_cons (ps_setLc (i := 2) (own := [("line", 3), ("left", 4)]) (g := (gTup K 2 (gCons (gName 3) (gCons (gName 4) gNil)))) (tt := tYes) rfl sc_what_stays.nd rfl rfl (sw_true rfl rfl rfl (by decide +kernel)) (pi_zip rfl T.f_zip (pa_cons (pe_fld (pv 0) rfl) (pa_cons (pv 1) pa_nil))) (blkOk_by (own := [("line", 3), ("left", 4)]) (N := ["basket", "many", "lines", "line", "left"]) (sc := defScope s_what_stays) (by decide +kernel)) (fun _ _ _ _ _ => (pg_tup rfl (pgs_cons (pg_name (i := 3) sc_what_stays.nd rfl (Or.inl rfl)) (pgs_cons (pg_name (i := 4) sc_what_stays.nd rfl (Or.inl rfl)) pgs_nil)))) (fun _ _ _ _ _ => pts_nil) (fun _ _ _ _ _ => (pe_mk k_Line hr (by decide) rfl (pa_cons (pe_fl T (pv 3) rfl) (pa_cons (pe_fl T (pv 3) rfl) (pa_cons (pv 4) (pa_cons (pe_fl T (pv 3) rfl) pa_nil)))))))
    (pss_one (ps_ret (pe_mk k_Basket hr (by decide) rfl (pa_cons (pv 2) (pa_cons (pe_fld (pv 0) rfl) (pa_cons (pe_fld (pv 0) rfl) pa_nil))))))), ?_⟩
  obtain ⟨a, da, l, vs, rfl, ha, hlv, hpl⟩ := id hb
  have lv := hpl.length
  refine ⟨_, rfl, T.r_Basket_lines ha ⟨_, rfl, l, m, _, _, rfl, SqL.of hlv, SqL.of hm, fun D hD => ?_⟩⟩
  refine lc_rel (tb := tb) (fun H' v L => LineNew K H H' v L) (walk_zip (xs := vs) (ys := ivs many) rfl) (staysF B many).lines (by rw [ivs_len]; show (List.zipWith _ _ _).length = _; rw [List.length_zipWith]; omega) (by rw [ivs_len]; omega) hD (fun H' g => ⟨SqL.of (g.lst hlv), SqL.of (g.lst hm)⟩)
    (fun H1 H2 v L g h => ⟨h.1.gr g, h.2⟩) (fun H1 xs ys v L h1 h2 => ⟨?_, h2.2⟩) ?_ fun H1 ys g1 hd hys => ?_
  · obtain ⟨⟨c, dc, e, hc⟩, _⟩ := h2
    exact ⟨c, dc, e, by rw [upd_ne (fun z => by rw [z, h1] at hc; cases hc)]; exact hc⟩
  · rintro i _ H' _ L N hi hL g ⟨t, x1, x2, rfl, ht, rfl, e1, e2⟩ k
    obtain ⟨L1, hL1, hx1⟩ := paired_get hpl e1
    obtain ⟨z, hz, rfl⟩ := ivs_of e2
    have hL : (List.zipWith (fun (L : LineD) m => (⟨L.kind, L.price, m, L.special⟩ : LineD)) B.lines many)[i]? = some L := hL
    rw [List.getElem?_zipWith_eq_some] at hL
    obtain ⟨x', y', f1, f2, f3⟩ := hL
    rw [hL1] at f1; rw [hz] at f2
    cases f1; cases f2
    have gt : Gr tb H (upd H' t (.tup [x1, .int z])) := g.add ht
    obtain ⟨c, dc, rfl, hc⟩ := hx1.gr gt
    refine ⟨t, _, rfl, .inl (.inl upd_same), rfl, _, _, rfl, _, _, rfl, rfl, rfl, ?_⟩
    have gn : Gr tb H' (upd H' t (.tup [.ref c, .int z])) := Gr.new ht
    generalize upd H' t (.tup [.ref c, .int z]) = H2 at gt gn hc ⊢
    refine ⟨_, rfl, T.r_Line_kind hc ⟨_, rfl, T.r_Line_price hc ⟨_, rfl, _, rfl, T.r_Line_special hc fun x dx hx hdx ne => ?_⟩⟩⟩
    have hx2 : (upd H2 dx (.own x)) x = none := by rw [upd_ne (Ne.symm ne)]; exact hx
    refine ⟨x, dx, _, _, _, _, rfl, upd_same, fun H3 g3 h3 => ⟨rfl, k _ _ (gn.trans (Gr.made hx hdx ne g3)) ⟨?_, x, rfl, gt.free x hx⟩⟩⟩
    rw [← f3]
    exact ⟨x, dx, rfl, h3⟩
  refine ⟨_, rfl, _, rfl, T.r_Basket_carriage (g1.ins ha) ⟨_, rfl, T.r_Basket_member (g1.ins ha) fun x dx hx hdx ne => ?_⟩⟩
  have hx2 : (upd H1 dx (.own x)) x = none := by rw [upd_ne (Ne.symm ne)]; exact hx
  refine ⟨x, dx, D, ys, _, _, rfl, upd_same, ?_, fun H2 l2 g2 nl2 hl2 h2 => ⟨rfl, ?_⟩⟩
  · rw [upd_ne (ne_of_none hd hx), upd_ne (ne_of_none hd hdx)]; exact hd
  · have g3 := Gr.made hx hdx ne g2
    have nl : H1 l2 = none := ((Gr.new (tb := tb) hdx).trans (Gr.new (tb := tb) hx2)).free l2 nl2
    exact q H2 x (g1.trans g3) ⟨dx, l2, ys, g1.free x hx, g1.free l2 nl, h2, hl2, Paired.mapP hys fun v L h => ⟨h.1.gr g3, h.2⟩⟩
end
end VS
set_option Elab.async false
set_option linter.all false
set_option maxRecDepth 100000
set_option maxHeartbeats 4000000
namespace VS
open PySem PySem.Spec PyProof.Rows L2
/-! ### accounts -/
structure AccD where
  order : List Int
  fallen : List Int
  many : List Int
  paid : Int
  owed : Int
structure AccAt (K : PySem.W.Frag) (tb : Addr) (S : List Addr) (H : Hp) (x m f : Addr) (t b : V) (h : Addr) (T : TillD) (B : BasketD) (hd shs : List Int) (A : AccD) : Prop where
  mx : x ∈ S
  mm : m ∈ S
  mf : f ∈ S
  ne : m ≠ f
  obj : ∃ dx s o, H x = some (.ins (CAccount K) dx (aAccount t b (.ref h) (.ref s) (.ref o) (.ref f) (.ref m) (.int A.paid) (.int A.owed))) ∧ cut S H s = some (.lst (ivs shs)) ∧ cut S H o = some (.lst (ivs A.order))
  hm : H m = some (.lst (ivs A.many))
  hf : H f = some (.lst (ivs A.fallen))
  shop : Shop K tb (cut S H) t b (.ref h) T B hd
  kind : Kind S H
structure AccOk (T : TillD) (B : BasketD) (A : AccD) : Prop where
  ord : OrdOk T A.order
  len : A.order.length + A.fallen.length ≤ 1000
  mlen : A.many.length = B.lines.length
  many : ∀ (i : Nat) (k : Int), A.many[i]? = some k → 0 ≤ k ∧ ∃ L, B.lines[i]? = some L ∧ k ≤ L.many
def worthF (B : BasketD) (shs many : List Int) (line k : Int) : Int :=
  (cutI shs (some ((B.lines.take line.toNat).foldl (fun s L => s + L.many) 0 + gi many line - k)) (some ((B.lines.take line.toNat).foldl (fun s L => s + L.many) 0 + gi many line))).sum
theorem map_fold (l : List LineD) : ∀ s : Int, s + (l.map LineD.many).sum = l.foldl (fun s L => s + L.many) s := by
  induction l with
  | nil => intro s; simp
  | cons a r ih => intro s; rw [List.map_cons, List.sum_cons, List.foldl_cons, ← ih]; omega
theorem cutV_take {xs : List V} {i : Int} (h0 : 0 ≤ i) (h1 : i ≤ xs.length) : cutV xs none (some i) = xs.take i.toNat := by
  unfold cutV
  have e1 : HT.sIx xs.length 0 none = 0 := rfl
  have e2 : HT.sIx xs.length xs.length (some i) = i.toNat := by
    show (if i < 0 then _ else min i.toNat xs.length) = _
    rw [if_neg (by omega)]; omega
  rw [e1, e2, List.drop_zero, Nat.sub_zero]
theorem paired_take {α β : Type} {F : α → β → Prop} : ∀ {l : List α} {m : List β} (n : Nat), Paired F l m → Paired F (l.take n) (m.take n)
  | _, _, 0, _ => by rw [List.take_zero, List.take_zero]; exact .nil
  | _, _, n + 1, .nil => by rw [List.take_nil, List.take_nil]; exact .nil
  | _, _, n + 1, .cons a t => by rw [List.take_succ_cons, List.take_succ_cons]; exact .cons a (paired_take n t)
def setlF (A : AccD) (due : Int) : AccD × Int := ({ A with paid := A.paid - max2 0 (A.paid - due), owed := max2 0 (due - (A.paid - max2 0 (A.paid - due))) }, max2 0 (A.paid - due))
def dueF (T : TillD) (B : BasketD) (hd : List Int) (A : AccD) : AccD × Int :=
  ({ A with order := (stillF T (staysF B A.many) hd A.order A.fallen).1, fallen := (stillF T (staysF B A.many) hd A.order A.fallen).2 },
    wholeF (stN T (staysF B A.many) (stillF T (staysF B A.many) hd A.order A.fallen).1 (stillF T (staysF B A.many) hd A.order A.fallen).1.length))
theorem AccAt.step {K : PySem.W.Frag} {tb : Addr} {S : List Addr} {H H' : Hp} {x m f : Addr} {t b : V} {h : Addr} {T : TillD} {B : BasketD} {hd shs : List Int} {A A' : AccD} {dx s o : Addr} (a : AccAt K tb S H x m f t b h T B hd shs A) (g : GrB tb [x, m, f] H H')
    (hx : H' x = some (.ins (CAccount K) dx (aAccount t b (.ref h) (.ref s) (.ref o) (.ref f) (.ref m) (.int A'.paid) (.int A'.owed)))) (hm : H' m = some (.lst (ivs A'.many))) (hf : H' f = some (.lst (ivs A'.fallen)))
    (hs : ∀ H1, Gr tb (VS.cut S H) H1 → H1 s = some (.lst (ivs shs))) (ho : cut S H' o = some (.lst (ivs A'.order))) : AccAt K tb S H' x m f t b h T B hd shs A' := by
  have sub : ∀ b ∈ [x, m, f], b ∈ S := fun b hb => by
    rcases List.mem_cons.mp hb with rfl | hb
    · exact a.mx
    rcases List.mem_cons.mp hb with rfl | hb
    · exact a.mm
    rw [List.mem_singleton.mp hb]; exact a.mf
  have kd : Kind S H' := fun s hs => by
    by_cases e : s ∈ [x, m, f]
    · rcases List.mem_cons.mp e with rfl | e
      · exact ⟨_, hx, (fun _ z => nomatch z), (fun _ z => nomatch z)⟩
      rcases List.mem_cons.mp e with rfl | e
      · exact ⟨_, hm, (fun _ z => nomatch z), (fun _ z => nomatch z)⟩
      rw [List.mem_singleton.mp e]; exact ⟨_, hf, (fun _ z => nomatch z), (fun _ z => nomatch z)⟩
    · obtain ⟨o, ho, n1, n2⟩ := a.kind s hs
      exact ⟨o, g.keep s o ho e n1, n1, n2⟩
  have gc := gr_cut2 g sub kd
  exact ⟨a.mx, a.mm, a.mf, a.ne, ⟨dx, s, o, hx, hs _ gc, ho⟩, hm, hf, a.shop.gr gc, kd⟩
theorem AccAt.gr {K : PySem.W.Frag} {tb : Addr} {S : List Addr} {H H' : Hp} {x m f : Addr} {t b : V} {h : Addr} {T : TillD} {B : BasketD} {hd shs : List Int} {A : AccD} (g : Gr tb H H') (a : AccAt K tb S H x m f t b h T B hd shs A) : AccAt K tb S H' x m f t b h T B hd shs A := by
  obtain ⟨dx, s, o, hx, hs, ho⟩ := a.obj
  obtain ⟨ho1, ho2⟩ := cut_some ho
  exact a.step g.of (g.ins hx) (g.lst a.hm) (g.lst a.hf) (fun H1 g1 => g1.lst hs) (cut_of ho1 (g.lst ho2))
/-- the order's list stays -/
theorem ord_cut {tb : Addr} {S D : List Addr} {H H' : Hp} {o : Addr} {xs : List V} (g : GrB tb D H H') (h : ∀ b ∈ D, b ∈ S) (ho : cut S H o = some (.lst xs)) : cut S H' o = some (.lst xs) := by
  obtain ⟨n, e⟩ := cut_some ho
  exact cut_of n (g.lst e (fun z => n (h _ z)))
section
variable {P : Program} {w : World} {K : PySem.W.Frag} {mg : Str → Option Value} {base : Heap} {tb : Addr}
/-! ### worth_of -/
def spWorth (tb : Addr) (K : PySem.W.Frag) : Sp := fun vs H Q _ => ∃ S x m f t b h T B hd shs A line k, vs = [.ref x, .int line, .int k] ∧ AccAt K tb S H x m f t b h T B hd shs A ∧ A.many.length = B.lines.length ∧ B.lines.length ≤ 60 ∧ (0 ≤ line ∧ line < A.many.length) ∧
  ∀ H', Gr tb H H' → Q (.int (worthF B shs A.many line k)) H'
theorem sc_Account_worth_of : FnScope ["self", "line", "many", "last", "one"] ["self", "line", "many"] (defScope s_Account_worth_of) := ⟨rfl, rfl, rfl, by decide +kernel, rfl, by decide +kernel, by decide +kernel⟩
theorem ok_Account_worth_of (T : TX K mg) : Met P w K mg base 2 (CAccount K) "worth_of" (spWorth tb K) := by
  obtain ⟨fd, F⟩ := T.df_Account_worth_of
  refine met_of T.c_Account T.m_Account_worth_of (F.ok (k := 1) sc_Account_worth_of (fun vs H Q E h => ?_) fun cdv A outer s H vs Q E hr h => ?_) (F.bindsN (ps := ["self", "line", "many"]) fun _ _ _ _ _ _ us hl => match us, hl with | [_, _, _], _ => rfl)
  · obtain ⟨S, x, m, f, t, b, h, D, B, hd, shs, A, line, k, rfl, _⟩ := h
    rfl
  obtain ⟨S, x, m, f, t, b, h, D, B, hd, shs, A, line, k, rfl, a, ml, b60, ⟨l0, l1⟩, q⟩ := h
  refine ⟨_, PSs.nox
    (pss_cons (ps_set (i := 3) sc_Account_worth_of.nd rfl (Or.inl rfl) (pe_op op_add (pe_callB (cr_sum rfl) rfl T.f_sum B_sum (pa_cons (pe_lc (own := [("one", 4)]) (g := (gName 4)) (tt := tYes) rfl sc_Account_worth_of.nd (pi_list (pe_slice sl_list (pe_fld (pe_fld (pv 0) rfl) rfl) po_none (po_some (pv 1)))) (blkOk_by (own := [("one", 4)]) (N := ["self", "line", "many", "last", "one"]) (sc := defScope s_Account_worth_of) (by decide +kernel)) (fun _ _ _ _ _ => (pg_name (i := 4) sc_Account_worth_of.nd rfl (Or.inl rfl))) (fun _ _ _ _ _ => pts_nil) (fun _ _ _ _ _ => (pe_fl T (pv 4) rfl))) pa_nil)) (pe_ix ix_list (pe_fld (pv 0) rfl) (pv 1) (fun _ _ => rfl))))
    (pss_one (ps_ret (pe_callB (cr_sum rfl) rfl T.f_sum B_sum (pa_cons (pe_slice sl_list (pe_fld (pv 0) rfl) (po_some (pe_op op_sub (pv 3) (pv 2))) (po_some (pv 3))) pa_nil))))), ?_⟩
  obtain ⟨dx, s, o, hx, hs, ho⟩ := a.obj
  obtain ⟨ba, db, lb, vls, rfl, hba, hlb, hpl⟩ := a.shop.bas
  obtain ⟨_, hba⟩ := cut_some hba
  obtain ⟨_, hlb⟩ := cut_some hlb
  obtain ⟨_, hs⟩ := cut_some hs
  have hpl2 : Paired (LineAt K H) vls B.lines := Paired.mapP hpl fun _ _ => LineAt.gr (tb := tb) gr_cut
  have lv := hpl.length
  have hpt := paired_take line.toNat hpl2
  refine seq_set ⟨_, rfl, T.r_Account_bought hx (T.r_Basket_lines hba ⟨_, rfl, _, rfl, lb, _, rfl, SqL.of hlb, fun c hc => ?_⟩)⟩
  rw [cutV_take l0 (by omega)]
  have g1 : Gr tb H (upd H c (.lst (vls.take line.toNat))) := Gr.new hc
  refine ⟨c, rfl, ⟨_, SqL.of upd_same⟩, fun D1 hD => ?_⟩
  have htl : (vls.take line.toNat).length = line.toNat := by rw [List.length_take]; omega
  refine lc_gr (tb := tb) (walk_list (xs := vls.take line.toNat)) (ivs ((B.lines.take line.toNat).map LineD.many)) (by rw [ivs_len, List.length_map, List.length_take]; omega) (by omega) hD (fun H' g => SqL.of (g.lst upd_same)) ?_ fun H2 g2 hd2 => ?_
  · rintro i v H' _ y N hi hy g ⟨rfl, hv⟩ k
    obtain ⟨L, hL, c2, dc, rfl, hc2⟩ := paired_get hpt hv
    obtain ⟨z, hz, rfl⟩ := ivs_of hy
    rw [List.getElem?_map, hL] at hz
    cases hz
    exact ⟨rfl, _, rfl, T.r_Line_many ((g1.trans g).ins hc2) (k _ (GrB.refl _))⟩
  have k2 := g1.trans g2
  refine ⟨D1, _, rfl, SqL.of hd2, _, rfl, T.r_Account_many (k2.ins hx) ⟨_, rfl, m, _, line, _, rfl, rfl, SqL.of (k2.lst a.hm), at_ivs l0 l1, _, _, rfl, rfl, ?_⟩⟩
  have em : ((B.lines.take line.toNat).map LineD.many).sum = (B.lines.take line.toNat).foldl (fun s L => s + L.many) 0 := by rw [← map_fold]; omega
  rw [em]
  refine ⟨_, rfl, T.r_Account_shares (k2.ins hx) ⟨_, rfl, _, rfl, _, _, rfl, rfl, _, rfl, _, rfl, _, rfl, s, _, rfl, SqL.of (k2.lst hs), fun e he => ?_⟩⟩
  rw [cutV_ivs]
  exact ⟨e, _, rfl, SqL.of upd_same, q _ (k2.add he)⟩
end
end VS
set_option Elab.async false
set_option linter.all false
set_option maxRecDepth 100000
set_option maxHeartbeats 4000000
namespace VS
open PySem PySem.Spec PyProof.Rows L2
section
variable {P : Program} {w : World} {K : PySem.W.Frag} {mg : Str → Option Value} {base : Heap} {tb : Addr}
def spSettled (tb : Addr) (K : PySem.W.Frag) : Sp := fun vs H Q _ => ∃ S x m f t b h T B hd shs A due, vs = [.ref x, .int due] ∧ AccAt K tb S H x m f t b h T B hd shs A ∧
  ∀ H', GrB tb [x, m, f] H H' → AccAt K tb S H' x m f t b h T B hd shs (setlF A due).1 → Q (.int (setlF A due).2) H'
theorem sc_Account_settled : FnScope ["self", "due", "back"] ["self", "due"] (defScope s_Account_settled) := ⟨rfl, rfl, rfl, by decide +kernel, rfl, by decide +kernel, by decide +kernel⟩
theorem ok_Account_settled (T : TX K mg) : Met P w K mg base 1 (CAccount K) "settled" (spSettled tb K) := by
  obtain ⟨fd, F⟩ := T.df_Account_settled
  refine met_of T.c_Account T.m_Account_settled (F.ok (k := 0) sc_Account_settled (fun vs H Q E h => ?_) fun cdv A outer s H vs Q E hr h => ?_) (F.bindsN (ps := ["self", "due"]) fun _ _ _ _ _ _ us hl => match us, hl with | [_, _], _ => rfl)
  · obtain ⟨S, x, m, f, t, b, h, D, B, hd, shs, A, due, rfl, _⟩ := h
    rfl
  obtain ⟨S, x, m, f, t, b, h, D, B, hd, shs, A, due, rfl, a, q⟩ := h
  refine ⟨_, PSs.nox
    (pss_cons (ps_set (i := 2) sc_Account_settled.nd rfl (Or.inl rfl) (pe_callB (call_max2 rfl) rfl T.f_max B_max (pa_cons pe_int (pa_cons (pe_op op_sub (pe_fld (pv 0) rfl) (pv 1)) pa_nil))))
    (pss_cons (ps_fldaug (pv 0) (pv 2) in_sub)
    (pss_cons (ps_fld (pv 0) (pe_callB (call_max2 rfl) rfl T.f_max B_max (pa_cons pe_int (pa_cons (pe_op op_sub (pv 1) (pe_fld (pv 0) rfl)) pa_nil))) rfl)
    (pss_one (ps_ret (pv 2)))))), ?_⟩
  obtain ⟨dx, s, o, hx, hs, ho⟩ := a.obj
  have nmx : m ≠ x := fun e => by have := a.hm; rw [e, hx] at this; cases this
  have nfx : f ≠ x := fun e => by have := a.hf; rw [e, hx] at this; cases this
  refine seq_set ⟨_, rfl, T.r_Account_paid hx ⟨_, rfl, _, _, rfl, rfl, _, _, rfl, ?_⟩⟩
  refine ⟨_, rfl, x, _, dx, _, _, rfl, hx, T.c_Account, T.n_Account_paid, aAccount_paid, _, rfl, _, _, rfl, rfl, dx, _, hx, show 9 < 1000 by decide, ?_⟩
  rw [aAccount_p_paid]
  have g1 : GrB tb [x] H (upd H x (.ins (CAccount K) dx (aAccount t b (.ref h) (.ref s) (.ref o) (.ref f) (.ref m) (.int (A.paid - max2 0 (A.paid - due))) (.int A.owed)))) := GrB.put hx (fun _ z => nomatch z) fun _ z => nomatch z
  have hx1 : upd H x (.ins (CAccount K) dx (aAccount t b (.ref h) (.ref s) (.ref o) (.ref f) (.ref m) (.int (A.paid - max2 0 (A.paid - due))) (.int A.owed))) x = some (.ins (CAccount K) dx (aAccount t b (.ref h) (.ref s) (.ref o) (.ref f) (.ref m) (.int (A.paid - max2 0 (A.paid - due))) (.int A.owed))) := upd_same
  show (fun H1 => tSeq _ _ _ _ H1) (upd H x (.ins (CAccount K) dx (aAccount t b (.ref h) (.ref s) (.ref o) (.ref f) (.ref m) (.int (A.paid - max2 0 (A.paid - due))) (.int A.owed))))
  generalize upd H x (.ins (CAccount K) dx (aAccount t b (.ref h) (.ref s) (.ref o) (.ref f) (.ref m) (.int (A.paid - max2 0 (A.paid - due))) (.int A.owed))) = H1 at g1 hx1 ⊢
  dsimp only
  refine ⟨_, rfl, _, rfl, T.r_Account_paid hx1 ⟨_, _, rfl, rfl, _, _, rfl, _, rfl, st_fld (tb := tb) hx1 T.c_Account T.n_Account_owed (show 9 < 1000 by decide) aAccount_p_owed fun H2 g2 hx2 => ?_⟩⟩
  have g := g1.trans g2
  have g3 : GrB tb [x, m, f] H H2 := g.mono fun b hb => by rw [List.mem_singleton.mp hb]; exact List.mem_cons_self ..
  exact ⟨_, rfl, q H2 g3 (a.step g3 hx2 (g.lst a.hm (by simpa using nmx)) (g.lst a.hf (by simpa using nfx)) (fun H1 g1 => g1.lst hs) (ord_cut g (fun b hb => by rw [List.mem_singleton.mp hb]; exact a.mx) ho))⟩
end
theorem GrB.trans' {tb : Addr} {H0 H H' : Hp} {x : Addr} (a : Gr tb H0 H) (g : GrB tb [x] H H') (n : H0 x = none) : Gr tb H0 H' := g.back a fun s hs => by rw [List.mem_singleton.mp hs]; exact n
theorem zip_sum : ∀ {ls : List LineD} {many : List Int}, (∀ (i : Nat) (k : Int), many[i]? = some k → 0 ≤ k ∧ ∃ L, ls[i]? = some L ∧ k ≤ L.many) → (∀ L ∈ ls, 0 ≤ L.many) →
    manySum (List.zipWith (fun (L : LineD) m => (⟨L.kind, L.price, m, L.special⟩ : LineD)) ls many) ≤ manySum ls
  | [], _, _, _ => by simp [manySum]
  | L :: r, [], h, hn => by
    have : 0 ≤ manySum (L :: r) := nn_sum fun x hx => by obtain ⟨L, hL, rfl⟩ := List.mem_map.mp hx; exact hn L hL
    simpa [manySum] using this
  | L :: r, m :: ms, h, hn => by
    have h0 := h 0 m rfl
    obtain ⟨_, L', e, h1⟩ := h0
    cases e
    have ih := zip_sum (ls := r) (many := ms) (fun i k hk => h (i + 1) k hk) fun L hL => hn L (List.mem_cons_of_mem _ hL)
    have e1 : manySum (L :: r) = L.many + manySum r := List.sum_cons
    have e2 : manySum (List.zipWith (fun (L : LineD) m => (⟨L.kind, L.price, m, L.special⟩ : LineD)) (L :: r) (m :: ms)) = m + manySum (List.zipWith (fun (L : LineD) m => (⟨L.kind, L.price, m, L.special⟩ : LineD)) r ms) := List.sum_cons
    omega
theorem stays_ok {n : Nat} {B : BasketD} {many : List Int} (h : BasketOk n B) (hl : many.length = B.lines.length) (hm : ∀ (i : Nat) (k : Int), many[i]? = some k → 0 ≤ k ∧ ∃ L, B.lines[i]? = some L ∧ k ≤ L.many) : BasketOk n (staysF B many) := by
  refine ⟨fun L hL => ?_, ?_, Int.le_trans (zip_sum hm fun L hL => (h.lines L hL).many.1) h.many⟩
  · obtain ⟨i, hi⟩ := List.mem_iff_getElem?.mp hL
    have hi : (List.zipWith (fun (L : LineD) m => (⟨L.kind, L.price, m, L.special⟩ : LineD)) B.lines many)[i]? = some L := hi
    rw [List.getElem?_zipWith_eq_some] at hi
    obtain ⟨L0, k, f1, f2, rfl⟩ := hi
    have ok := h.lines L0 (List.mem_of_getElem? f1)
    obtain ⟨k0, L1, e, k1⟩ := hm i k f2
    rw [f1] at e
    cases e
    exact ⟨ok.kind, ok.price, ⟨k0, Int.le_trans k1 ok.many.2⟩, ok.special⟩
  · show (List.zipWith _ _ _).length ≤ 60
    rw [List.length_zipWith]
    have := h.len
    omega
section
variable {P : Program} {w : World} {K : PySem.W.Frag} {mg : Str → Option Value} {base : Heap} {tb : Addr}
def spDue (tb : Addr) (K : PySem.W.Frag) : Sp := fun vs H Q _ => ∃ S x m f t b h T B hd shs A, vs = [.ref x] ∧ AccAt K tb S H x m f t b h T B hd shs A ∧ AccOk T B A ∧
  ∀ H', GrB tb [x, m, f] H H' → AccAt K tb S H' x m f t b h T B hd shs (dueF T B hd A).1 → Q (.int (dueF T B hd A).2) H'
theorem sc_Account_due_again : FnScope ["self", "stays"] ["self"] (defScope s_Account_due_again) := ⟨rfl, rfl, rfl, by decide +kernel, rfl, by decide +kernel, by decide +kernel⟩
theorem ok_Account_due_again (T : TX K mg) (W : ∀ s, Met P w K mg base 3 (sortC K s) "wanted" (spWanted tb K s)) : Met P w K mg base 10 (CAccount K) "due_again" (spDue tb K) := by
  obtain ⟨fd, F⟩ := T.df_Account_due_again
  refine met_of T.c_Account T.m_Account_due_again (F.ok (k := 9) sc_Account_due_again (fun vs H Q E h => ?_) fun cdv A outer s H vs Q E hr h => ?_) (F.bindsN (ps := ["self"]) fun _ _ _ _ _ _ us hl => match us, hl with | [_], _ => rfl)
  · obtain ⟨S, x, m, f, t, b, h, D, B, hd, shs, A, rfl, _⟩ := h
    rfl
  have c_what_stays : Cal P w K mg base 3 "what_stays" (spStays tb K) := ok_what_stays T
  have c_still_holding : Cal P w K mg base 9 "still_holding" (spGone tb K stillF) := ok_still_holding T W
  have c_priced : Cal P w K mg base 7 "priced" (spPriced tb K) := ok_priced T W
  obtain ⟨S, x, m, f, t, b, h, D, B, hd, shs, A, rfl, a, ok, q⟩ := h
  refine ⟨_, PSs.nox
    (pss_cons (ps_set (i := 1) sc_Account_due_again.nd rfl (Or.inl rfl) (pe_c c_what_stays hr (by decide) rfl (pa_cons (pe_fld (pv 0) rfl) (pa_cons (pe_fld (pv 0) rfl) pa_nil))))
    (pss_cons (ps_fld (pv 0) (pe_c c_still_holding hr (by decide) rfl (pa_cons (pe_fld (pv 0) rfl) (pa_cons (pv 1) (pa_cons (pe_fld (pv 0) rfl) (pa_cons (pe_fld (pv 0) rfl) (pa_cons (pe_fld (pv 0) rfl) pa_nil)))))) rfl)
    (pss_one (ps_ret (pe_fld (pe_c c_priced hr (by decide) rfl (pa_cons (pe_fld (pv 0) rfl) (pa_cons (pv 1) (pa_cons (pe_fld (pv 0) rfl) (pa_cons (pe_fld (pv 0) rfl) pa_nil))))) rfl))))), ?_⟩
  obtain ⟨dx, s, o, hx, hs, ho⟩ := a.obj
  have nmx : m ≠ x := fun e => by have := a.hm; rw [e, hx] at this; cases this
  have nfx : f ≠ x := fun e => by have := a.hf; rw [e, hx] at this; cases this
  refine ⟨_, rfl, T.r_Account_bought hx ⟨_, rfl, T.r_Account_many hx ⟨b, m, B, A.many, rfl, a.shop.bas.gr (tb := tb) gr_cut, a.hm, ok.mlen, a.shop.bok.len, fun H1 y g1 hy => ?_⟩⟩⟩
  have a1 := a.gr g1
  have sh1 : Shop K tb (cut S H1) t (.ref y) (.ref h) D (staysF B A.many) hd := ⟨a1.shop.till, hy.cut a.kind, a1.shop.hand, a1.shop.tok, stays_ok a1.shop.bok ok.mlen ok.many, a1.shop.c0, a1.shop.hl, a1.shop.tab⟩
  have hx1 := g1.ins hx
  have ho1 : cut S H1 o = some (.lst (ivs A.order)) := ord_cut (tb := tb) g1 (fun b hb => absurd hb (by simp)) ho
  obtain ⟨oS, ho1'⟩ := cut_some ho1
  have nof : o ≠ f := fun e => oS (e ▸ a.mf)
  refine ⟨_, rfl, T.r_Account_counter hx1 ⟨_, rfl, _, rfl, T.r_Account_holding hx1 ⟨_, rfl, T.r_Account_order hx1 ⟨_, rfl, T.r_Account_fallen hx1 ?_⟩⟩⟩⟩
  refine ⟨cut S H1, t, _, _, o, f, D, staysF B A.many, hd, A.order, A.fallen, rfl, gr_cut, sh1, cut_in a.mf, a1.hf, nof, ho1', ok.ord, ok.len, fun H2 k g2 nk hk hf2 => ?_⟩
  obtain ⟨s1, s2, s3, s4⟩ := still_ok (T := D) (B := staysF B A.many) (hd := hd) (o := A.order) (fl := A.fallen)
  have gA : GrB tb [x, m, f] H H2 := g1.of.trans (g2.mono fun b hb => by rw [List.mem_singleton.mp hb]; simp)
  have hx2 := g2.ins hx1 (by simpa using Ne.symm nfx)
  have kS : k ∉ S := fun hk => by obtain ⟨o, ho, _⟩ := a1.kind k hk; rw [nk] at ho; cases ho
  refine ⟨_, rfl, st_fld (tb := tb) hx2 T.c_Account T.n_Account_order (show 9 < 1000 by decide) aAccount_p_order fun H3 g3 hx3 => ?_⟩
  have nkx : k ≠ x := fun e => kS (e ▸ a.mx)
  have g4 : GrB tb [x, m, f] H H3 := gA.trans (g3.mono fun b hb => by rw [List.mem_singleton.mp hb]; simp)
  have hk3 := g3.lst hk (by simpa using nkx)
  have nmf := a.ne
  have a3 : AccAt K tb S H3 x m f t b h D B hd shs (dueF D B hd A).1 := a.step g4 hx3 (g3.lst (g2.lst a1.hm (by simpa using nmf)) (by simpa using nmx)) (g3.lst hf2 (by simpa using nfx)) (fun H1 g1 => g1.lst hs) (cut_of kS hk3)
  have sh3 : Shop K tb H3 t (.ref y) (.ref h) D (staysF B A.many) hd := sh1.gr ((gr_cutB g2 (fun b hb => by rw [List.mem_singleton.mp hb]; exact a.mf)).trans' g3 (cut_in a.mx))
  refine ⟨_, rfl, T.r_Account_counter hx3 ⟨_, rfl, _, rfl, T.r_Account_holding hx3 ⟨_, rfl, T.r_Account_order hx3 ?_⟩⟩⟩
  refine ⟨t, _, _, k, D, staysF B A.many, hd, _, rfl, sh3, hk3, fun v hv => ok.ord v (s1 v hv), by have := ok.len; omega, s2, fun H4 z g5 ⟨dz, o4, st4, pr4, c4, hz, _⟩ => ?_⟩
  exact T.r_Bill_total hz (q H4 (g4.trans g5.of) (a3.gr g5))
end
end VS
set_option Elab.async false
set_option linter.all false
set_option maxRecDepth 100000
set_option maxHeartbeats 4000000
namespace VS
open PySem PySem.Spec PyProof.Rows L2
/-! ### an error that is caught and kept under a name -/
/-- an error of the class cls at a -/
def HeldE (cls : Value) (d : Option Addr) (a : Addr) : HO := .ext fun h => ∃ (oe : Obj) (vs : Array Value), h.get? a = some oe ∧ Zc cls d oe ∧ oe.data = .fields vs
section
variable {X : Cx} {pins : List (Addr × Obj)} {σ : L2.St} {H : Hp} {s : Shared} {a : Addr} {oe : Obj} {o : HO}
/-- what was only looked at is tracked from here on -/
theorem inv_track (I : Inv X ((a, oe) :: pins) σ H s) (ok : ObjOk X.prog X.w (upd H a o) s.heap a o) (n0 : X.s_0.heap.get? a = none) (np : ∀ p ∈ X.pn ++ pins, p.1 ≠ a) : Inv X pins σ (upd H a o) s := by
  obtain ⟨ha, na, nl, nf, nc⟩ := I.pin (a, oe) (List.mem_append.mpr (.inr (List.mem_cons_self ..)))
  have ha : s.heap.get? a = some oe := ha
  have na : H a = none := na
  have old : ∀ {b u}, H b = some u → upd H a o b = some u := fun h => by rw [upd_ne (ne_of_none h na)]; exact h
  have out : ∀ {b}, b ≠ a → H b = none → upd H a o b = none := fun n h => by rw [upd_ne n]; exact h
  refine ⟨I.ok, I.os, I.bare, ⟨I.base.keep, I.base.slot, fun b u h1 h2 h3 => ?_, I.base.there, fun b xs h => old (I.base.tups b xs h), fun b u v h => old (I.base.frzs b u v h), fun b ps h => ?_⟩, I.loc, I.cell, out (Ne.symm nl) I.free, fun x c h => ?_, fun p hp => ?_, fun b u h => ?_, I.len⟩
  · exact out (fun e => by rw [e, n0] at h1; cases h1) (I.base.free b u h1 h2 h3)
  · obtain ⟨m, e⟩ := I.base.tbls b ps h
    exact ⟨m, old e⟩
  · refine out (fun e => ?_) (I.freeC x c h)
    obtain ⟨v, oc, e1, e2⟩ := I.cell x c h
    rw [e, ha] at e1
    cases e1
    exact nc v e2
  · obtain ⟨h1, h2, h3⟩ := I.pin p (by rcases List.mem_append.mp hp with z | z; exact List.mem_append.mpr (.inl z); exact List.mem_append.mpr (.inr (List.mem_cons_of_mem _ z)))
    exact ⟨h1, out (np p hp) h2, h3⟩
  · by_cases e : b = a
    · subst e
      rw [upd_same] at h
      cases h
      exact ok
    · rw [upd_ne e] at h
      exact (I.hok b u h).stay (fun _ _ _ z => z) (fun c z => old z) fun c xs z => old z
end
/-- the clause 'except x as n' whose suite comes to its end: the error stays behind, tracked -/
def wKeep (K : PySem.W.Frag) (c : Value) (i : Nat) (ts : Addr → Value → Option Addr → TS) (Wout : WX) (D : Ends) : WX := fun cls d σ H =>
  ∃ b, PySem.W.exmOne K cls c = some b ∧ (b = true → ∀ a, H a = none → ts a cls d { nx := fun σ' H' => H' a = none → D.nx (σ'.set i none) (upd H' a (HeldE cls d a)), rt := fun _ _ => False } (σ.set i (some (.ref a))) H) ∧ (b = false → Wout cls d σ H)
section
variable {X : Cx} {x n : Str} {c : Value} {i : Nat} {body suite : List Stmt} {b₀ : Stmt} {np pos pos' : Pos} {tb : WX → TS} {ts : Addr → Value → Option Addr → TS} {Wout : WX}
theorem ps_try_keep (hx : X.ex = []) (hs : X.stack = X.env :: X.outer) (hf : X.env.frame = some X.env.locals) (hN : X.N.Nodup) (hi : X.N[i]? = some n) (hln : X.env.kindOf n = some .local) (hc : Names X x c) (tk : Takes X Wout)
    (hb : ∀ (W : WX) (pn : List (Addr × Obj)) (xe : Value → Shared → Prop), Takes (X.tr pn xe) W → PassesOwn (model X.prog X.w) X.A X.env xe → PSs (X.tr pn xe) body (tb W))
    (hsu : ∀ (a : Addr) (oe : Obj) (cls : Value) (d : Option Addr) (pn : List (Addr × Obj)), Zc cls d oe → (∃ vs, oe.data = .fields vs) → PSs (X.suite a ((a, oe) :: pn)) (b₀ :: suite) (ts a cls d)) :
    PS X (.Try body [.ExceptHandler (some (.Name x np)) (some n) (b₀ :: suite) pos'] [] [] pos) (fun D σ H => tb (wKeep X.K c i ts Wout D) D σ H) := by
  refine ⟨fun pins s σ H D I h => wpAny_Try_except ?_⟩
  have fr : X.A.frames = some (X.env :: X.outer) := I.ok.frames.trans (congrArg some hs)
  refine wpAny_mono ((hb (wKeep X.K c i ts Wout D) (X.pn ++ pins) (fun e s₁ => wpAny (model X.prog X.w) X.A (noteFrame e X.env) (fun _ s₂ => wpAny (model X.prog X.w) X.A (setFlight e none) (fun _ s₃ =>
    wpAny (model X.prog X.w) X.A (handleBy e X.env [.ExceptHandler (some (.Name x np)) (some n) (b₀ :: suite) pos']) (SP X pins D) X.xe s₃) X.xe s₂) X.xe s₁) (fun u s' xx => ?_) PassesOwn.looking).run [] s σ H D (I.toTry _) h) (fun f s1 q => ?_) (fun _ _ q => q)
  · obtain ⟨a, B, sI, pins', σ', H', cls, d, rfl, J', nb, up, sky, na, os, ag, b, e1, yes, no⟩ := xx
    have J : Inv X pins σ' H' sI := J'.ofTry I.ok
    show wpAny (model X.prog X.w) X.A (noteFrame (.ref a) X.env) _ _ _
    refine Sky.land Zc.steady fr hf (by rw [← hs]; exact sky) fun h3 l3 up3 => ?_
    have J3 : Inv X pins σ' H' { s' with heap := h3 } := J.landed nb l3.1 (up.trans up3) os ag
    obtain ⟨o3, v3, g3, z3, d3⟩ := l3.there
    have nfr : a ∉ frs (X.env :: X.outer) := fun hm => by
      obtain ⟨_, o', g', dn⟩ := l3.2.2.1.mem hm
      rw [g3] at g'; cases g'
      exact dn _ d3
    have nL : a ≠ X.env.locals := fun e => nfr (List.mem_filterMap.mpr ⟨X.env, List.mem_cons_self, hf.trans (congrArg some e.symm)⟩)
    have nF : a ∉ X.fs := fun hm => by
      obtain ⟨v, hv, q⟩ := List.mem_filterMap.mp hm
      exact nfr (List.mem_filterMap.mpr ⟨v, List.mem_cons_of_mem _ hv, q⟩)
    have S3 := J3.suite g3 d3 na nL nF
    -- nothing of the entry's heap lies at a
    have inB : ∀ {b u}, sI.heap.get? b = some u → b ≠ a := fun {b u} hb e => by
      subst e
      by_cases hf' : b ∈ frs X.stack
      · rw [hs] at hf'; exact nfr hf'
      · have z := nb b u hb hf'
        rw [l3.2.1] at z
        cases z
    have n0 : X.s_0.heap.get? a = none := by
      cases q : X.s_0.heap.get? a with
      | none => rfl
      | some u =>
        obtain ⟨u', q'⟩ := J.base.there a u q (by rw [hx]; simp)
        exact absurd rfl (inB q')
    refine wpAny_handleBy_cons (codeAny_handlers_test ?_) (by intro q; cases q)
    have LT : PySem.W.Looks (model X.prog X.w) h3 (typeOf (.ref a)) cls := fun A Q E s k q => wpAny_typeOf_ref (k _ _ g3) (by rw [z3.1]; exact q)
    have LM := PySem.W.exm_one (M := model X.prog X.w) (J3.kIn) LT e1
    have test : ∀ {Q : Value → Shared → Prop} {E : Value → Shared → Prop}, Q c { s' with heap := h3 } → wpAny (model X.prog X.w) (X.A.mark (some (.ref a))) (eval (.Name x np) X.env) Q E { s' with heap := h3 } := fun {Q E} q => by
      obtain ⟨hg, hdbg, hm | ⟨hm, hv, hnn⟩⟩ := hc
      · exact ld_glob (X := X.suite a ((a, o3) :: (X.pn ++ pins))) S3 hg hm q hdbg
      · exact ld_blt (X := X.suite a ((a, o3) :: (X.pn ++ pins))) S3 hg hm hv q hnn hdbg
    refine test (LM.here ?_)
    cases b with
    | true =>
      refine codeAny_handlers_suite_as (HandSPX.lands_againZ l3 fun h4 l4 up4 => ?_)
      have J4 : Inv X pins σ' H' { s' with heap := h4 } := J.landed nb l4.1 ((up.trans up3).trans up4) os ag
      obtain ⟨o4, v4, g4, z4, d4⟩ := l4.there
      refine store_ok (X := X.suite a ((a, o4) :: (X.pn ++ pins))) (v := .ref a) (J4.suite g4 d4 na nL nF) hN hi (.inl hln) rfl (fun s5 S5 => ?_) (.inr hln)
      refine wpAny_mono ((hsu a o4 cls d (X.pn ++ pins) z4 ⟨_, d4⟩).run [] s5 _ H' _ S5 (yes rfl a na)) (fun f s6 q => ?_) (fun _ _ z => z.elim)
      cases f with
      | next =>
        obtain ⟨σ6, H6, S6, q6⟩ := q
        have S7 : Inv X ((a, o4) :: pins) σ6 H6 s6 := ⟨I.ok, S6.os, S6.bare, S6.base, S6.loc, S6.cell, S6.free, S6.freeC, fun p hp => S6.pin p (by
          rw [List.append_nil]
          rcases List.mem_append.mp hp with z | z
          · exact List.mem_cons_of_mem _ (List.mem_append.mpr (.inl z))
          · rcases List.mem_cons.mp z with z | z
            · rw [z]; exact List.mem_cons_self ..
            · exact List.mem_cons_of_mem _ (List.mem_append.mpr (.inr z))), S6.hok, S6.len⟩
        refine gone_ok S7 hN hi hln fun s7 J7 => ⟨_, _, inv_track J7 ?_ n0 fun p hp => ?_, q6 ?_⟩
        · obtain ⟨g7, _⟩ := J7.pin (a, o4) (List.mem_append.mpr (.inr (List.mem_cons_self ..)))
          exact ⟨⟨o4, _, g7, z4, d4⟩, ⟨o4, g7⟩, fun _ _ ⟨u, v, w1, w2⟩ k => ⟨u, v, k _ w1, w2⟩⟩
        · exact inB (J.pin p hp).1
        · exact (S7.pin (a, o4) (List.mem_append.mpr (.inr (List.mem_cons_self ..)))).2.1
      | brk => obtain ⟨_, _, _, z⟩ := q; exact z.elim
      | cont => obtain ⟨_, _, _, z⟩ := q; exact z.elim
      | ret u => obtain ⟨_, _, _, _, _, z⟩ := q; exact z.elim
    | false =>
      show wpAny _ X.A (handleBy (.ref a) X.env []) _ _ _
      refine wpAny_handleBy_nil ?_
      obtain ⟨k1, k2, k3, u, vs, t, ot, ts', he, hz, hd, h1, hr⟩ := id l3
      unfold PySem.passOn
      refine wpAny_bind (wpAny_field he hd h1 ?_)
      rw [if_neg (show ¬ ((Value.ref t == Value.none) = true) from by simp)]
      have fin : wpAny (model X.prog X.w) X.A (setFlight (.ref a) X.env.frame) (fun _ s4 => wpAny (model X.prog X.w) X.A (throw (.ref a) : Sem Flow) (SP X pins D) X.xe s4) X.xe { s' with heap := h3 } := by
        rw [hf]
        exact HandSPX.setFlight_upZ l3 fun h4 hh4 up4 => wpAny_throw (tk _ _ ⟨a, B, sI, pins, σ', H', cls, d, rfl, J, nb, (up.trans up3).trans up4, .inr (.inr (by rw [hs]; exact hh4)), na, os, ag, no rfl⟩)
      first
        | exact wpAny_bind (wpAny_pure (wpAny_bind fin))
        | exact wpAny_bind fin
  · cases f with
    | next => obtain ⟨σ', H', J', z⟩ := q; exact wpAny_execs_nil ⟨σ', H', J'.ofTry I.ok, z⟩
    | brk => obtain ⟨σ', H', J', z⟩ := q; exact ⟨σ', H', J'.ofTry I.ok, z⟩
    | cont => obtain ⟨σ', H', J', z⟩ := q; exact ⟨σ', H', J'.ofTry I.ok, z⟩
    | ret u => obtain ⟨v, σ', H', J', r, z⟩ := q; exact ⟨v, σ', H', J'.ofTry I.ok, r, z⟩
end
/-! ### isinstance of it -/
theorem exc_of {K : PySem.W.Frag} {x : Str} (h : excB K x = true) (hs : PySem.W.subIn K (.ref (He.ga K x)) (.type "BaseException") = some true) : ExcC K (He.ga K x) := by
  unfold excB at h
  simp only [Bool.and_eq_true, decide_eq_true_eq] at h
  obtain ⟨h1, h2, h3, h4, h5, h6, h7⟩ := h
  exact ⟨He.eqO_ok h1, He.eqO_ok h2, hs, h3, He.eqO_ok h4, He.eqO_ok h5, h6, h7⟩
def rIsH (K : PySem.W.Frag) (D : Addr) : List V → Hp → VK → Prop := fun xs H Q => ∃ (a : Addr) (c : V) (u : Value) (b : Bool), xs = [.ref a, c] ∧ H a = some (HeldE (.ref D) none a) ∧ ClsV c u ∧ PySem.W.kitOne K (.ref D) u = some b ∧ Q (.bl b) H
def rIsHT (K : PySem.W.Frag) (D : Addr) : List V → Hp → VK → Prop := fun xs H Q => ∃ (a t : Addr) (cs : List V) (us : List Value) (b : Bool), xs = [.ref a, .ref t] ∧ H a = some (HeldE (.ref D) none a) ∧ H t = some (.tup cs) ∧ Paired ClsV cs us ∧ PySem.W.kitAny K (.ref D) us = some b ∧ Q (.bl b) H
section
variable {X : Cx} {D : Addr}
theorem held_at {pins : List (Addr × Obj)} {σ : L2.St} {H : Hp} {s : Shared} {a : Addr} (I : Inv X pins σ H s) (h : H a = some (HeldE (.ref D) none a)) : ∃ oe, PySem.W.InstAt s.heap a oe D none := by
  obtain ⟨⟨⟨oc, od, oda, osl⟩, vs, e, ⟨z1, z2⟩, d⟩, _, _⟩ := I.hok a _ h
  dsimp only at z1 z2 d
  subst z1 z2 d
  exact ⟨_, e, rfl, rfl, trivial⟩
theorem call_isH (C : ExcC X.K D) : CallR X (.builtin "isinstance") (rIsH X.K D) := by
  intro pins s σ H xs us Q I r h
  obtain ⟨a, c, u, b, rfl, ha, k, e, q⟩ := h
  obtain ⟨u1, u2, rfl, r1, r2⟩ := vals2 r
  cases (show u1 = Value.ref a from r1)
  cases k.eq r2
  obtain ⟨oe, J⟩ := held_at I ha
  exact PySem.W.kia_one (PySem.W.handS_kitx_exc C.hg C.hk C.hs C.hd C.ha C.hn C.ht C.hm) I.kIn J e (fun z => nomatch z) fun tk => ⟨.bl b, H, I.tok tk, rfl, q⟩
theorem call_isHT (C : ExcC X.K D) : CallR X (.builtin "isinstance") (rIsHT X.K D) := by
  intro pins s σ H xs us Q I r h
  obtain ⟨a, t, cs, ws, b, rfl, ha, hT, k, e, q⟩ := h
  obtain ⟨u1, u2, rfl, r1, r2⟩ := vals2 r
  cases (show u1 = Value.ref a from r1)
  cases (show u2 = Value.ref t from r2)
  obtain ⟨_, its, rv, o, g1, g2, n, g3⟩ := (show ObjOk X.prog X.w H s.heap t (.tup cs) from I.hok t _ hT)
  cases ClsV.all k rv
  obtain ⟨oc, od, dt, sl⟩ := o
  simp only at g2 g3
  subst g2 g3
  obtain ⟨oe, J⟩ := held_at I ha
  exact PySem.W.kia_tup (PySem.W.handS_kitx_exc C.hg C.hk C.hs C.hd C.ha C.hn C.ht C.hm) I.kIn J g1 e (fun z => nomatch z) fun tk => ⟨.bl b, H, I.tok tk, rfl, q⟩
end
/-! ### a method that an error may leave -/
structure MetX (P : Program) (w : World) (K : PySem.W.Frag) (mg : Str → Option Value) (base : Heap) (k : Nat) (C : Addr) (m : Str) (sp : Sp) : Prop where
  is : ∃ f fd ps, Cls K C ∧ Meth K C m f ∧ Binds K fd ps [] ∧ FnOk P w K mg base (L2.CX P w) k f fd ps sp
/-- o.m(e, ..), the wish of an error at the slots -/
def tMethE (C : Addr) (m : Str) (sp : Sp) (E : L2.St → XK) (ta : TE) (t : TA) : TE := fun σ H Q => ta σ H fun x H1 => ∃ a dx fs, x = .ref a ∧ H1 a = some (.ins C dx fs) ∧ fs.lookup m = none ∧ t σ H1 fun vs H2 => sp (x :: vs) H2 Q (E σ)
section
variable {X : Cx} {k j : Nat} {C : Addr} {m : Str} {sp : Sp} {pos apos : Pos} {e o : Expr} {es : List Expr} {ta : TE} {t : TA}
theorem pe_mtE {pl : Sem Bool} {E : L2.St → XK} (c : MetX X.prog X.w X.K X.mg X.base k C m sp) (hr : Room j X.A) (hk : k ≤ j) (hx : ∀ σ, PassesAt (L2.CX X.prog X.w) X σ (E σ)) (he : PE X o ta) (ha : PA X (e :: es) t)
    (hst : starEach (e :: es) X.env = (false, eval e X.env) :: starEach es X.env := by rfl) (hpl : (backTo pos (starEach es X.env)).any (·.1) = false := by rfl)
    (ht : eval (.Call (.Attribute o m apos) (e :: es) [] pos) X.env = (eval o X.env >>= fun ov => standAt apos.atName >>= fun _ => holding [ov] (getMethod ov m pl) >>= fun fp =>
      callWith pos fp.1 fp.2 (backTo pos (starEach (e :: es) X.env)) (backToKw pos (keywordEach [] X.env))) := by rfl) :
    PE X (.Call (.Attribute o m apos) (e :: es) [] pos) (tMethE C m sp E ta t) := by
  obtain ⟨f, fd, ps, hc, hm, b, F⟩ := c.is
  refine ⟨fun pins s σ H Q I h => PySem.W.methodCall_KW (pl := pl) (thn (he.run pins s σ H _ I h) fun u s1 hu => ?_) ht⟩
  obtain ⟨x, H1, I1, rx, a, dx, fs, rfl, ea, l, q⟩ := hu
  cases (show u = Value.ref a from rx)
  refine getmeth_ok I1 ea hc hm l (PySem.W.callWith_K (first := [.ref a]) (h₀ := X.base) I.ok.mod.kin hm.kp (thn (ha.run pos pins s1 σ H1 _ I1 q) fun us s2 hv => ?_) hst hpl)
  obtain ⟨vs, H2, I2, r, q2⟩ := hv
  exact ⟨I2.kIn, run_fnS (us := .ref a :: us) (vs := .ref a :: vs) F (hr.mono hk) b (hx σ) I2 (.cons rfl r) q2⟩
theorem pe_mtX {pl : Sem Bool} (c : MetX X.prog X.w X.K X.mg X.base k C m sp) (hr : Room j X.A) (hk : k ≤ j) (he : PE X o ta) (ha : PA X (e :: es) t)
    (hst : starEach (e :: es) X.env = (false, eval e X.env) :: starEach es X.env := by rfl) (hpl : (backTo pos (starEach es X.env)).any (·.1) = false := by rfl)
    (ht : eval (.Call (.Attribute o m apos) (e :: es) [] pos) X.env = (eval o X.env >>= fun ov => standAt apos.atName >>= fun _ => holding [ov] (getMethod ov m pl) >>= fun fp =>
      callWith pos fp.1 fp.2 (backTo pos (starEach (e :: es) X.env)) (backToKw pos (keywordEach [] X.env))) := by rfl) :
    PE X (.Call (.Attribute o m apos) (e :: es) [] pos) (tMeth C m sp [] E0 ta t) :=
  have ⟨_, _, _, hc, hm, b, F⟩ := c.is
  pe_meth (pl := pl) he hc hm F (hr.mono hk) b .nil passL ha hst hpl ht
end
end VS
set_option Elab.async false
set_option linter.all false
set_option maxRecDepth 100000
set_option maxHeartbeats 4000000
namespace VS
open PySem PySem.Spec PyProof.Rows L2
/-- xs[i] of a list, the read of xs[i] op= e -/
def gIxL (K : PySem.W.Frag) : V → V → Hp → VK → Prop := fun x y H Q => ∃ p xs i v, x = .ref p ∧ y = .int i ∧ SqL K H p xs ∧ 0 ≤ i ∧ atI xs i = some v ∧ Q v H
theorem get_list {X : Cx} : PGet X (gIxL X.K) := by
  intro pins s σ H x y v u Q I rx ry h
  obtain ⟨p, xs, i, z, rfl, rfl, hq, h0, he, q⟩ := h
  cases (show v = Value.ref p from rx)
  obtain ⟨t, rfl⟩ := (show ∃ t, u = Value.int i t from ry)
  obtain ⟨its, r, pl, hz⟩ := I.list hq
  obtain ⟨j, h1, h2, h3, h4, h5⟩ := atI_get he
  obtain ⟨w, ew, rw'⟩ := r.get h2
  have hn := line63
  have hj : i.toNat = j := by
    rw [seqIndex_of h0 h5] at h1
    exact Option.some.inj h1
  exact wpAny_getItem_list pl.isList h0 (by omega) (by rw [hj]; simpa using ew) ⟨z, H, I, rw', q⟩
/-! ### take_back -/
def takeOk (A : AccD) (line k : Int) : Prop := (0 ≤ line ∧ line < A.many.length) ∧ 1 ≤ k ∧ k ≤ gi A.many line
def lessF (A : AccD) (line k : Int) : AccD := { A with many := setI A.many line (gi A.many line - k) }
def takeF (T : TillD) (B : BasketD) (hd shs : List Int) (A : AccD) (line k : Int) : AccD × Int :=
  if T.back = "again" then setlF (dueF T B hd (lessF A line k)).1 (dueF T B hd (lessF A line k)).2
    else ({ lessF A line k with paid := A.paid - worthF B shs A.many line k }, worthF B shs A.many line k)
instance (A : AccD) (line k : Int) : Decidable (takeOk A line k) := by unfold takeOk; infer_instance
theorem if_nd {c : Prop} [Decidable c] {A B : Prop} (h1 : ¬ c → A) (h2 : c → B) : if (!decide c) = true then A else B := by
  by_cases h : c
  · rw [decide_eq_true h]; exact iteF (h2 h)
  · rw [decide_eq_false h]; exact iteT (h1 h)
theorem less_ok {T : TillD} {B : BasketD} {A : AccD} {line k : Int} (ok : AccOk T B A) (h : takeOk A line k) : AccOk T B (lessF A line k) := by
  refine ⟨ok.ord, ok.len, (setI_len ..).trans ok.mlen, fun i x hx => ?_⟩
  have hx : (A.many.set line.toNat (gi A.many line - k))[i]? = some x := hx
  obtain ⟨⟨l0, l1⟩, k0, k1⟩ := h
  rw [List.getElem?_set] at hx
  by_cases e : line.toNat = i
  · rw [if_pos e, if_pos (by omega)] at hx
    cases hx
    obtain ⟨m0, L, hL, m1⟩ := ok.many i (gi A.many line) (by rw [← e]; exact get_d (by omega) 0)
    exact ⟨by omega, L, hL, by omega⟩
  · rw [if_neg e] at hx
    exact ok.many i x hx
theorem due_ok {T : TillD} {B : BasketD} {hd : List Int} {A : AccD} (ok : AccOk T B A) : AccOk T B (dueF T B hd A).1 := by
  obtain ⟨s1, _, s3, _⟩ := still_ok (T := T) (B := staysF B A.many) (hd := hd) (o := A.order) (fl := A.fallen)
  refine ⟨fun v hv => ok.ord v (s1 v hv), ?_, ok.mlen, ok.many⟩
  have := ok.len
  show (stillF T (staysF B A.many) hd A.order A.fallen).1.length + (stillF T (staysF B A.many) hd A.order A.fallen).2.length ≤ 1000
  omega
theorem take_ok {T : TillD} {B : BasketD} {hd shs : List Int} {A : AccD} {line k : Int} (ok : AccOk T B A) (h : takeOk A line k) : AccOk T B (takeF T B hd shs A line k).1 := by
  have l := less_ok ok h
  unfold takeF
  by_cases e : T.back = "again"
  · rw [if_pos e]
    have d := due_ok (hd := hd) l
    exact ⟨d.ord, d.len, d.mlen, d.many⟩
  · rw [if_neg e]
    exact ⟨l.ord, l.len, l.mlen, l.many⟩
def NP (K : PySem.W.Frag) : Value := .ref (He.ga K "NoPieces")
def spTake (tb : Addr) (K : PySem.W.Frag) : Sp := fun vs H Q E => ∃ S x m f t b h T B hd shs A line k, vs = [.ref x, .int line, .int k] ∧ AccAt K tb S H x m f t b h T B hd shs A ∧ AccOk T B A ∧
  (takeOk A line k → ∀ H', GrB tb [x, m, f] H H' → AccAt K tb S H' x m f t b h T B hd shs (takeF T B hd shs A line k).1 → Q (.int (takeF T B hd shs A line k).2) H') ∧ (¬ takeOk A line k → E (NP K) none H)
section
variable {P : Program} {w : World} {K : PySem.W.Frag} {mg : Str → Option Value} {base : Heap} {tb : Addr}
theorem sc_Account_take_back : FnScope ["self", "line", "many", "worth"] ["self", "line", "many"] (defScope s_Account_take_back) := ⟨rfl, rfl, rfl, by decide +kernel, rfl, by decide +kernel, by decide +kernel⟩
theorem ok_Account_take_back (T : TX K mg) (W : ∀ s, Met P w K mg base 3 (sortC K s) "wanted" (spWanted tb K s)) : MetX P w K mg base 11 (CAccount K) "take_back" (spTake tb K) := by
  obtain ⟨fd, F⟩ := T.df_Account_take_back
  refine ⟨_, fd, _, T.c_Account, T.m_Account_take_back, F.bindsN (ps := ["self", "line", "many"]) fun _ _ _ _ _ _ us hl => match us, hl with | [_, _, _], _ => rfl, F.ok (k := 10) sc_Account_take_back (fun vs H Q E h => ?_) fun cdv A outer s H vs Q E hr h => ?_⟩
  · obtain ⟨S, x, m, f, t, b, h, D, B, hd, shs, A, line, k, rfl, _⟩ := h
    rfl
  have mt_worth_of : Met P w K mg base 2 (CAccount K) "worth_of" (spWorth tb K) := ok_Account_worth_of T
  have mt_settled : Met P w K mg base 1 (CAccount K) "settled" (spSettled tb K) := ok_Account_settled T
  have mt_due_again : Met P w K mg base 10 (CAccount K) "due_again" (spDue tb K) := ok_Account_due_again T W
  obtain ⟨xP, kP, bP, tP⟩ := He.exc_ok (T.d.fact 153 (by rfl))
  obtain ⟨S, x, m, f, t, b, h, D, B, hd, shs, A, line, k, rfl, a, ok, q, qe⟩ := h
  refine ⟨_, (pss_cons (ps_if0 (PW.pt (pw_or (pt_not (pt_chain op_le op_lt pe_int (pv 1) (pe_callB call_len_seq rfl T.f_len B_len (pa_cons (pe_fld (pv 0) rfl) pa_nil)))) (pw_or1 (pt_not (pt_chain op_le op_le pe_int (pv 2) (pe_ix ix_list (pe_fld (pv 0) rfl) (pv 1) (fun _ _ => rfl)))))))
      (pss_one (ps_raise rfl (takes_of rfl rfl rfl rfl) (pmk_own PySem.F.excBase_ValueError xP T.g_NoPieces kP (raises_own bP tP) rfl))))
    (PSs.nox
    (pss_cons (ps_set (i := 3) sc_Account_take_back.nd rfl (Or.inl rfl) (pe_mt mt_worth_of hr (by decide) (pv 0) (pa_cons (pv 1) (pa_cons (pv 2) pa_nil))))
    (pss_cons (ps_augS (pe_fld (pv 0) rfl) (pv 1) get_list (pv 2) ip_sub set_list)
    (pss_cons (ps_if0 (pt_cmpR op_eq (pe_fld (pe_fld (pv 0) rfl) rfl) pe_str (nomark _))
      (pss_one (ps_ret (pe_mt mt_settled hr (by decide) (pv 0) (pa_cons (pe_mt0 mt_due_again hr (by decide) (pv 0)) pa_nil)))))
    (pss_cons (ps_fldaug (pv 0) (pv 3) in_sub)
    (pss_one (ps_ret (pv 3))))))))), ?_⟩
  obtain ⟨dx, s, o, hx, hs, ho⟩ := a.obj
  refine seq_if0 (decide (¬ takeOk A line k)) (fun R r => ?_) (fun hb => ?_) (fun hb => ?_)
  · have no : ¬ takeOk A line k → R true H := fun z => by rw [decide_eq_true z] at r; exact r
    have ys : takeOk A line k → R false H := fun z => by rw [decide_eq_false (fun y => y z)] at r; exact r
    refine ⟨_, rfl, _, _, rfl, rfl, _, rfl, ?_⟩
    refine if_d (fun c1 => ⟨_, rfl, T.r_Account_many hx ⟨m, _, rfl, .inl (SqL.of a.hm), _, _, rfl, rfl, _, rfl, ?_⟩⟩) fun c1 => ⟨_, rfl, iteT (no fun z => c1 z.1.1)⟩
    rw [ivs_len]
    refine if_nd (fun c2 => no fun z => c2 z.1.2) fun c2 => ?_
    refine ⟨_, rfl, _, _, rfl, rfl, _, rfl, ?_⟩
    refine if_d (fun c3 => ⟨_, rfl, T.r_Account_many hx ⟨_, rfl, m, _, line, _, rfl, rfl, SqL.of a.hm, at_ivs c1 c2, _, _, rfl, rfl, _, rfl, ?_⟩⟩) fun c3 => ⟨_, rfl, no fun z => c3 z.2.1⟩
    by_cases c4 : k ≤ gi A.many line
    · rw [decide_eq_true c4]; exact ys ⟨⟨c1, c2⟩, c3, c4⟩
    · rw [decide_eq_false c4]; exact no fun z => c4 z.2.2
  · exact qe (of_decide_eq_true hb)
  have tk : takeOk A line k := Decidable.not_not.mp (of_decide_eq_false hb)
  have q := q tk
  unfold takeF at q
  refine seq_set ⟨_, rfl, x, dx, _, rfl, hx, by kernel_rfl, _, rfl, _, rfl, S, x, m, f, t, b, h, D, B, hd, shs, A, line, k, rfl, a, ok.mlen, a.shop.bok.len, tk.1, fun H1 g1 => ?_⟩
  have a1 := a.gr g1
  have hx1 := g1.ins hx
  have nmx : m ≠ x := fun e => by have := a.hm; rw [e, hx] at this; cases this
  have nfx : f ≠ x := fun e => by have := a.hf; rw [e, hx] at this; cases this
  refine ⟨_, rfl, T.r_Account_many hx1 ⟨_, rfl, m, _, line, _, rfl, rfl, SqL.of a1.hm, tk.1.1, at_ivs tk.1.1 tk.1.2, _, rfl, _, _, rfl, rfl, set_in (tb := tb) (GrB.refl _) a1.hm tk.1.1 tk.1.2 fun H2 g2 hm2 => ?_⟩⟩
  have hx2 := g2.ins hx1 (by simpa using Ne.symm nmx)
  have sub2 : GrB tb [x, m, f] H1 H2 := g2.mono fun b hb => by rw [List.mem_singleton.mp hb]; simp
  have a2 : AccAt K tb S H2 x m f t b h D B hd shs (lessF A line k) := a1.step sub2 hx2 hm2 (g2.lst a1.hf (by simpa using Ne.symm a.ne)) (fun H3 g3 => g3.lst (ord_cut (tb := tb) g1 (fun b hb => absurd hb (by simp)) hs)) (ord_cut g2 (fun b hb => by rw [List.mem_singleton.mp hb]; exact a.mm) (ord_cut (tb := tb) g1 (fun b hb => absurd hb (by simp)) ho))
  have g12 : GrB tb [x, m, f] H H2 := g1.of.trans sub2
  obtain ⟨ta, dt, pp, uu, rr, vs, rs, rfl, hta, _⟩ := a2.shop.till
  obtain ⟨_, hta⟩ := cut_some hta
  dsimp only
  refine seq_if0 (decide (D.back = "again")) (fun R r => ?_) (fun hb => ?_) (fun hb => ?_)
  · refine ⟨_, rfl, T.r_Account_counter hx2 (T.r_Till_back hta ⟨rfl, _, rfl, ?_⟩)⟩
    rw [dec_str]
    exact r
  · rw [if_pos (of_decide_eq_true hb)] at q
    refine ⟨_, rfl, x, dx, _, rfl, hx2, by kernel_rfl, _, rfl, x, dx, _, rfl, hx2, by kernel_rfl, S, x, m, f, _, b, h, D, B, hd, shs, lessF A line k, rfl, a2, less_ok ok tk, fun H3 g3 a3 => ?_⟩
    exact ⟨S, x, m, f, _, b, h, D, B, hd, shs, (dueF D B hd (lessF A line k)).1, _, rfl, a3, fun H4 g4 a4 => q H4 ((g12.trans g3).trans g4) a4⟩
  · rw [if_neg (of_decide_eq_false hb)] at q
    refine ⟨_, rfl, x, _, dx, _, _, rfl, hx2, T.c_Account, T.n_Account_paid, aAccount_paid, _, rfl, _, _, rfl, rfl, dx, _, hx2, show 9 < 1000 by decide, ?_⟩
    rw [aAccount_p_paid]
    have g3 : GrB tb [x] H2 (upd H2 x (.ins (CAccount K) dx (aAccount (.ref ta) b (.ref h) (.ref s) (.ref o) (.ref f) (.ref m) (.int (A.paid - worthF B shs A.many line k)) (.int A.owed)))) := GrB.put hx2 (fun _ z => nomatch z) fun _ z => nomatch z
    have g3' : GrB tb [x, m, f] H2 (upd H2 x (.ins (CAccount K) dx (aAccount (.ref ta) b (.ref h) (.ref s) (.ref o) (.ref f) (.ref m) (.int (A.paid - worthF B shs A.many line k)) (.int A.owed)))) := g3.mono fun b hb => by rw [List.mem_singleton.mp hb]; simp
    obtain ⟨dx2, s2, o2, hx2', hs2, ho2⟩ := a2.obj
    rw [hx2] at hx2'
    cases hx2'
    exact ⟨_, rfl, q _ (g12.trans g3') (a2.step g3' upd_same (g3.lst a2.hm (by simpa using nmx)) (g3.lst a2.hf (by simpa using nfx)) (fun H3 g => g.lst hs2) (ord_cut g3 (fun b hb => by rw [List.mem_singleton.mp hb]; exact a.mx) ho2))⟩
end
end VS
set_option Elab.async false
set_option linter.all false
set_option maxRecDepth 100000
set_option maxHeartbeats 4000000
namespace VS
open PySem PySem.Spec PyProof.Rows L2
/-! ### a new account -/
def acc0 (T : TillD) (B : BasketD) (o : List Int) : AccD := ⟨o, [], B.lines.map LineD.many, wholeF (stN T B o o.length), 0⟩
def shs0 (T : TillD) (B : BasketD) (o : List Int) : List Int := (stN T B o o.length).prices
theorem acc0_ok {T : TillD} {B : BasketD} {o : List Int} (bok : BasketOk T.parents.length B) (ho : OrdOk T o) (hl : o.length ≤ 1000) : AccOk T B (acc0 T B o) := by
  refine ⟨ho, by show o.length + 0 ≤ 1000; omega, List.length_map .., fun i k hk => ?_⟩
  have hk : (B.lines.map LineD.many)[i]? = some k := hk
  rw [List.getElem?_map] at hk
  cases e : B.lines[i]? with
  | none => rw [e] at hk; cases hk
  | some L =>
    rw [e] at hk
    cases hk
    exact ⟨(bok.lines L (List.mem_of_getElem? e)).many.1, L, rfl, Int.le_refl _⟩
/-- a wider heap, with more that may change, all of it new -/
theorem gr_wide {tb : Addr} {S S' : List Addr} {H H' : Hp} (g : Gr tb H H') (n : ∀ s ∈ S', s ∈ S ∨ H s = none) (k : Kind S' H') : Gr tb (cut S H) (cut S' H') := by
  refine ⟨fun b o hb _ t => ?_, fun b hb => ?_, fun t => tab_cut k (g.tab (gr_cut.tab t))⟩
  · obtain ⟨nS, e⟩ := cut_some hb
    refine cut_of (fun hs => ?_) (g.get e t)
    rcases n b hs with z | z
    · exact nS z
    · rw [z] at e; cases e
  · unfold cut at hb ⊢
    by_cases e : b ∈ S'
    · rcases n b e with z | z
      · exact if_pos z
      · split
        · rfl
        · exact z
    · rw [if_neg e] at hb
      split
      · rfl
      · exact g.free b hb
theorem AccAt.wide {K : PySem.W.Frag} {tb : Addr} {S S' : List Addr} {H H' : Hp} {x m f : Addr} {t b : V} {h : Addr} {T : TillD} {B : BasketD} {hd shs : List Int} {A : AccD} (a : AccAt K tb S H x m f t b h T B hd shs A) (g : Gr tb H H') (sub : ∀ s ∈ S, s ∈ S') (n : ∀ s ∈ S', s ∈ S ∨ H s = none)
    (k : Kind S' H') : AccAt K tb S' H' x m f t b h T B hd shs A := by
  obtain ⟨dx, s, o, hx, hs, ho⟩ := a.obj
  have gw := gr_wide g n k
  exact ⟨sub _ a.mx, sub _ a.mm, sub _ a.mf, a.ne, ⟨dx, s, o, g.ins hx, gw.lst hs, gw.lst ho⟩, g.lst a.hm, g.lst a.hf, a.shop.gr gw, k⟩
def spAccount (tb : Addr) (K : PySem.W.Frag) : Sp := fun vs H Q _ => ∃ S p dx t b h o T B hd os, vs = [.ref p, t, b, h, .ref o] ∧ H p = some (.ins (CAccount K) dx []) ∧ p ∈ S ∧ Kind S H ∧ Shop K tb (cut S H) t b h T B hd ∧ cut S H o = some (.lst (ivs os)) ∧ OrdOk T os ∧ os.length ≤ 1000 ∧ faultF T B hd os = none ∧
  ∀ H' m f h', GrB tb [p] H H' → H m = none → H f = none → AccAt K tb (f :: m :: S) H' p m f t b h' T B hd (shs0 T B os) (acc0 T B os) → Q .non H'
section
variable {P : Program} {w : World} {K : PySem.W.Frag} {mg : Str → Option Value} {base : Heap} {tb : Addr}
theorem sc_Account_init : FnScope ["self", "till", "basket", "hand", "order", "bill", "line"] ["self", "till", "basket", "hand", "order"] (defScope s_Account_init) := ⟨rfl, rfl, rfl, by decide +kernel, rfl, by decide +kernel, by decide +kernel⟩
theorem ok_Account (T : TX K mg) (W : ∀ s, Met P w K mg base 3 (sortC K s) "wanted" (spWanted tb K s)) : Mak P w K mg base 8 "Account" (CAccount K) (spAccount tb K) [] := by
  obtain ⟨fd, F⟩ := T.df_Account_init
  refine mak_of T.g_Account T.k_Account (F.ok (k := 7) sc_Account_init (fun vs H Q E h => ?_) fun cdv A outer s H vs Q E hr h => ?_) (F.bindsN (ps := ["self", "till", "basket", "hand", "order"]) fun _ _ _ _ _ _ us hl => match us, hl with | [_, _, _, _, _], _ => rfl) .nil
  · obtain ⟨S, p, dx, t, b, h, o, D, B, hd, os, rfl, _⟩ := h
    rfl
  have c_priced : Cal P w K mg base 7 "priced" (spPriced tb K) := ok_priced T W
  obtain ⟨S, p, dx, t, b, h, o, D, B, hd, os, rfl, hp, pS, kd, sh, ho, hord, hlen, hfa, q⟩ := h
  obtain ⟨hh, rfl, hhd⟩ := id sh.hand
  obtain ⟨ba, db, lb, vls, rfl, hba, hlb, hpl⟩ := id sh.bas
  refine ⟨_, PSs.nox
    (pss_cons (ps_set (i := 5) sc_Account_init.nd rfl (Or.inl rfl) (pe_c c_priced hr (by decide) rfl (pa_cons (pv 1) (pa_cons (pv 2) (pa_cons (pv 3) (pa_cons (pv 4) pa_nil))))))
    (pss_cons (ps_fld (pv 0) (pv 1) rfl)
    (pss_cons (ps_fld (pv 0) (pv 2) rfl)
    (pss_cons (ps_fld (pv 0) (pe_callTy call_list_of rfl T.f_list B_list (pa_cons (pv 3) pa_nil)) rfl)
    (pss_cons (ps_fld (pv 0) (pe_fld (pv 5) rfl) rfl)
    (pss_cons (ps_fld (pv 0) (pe_callTy call_list_of rfl T.f_list B_list (pa_cons (pv 4) pa_nil)) rfl)
    (pss_cons (ps_fld (pv 0) (pe_lst pa_nil) rfl)
    (pss_cons (ps_fld (pv 0) (pe_lc (own := [("line", 6)]) (g := (gName 6)) (tt := tYes) rfl sc_Account_init.nd (pi_list (pe_fld (pv 2) rfl)) (blkOk_by (own := [("line", 6)]) (N := ["self", "till", "basket", "hand", "order", "bill", "line"]) (sc := defScope s_Account_init) (by decide +kernel)) (fun _ _ _ _ _ => (pg_name (i := 6) sc_Account_init.nd rfl (Or.inl rfl))) (fun _ _ _ _ _ => pts_nil) (fun _ _ _ _ _ => (pe_fl T (pv 6) rfl))) rfl)
    (pss_cons (ps_fld (pv 0) (pe_fld (pv 5) rfl) rfl)
    (pss_one (ps_fld (pv 0) pe_int rfl))))))))))), ?_⟩
  have lv := hpl.length
  have bk : ∀ {H'}, GrB tb [p] H H' → Gr tb (cut S H) H' := fun g => gr_cutB g fun b hb => by rw [List.mem_singleton.mp hb]; exact pS
  have nS : ∀ {c}, H c = none → c ∉ S := fun hc hs => by obtain ⟨o, ho, _⟩ := kd _ hs; rw [hc] at ho; cases ho
  -- bill
  refine seq_set ⟨_, rfl, _, rfl, _, rfl, _, rfl, t, _, _, o, D, B, hd, os, rfl, sh.gr gr_cut, (cut_some ho).2, hord, hlen, hfa, fun H1 y g1 ⟨yd, yo, yst, pr, yc, hy, hpr, npr⟩ => ?_⟩
  have h1 := g1.ins hp
  have k1 : GrB tb [p] H H1 := g1.of
  have npy : p ≠ y := fun e => by
    rw [e, hy] at h1
    have h1 := congrArg (fun o : Option HO => match o with | some (.ins _ _ fs) => fs.length | _ => 0) h1
    simp [aBill] at h1
  have npp : p ≠ pr := ne_of_none hp npr
  -- counter
  refine ⟨_, rfl, _, rfl, st_fld (tb := tb) h1 T.c_Account T.n_Account_counter (by decide) aAccount_i0 fun H2 g2 h2 => ?_⟩
  refine ⟨_, rfl, _, rfl, st_fld (tb := tb) h2 T.c_Account T.n_Account_bought (by simp) aAccount_i1 fun H3 g3 h3 => ?_⟩
  have k3 := (k1.trans g2).trans g3
  -- holding
  refine ⟨_, rfl, hh, _, rfl, .inl (SqL.of ((bk k3).lst hhd)), fun l1 hl1 => ⟨_, rfl, ?_⟩⟩
  have n1 : p ≠ l1 := ne_of_none h3 hl1
  refine st_fld (tb := tb) (Gr.ins (tb := tb) (Gr.new hl1) h3) T.c_Account T.n_Account_holding (by simp) aAccount_i2 fun H4 g4 h4 => ?_
  have k4 : GrB tb [p] H H4 := (k3.add hl1).trans g4
  have r14 : H4 l1 = some (.lst (ivs hd)) := g4.lst upd_same (by simpa using Ne.symm n1)
  -- shares
  have toY : ∀ {H'}, GrB tb [p] H1 H' → H' y = some (.ins (CBill K) yd (aBill yo yst (.ref pr) (.int yc) (.int (wholeF (stN D B os os.length))))) := fun g => g.ins hy (by simpa using Ne.symm npy)
  have j4 : GrB tb [p] H1 H4 := ((g2.trans g3).add hl1).trans g4
  refine ⟨_, rfl, T.r_Bill_prices (toY j4) ⟨_, rfl, st_fld (tb := tb) h4 T.c_Account T.n_Account_shares (by simp) aAccount_i3 fun H5 g5 h5 => ?_⟩⟩
  have k5 := k4.trans g5
  have j5 := j4.trans g5
  -- order
  refine ⟨_, rfl, o, _, rfl, .inl (SqL.of ((bk k5).lst ho)), fun l2 hl2 => ⟨_, rfl, ?_⟩⟩
  have n2 : p ≠ l2 := ne_of_none h5 hl2
  refine st_fld (tb := tb) (Gr.ins (tb := tb) (Gr.new hl2) h5) T.c_Account T.n_Account_order (by simp) aAccount_i4 fun H6 g6 h6 => ?_
  have k6 : GrB tb [p] H H6 := (k5.add hl2).trans g6
  have r26 : H6 l2 = some (.lst (ivs os)) := g6.lst upd_same (by simpa using Ne.symm n2)
  -- fallen
  refine ⟨Nat.zero_le _, fun lf hlf => ⟨_, rfl, ?_⟩⟩
  have nf : p ≠ lf := ne_of_none h6 hlf
  refine st_fld (tb := tb) (Gr.ins (tb := tb) (Gr.new hlf) h6) T.c_Account T.n_Account_fallen (by simp) aAccount_i5 fun H7 g7 h7 => ?_
  have k7 : GrB tb [p] H H7 := (k6.add hlf).trans g7
  have rf7 : H7 lf = some (.lst []) := g7.lst upd_same (by simpa using Ne.symm nf)
  -- many
  refine ⟨_, rfl, T.r_Basket_lines ((bk k7).ins hba) ⟨_, rfl, ⟨_, SqL.of ((bk k7).lst hlb)⟩, fun lm hlm => ?_⟩⟩
  refine lc_gr (tb := tb) (walk_list (xs := vls)) (ivs (B.lines.map LineD.many)) (by rw [ivs_len, List.length_map]; exact lv.symm) (by rw [lv]; exact Nat.le_trans sh.bok.len (by decide)) hlm (fun H' g => SqL.of (g.lst ((bk k7).lst hlb))) ?_ fun H8 g8 hm8 => ⟨_, rfl, ?_⟩
  · rintro i v H' _ y N hi hy g ⟨rfl, hv⟩ kk
    obtain ⟨L, hL, c2, dc, rfl, hc2⟩ := paired_get hpl hv
    obtain ⟨z, hz, rfl⟩ := ivs_of hy
    rw [List.getElem?_map, hL] at hz
    cases hz
    exact ⟨rfl, _, rfl, T.r_Line_many (((bk k7).trans g).ins hc2) (kk _ (GrB.refl _))⟩
  have nm : p ≠ lm := ne_of_none h7 hlm
  have nmf : lm ≠ lf := Ne.symm (ne_of_none rf7 hlm)
  refine st_fld (tb := tb) (g8.ins h7) T.c_Account T.n_Account_many (by simp) aAccount_i6 fun H9 g9 h9 => ?_
  have k9 : GrB tb [p] H H9 := (k7.trans g8.of).trans g9
  -- paid
  have j9 : GrB tb [p] H1 H9 := ((((((j5.add hl2).trans g6).add hlf).trans g7).trans g8.of).trans g9)
  refine ⟨_, rfl, T.r_Bill_total (toY j9) ⟨_, rfl, st_fld (tb := tb) h9 T.c_Account T.n_Account_paid (by simp) aAccount_i7 fun H10 g10 h10 => ?_⟩⟩
  refine ⟨_, rfl, st_fld (tb := tb) h10 T.c_Account T.n_Account_owed (by simp) aAccount_i8 fun H11 g11 h11 => ?_⟩
  have k11 := (k9.trans g10).trans g11
  have f0 : H lf = none := k6.free _ hlf
  have m0 : H lm = none := k7.free _ hlm
  have kd' : Kind (lf :: lm :: S) H11 := by
    intro s hs
    rcases List.mem_cons.mp hs with rfl | hs
    · exact ⟨_, g11.lst (g10.lst (g9.lst (g8.lst rf7) (by simpa using Ne.symm nf)) (by simpa using Ne.symm nf)) (by simpa using Ne.symm nf), (fun _ z => nomatch z), (fun _ z => nomatch z)⟩
    rcases List.mem_cons.mp hs with rfl | hs
    · exact ⟨_, g11.lst (g10.lst (g9.lst hm8 (by simpa using Ne.symm nm)) (by simpa using Ne.symm nm)) (by simpa using Ne.symm nm), (fun _ z => nomatch z), (fun _ z => nomatch z)⟩
    by_cases e : s = p
    · rw [e]; exact ⟨_, h11, (fun _ z => nomatch z), (fun _ z => nomatch z)⟩
    · obtain ⟨o, ho, w1, w2⟩ := kd s hs
      exact ⟨o, k11.keep s o ho (by simpa using e) w1, w1, w2⟩
  have outS : ∀ {c}, H c = none → c ≠ lf → c ≠ lm → c ∉ lf :: lm :: S := fun hc e1 e2 hs => by
    rcases List.mem_cons.mp hs with z | hs
    · exact e1 z
    rcases List.mem_cons.mp hs with z | hs
    · exact e2 z
    exact nS hc hs
  have l10 : H l1 = none := k3.free _ hl1
  have l20 : H l2 = none := k5.free _ hl2
  have sgr : Gr tb (cut S H) (cut (lf :: lm :: S) H11) := by
    refine ⟨fun b o hb _ t => ?_, fun b hb => ?_, fun t => tab_cut kd' ((bk k11).tab t)⟩
    · obtain ⟨nb, e⟩ := cut_some hb
      exact cut_of (fun hs => by
        rcases List.mem_cons.mp hs with z | hs
        · rw [z, f0] at e; cases e
        rcases List.mem_cons.mp hs with z | hs
        · rw [z, m0] at e; cases e
        exact nb hs) (k11.keep b o e (fun z => nb (by rw [List.mem_singleton.mp z]; exact pS)) t)
    · unfold cut at hb ⊢
      by_cases e : b ∈ lf :: lm :: S
      · rcases List.mem_cons.mp e with rfl | e
        · split; rfl; exact f0
        rcases List.mem_cons.mp e with rfl | e
        · split; rfl; exact m0
        exact if_pos e
      · rw [if_neg e] at hb
        rw [if_neg fun z => e (List.mem_cons_of_mem _ (List.mem_cons_of_mem _ z))]
        exact k11.free b hb
  have sS := sh.gr sgr
  have i1 : ∀ {c xs}, c ≠ p → H7 c = some (.lst xs) → H11 c = some (.lst xs) := fun e h => g11.lst (g10.lst (g9.lst (g8.lst h) (by simpa using e)) (by simpa using e)) (by simpa using e)
  have r17 : H7 l1 = some (.lst (ivs hd)) := g7.lst (Gr.lst (tb := tb) (Gr.new hlf) (g6.lst (Gr.lst (tb := tb) (Gr.new hl2) (g5.lst r14 (by simpa using Ne.symm n1))) (by simpa using Ne.symm n1))) (by simpa using Ne.symm n1)
  have r27 : H7 l2 = some (.lst (ivs os)) := g7.lst (Gr.lst (tb := tb) (Gr.new hlf) r26) (by simpa using Ne.symm n2)
  have rp1 : H11 pr = some (.lst (ivs (stN D B os os.length).prices)) := ((j9.trans g10).trans g11).lst hpr (by simpa using Ne.symm npp)
  have e1f : l1 ≠ lf := ne_of_none (g6.lst (Gr.lst (tb := tb) (Gr.new hl2) (g5.lst r14 (by simpa using Ne.symm n1))) (by simpa using Ne.symm n1)) hlf
  have e2f : l2 ≠ lf := ne_of_none r26 hlf
  have epf : pr ≠ lf := ne_of_none (((j5.add hl2).trans g6).lst hpr (by simpa using Ne.symm npp)) hlf
  have epm : pr ≠ lm := ne_of_none ((((j5.add hl2).trans g6).add hlf |>.trans g7).lst hpr (by simpa using Ne.symm npp)) hlm
  refine q H11 lm lf l1 k11 m0 f0 ⟨by simp [pS], by simp, by simp, nmf, ⟨dx, pr, l2, h11, cut_of (outS npr epf epm) rp1, cut_of (outS l20 e2f (ne_of_none r27 hlm)) (i1 (Ne.symm n2) r27)⟩, ?_, ?_, ⟨sS.till, sS.bas, ⟨l1, rfl, cut_of (outS l10 e1f (ne_of_none r17 hlm)) (i1 (Ne.symm n1) r17)⟩, sS.tok, sS.bok, sS.c0, sS.hl, sS.tab⟩, kd'⟩
  · exact g11.lst (g10.lst (g9.lst hm8 (by simpa using Ne.symm nm)) (by simpa using Ne.symm nm)) (by simpa using Ne.symm nm)
  · exact i1 (Ne.symm nf) rf7
end
end VS
set_option Elab.async false
set_option linter.all false
set_option maxRecDepth 100000
set_option maxHeartbeats 4000000
namespace VS
open PySem PySem.Spec PyProof.Rows L2
/-! ### what the law draws -/
def Scr (K : PySem.W.Frag) (H : Hp) (s : Addr) : Prop := ∃ ns : List Int, SqL K H s (ivs ns) ∧ ns.length ≤ 63
theorem Scr.gr {K : PySem.W.Frag} {tb : Addr} {H H' : Hp} {s : Addr} (g : Gr tb H H') : Scr K H s → Scr K H' s := fun ⟨ns, h, l⟩ => ⟨ns, g.seq h, l⟩
def Sml (k : Int) : Prop := 0 ≤ k ∧ k ≤ 1000000
theorem sml {k : Int} (h : Sml k) : CMul k k ∧ (∀ i, CMul i k) := by
  unfold Sml at h
  exact ⟨.inl ⟨by omega, by omega⟩, fun i => .inr ⟨by omega, by omega⟩⟩
def spCell (K : PySem.W.Frag) : Sp := fun vs H Q _ => ∃ s k, vs = [.ref s, .int k] ∧ Scr K H s ∧ 0 ≤ k ∧ ∀ c, Q (.int c) H
def spSome (K : PySem.W.Frag) : Sp := fun vs H Q _ => ∃ s k t n, vs = [.ref s, .int k, .int t, .int n] ∧ Scr K H s ∧ Sml k ∧ Sml t ∧ 0 < n ∧ ∀ c, 0 ≤ c → c < n → Q (.int c) H
def spPrice (K : PySem.W.Frag) : Sp := fun vs H Q _ => ∃ s k t, vs = [.ref s, .int k, .int t] ∧ Scr K H s ∧ Sml k ∧ (0 ≤ t ∧ t ≤ 100000) ∧ ∀ c, Coin c → Q (.int c) H
def spParents (tb : Addr) (K : PySem.W.Frag) : Sp := fun vs H Q _ => ∃ s, vs = [.ref s] ∧ Scr K H s ∧ ∀ ps : List (Option Int), ParOk ps → 1 ≤ ps.length → ps.length ≤ 6 → NewL tb H (ps.map optV) Q
section
variable {P : Program} {w : World} {K : PySem.W.Frag} {mg : Str → Option Value} {base : Heap} {tb : Addr}
theorem sc_law_cell_at : FnScope ["_law_script", "_law_k"] ["_law_script", "_law_k"] (defScope s_law_cell_at) := ⟨rfl, rfl, rfl, by decide +kernel, rfl, by decide +kernel, by decide +kernel⟩
theorem ok_law_cell_at (T : TX K mg) : Cal P w K mg base 1 "_law_cell_at" (spCell K) := by
  obtain ⟨fd, F⟩ := T.df_law_cell_at
  refine cal_of F T.g_law_cell_at (F.ok (k := 0) sc_law_cell_at (fun vs H Q E h => ?_) fun cdv A outer s H vs Q E hr h => ?_) (F.bindsN (ps := ["_law_script", "_law_k"]) fun _ _ _ _ _ _ us hl => match us, hl with | [_, _], _ => rfl)
  · obtain ⟨s, k, rfl, _⟩ := h
    rfl
  obtain ⟨s, k, rfl, ⟨ns, hs, _⟩, k0, q⟩ := h
  refine ⟨_, PSs.nox
    (pss_cons (ps_if0 (pt_cmpR op_lt (pv 1) (pe_callB call_len_seq rfl T.f_len B_len (pa_cons (pv 0) pa_nil)) (nomark _))
      (pss_one (ps_ret (pe_ix ix_list (pv 0) (pv 1) (fun _ _ => rfl)))))
    (pss_one (ps_ret pe_int))), ?_⟩
  refine seq_if0 (decide (k < ns.length)) (fun R r => ?_) (fun hb => ?_) (fun hb => ?_)
  · refine ⟨_, rfl, _, rfl, s, _, rfl, .inl hs, _, _, rfl, rfl, _, rfl, ?_⟩
    rw [ivs_len]
    exact r
  · have := of_decide_eq_true hb
    exact ⟨_, rfl, _, rfl, s, _, k, _, rfl, rfl, hs, at_ivs k0 this, q _⟩
  · exact q 0
theorem sc_law_some : FnScope ["_law_script", "_law_k", "_law_salt", "_law_many", "_law_cell", "_law_mixed"] ["_law_script", "_law_k", "_law_salt", "_law_many"] (defScope s_law_some) := ⟨rfl, rfl, rfl, by decide +kernel, rfl, by decide +kernel, by decide +kernel⟩
theorem ok_law_some (T : TX K mg) : Cal P w K mg base 2 "_law_some" (spSome K) := by
  obtain ⟨fd, F⟩ := T.df_law_some
  refine cal_of F T.g_law_some (F.ok (k := 1) sc_law_some (fun vs H Q E h => ?_) fun cdv A outer s H vs Q E hr h => ?_) (F.bindsN (ps := ["_law_script", "_law_k", "_law_salt", "_law_many"]) fun _ _ _ _ _ _ us hl => match us, hl with | [_, _, _, _], _ => rfl)
  · obtain ⟨s, k, t, n, rfl, _⟩ := h
    rfl
  have c_law_cell_at : Cal P w K mg base 1 "_law_cell_at" (spCell K) := ok_law_cell_at T
  obtain ⟨s, k, t, n, rfl, hs, k0, t0, n0, q⟩ := h
  refine ⟨_, PSs.nox
    (pss_cons (ps_set (i := 4) sc_law_some.nd rfl (Or.inl rfl) (pe_op op_add (pe_op op_mod (pe_c c_law_cell_at hr (by decide) rfl (pa_cons (pv 0) (pa_cons (pv 1) pa_nil))) pe_int) pe_int))
    (pss_cons (ps_set (i := 5) sc_law_some.nd rfl (Or.inl rfl) (pe_op op_mod (pe_op op_mul (pv 4) (pe_op op_add (pe_op op_add pe_int (pe_op op_mul (pe_op op_mul pe_int (pv 1)) (pv 1))) (pe_op op_mul (pe_op op_mul pe_int (pv 2)) (pv 2)))) pe_int))
    (pss_one (ps_ret (pe_op op_mod (pe_op op_fdiv (pe_op op_mod (pe_op op_mul (pv 5) (pv 5)) pe_int) pe_int) (pv 3)))))), ?_⟩
  have mk := (sml k0).2
  have mt := (sml t0).2
  refine seq_set ⟨_, rfl, _, rfl, s, k, rfl, hs, k0.1, fun c => ⟨_, _, rfl, rfl, show (0 : Int) < 1000003 by decide, _, _, rfl, rfl, ?_⟩⟩
  have c0 := Int.emod_nonneg c (show (1000003 : Int) ≠ 0 by decide)
  have c1 := Int.emod_lt_of_pos c (show (0 : Int) < 1000003 by decide)
  refine seq_set ⟨_, rfl, _, rfl, _, _, rfl, rfl, mk _, _, rfl, _, _, rfl, rfl, mk _, _, _, rfl, rfl, _, rfl, _, _, rfl, rfl, mt _, _, rfl, _, _, rfl, rfl, mt _, _, _, rfl, rfl, _, _, rfl, rfl, .inl ⟨by omega, by omega⟩, _, _, rfl, rfl, show (0 : Int) < 2147483647 by decide, ?_⟩
  generalize (c % 1000003 + 1) * (48271 + 1000 * k * k + 69621 * t * t) = e
  have e0 := Int.emod_nonneg e (show (2147483647 : Int) ≠ 0 by decide)
  have e1 := Int.emod_lt_of_pos e (show (0 : Int) < 2147483647 by decide)
  refine ⟨_, rfl, _, rfl, _, _, rfl, rfl, .inl ⟨by omega, by omega⟩, _, _, rfl, rfl, show (0 : Int) < 2147483629 by decide, _, _, rfl, rfl, ⟨show (0 : Int) < 3 by decide, show (3 : Int) < 1073741824 by decide⟩, _, rfl, _, _, rfl, rfl, n0, ?_⟩
  exact q _ (Int.emod_nonneg _ (by omega)) (Int.emod_lt_of_pos _ n0)
theorem sc_law_price : FnScope ["_law_script", "_law_k", "_law_salt", "_law_how"] ["_law_script", "_law_k", "_law_salt"] (defScope s_law_price) := ⟨rfl, rfl, rfl, by decide +kernel, rfl, by decide +kernel, by decide +kernel⟩
theorem ok_law_price (T : TX K mg) : Cal P w K mg base 3 "_law_price" (spPrice K) := by
  obtain ⟨fd, F⟩ := T.df_law_price
  refine cal_of F T.g_law_price (F.ok (k := 2) sc_law_price (fun vs H Q E h => ?_) fun cdv A outer s H vs Q E hr h => ?_) (F.bindsN (ps := ["_law_script", "_law_k", "_law_salt"]) fun _ _ _ _ _ _ us hl => match us, hl with | [_, _, _], _ => rfl)
  · obtain ⟨s, k, t, rfl, _⟩ := h
    rfl
  have c_law_some : Cal P w K mg base 2 "_law_some" (spSome K) := ok_law_some T
  obtain ⟨s, k, t, rfl, hs, k0, ⟨t0, t1⟩, q⟩ := h
  refine ⟨_, PSs.nox
    (pss_cons (ps_set (i := 3) sc_law_price.nd rfl (Or.inl rfl) (pe_c c_law_some hr (by decide) rfl (pa_cons (pv 0) (pa_cons (pv 1) (pa_cons (pv 2) (pa_cons pe_int pa_nil))))))
    (pss_cons (ps_if0 (pt_cmpR op_lt (pv 3) pe_int (nomark _))
      (pss_one (ps_ret (pe_c c_law_some hr (by decide) rfl (pa_cons (pv 0) (pa_cons (pv 1) (pa_cons (pe_op op_add (pv 2) pe_int) (pa_cons pe_int pa_nil))))))))
    (pss_cons (ps_if0 (pt_cmpR op_eq (pv 3) pe_int (nomark _))
      (pss_one (ps_ret (pe_op op_mul pe_int (pe_c c_law_some hr (by decide) rfl (pa_cons (pv 0) (pa_cons (pv 1) (pa_cons (pe_op op_add (pv 2) pe_int) (pa_cons pe_int pa_nil)))))))))
    (pss_one (ps_ret (pe_op op_add (pe_op op_mul (pe_c c_law_some hr (by decide) rfl (pa_cons (pv 0) (pa_cons (pv 1) (pa_cons (pe_op op_add (pv 2) pe_int) (pa_cons pe_int pa_nil))))) pe_int) (pe_c c_law_some hr (by decide) rfl (pa_cons (pv 0) (pa_cons (pv 1) (pa_cons (pe_op op_add (pv 2) pe_int) (pa_cons pe_int pa_nil))))))))))), ?_⟩
  have ts : ∀ d : Int, 0 ≤ d → d ≤ 10 → Sml (t + d) := fun d h0 h1 => ⟨by omega, by omega⟩
  refine seq_set ⟨_, rfl, _, rfl, _, rfl, s, k, t, 4, rfl, hs, k0, ⟨t0, by omega⟩, by decide, fun c c0 c1 => ?_⟩
  refine seq_if0 (decide (c < 2)) (fun R r => ⟨_, rfl, _, _, rfl, rfl, _, rfl, r⟩) (fun hb => ?_) (fun hb => ?_)
  · exact ⟨_, rfl, _, rfl, _, rfl, _, _, rfl, rfl, s, k, _, 10, rfl, hs, k0, ts 1 (by decide) (by decide), by decide, fun d d0 d1 => q d ⟨d0, by omega⟩⟩
  refine seq_if0 (c == 2) (fun R r => ?_) (fun hb => ?_) (fun hb => ?_)
  · refine ⟨_, rfl, rfl, _, rfl, ?_⟩
    rw [dec_int]
    exact r
  · exact ⟨_, rfl, _, rfl, _, rfl, _, _, rfl, rfl, s, k, _, 40, rfl, hs, k0, ts 1 (by decide) (by decide), by decide, fun d d0 d1 => ⟨_, _, rfl, rfl, .inr ⟨by omega, by omega⟩, q (25 * d) ⟨by omega, by omega⟩⟩⟩
  · exact ⟨_, rfl, _, rfl, _, rfl, _, _, rfl, rfl, s, k, _, 1000000, rfl, hs, k0, ts 1 (by decide) (by decide), by decide, fun d d0 d1 => ⟨_, _, rfl, rfl, .inl ⟨by omega, by omega⟩, _, rfl, _, rfl, _, rfl, _, _, rfl, rfl, s, k, _, 1000001, rfl, hs, k0, ts 2 (by decide) (by decide), by decide, fun e e0 e1 => ⟨_, _, rfl, rfl, q (d * 1000000 + e) ⟨by omega, by omega⟩⟩⟩⟩
theorem sc_law_parents : FnScope ["_law_script", "_law_parents_here", "_law_j"] ["_law_script"] (defScope s_law_parents) := ⟨rfl, rfl, rfl, by decide +kernel, rfl, by decide +kernel, by decide +kernel⟩
theorem ok_law_parents (T : TX K mg) : Cal P w K mg base 3 "_law_parents" (spParents tb K) := by
  obtain ⟨fd, F⟩ := T.df_law_parents
  refine cal_of F T.g_law_parents (F.ok (k := 2) sc_law_parents (fun vs H Q E h => ?_) fun cdv A outer s H vs Q E hr h => ?_) (F.bindsN (ps := ["_law_script"]) fun _ _ _ _ _ _ us hl => match us, hl with | [_], _ => rfl)
  · obtain ⟨s, rfl, _⟩ := h
    rfl
  have c_law_some : Cal P w K mg base 2 "_law_some" (spSome K) := ok_law_some T
  obtain ⟨s, rfl, hs, q⟩ := h
  refine ⟨_, PSs.nox
    (pss_cons (ps_set (i := 1) sc_law_parents.nd rfl (Or.inl rfl) (pe_lst pa_nil))
    (pss_cons (ps_for PassesOwn.never rfl (pi_range1 rfl T.f_range (pa_cons (pe_op op_add pe_int (pe_c c_law_some hr (by decide) rfl (pa_cons (pv 0) (pa_cons pe_int (pa_cons pe_int (pa_cons pe_int pa_nil)))))) pa_nil)) (pg_name (i := 2) sc_law_parents.nd rfl (Or.inl rfl))
      (pss_one (ps_if (PW.pt (pw_or (pt_cmpR op_eq (pv 2) pe_int (nomark _)) (pw_or1 (pt_cmpR op_eq (pe_c c_law_some hr (by decide) rfl (pa_cons (pv 0) (pa_cons pe_int (pa_cons (pe_op op_add pe_int (pv 2)) (pa_cons pe_int pa_nil))))) pe_int (nomark _)))))
        (pss_one (ps_expr (pe_bm PySem.F.plainAttrs_list PySem.F.slot_list_append PySem.F.type_list_append mt_append (pv 1) (pa_cons pe_non pa_nil))))
        (pss_one (ps_expr (pe_bm PySem.F.plainAttrs_list PySem.F.slot_list_append PySem.F.type_list_append mt_append (pv 1) (pa_cons (pe_c c_law_some hr (by decide) rfl (pa_cons (pv 0) (pa_cons pe_int (pa_cons (pe_op op_add pe_int (pv 2)) (pa_cons (pv 2) pa_nil))))) pa_nil)))))))
    (pss_one (ps_ret (pv 1))))), ?_⟩
  refine seq_set ⟨Nat.zero_le _, fun l hl => ?_⟩
  have g0 : Gr tb H (upd H l (.lst [])) := Gr.new hl
  refine ⟨_, rfl, s, 0, 1, 6, rfl, hs.gr g0, ⟨by decide, by decide⟩, ⟨by decide, by decide⟩, by decide, fun c c0 c1 => ⟨_, _, rfl, rfl, _, rfl, by omega, by omega, ?_⟩⟩
  refine for_it walk_range (fun i σ H' => ∃ v2 ps, σ = [some (.ref s), some (.ref l), v2] ∧ Gr tb H H' ∧ H' l = some (.lst (List.map optV ps)) ∧ ps.length = i ∧ ParOk ps)
    ⟨none, [], rfl, g0, upd_same, rfl, fun i k h => by simp at h⟩ (fun _ _ _ _ _ => trivial) ?_ ?_
  · rintro i _ σ _ H' hi ⟨v2, ps, rfl, g, hl', hps, po⟩ ⟨rfl, rfl⟩
    have hi6 : i < 6 := by omega
    have put : ∀ o : Option Int, (∀ k, o = some k → 0 ≤ k ∧ k < i) → ∃ v2 ps', [some (V.ref s), some (.ref l), some (.int (0 + (i : Int)))] = [some (.ref s), some (.ref l), v2] ∧ Gr tb H (upd H' l (.lst (List.map optV ps ++ [optV o]))) ∧ (upd H' l (.lst (List.map optV ps ++ [optV o]))) l = some (.lst (List.map optV ps')) ∧ ps'.length = i + 1 ∧ ParOk ps' := fun o ho => by
      refine ⟨_, ps ++ [o], rfl, g.putL hl hl', by rw [upd_same, List.map_append]; rfl, by rw [List.length_append, hps]; rfl, fun j k h => ?_⟩
      by_cases hj : j < ps.length
      · rw [List.getElem?_append_left hj] at h
        exact po j k h
      · rw [List.getElem?_append_right (by omega)] at h
        have ej : j = ps.length := by
          cases e : j - ps.length with
          | zero => omega
          | succ n => rw [e] at h; simp at h
        subst ej
        rw [Nat.sub_self] at h
        rw [hps]
        exact ho k (Option.some.inj h)
    have small : (List.map optV ps).length < sizeLine := small1000 (by rw [List.length_map]; omega)
    have hs' := hs.gr g
    refine ⟨_, rfl, rfl, _, rfl, ?_⟩
    refine if_d (fun _ => iteT ?_) fun h0 => ?_
    · exact ⟨_, rfl, .inl ⟨rfl, _, SqL.of hl'⟩, l, _, _, rfl, rfl, hl', small, put none fun k e => nomatch e⟩
    have i0 : i ≠ 0 := fun e => h0 (by subst e; rfl)
    refine ⟨_, rfl, _, rfl, _, _, rfl, rfl, s, 0, _, 3, rfl, hs', ⟨by decide, by decide⟩, ⟨by omega, by omega⟩, by decide, fun d d0 d1 => ⟨rfl, _, rfl, if_d (fun _ => ?_) fun _ => ?_⟩⟩
    · exact ⟨_, rfl, .inl ⟨rfl, _, SqL.of hl'⟩, l, _, _, rfl, rfl, hl', small, put none fun k e => nomatch e⟩
    · refine ⟨_, rfl, .inl ⟨rfl, _, SqL.of hl'⟩, _, rfl, _, rfl, _, _, rfl, rfl, _, rfl, s, 0, _, _, rfl, hs', ⟨by decide, by decide⟩, ⟨by omega, by omega⟩, by omega, fun e e0 e1 => ⟨l, _, _, rfl, rfl, hl', small, put (some e) fun k h => ?_⟩⟩
      cases h
      exact ⟨e0, by omega⟩
  · rintro σ H' ⟨v2, ps, rfl, g, hl', hps, po⟩
    exact ⟨_, rfl, q ps po (by omega) (by omega) l H' g hl hl'⟩
end
end VS
set_option Elab.async false
set_option linter.all false
set_option maxRecDepth 100000
set_option maxHeartbeats 4000000
namespace VS
open PySem PySem.Spec PyProof.Rows L2
/-- an if whose test isn't foretold: C is what each answer tells -/
theorem seq_if0r {tb : Addr} {tc : TT} {t u : TS} {D : Ends} {σ : L2.St} {H : Hp} (C : Bool → Prop) (R : L2.St → Hp → Prop) (h : ∀ Q : Bool → Hp → Prop, (∀ b H1, Gr tb H H1 → C b → Q b H1) → tc σ H Q)
    (ht : ∀ H1, Gr tb H H1 → C true → ∀ N : L2.St → Hp → Prop, (∀ σ' H', R σ' H' → N σ' H') → t { D with nx := N } σ H1) (hf : ∀ H1, Gr tb H H1 → C false → R σ H1) (hR : ∀ σ' H', R σ' H' → u D σ' H') : tSeq (tIf0 tc t) u D σ H :=
  h _ fun b H1 g c => if_b (fun e => ht H1 g (e ▸ c) _ hR) fun e => hR _ _ (hf H1 g (e ▸ c))
theorem lines_put {K : PySem.W.Frag} {H : Hp} {l : Addr} {xs ys : List V} {vs : List V} {ls : List LineD} (h : Paired (LineAt K H) vs ls) (hl : H l = some (.lst xs)) : Paired (LineAt K (upd H l (.lst ys))) vs ls :=
  Paired.mapP h fun v L ⟨a, d, e, ha⟩ => ⟨a, d, e, by rw [upd_ne (fun z => by rw [z, hl] at ha; cases ha)]; exact ha⟩
theorem many_snoc (ls : List LineD) (L : LineD) : manySum (ls ++ [L]) = manySum ls + L.many := by unfold manySum; rw [List.map_append, List.sum_append]; simp
theorem many_app (a b : List LineD) : manySum (a ++ b) = manySum a + manySum b := by unfold manySum; rw [List.map_append, List.sum_append]
theorem paired_app {α β : Type} {F : α → β → Prop} : ∀ {l l2 : List α} {m m2 : List β}, Paired F l m → Paired F l2 m2 → Paired F (l ++ l2) (m ++ m2)
  | _, _, _, _, .nil, h => h
  | _, _, _, _, .cons a t, h => .cons a (paired_app t h)
theorem paired_drop {α β : Type} {F : α → β → Prop} : ∀ {l : List α} {m : List β} (n : Nat), Paired F l m → Paired F (l.drop n) (m.drop n)
  | _, _, 0, h => h
  | _, _, n + 1, .nil => by rw [List.drop_nil, List.drop_nil]; exact .nil
  | _, _, n + 1, .cons a t => paired_drop n t
def spLBasket (tb : Addr) (K : PySem.W.Frag) : Sp := fun vs H Q _ => ∃ s n, vs = [.ref s, .int n] ∧ Scr K H s ∧ (1 ≤ n ∧ n ≤ 100) ∧ ∀ H' x B, Gr tb H H' → BasketAt K H' (.ref x) B → BasketOk n.toNat B → B.lines.length ≤ 12 → 0 ≤ B.carriage → Q (.ref x) H'
theorem pick2 {x y d : Int} (d0 : 0 ≤ d) (d1 : d < 2) : ∃ z, atI [V.int x, V.int y] d = some (.int z) ∧ (z = x ∨ z = y) := by
  have h : d = 0 ∨ d = 1 := by omega
  rcases h with rfl | rfl
  · exact ⟨x, rfl, .inl rfl⟩
  · exact ⟨y, rfl, .inr rfl⟩
section
variable {P : Program} {w : World} {K : PySem.W.Frag} {mg : Str → Option Value} {base : Heap} {tb : Addr}
theorem sc_law_basket : FnScope ["_law_script", "_law_kinds", "_law_lines", "_law_wide", "_law_salt", "_law_j", "_law_many", "_law_extra", "_law_price_here", "_law_pieces", "_law_line"] ["_law_script", "_law_kinds"] (defScope s_law_basket) := ⟨rfl, rfl, rfl, by decide +kernel, rfl, by decide +kernel, by decide +kernel⟩
theorem ok_law_basket (T : TX K mg) : Cal P w K mg base 4 "_law_basket" (spLBasket tb K) := by
  obtain ⟨fd, F⟩ := T.df_law_basket
  refine cal_of F T.g_law_basket (F.ok (k := 3) sc_law_basket (fun vs H Q E h => ?_) fun cdv A outer s H vs Q E hr h => ?_) (F.bindsN (ps := ["_law_script", "_law_kinds"]) fun _ _ _ _ _ _ us hl => match us, hl with | [_, _], _ => rfl)
  · obtain ⟨s, n, rfl, _⟩ := h
    rfl
  have c_law_some : Cal P w K mg base 2 "_law_some" (spSome K) := ok_law_some T
  have c_law_price : Cal P w K mg base 3 "_law_price" (spPrice K) := ok_law_price T
  have k_Line : Mak P w K mg base 1 "Line" (CLine K) (spLine tb K) [] := ok_Line T
  have k_Basket : Mak P w K mg base 1 "Basket" (CBasket K) (spBasket tb K) [] := ok_Basket T
  obtain ⟨s, n, rfl, hs, ⟨n1, n2⟩, q⟩ := h
  refine ⟨_, PSs.nox
    (pss_cons (ps_set (i := 2) sc_law_basket.nd rfl (Or.inl rfl) (pe_lst pa_nil))
    (pss_cons (ps_set (i := 3) sc_law_basket.nd rfl (Or.inl rfl) (pe_cmpR op_eq (pe_c c_law_some hr (by decide) rfl (pa_cons (pv 0) (pa_cons pe_int (pa_cons pe_int (pa_cons pe_int pa_nil))))) pe_int (nomark _)))
    (pss_cons (ps_set (i := 4) sc_law_basket.nd rfl (Or.inl rfl) (pe_op op_mul pe_int (pe_callTy call_int1 rfl T.f_int B_int (pa_cons (pv 3) pa_nil))))
    (pss_cons (ps_for PassesOwn.never rfl (pi_range1 rfl T.f_range (pa_cons (pe_ix ix_list (pe_lst (pa_cons (pe_c c_law_some hr (by decide) rfl (pa_cons (pv 0) (pa_cons pe_int (pa_cons pe_int (pa_cons pe_int pa_nil))))) (pa_cons (pe_op op_add pe_int (pe_c c_law_some hr (by decide) rfl (pa_cons (pv 0) (pa_cons pe_int (pa_cons pe_int (pa_cons pe_int pa_nil)))))) pa_nil))) (pe_callTy call_int1 rfl T.f_int B_int (pa_cons (pv 3) pa_nil)) (fun _ _ => rfl)) pa_nil)) (pg_name (i := 5) sc_law_basket.nd rfl (Or.inl rfl))
      (pss_cons (ps_set (i := 6) sc_law_basket.nd rfl (Or.inl rfl) (pe_op op_add pe_int (pe_c c_law_some hr (by decide) rfl (pa_cons (pv 0) (pa_cons pe_int (pa_cons (pe_op op_add pe_int (pv 5)) (pa_cons pe_int pa_nil)))))))
      (pss_cons (ps_if0 (pt_cmpR op_lt (pe_c c_law_some hr (by decide) rfl (pa_cons (pv 0) (pa_cons pe_int (pa_cons (pe_op op_add pe_int (pv 5)) (pa_cons pe_int pa_nil))))) pe_int (nomark _))
        (pss_one (ps_set (i := 6) sc_law_basket.nd rfl (Or.inl rfl) (pe_ix ix_list (pe_lst (pa_cons pe_int (pa_cons (pe_ix ix_list (pe_lst (pa_cons pe_int (pa_cons pe_int pa_nil))) (pe_callTy call_int1 rfl T.f_int B_int (pa_cons (pe_cmpR op_gt (pv 5) pe_int (nomark _)) pa_nil)) (fun _ _ => rfl)) pa_nil))) (pe_c c_law_some hr (by decide) rfl (pa_cons (pv 0) (pa_cons pe_int (pa_cons (pe_op op_add pe_int (pv 5)) (pa_cons pe_int pa_nil))))) (fun _ _ => rfl)))))
      (pss_cons (ps_if0 (pt_val (pv 3))
        (pss_one (ps_set (i := 6) sc_law_basket.nd rfl (Or.inl rfl) (pe_c c_law_some hr (by decide) rfl (pa_cons (pv 0) (pa_cons pe_int (pa_cons (pe_op op_add (pe_op op_add (pv 4) pe_int) (pv 5)) (pa_cons pe_int pa_nil))))))))
      (pss_cons (ps_set (i := 7) sc_law_basket.nd rfl (Or.inl rfl) pe_non)
      (pss_cons (ps_if0 (pt_cmpR op_eq (pe_c c_law_some hr (by decide) rfl (pa_cons (pv 0) (pa_cons pe_int (pa_cons (pe_op op_add (pe_op op_add (pv 4) pe_int) (pv 5)) (pa_cons pe_int pa_nil))))) pe_int (nomark _))
        (pss_one (ps_set (i := 7) sc_law_basket.nd rfl (Or.inl rfl) (pe_c c_law_price hr (by decide) rfl (pa_cons (pv 0) (pa_cons pe_int (pa_cons (pe_op op_add (pe_op op_add (pv 4) pe_int) (pe_op op_mul pe_int (pv 5))) pa_nil)))))))
      (pss_cons (ps_set (i := 8) sc_law_basket.nd rfl (Or.inl rfl) (pe_c c_law_price hr (by decide) rfl (pa_cons (pv 0) (pa_cons pe_int (pa_cons (pe_op op_add (pe_op op_add (pv 4) pe_int) (pe_op op_mul pe_int (pv 5))) pa_nil)))))
      (pss_one (ps_expr (pe_bm PySem.F.plainAttrs_list PySem.F.slot_list_append PySem.F.type_list_append mt_append (pv 2) (pa_cons (pe_mk k_Line hr (by decide) rfl (pa_cons (pe_c c_law_some hr (by decide) rfl (pa_cons (pv 0) (pa_cons pe_int (pa_cons (pe_op op_add (pe_op op_add (pv 4) pe_int) (pv 5)) (pa_cons (pv 1) pa_nil))))) (pa_cons (pv 8) (pa_cons (pv 6) (pa_cons (pv 7) pa_nil))))) pa_nil)))))))))))
    (pss_cons (ps_set (i := 9) sc_law_basket.nd rfl (Or.inl rfl) (pe_callB (cr_sum rfl) rfl T.f_sum B_sum (pa_cons (pe_lc (own := [("_law_line", 10)]) (g := (gName 10)) (tt := tYes) rfl sc_law_basket.nd (pi_list (pe_op op_cat (pv 2) (pe_slice sl_list (pv 2) po_none (po_some pe_int)))) (blkOk_by (own := [("_law_line", 10)]) (N := ["_law_script", "_law_kinds", "_law_lines", "_law_wide", "_law_salt", "_law_j", "_law_many", "_law_extra", "_law_price_here", "_law_pieces", "_law_line"]) (sc := defScope s_law_basket) (by decide +kernel)) (fun _ _ _ _ _ => (pg_name (i := 10) sc_law_basket.nd rfl (Or.inl rfl))) (fun _ _ _ _ _ => pts_nil) (fun _ _ _ _ _ => (pe_fl T (pv 10) rfl))) pa_nil)))
    (pss_cons (ps_if0 (PW.pt (pw_and (pt_chain op_lt op_lt pe_int (pe_callB call_len_seq rfl T.f_len B_len (pa_cons (pv 2) pa_nil)) pe_int) (pw_and (pt_cmpR op_lt (pv 9) pe_int (nomark _)) (pw_and1 (pt_cmpR op_eq (pe_c c_law_some hr (by decide) rfl (pa_cons (pv 0) (pa_cons pe_int (pa_cons pe_int (pa_cons pe_int pa_nil))))) pe_int (nomark _))))))
      (pss_one (ps_expr (pe_bm PySem.F.plainAttrs_list PySem.F.slot_list_insert PySem.F.type_list_insert mt_insert (pv 2) (pa_cons (pe_c c_law_some hr (by decide) rfl (pa_cons (pv 0) (pa_cons pe_int (pa_cons pe_int (pa_cons (pe_op op_add (pe_callB call_len_seq rfl T.f_len B_len (pa_cons (pv 2) pa_nil)) pe_int) pa_nil))))) (pa_cons (pe_ix ix_list (pv 2) pe_int (fun _ _ => rfl)) pa_nil))))))
    (pss_one (ps_ret (pe_mk k_Basket hr (by decide) rfl (pa_cons (pv 2) (pa_cons (pe_c c_law_price hr (by decide) rfl (pa_cons (pv 0) (pa_cons pe_int (pa_cons pe_int pa_nil)))) (pa_cons (pe_cmpR op_eq (pe_c c_law_some hr (by decide) rfl (pa_cons (pv 0) (pa_cons pe_int (pa_cons pe_int (pa_cons pe_int pa_nil))))) pe_int (nomark _)) pa_nil)))))))))))), ?_⟩
  have s6 : Sml 6 := ⟨by decide, by decide⟩
  refine seq_set ⟨Nat.zero_le _, fun l hl => ?_⟩
  have g0 : Gr tb H (upd H l (.lst [])) := Gr.new hl
  have hl0 : upd H l (.lst []) l = some (.lst []) := upd_same
  generalize upd H l (.lst []) = H1 at g0 hl0 ⊢
  have hs1 := hs.gr g0
  refine seq_set ⟨_, rfl, s, 6, 99, 16, rfl, hs1, s6, ⟨by decide, by decide⟩, by decide, fun cw _ _ => ⟨rfl, ?_⟩⟩
  generalize decide (V.int cw = V.int 0) = w
  refine seq_set ⟨_, rfl, .inr ⟨w, rfl, _, _, rfl, rfl, .inl ⟨by decide, by decide⟩, ?_⟩⟩
  dsimp only
  have salt0 : 0 ≤ 200 * (if w = true then (1 : Int) else 0) ∧ 200 * (if w = true then (1 : Int) else 0) ≤ 200 := by cases w <;> decide
  generalize 200 * (if w = true then (1 : Int) else 0) = salt at salt0 ⊢
  -- how many lines
  refine ⟨_, rfl, s, 6, 1, 5, rfl, hs1, s6, ⟨by decide, by decide⟩, by decide, fun c c0 c1 => ⟨_, rfl, s, 6, 1, 5, rfl, hs1, s6, ⟨by decide, by decide⟩, by decide, fun d d0 d1 => ⟨_, _, rfl, rfl, Nat.le_of_lt (small1000 (show 2 ≤ 1000 by decide)), fun p hp => ⟨_, rfl, .inr ⟨w, rfl, ?_⟩⟩⟩⟩⟩
  have gp : Gr tb H1 (upd H1 p (.lst [.int c, .int (8 + d)])) := Gr.new hp
  have hpp : upd H1 p (.lst [.int c, .int (8 + d)]) p = some (.lst [.int c, .int (8 + d)]) := upd_same
  generalize upd H1 p (.lst [.int c, .int (8 + d)]) = H2 at gp hpp ⊢
  obtain ⟨N, eN, hN0, hN1, hN2⟩ : ∃ N : Nat, atI [V.int c, V.int (8 + d)] (if w = true then 1 else 0) = some (.int (N : Nat)) ∧ N ≤ 12 ∧ (w = false → N ≤ 4) ∧ True := by
    cases w with
    | false => exact ⟨c.toNat, by rw [Int.toNat_of_nonneg c0]; rfl, by omega, fun _ => by omega, trivial⟩
    | true => exact ⟨(8 + d).toNat, by rw [Int.toNat_of_nonneg (by omega)]; rfl, by omega, (fun z => nomatch z), trivial⟩
  refine ⟨p, _, _, _, rfl, rfl, SqL.of hpp, eN, _, rfl, by omega, by omega, ?_⟩
  rw [Int.toNat_natCast]
  have gH2 := g0.trans gp
  have hs2 := hs.gr gH2
  refine for_it walk_range (fun i σ H' => ∃ v5 v6 v7 v8 vs ls, σ = [some (.ref s), some (.int n), some (.ref l), some (.bl w), some (.int salt), v5, v6, v7, v8, none, none] ∧ Gr tb H H' ∧ H' l = some (.lst vs) ∧ Paired (LineAt K H') vs ls ∧ ls.length = i ∧ (∀ L ∈ ls, LineOk n.toNat L) ∧ manySum ls ≤ (if w = true then (i : Int) else 15 + 4 * i))
    ⟨none, none, none, none, [], [], rfl, gH2, gp.lst hl0, .nil, rfl, fun L h => absurd h (by simp), by cases w <;> simp [manySum]⟩ (fun _ _ _ _ _ => trivial) ?_ ?_
  · rintro i _ σ _ H' hi ⟨v5, v6, v7, v8, vs, ls, rfl, g, hl', hp, hlen, hok, hsum⟩ ⟨rfl, rfl⟩
    have hs' := hs.gr g
    have hi12 : i < 12 := by omega
    -- many
    refine ⟨_, rfl, _, rfl, _, _, rfl, rfl, s, 6, _, 4, rfl, hs', s6, ⟨by omega, by omega⟩, by decide, fun m0 m00 m01 => ⟨_, _, rfl, rfl, ?_⟩⟩
    dsimp only [gName]
    refine seq_if0r (tb := tb) (fun _ => True) (fun σ' H2 => ∃ mn : Int, σ' = [some (.ref s), some (.int n), some (.ref l), some (.bl w), some (.int salt), some (.int (0 + (i : Int))), some (.int mn), v7, v8, none, none] ∧ Gr tb H' H2 ∧ 0 ≤ mn ∧ mn ≤ 15 ∧ (i ≠ 0 → mn ≤ 4))
      (fun R r => ?_) (fun H2 g2 _ N hN => ?_) (fun H2 g2 _ => ⟨_, rfl, g2, by omega, by omega, fun _ => by omega⟩) ?_
    · exact ⟨_, rfl, _, rfl, _, _, rfl, rfl, s, 6, _, 8, rfl, hs', s6, ⟨by omega, by omega⟩, by decide, fun d _ _ => ⟨_, _, rfl, rfl, _, rfl, r _ _ (GrB.refl _) trivial⟩⟩
    · have e1 : ∃ x : Int, atI [V.int 15, V.int 3] (if decide ((0 : Int) + (i : Int) > 0) = true then 1 else 0) = some (.int x) ∧ 0 ≤ x ∧ x ≤ 15 ∧ (i ≠ 0 → x ≤ 4) := by
        by_cases h : (0 : Int) + (i : Int) > 0
        · rw [decide_eq_true h]; exact ⟨3, rfl, by decide, by decide, fun _ => by decide⟩
        · rw [decide_eq_false h]; exact ⟨15, rfl, by decide, by decide, fun z => absurd (show (i : Int) = 0 by omega) (by omega)⟩
      obtain ⟨x, e1, x0, x1, x2⟩ := e1
      refine one_set ⟨Nat.le_of_lt (small1000 (show 2 ≤ 1000 by decide)), fun p hp2 => ⟨_, rfl, _, _, rfl, rfl, .inr ⟨_, rfl, p, _, _, _, rfl, rfl, SqL.of upd_same, e1, Nat.le_of_lt (small1000 (show 2 ≤ 1000 by decide)), fun p3 hp3 => ?_⟩⟩⟩
      have g3 := (g2.add hp2 (o := .lst [.int 15, .int 3])).add hp3 (o := .lst [.int 0, .int x])
      refine ⟨_, rfl, _, rfl, _, _, rfl, rfl, s, 6, _, 2, rfl, hs'.gr g3, s6, ⟨by omega, by omega⟩, by decide, fun d d0 d1 => ?_⟩
      obtain ⟨z, ez, hz⟩ := pick2 (x := 0) (y := x) d0 d1
      exact ⟨p3, _, _, _, rfl, rfl, SqL.of upd_same, ez, hN _ _ ⟨z, rfl, g3, by omega, by omega, fun h => by have := x2 h; omega⟩⟩
    rintro σ H2 ⟨mn, rfl, g2, mn0, mn1, mn2⟩
    have hs2 := hs'.gr g2
    -- wide
    refine seq_if0k w (fun σ' H3 => ∃ mn : Int, σ' = [some (.ref s), some (.int n), some (.ref l), some (.bl w), some (.int salt), some (.int (0 + (i : Int))), some (.int mn), v7, v8, none, none] ∧ Gr tb H2 H3 ∧ 0 ≤ mn ∧ mn ≤ 15 ∧ (w = true → mn ≤ 1) ∧ (w = false → i ≠ 0 → mn ≤ 4))
      (fun R r => ⟨_, rfl, _, rfl, r⟩) (fun hb N hN => ?_) (fun hb => ⟨mn, rfl, GrB.refl _, mn0, mn1, (fun z => by rw [hb] at z; cases z), fun _ => mn2⟩) ?_
    · exact one_set ⟨_, rfl, _, rfl, _, _, rfl, rfl, _, rfl, _, _, rfl, rfl, s, 6, _, 2, rfl, hs2, s6, ⟨by omega, by omega⟩, by decide, fun d d0 d1 => hN _ _ ⟨d, rfl, GrB.refl _, d0, by omega, fun _ => by omega, fun z => by rw [hb] at z; cases z⟩⟩
    clear mn0 mn1 mn2
    rintro σ H2b ⟨mn', rfl, g2b, mn0, mn1, mn2, mn3⟩
    clear mn
    replace g2 := g2.trans g2b
    replace hs2 := hs2.gr g2b
    clear g2b
    -- extra
    refine seq_set ?_
    refine seq_if0r (tb := tb) (fun _ => True) (fun σ' H3 => ∃ ex : Option Int, σ' = [some (.ref s), some (.int n), some (.ref l), some (.bl w), some (.int salt), some (.int (0 + (i : Int))), some (.int mn'), some (optV ex), v8, none, none] ∧ Gr tb H2b H3 ∧ ∀ c, ex = some c → Coin c)
      (fun R r => ?_) (fun H3 g3 _ N hN => ?_) (fun H3 g3 _ => ⟨none, rfl, g3, fun c e => nomatch e⟩) ?_
    · exact ⟨_, rfl, _, rfl, _, _, rfl, rfl, _, rfl, _, _, rfl, rfl, s, 6, _, 3, rfl, hs2, s6, ⟨by omega, by omega⟩, by decide, fun d _ _ => ⟨rfl, _, rfl, r _ _ (GrB.refl _) trivial⟩⟩
    · exact one_set ⟨_, rfl, _, rfl, _, _, rfl, rfl, _, rfl, _, _, rfl, rfl, .inl ⟨by decide, by decide⟩, _, _, rfl, rfl, s, 6, _, rfl, hs2.gr g3, s6, ⟨by omega, by omega⟩, fun c hc => hN _ _ ⟨some c, rfl, g3, fun c' e => by cases e; exact hc⟩⟩
    rintro σ H3 ⟨ex, rfl, g3, hex⟩
    have k3 := (g.trans g2).trans g3
    have hs3 := hs2.gr g3
    -- price
    refine seq_set ⟨_, rfl, _, rfl, _, _, rfl, rfl, _, rfl, _, _, rfl, rfl, .inl ⟨by decide, by decide⟩, _, _, rfl, rfl, s, 6, _, rfl, hs3, s6, ⟨by omega, by omega⟩, fun pr hpr => ?_⟩
    -- append
    have hl3 := g3.lst (g2.lst hl')
    refine ⟨_, rfl, .inl ⟨rfl, _, SqL.of hl3⟩, _, rfl, _, rfl, _, _, rfl, rfl, _, rfl, _, _, rfl, rfl, _, rfl, s, 6, _, _, rfl, hs3, s6, ⟨by omega, by omega⟩, by omega, fun kd kd0 kd1 => ⟨_, rfl, _, rfl, _, rfl, fun x dx hx hdx ne => ?_⟩⟩
    have hx2 : (upd H3 dx (.own x)) x = none := by rw [upd_ne (Ne.symm ne)]; exact hx
    refine ⟨x, dx, _, _, _, _, rfl, upd_same, fun H4 g4 h4 => ⟨rfl, ?_⟩⟩
    have g5 : Gr tb H3 H4 := Gr.made hx hdx ne g4
    have hl4 := g5.lst hl3
    have lvs := hp.length
    refine ⟨l, _, _, rfl, rfl, hl4, small1000 (by omega), ?_⟩
    have hp4 : Paired (LineAt K H4) vs ls := Paired.mapP hp fun _ _ h => h.gr ((g2.trans g3).trans g5)
    have hnew : LineAt K H4 (.ref x) ⟨kd, pr, mn', ex⟩ := ⟨x, dx, rfl, h4⟩
    refine ⟨_, _, _, _, _, ls ++ [⟨kd, pr, mn', ex⟩], rfl, (k3.trans g5).putL hl hl4, upd_same, lines_put (Paired.snoc hp4 hnew) hl4, by rw [List.length_append, hlen]; rfl, fun L hL => ?_, ?_⟩
    · rcases List.mem_append.mp hL with h | h
      · exact hok L h
      · rw [List.mem_singleton.mp h]
        exact ⟨⟨kd0, by show kd < (n.toNat : Int); omega⟩, hpr, ⟨mn0, by show mn' ≤ 60; omega⟩, hex⟩
    · rw [many_snoc]
      show manySum ls + mn' ≤ _
      cases w with
      | true =>
        have := mn2 rfl
        have hsum : manySum ls ≤ (i : Int) := hsum
        show manySum ls + mn' ≤ ((i + 1 : Nat) : Int)
        omega
      | false =>
        have hsum : manySum ls ≤ 15 + 4 * (i : Int) := hsum
        show manySum ls + mn' ≤ 15 + 4 * ((i + 1 : Nat) : Int)
        by_cases h0 : i = 0
        · subst h0
          have e : ls = [] := List.length_eq_zero_iff.mp hlen
          subst e
          have e0 : manySum [] = 0 := rfl
          omega
        · have := mn3 rfl h0
          omega
  · rintro σ H' ⟨v5, v6, v7, v8, vs, ls, rfl, g, hl', hp, hlen, hok, hsum⟩
    have hs' := hs.gr g
    have lvs := hp.length
    have sum31 : manySum ls ≤ 31 := by
      cases w with
      | true => have hsum : manySum ls ≤ (N : Int) := hsum; omega
      | false => have hsum : manySum ls ≤ 15 + 4 * (N : Int) := hsum; have := hN1 rfl; omega
    -- pieces
    refine ⟨_, rfl, _, rfl, 1, rfl, l, _, rfl, SqL.of hl', fun c hc => ?_⟩
    have gc : Gr tb H' (upd H' c (.lst (cutV vs none (some 1)))) := Gr.new hc
    refine ⟨l, c, _, _, rfl, rfl, gc.lst hl', upd_same, Nat.le_of_lt (small1000 ?_), fun c2 hc2 => ?_⟩
    · have := cutV_length vs none (some 1); omega
    have ecut : cutV vs none (some 1) = vs.take 1 := by
      by_cases h : vs = []
      · rw [h]; rfl
      · exact cutV_take (by decide) (by have := List.length_pos_iff.mpr h; omega)
    have gc2 := gc.add hc2 (o := .lst (vs ++ cutV vs none (some 1)))
    have hc2' : upd (upd H' c (.lst (cutV vs none (some 1)))) c2 (.lst (vs ++ cutV vs none (some 1))) c2 = some (.lst (vs ++ vs.take 1)) := by rw [upd_same, ecut]
    generalize upd (upd H' c (.lst (cutV vs none (some 1)))) c2 (.lst (vs ++ cutV vs none (some 1))) = H2 at gc2 hc2' ⊢
    have hp2 : Paired (LineAt K H2) (vs ++ vs.take 1) (ls ++ ls.take 1) := Paired.mapP (paired_app hp (paired_take 1 hp)) fun _ _ => LineAt.gr gc2
    have lz : (vs ++ vs.take 1).length ≤ 13 := by rw [List.length_append, List.length_take]; omega
    refine ⟨c2, rfl, ⟨_, SqL.of hc2'⟩, fun D hD => ?_⟩
    refine lc_gr (tb := tb) (walk_list (xs := vs ++ vs.take 1)) (ivs ((ls ++ ls.take 1).map LineD.many)) (by rw [ivs_len, List.length_map, hp2.length]) (by omega) hD (fun H'' g => SqL.of (g.lst hc2')) ?_ fun H3 g3 hd3 => ?_
    · rintro i v H'' _ y M hi hy g' ⟨rfl, hv⟩ kk
      obtain ⟨L, hL, a2, dc, rfl, ha2⟩ := paired_get hp2 hv
      obtain ⟨z, hz, rfl⟩ := ivs_of hy
      rw [List.getElem?_map, hL] at hz
      cases hz
      exact ⟨rfl, _, rfl, T.r_Line_many (g'.ins ha2) (kk _ (GrB.refl _))⟩
    refine ⟨D, _, rfl, SqL.of hd3, ?_⟩
    have k3 := g.trans (gc2.trans g3)
    have hl3 := (gc2.trans g3).lst hl'
    have hp3 : Paired (LineAt K H3) vs ls := Paired.mapP hp fun _ _ => LineAt.gr (gc2.trans g3)
    have hs3 := hs.gr k3
    have epc : ((ls ++ ls.take 1).map LineD.many).sum = manySum ls + manySum (ls.take 1) := many_app ls (ls.take 1)
    rw [epc]
    -- the first line twice
    dsimp only [gName]
    refine seq_if0r (tb := tb) (fun b => b = true → 0 < ls.length ∧ ls.length < 12 ∧ manySum ls + manySum (ls.take 1) < 31) (fun σ' H4 => ∃ v5 v6 v7 v8 vs' ls', σ' = [some (.ref s), some (.int n), some (.ref l), some (.bl w), some (.int salt), v5, v6, v7, v8, some (.int (manySum ls + manySum (ls.take 1))), none] ∧ Gr tb H H4 ∧ H4 l = some (.lst vs') ∧ Paired (LineAt K H4) vs' ls' ∧ ls'.length ≤ 12 ∧ (∀ L ∈ ls', LineOk n.toNat L) ∧ manySum ls' ≤ 60)
      (fun R r => ?_) (fun H4 g4 hb M hM => ?_) (fun H4 g4 _ => ⟨v5, v6, v7, v8, vs, ls, rfl, k3.trans g4, g4.lst hl3, Paired.mapP hp3 fun _ _ => LineAt.gr g4, by omega, hok, by omega⟩) ?_
    · refine ⟨_, rfl, l, _, rfl, .inl (SqL.of hl3), _, _, rfl, rfl, _, rfl, ?_⟩
      rw [lvs]
      refine if_d (fun q1 => ⟨_, _, rfl, rfl, _, rfl, ?_⟩) fun q1 => ⟨_, rfl, iteF (r _ _ (GrB.refl _) fun z => nomatch z)⟩
      refine if_d (fun q2 => ⟨_, rfl, _, _, rfl, rfl, _, rfl, ?_⟩) fun q2 => r _ _ (GrB.refl _) fun z => nomatch z
      refine if_d (fun q3 => ⟨_, rfl, s, 6, 98, 3, rfl, hs3, s6, ⟨by decide, by decide⟩, by decide, fun d _ _ => ⟨rfl, _, rfl, r _ _ (GrB.refl _) fun _ => ⟨by omega, by omega, q3⟩⟩⟩) fun q3 => r _ _ (GrB.refl _) fun z => nomatch z
    · obtain ⟨b1, b2, b3⟩ := hb rfl
      have hl4 := g4.lst hl3
      have hp4 : Paired (LineAt K H4) vs ls := Paired.mapP hp3 fun _ _ => LineAt.gr g4
      obtain ⟨v0, e0, hv0⟩ := at_paired hp4 (i := 0) (by decide) (by omega) default
      refine ⟨_, rfl, .inl ⟨rfl, _, SqL.of hl4⟩, _, rfl, _, rfl, l, _, rfl, .inl (SqL.of hl4), _, _, rfl, rfl, s, 6, 97, _, rfl, hs3.gr g4, s6, ⟨by decide, by decide⟩, by omega, fun d d0 d1 => ⟨_, rfl, l, _, 0, _, rfl, rfl, SqL.of hl4, e0, l, _, d, _, rfl, rfl, hl4, small1000 (by omega), d0, by omega, hM _ _ ?_⟩⟩
      have hd0 : ls.getD (0 : Int).toNat default = ls.getD 0 default := rfl
      rw [hd0] at hv0
      have et : ls.take 1 = [ls.getD 0 default] := by
        cases ls with
        | nil => exact absurd b1 (by simp)
        | cons a r => rfl
      have m0 : ls.getD 0 default ∈ ls := List.mem_of_getElem? (get_d b1 default)
      refine ⟨v5, v6, v7, v8, _, ls.take d.toNat ++ [ls.getD 0 default] ++ ls.drop d.toNat, rfl, (k3.trans g4).putL hl hl4, upd_same, lines_put (paired_app (paired_app (paired_take _ hp4) (.cons hv0 .nil)) (paired_drop _ hp4)) hl4, ?_, fun L hL => ?_, ?_⟩
      · rw [List.length_append, List.length_append, List.length_take, List.length_drop, List.length_singleton]; omega
      · rcases List.mem_append.mp hL with h | h
        · rcases List.mem_append.mp h with h | h
          · exact hok L (List.mem_of_mem_take h)
          · rw [List.mem_singleton.mp h]; exact hok _ m0
        · exact hok L (List.mem_of_mem_drop h)
      · have e1 : manySum ls = manySum (ls.take d.toNat) + manySum (ls.drop d.toNat) := by rw [← many_app, List.take_append_drop]
        rw [many_app, many_app]
        rw [et] at b3
        omega
    rintro σ H4 ⟨w5, w6, w7, w8, vs', ls', rfl, g4, hl4, hp4, hlen4, hok4, hsum4⟩
    have hs4 := hs.gr g4
    refine ⟨_, rfl, _, rfl, s, 6, 90, rfl, hs4, s6, ⟨by decide, by decide⟩, fun cg hcg => ⟨_, rfl, s, 6, 95, 2, rfl, hs4, s6, ⟨by decide, by decide⟩, by decide, fun mb _ _ => ⟨rfl, fun x dx hx hdx ne => ?_⟩⟩⟩
    have hx2 : (upd H4 dx (.own x)) x = none := by rw [upd_ne (Ne.symm ne)]; exact hx
    have gx := (Gr.new (tb := tb) hdx (o := .own x)).trans (Gr.new (tb := tb) hx2 (o := .ins (CBasket K) dx []))
    refine ⟨x, dx, l, vs', _, _, rfl, upd_same, gx.lst hl4, fun H5 l2 g5 nl2 hl2 h5 => ⟨rfl, ?_⟩⟩
    have g6 : Gr tb H4 H5 := Gr.made hx hdx ne g5
    exact q H5 x ⟨ls', cg, decide (V.int mb = V.int 1)⟩ (g4.trans g6) ⟨x, dx, l2, vs', rfl, h5, hl2, Paired.mapP hp4 fun _ _ => LineAt.gr g6⟩ ⟨hok4, by show ls'.length ≤ 60; omega, hsum4⟩ hlen4 hcg.1
end
end VS
set_option Elab.async false
set_option linter.all false
set_option maxRecDepth 100000
set_option maxHeartbeats 4000000
namespace VS
open PySem PySem.Spec PyProof.Rows L2
section
variable {X : Cx} {k j : Nat} {C f : Addr} {fd : FuncData} {ps : List Str} {sp : Sp} {x m : Str} {p apos pos : Pos} {e : Expr} {es : List Expr} {t : TA}
/-- C.m(e, ..), m a def of the class C, read off C itself -/
theorem pe_clsfn {pl : Sem Bool} (hg : Gl X x) (hm : X.mg x = some (.ref C)) (rd : PySem.W.readsIn X.K C (.type "type") = true) (ga : PySem.W.specialIn X.K (.ref C) "__getattribute__" = some (some (.builtin "type.__getattribute__")))
    (fc : PySem.W.findCls X.K (.ref C) (.type "type") m = some (.val (.ref f))) (kf : PySem.W.keepIn X.K (.ref f) = true) (F : FnOk X.prog X.w X.K X.mg X.base CX0 k f fd ps sp) (b : Binds X.K fd ps []) (hr : Room j X.A) (hk : k ≤ j) (ha : PA X (e :: es) t) (hd : (x == ("__debug__" : Str)) = false := by decide)
    (hst : starEach (e :: es) X.env = (false, eval e X.env) :: starEach es X.env := by rfl) (hpl : (backTo pos (starEach es X.env)).any (·.1) = false := by rfl)
    (ht : eval (.Call (.Attribute (.Name x p) m apos) (e :: es) [] pos) X.env = (eval (.Name x p) X.env >>= fun ov => standAt apos.atName >>= fun _ => holding [ov] (getMethod ov m pl) >>= fun fp =>
      callWith pos fp.1 fp.2 (backTo pos (starEach (e :: es) X.env)) (backToKw pos (keywordEach [] X.env))) := by rfl) :
    PE X (.Call (.Attribute (.Name x p) m apos) (e :: es) [] pos) (tCall sp [] E0 t) := by
  have he : PE X (.Name x p) (tC (.ref C)) := pe_glob hg hm rfl hd
  refine ⟨fun pins s σ H Q I h => PySem.W.methodCall_KW (pl := pl) (thn (he.run pins s σ H (fun v H1 => v = .ref C ∧ H1 = H) I ⟨rfl, rfl⟩) fun u s1 hu => ?_) ht⟩
  obtain ⟨v, H1, I1, rv, ev, eH⟩ := hu
  subst ev eH
  cases (show u = Value.ref C from rv)
  refine PySem.W.method_cls I1.kIn ga (PySem.W.cls_value I1.kIn rd fc rfl ?_)
  have I2 : Inv X pins σ H1 { s1 with toks := s1.toks + 1 } := I1.tok _
  refine PySem.W.callWith_K (first := []) (h₀ := X.base) I2.ok.mod.kin kf (thn (ha.run pos pins _ σ H1 _ I2 h) fun us s2 hv => ?_) hst hpl
  obtain ⟨vs, H2, I3, r, q2⟩ := hv
  exact ⟨I3.kIn, run_fn F (hr.mono hk) b .nil pass0 I3 r q2⟩
end
/-! ### marks and vouchers are made -/
def spMarksI (tb : Addr) (K : PySem.W.Frag) : Sp := fun vs H Q _ => ∃ p dx k n mo a b c, vs = [.ref p, k, n, mo, a, b, c] ∧ H p = some (.ins (CMarks K) dx []) ∧ ∀ H', GrB tb [p] H H' → H' p = some (.ins (CMarks K) dx (aMarks k n mo a b c)) → Q .non H'
def MOk (M : MarksD) : Prop := ∀ x, M.most = some x → 0 ≤ x
/-- marks or none -/
def VMk (K : PySem.W.Frag) (H : Hp) (m : V) : Prop := m = .non ∨ ∃ M, MarksAt K H m M ∧ MOk M
theorem VMk.gr {K : PySem.W.Frag} {tb : Addr} {H H' : Hp} (g : Gr tb H H') {m : V} : VMk K H m → VMk K H' m := fun h => h.imp id fun ⟨M, h1, h2⟩ => ⟨M, h1.gr g, h2⟩
def spVInit (tb : Addr) (K : PySem.W.Frag) : Sp := fun vs H Q _ => ∃ C p dx m, vs = [.ref p, m] ∧ H p = some (.ins C dx []) ∧ Cls K C ∧ NoAttr K C "marks" ∧ VMk K H m ∧
  ∀ H' mm M, GrB tb [p] H H' → H' p = some (.ins C dx [("marks", mm)]) → MarksAt K H' mm M → MOk M → Q .non H'
def sortV : SortD → List V
  | .off n => [.int n]
  | .share n b => [.int n, .bl b]
  | .cheapest n => [.int n]
  | .bundle n p => [.int n, .int p]
  | .carriage => []
def spVouI (tb : Addr) (K : PySem.W.Frag) (s : SortD) : Sp := fun vs H Q _ => ∃ p dx m, vs = .ref p :: (sortV s ++ [m]) ∧ H p = some (.ins (sortC K s) dx []) ∧ VMk K H m ∧
  ∀ H' mm M, GrB tb [p] H H' → H' p = some (.ins (sortC K s) dx (sortA mm s)) → MarksAt K H' mm M → MOk M → Q .non H'
theorem MarksAt.but {K : PySem.W.Frag} {tb : Addr} {H H' : Hp} {m : V} {M : MarksD} {p C dx : Addr} {fs : List (Str × V)} (h : MarksAt K H m M) (g : GrB tb [p] H H') (hp : H p = some (.ins C dx fs)) (hf : fs.length ≠ 6) : MarksAt K H' m M := by
  obtain ⟨a, d, e, ha⟩ := h
  refine ⟨a, d, e, g.ins ha (by
    intro z
    rw [List.mem_singleton.mp z, hp] at ha
    have ha := congrArg (fun o : Option HO => match o with | some (.ins _ _ fs) => fs.length | _ => 0) ha
    exact hf ha)⟩
structure VIn (P : Program) (w : World) (K : PySem.W.Frag) (mg : Str → Option Value) (base : Heap) (tb : Addr) : Prop where
  is : ∃ f fd ps, PySem.W.readsIn K (He.ga K "Voucher") (.type "type") = true ∧ PySem.W.specialIn K (.ref (He.ga K "Voucher")) "__getattribute__" = some (some (.builtin "type.__getattribute__")) ∧
    PySem.W.findCls K (.ref (He.ga K "Voucher")) (.type "type") "__init__" = some (.val (.ref f)) ∧ PySem.W.keepIn K (.ref f) = true ∧ FnOk P w K mg base CX0 3 f fd ps (spVInit tb K) ∧ Binds K fd ps []
section
variable {P : Program} {w : World} {K : PySem.W.Frag} {mg : Str → Option Value} {base : Heap} {tb : Addr}
theorem sc_Marks_init : FnScope ["self", "kind", "needs", "most", "member", "once", "lone"] ["self", "kind", "needs", "most", "member", "once", "lone"] (defScope s_Marks_init) := ⟨rfl, rfl, rfl, by decide +kernel, rfl, by decide +kernel, by decide +kernel⟩
theorem marks_fn (T : TX K mg) {fd : FuncData} (F : FunD K "__init__" "Marks.__init__" (defArgs s_Marks_init) (defBody s_Marks_init) (defScope s_Marks_init) [V.non, V.int 0, V.non, V.bl false, V.bl false, V.bl false] [] (He.ma K (He.ga K "Marks") "__init__") fd) :
    FnOk P w K mg base CX0 1 (He.ma K (He.ga K "Marks") "__init__") fd ["self", "kind", "needs", "most", "member", "once", "lone"] (spMarksI tb K) := by
  refine F.ok (k := 0) sc_Marks_init (fun vs H Q E h => ?_) fun cdv A outer s H vs Q E hr h => ?_
  · obtain ⟨p, dx, k, n, mo, a, b, c, rfl, _⟩ := h
    rfl
  obtain ⟨p, dx, k, n, mo, a, b, c, rfl, hp, q⟩ := h
  refine ⟨_, PSs.nox
    (pss_cons (ps_fld (pv 0) (pv 1) rfl)
    (pss_cons (ps_fld (pv 0) (pv 2) rfl)
    (pss_cons (ps_fld (pv 0) (pv 3) rfl)
    (pss_cons (ps_fld (pv 0) (pv 4) rfl)
    (pss_cons (ps_fld (pv 0) (pv 5) rfl)
    (pss_one (ps_fld (pv 0) (pv 6) rfl))))))), ?_⟩
  refine ⟨_, rfl, _, rfl, st_fld (tb := tb) hp T.c_Marks T.n_Marks_kind (by decide) aMarks_i0 fun H1 g1 h1 => ?_⟩
  refine ⟨_, rfl, _, rfl, st_fld (tb := tb) h1 T.c_Marks T.n_Marks_needs (by simp) aMarks_i1 fun H2 g2 h2 => ?_⟩
  refine ⟨_, rfl, _, rfl, st_fld (tb := tb) h2 T.c_Marks T.n_Marks_most (by simp) aMarks_i2 fun H3 g3 h3 => ?_⟩
  refine ⟨_, rfl, _, rfl, st_fld (tb := tb) h3 T.c_Marks T.n_Marks_member (by simp) aMarks_i3 fun H4 g4 h4 => ?_⟩
  refine ⟨_, rfl, _, rfl, st_fld (tb := tb) h4 T.c_Marks T.n_Marks_once (by simp) aMarks_i4 fun H5 g5 h5 => ?_⟩
  refine ⟨_, rfl, _, rfl, st_fld (tb := tb) h5 T.c_Marks T.n_Marks_lone (by simp) aMarks_i5 fun H6 g6 h6 => ?_⟩
  exact q H6 (((((g1.trans g2).trans g3).trans g4).trans g5).trans g6) h6
theorem ok_Marks (T : TX K mg) : Mak P w K mg base 1 "Marks" (CMarks K) (spMarksI tb K) [] := by
  obtain ⟨fd, F⟩ := T.df_Marks_init
  obtain ⟨ds, hd, hb⟩ := F.binds1 (ps := ["self", "kind", "needs", "most", "member", "once", "lone"]) 7 6 (by simp) rfl fun T kV doc pm an cdv ct us its hu hi => match us, hu, its, hi with | [_, _, _, _, _, _, _], _, [_, _, _, _, _, _], _ => ⟨_, rfl, rfl⟩
  exact mak_of T.g_Marks T.k_Marks (marks_fn T F) hb hd
theorem ok_Marks0 (T : TX K mg) : Mak P w K mg base 1 "Marks" (CMarks K) (spMarksI tb K) [V.non, V.int 0, V.non, V.bl false, V.bl false, V.bl false] := by
  obtain ⟨fd, F⟩ := T.df_Marks_init
  obtain ⟨ds, hd, hb⟩ := F.binds1 (ps := ["self", "kind", "needs", "most", "member", "once", "lone"]) 1 0 (by simp) rfl fun T kV doc pm an cdv ct us its hu hi => match us, hu, its, hi with | [_], _, [_, _, _, _, _, _], _ => ⟨_, rfl, rfl⟩
  exact mak_of T.g_Marks T.k_Marks (marks_fn T F) hb hd
theorem sc_Voucher_init : FnScope ["self", "marks"] ["self", "marks"] (defScope s_Voucher_init) := ⟨rfl, rfl, rfl, by decide +kernel, rfl, by decide +kernel, by decide +kernel⟩
theorem vinit_fn (T : TX K mg) {f : Addr} {fd : FuncData} (F : FunD K "__init__" "Voucher.__init__" (defArgs s_Voucher_init) (defBody s_Voucher_init) (defScope s_Voucher_init) [V.non] [] f fd) :
    FnOk P w K mg base CX0 3 f fd ["self", "marks"] (spVInit tb K) := by
  refine F.ok (k := 2) sc_Voucher_init (fun vs H Q E h => ?_) fun cdv A outer s H vs Q E hr h => ?_
  · obtain ⟨C, p, dx, m, rfl, _⟩ := h
    rfl
  have k_Marks : Mak P w K mg base 1 "Marks" (CMarks K) (spMarksI tb K) [V.non, V.int 0, V.non, V.bl false, V.bl false, V.bl false] := ok_Marks0 T
  obtain ⟨C, p, dx, m, rfl, hp, hc, hna, hm, q⟩ := h
  refine ⟨_, PSs.nox
    (pss_one (ps_fld (pv 0) (pe_ifExp (pt_cmp (pc_isN (pv 1))) (pe_mk0 k_Marks hr (by decide) rfl) (pv 1)) rfl)), ?_⟩
  have put : ∀ (y : V) (M : MarksD) (H1 : Hp), Gr tb H H1 → MarksAt K H1 y M → MOk M → ∃ a C' dx' fs', V.ref p = .ref a ∧ H1 a = some (.ins C' dx' fs') ∧ Cls K C' ∧ NoAttr K C' "marks" ∧ fs'.length < 1000 ∧ Q .non (upd H1 a (.ins C' dx' (putF "marks" y fs'))) := fun y M H1 g1 hy ok =>
    st_fld (tb := tb) (g1.ins hp) hc hna (by decide) aOff_i0 fun H2 g2 h2 => q H2 y M (g1.of.trans g2) h2 (hy.but g2 (g1.ins hp) (by decide)) ok
  refine ⟨_, rfl, ?_⟩
  rcases hm with rfl | ⟨M, hM, ok⟩
  · refine ⟨_, rfl, iteT fun x dx' hx hdx ne => ?_⟩
    have hx2 : (upd H dx' (.own x)) x = none := by rw [upd_ne (Ne.symm ne)]; exact hx
    refine ⟨x, dx', _, _, _, _, _, _, rfl, upd_same, fun H1 g1 h1 => ⟨rfl, _, rfl, ?_⟩⟩
    exact put (.ref x) ⟨none, 0, none, false, false, false⟩ H1 (Gr.made hx hdx ne g1) ⟨x, dx', rfl, h1⟩ fun x e => nomatch e
  · obtain ⟨a, d, rfl, ha⟩ := id hM
    exact ⟨_, rfl, iteF ⟨_, rfl, _, rfl, put _ M H (GrB.refl _) hM ok⟩⟩
theorem TX.clsfn (T : TX K mg) : clsfnB K "Voucher" "__init__" = true := (Bool.and_eq_true_iff.mp (Bool.and_eq_true_iff.mp T.ex).2).1
theorem ok_VIn (T : TX K mg) : VIn P w K mg base tb := by
  obtain ⟨fd, F⟩ := T.df_Voucher_init
  have c := T.clsfn
  unfold clsfnB at c
  obtain ⟨c1, c2⟩ := Bool.and_eq_true_iff.mp c
  obtain ⟨c2, c3⟩ := Bool.and_eq_true_iff.mp c2
  obtain ⟨ds, hd, hb⟩ := F.binds1 (ps := ["self", "marks"]) 2 1 (by simp) rfl fun T kV doc pm an cdv ct us its hu hi => match us, hu, its, hi with | [_, _], _, [_], _ => ⟨_, rfl, rfl⟩
  cases hd
  refine ⟨_, fd, _, c1, He.eqO_ok c2, ?_, F.kp, vinit_fn T F, hb⟩
  split at c3
  · rename_i a e
    rw [e, of_decide_eq_true c3]
  · cases c3
end
end VS
set_option Elab.async false
set_option linter.all false
set_option maxRecDepth 100000
set_option maxHeartbeats 4000000
namespace VS
open PySem PySem.Spec PyProof.Rows L2
section
variable {P : Program} {w : World} {K : PySem.W.Frag} {mg : Str → Option Value} {base : Heap} {tb : Addr}
theorem sc_Off_init : FnScope ["self", "amount", "marks"] ["self", "amount", "marks"] (defScope s_Off_init) := ⟨rfl, rfl, rfl, by decide +kernel, rfl, by decide +kernel, by decide +kernel⟩
theorem ok_Off (T : TX K mg) : Mak P w K mg base 4 "Off" (COff K) (fun vs H Q E => ∃ n, spVouI tb K (.off n) vs H Q E) [] := by
  obtain ⟨fd, F⟩ := T.df_Off_init
  obtain ⟨ds, hd, hb⟩ := F.binds1 (ps := ["self", "amount", "marks"]) 3 1 (by simp) rfl fun T kV doc pm an cdv ct us its hu hi => match us, hu, its, hi with | [_, _, _], _, [_], _ => ⟨_, rfl, rfl⟩
  refine mak_of T.g_Off T.k_Off (F.ok (k := 3) sc_Off_init (fun vs H Q E h => ?_) fun cdv A outer s H vs Q E hr h => ?_) hb hd
  · obtain ⟨n, p, dx, m, rfl, _⟩ := h
    rfl
  obtain ⟨_, vfd, vps, v_rd, v_ga, v_fc, v_kf, v_F, v_b⟩ := (ok_VIn (P := P) (w := w) (base := base) (tb := tb) T).is
  obtain ⟨n, p, dx, m, rfl, hp, hm, q⟩ := h
  refine ⟨_, PSs.nox
    (pss_cons (ps_expr (pe_clsfn rfl T.g_Voucher v_rd v_ga v_fc v_kf v_F v_b hr (by decide) (pa_cons (pv 0) (pa_cons (pv 2) pa_nil))))
    (pss_one (ps_fld (pv 0) (pv 1) rfl))), ?_⟩
  refine ⟨_, rfl, _, rfl, COff K, p, dx, m, rfl, hp, T.c_Off, T.n_Off_marks, hm, fun H1 mm M g1 h1 hM ok => ?_⟩
  refine ⟨_, rfl, _, rfl, st_fld (tb := tb) h1 T.c_Off T.n_Off_amount (by simp) aOff_i1 fun H2 g2 h2 => ?_⟩
  exact q H2 mm M ((g1).trans g2) h2 ((hM).but g2 h1 (by simp)) ok
theorem sc_Share_init : FnScope ["self", "share", "by_line", "marks"] ["self", "share", "by_line", "marks"] (defScope s_Share_init) := ⟨rfl, rfl, rfl, by decide +kernel, rfl, by decide +kernel, by decide +kernel⟩
theorem ok_Share (T : TX K mg) : Mak P w K mg base 4 "Share" (CShare K) (fun vs H Q E => ∃ n b, spVouI tb K (.share n b) vs H Q E) [] := by
  obtain ⟨fd, F⟩ := T.df_Share_init
  obtain ⟨ds, hd, hb⟩ := F.binds1 (ps := ["self", "share", "by_line", "marks"]) 4 2 (by simp) rfl fun T kV doc pm an cdv ct us its hu hi => match us, hu, its, hi with | [_, _, _, _], _, [_, _], _ => ⟨_, rfl, rfl⟩
  refine mak_of T.g_Share T.k_Share (F.ok (k := 3) sc_Share_init (fun vs H Q E h => ?_) fun cdv A outer s H vs Q E hr h => ?_) hb hd
  · obtain ⟨n, b, p, dx, m, rfl, _⟩ := h
    rfl
  obtain ⟨_, vfd, vps, v_rd, v_ga, v_fc, v_kf, v_F, v_b⟩ := (ok_VIn (P := P) (w := w) (base := base) (tb := tb) T).is
  obtain ⟨n, b, p, dx, m, rfl, hp, hm, q⟩ := h
  refine ⟨_, PSs.nox
    (pss_cons (ps_expr (pe_clsfn rfl T.g_Voucher v_rd v_ga v_fc v_kf v_F v_b hr (by decide) (pa_cons (pv 0) (pa_cons (pv 3) pa_nil))))
    (pss_cons (ps_fld (pv 0) (pv 1) rfl)
    (pss_one (ps_fld (pv 0) (pv 2) rfl)))), ?_⟩
  refine ⟨_, rfl, _, rfl, CShare K, p, dx, m, rfl, hp, T.c_Share, T.n_Share_marks, hm, fun H1 mm M g1 h1 hM ok => ?_⟩
  refine ⟨_, rfl, _, rfl, st_fld (tb := tb) h1 T.c_Share T.n_Share_share (by simp) aShare_i1 fun H2 g2 h2 => ?_⟩
  refine ⟨_, rfl, _, rfl, st_fld (tb := tb) h2 T.c_Share T.n_Share_by_line (by simp) aShare_i2 fun H3 g3 h3 => ?_⟩
  exact q H3 mm M (((g1).trans g2).trans g3) h3 ((((hM).but g2 h1 (by simp))).but g3 h2 (by simp)) ok
theorem sc_Cheapest_init : FnScope ["self", "many", "marks"] ["self", "many", "marks"] (defScope s_Cheapest_init) := ⟨rfl, rfl, rfl, by decide +kernel, rfl, by decide +kernel, by decide +kernel⟩
theorem ok_Cheapest (T : TX K mg) : Mak P w K mg base 4 "Cheapest" (CCheapest K) (fun vs H Q E => ∃ n, spVouI tb K (.cheapest n) vs H Q E) [] := by
  obtain ⟨fd, F⟩ := T.df_Cheapest_init
  obtain ⟨ds, hd, hb⟩ := F.binds1 (ps := ["self", "many", "marks"]) 3 1 (by simp) rfl fun T kV doc pm an cdv ct us its hu hi => match us, hu, its, hi with | [_, _, _], _, [_], _ => ⟨_, rfl, rfl⟩
  refine mak_of T.g_Cheapest T.k_Cheapest (F.ok (k := 3) sc_Cheapest_init (fun vs H Q E h => ?_) fun cdv A outer s H vs Q E hr h => ?_) hb hd
  · obtain ⟨n, p, dx, m, rfl, _⟩ := h
    rfl
  obtain ⟨_, vfd, vps, v_rd, v_ga, v_fc, v_kf, v_F, v_b⟩ := (ok_VIn (P := P) (w := w) (base := base) (tb := tb) T).is
  obtain ⟨n, p, dx, m, rfl, hp, hm, q⟩ := h
  refine ⟨_, PSs.nox
    (pss_cons (ps_expr (pe_clsfn rfl T.g_Voucher v_rd v_ga v_fc v_kf v_F v_b hr (by decide) (pa_cons (pv 0) (pa_cons (pv 2) pa_nil))))
    (pss_one (ps_fld (pv 0) (pv 1) rfl))), ?_⟩
  refine ⟨_, rfl, _, rfl, CCheapest K, p, dx, m, rfl, hp, T.c_Cheapest, T.n_Cheapest_marks, hm, fun H1 mm M g1 h1 hM ok => ?_⟩
  refine ⟨_, rfl, _, rfl, st_fld (tb := tb) h1 T.c_Cheapest T.n_Cheapest_many (by simp) aCheapest_i1 fun H2 g2 h2 => ?_⟩
  exact q H2 mm M ((g1).trans g2) h2 ((hM).but g2 h1 (by simp)) ok
theorem sc_Bundle_init : FnScope ["self", "many", "price", "marks"] ["self", "many", "price", "marks"] (defScope s_Bundle_init) := ⟨rfl, rfl, rfl, by decide +kernel, rfl, by decide +kernel, by decide +kernel⟩
theorem ok_Bundle (T : TX K mg) : Mak P w K mg base 4 "Bundle" (CBundle K) (fun vs H Q E => ∃ n c, spVouI tb K (.bundle n c) vs H Q E) [] := by
  obtain ⟨fd, F⟩ := T.df_Bundle_init
  obtain ⟨ds, hd, hb⟩ := F.binds1 (ps := ["self", "many", "price", "marks"]) 4 1 (by simp) rfl fun T kV doc pm an cdv ct us its hu hi => match us, hu, its, hi with | [_, _, _, _], _, [_], _ => ⟨_, rfl, rfl⟩
  refine mak_of T.g_Bundle T.k_Bundle (F.ok (k := 3) sc_Bundle_init (fun vs H Q E h => ?_) fun cdv A outer s H vs Q E hr h => ?_) hb hd
  · obtain ⟨n, c, p, dx, m, rfl, _⟩ := h
    rfl
  obtain ⟨_, vfd, vps, v_rd, v_ga, v_fc, v_kf, v_F, v_b⟩ := (ok_VIn (P := P) (w := w) (base := base) (tb := tb) T).is
  obtain ⟨n, c, p, dx, m, rfl, hp, hm, q⟩ := h
  refine ⟨_, PSs.nox
    (pss_cons (ps_expr (pe_clsfn rfl T.g_Voucher v_rd v_ga v_fc v_kf v_F v_b hr (by decide) (pa_cons (pv 0) (pa_cons (pv 3) pa_nil))))
    (pss_cons (ps_fld (pv 0) (pv 1) rfl)
    (pss_one (ps_fld (pv 0) (pv 2) rfl)))), ?_⟩
  refine ⟨_, rfl, _, rfl, CBundle K, p, dx, m, rfl, hp, T.c_Bundle, T.n_Bundle_marks, hm, fun H1 mm M g1 h1 hM ok => ?_⟩
  refine ⟨_, rfl, _, rfl, st_fld (tb := tb) h1 T.c_Bundle T.n_Bundle_many (by simp) aBundle_i1 fun H2 g2 h2 => ?_⟩
  refine ⟨_, rfl, _, rfl, st_fld (tb := tb) h2 T.c_Bundle T.n_Bundle_price (by simp) aBundle_i2 fun H3 g3 h3 => ?_⟩
  exact q H3 mm M (((g1).trans g2).trans g3) h3 ((((hM).but g2 h1 (by simp))).but g3 h2 (by simp)) ok
theorem ok_Carriage (T : TX K mg) : Mak P w K mg base 4 "Carriage" (CCarriage K) (spVouI tb K .carriage) [] := by
  obtain ⟨fd, F⟩ := T.df_Carriage_init
  obtain ⟨ds, hd, hb⟩ := F.binds1 (ps := ["self", "marks"]) 2 1 (by simp) rfl fun T kV doc pm an cdv ct us its hu hi => match us, hu, its, hi with | [_, _], _, [_], _ => ⟨_, rfl, rfl⟩
  refine mak_of T.g_Carriage T.k_Carriage (F.ok (k := 3) sc_Voucher_init (fun vs H Q E h => ?_) fun cdv A outer s H vs Q E hr h => ?_) hb hd
  · obtain ⟨p, dx, m, rfl, _⟩ := h
    rfl
  have k_Marks : Mak P w K mg base 1 "Marks" (CMarks K) (spMarksI tb K) [V.non, V.int 0, V.non, V.bl false, V.bl false, V.bl false] := ok_Marks0 T
  obtain ⟨p, dx, m, rfl, hp, hm, q⟩ := h
  refine ⟨_, PSs.nox
    (pss_one (ps_fld (pv 0) (pe_ifExp (pt_cmp (pc_isN (pv 1))) (pe_mk0 k_Marks hr (by decide) rfl) (pv 1)) rfl)), ?_⟩
  have put : ∀ (y : V) (M : MarksD) (H1 : Hp), Gr tb H H1 → MarksAt K H1 y M → MOk M → ∃ a C' dx' fs', V.ref p = .ref a ∧ H1 a = some (.ins C' dx' fs') ∧ Cls K C' ∧ NoAttr K C' "marks" ∧ fs'.length < 1000 ∧ Q .non (upd H1 a (.ins C' dx' (putF "marks" y fs'))) := fun y M H1 g1 hy ok =>
    st_fld (tb := tb) (g1.ins hp) T.c_Carriage T.n_Carriage_marks (by decide) aCarriage_i0 fun H2 g2 h2 => q H2 y M (g1.of.trans g2) h2 (hy.but g2 (g1.ins hp) (by decide)) ok
  refine ⟨_, rfl, ?_⟩
  rcases hm with rfl | ⟨M, hM, ok⟩
  · refine ⟨_, rfl, iteT fun x dx' hx hdx ne => ?_⟩
    have hx2 : (upd H dx' (.own x)) x = none := by rw [upd_ne (Ne.symm ne)]; exact hx
    refine ⟨x, dx', _, _, _, _, _, _, rfl, upd_same, fun H1 g1 h1 => ⟨rfl, _, rfl, ?_⟩⟩
    exact put (.ref x) ⟨none, 0, none, false, false, false⟩ H1 (Gr.made hx hdx ne g1) ⟨x, dx', rfl, h1⟩ fun x e => nomatch e
  · obtain ⟨a, d, rfl, ha⟩ := id hM
    exact ⟨_, rfl, iteF ⟨_, rfl, _, rfl, put _ M H (GrB.refl _) hM ok⟩⟩
/-! ### Till -/
def spTill (tb : Addr) (K : PySem.W.Frag) : Sp := fun vs H Q _ => ∃ p dx a b c xs ys zs k, vs = [.ref p, .ref a, .ref b, .ref c, k] ∧ H p = some (.ins (CTill K) dx []) ∧ H a = some (.lst xs) ∧ H b = some (.lst ys) ∧ H c = some (.lst zs) ∧
  ∀ H' a' b' c', GrB tb [p] H H' → H' a' = some (.lst xs) → H' b' = some (.lst ys) → H' c' = some (.lst zs) → H' p = some (.ins (CTill K) dx (aTill (.ref a') (.ref b') (.ref c') k)) → Q .non H'
theorem sc_Till_init : FnScope ["self", "parents", "vouchers", "rules", "back"] ["self", "parents", "vouchers", "rules", "back"] (defScope s_Till_init) := ⟨rfl, rfl, rfl, by decide +kernel, rfl, by decide +kernel, by decide +kernel⟩
theorem ok_Till (T : TX K mg) : Mak P w K mg base 1 "Till" (CTill K) (spTill tb K) [] := by
  obtain ⟨fd, F⟩ := T.df_Till_init
  obtain ⟨ds, hd, hb⟩ := F.binds1 (ps := ["self", "parents", "vouchers", "rules", "back"]) 5 1 (by simp) rfl fun T kV doc pm an cdv ct us its hu hi => match us, hu, its, hi with | [_, _, _, _, _], _, [_], _ => ⟨_, rfl, rfl⟩
  refine mak_of T.g_Till T.k_Till (F.ok (k := 0) sc_Till_init (fun vs H Q E h => ?_) fun cdv A outer s H vs Q E hr h => ?_) hb hd
  · obtain ⟨p, dx, a, b, c, xs, ys, zs, k, rfl, _⟩ := h
    rfl
  obtain ⟨p, dx, a, b, c, xs, ys, zs, k, rfl, hp, ha, hb, hc, q⟩ := h
  refine ⟨_, PSs.nox
    (pss_cons (ps_fld (pv 0) (pe_callTy call_list_of rfl T.f_list B_list (pa_cons (pv 1) pa_nil)) rfl)
    (pss_cons (ps_fld (pv 0) (pe_callTy call_list_of rfl T.f_list B_list (pa_cons (pv 2) pa_nil)) rfl)
    (pss_cons (ps_fld (pv 0) (pe_callTy call_list_of rfl T.f_list B_list (pa_cons (pv 3) pa_nil)) rfl)
    (pss_one (ps_fld (pv 0) (pv 4) rfl))))), ?_⟩
  have np : ∀ {d ws}, H d = some (.lst ws) → d ∉ [p] := fun h e => by rw [List.mem_singleton.mp e, hp] at h; cases h
  refine ⟨_, rfl, a, _, rfl, .inl (SqL.of ha), fun l1 hl1 => ⟨_, rfl, ?_⟩⟩
  have n1 : p ≠ l1 := ne_of_none hp hl1
  refine st_fld (tb := tb) (Gr.ins (tb := tb) (Gr.new hl1) hp) T.c_Till T.n_Till_parents (by decide) aTill_i0 fun H1 g1 h1 => ?_
  have k1 : GrB tb [p] H H1 := (GrB.add (GrB.refl H) hl1).trans g1
  have r1 : H1 l1 = some (.lst xs) := g1.lst upd_same (by simpa using Ne.symm n1)
  refine ⟨_, rfl, b, _, rfl, .inl (SqL.of (k1.lst hb (np hb))), fun l2 hl2 => ⟨_, rfl, ?_⟩⟩
  have n2 : p ≠ l2 := ne_of_none h1 hl2
  refine st_fld (tb := tb) (Gr.ins (tb := tb) (Gr.new hl2) h1) T.c_Till T.n_Till_vouchers (by simp) aTill_i1 fun H2 g2 h2 => ?_
  have k2 : GrB tb [p] H H2 := (k1.add hl2).trans g2
  have r2 : H2 l2 = some (.lst ys) := g2.lst upd_same (by simpa using Ne.symm n2)
  have r12 : H2 l1 = some (.lst xs) := g2.lst (Gr.lst (tb := tb) (Gr.new hl2) r1) (by simpa using Ne.symm n1)
  refine ⟨_, rfl, c, _, rfl, .inl (SqL.of (k2.lst hc (np hc))), fun l3 hl3 => ⟨_, rfl, ?_⟩⟩
  have n3 : p ≠ l3 := ne_of_none h2 hl3
  refine st_fld (tb := tb) (Gr.ins (tb := tb) (Gr.new hl3) h2) T.c_Till T.n_Till_rules (by simp) aTill_i2 fun H3 g3 h3 => ?_
  have k3 : GrB tb [p] H H3 := (k2.add hl3).trans g3
  have r3 : H3 l3 = some (.lst zs) := g3.lst upd_same (by simpa using Ne.symm n3)
  have r23 : H3 l2 = some (.lst ys) := g3.lst (Gr.lst (tb := tb) (Gr.new hl3) r2) (by simpa using Ne.symm n2)
  have r13 : H3 l1 = some (.lst xs) := g3.lst (Gr.lst (tb := tb) (Gr.new hl3) r12) (by simpa using Ne.symm n1)
  refine ⟨_, rfl, _, rfl, st_fld (tb := tb) h3 T.c_Till T.n_Till_back (by simp) aTill_i3 fun H4 g4 h4 => ?_⟩
  exact q H4 l1 l2 l3 (k3.trans g4) (g4.lst r13 (by simpa using Ne.symm n1)) (g4.lst r23 (by simpa using Ne.symm n2)) (g4.lst r3 (by simpa using Ne.symm n3)) h4
end
end VS
set_option Elab.async false
set_option linter.all false
set_option maxRecDepth 100000
set_option maxHeartbeats 4000000
namespace VS
open PySem PySem.Spec PyProof.Rows L2
section
variable {J : It} {n : Nat} {G : Hp → Prop} {Y : Nat → Hp → V → Hp → Prop} {tb : Addr} {g : TG} {te : TE} {vs : List Nat} {σ : L2.St} {H1 : Hp} {D : Addr} {Qd : Hp → Prop}
/-- no test; the elements are new objects of which only ok is known -/
theorem lc_new {β : Type} (F : Hp → V → β → Prop) (ok : β → Prop) (w : Walk J n G Y) (hz : n ≤ 100000) (hD : H1 D = none) (hG : ∀ H, Gr tb H1 H → G H)
    (hm : ∀ H H' v b, Gr tb H H' → F H v b → F H' v b) (hp : ∀ H xs ys v b, H D = some (.lst xs) → F H v b → F (upd H D (.lst ys)) v b)
    (hs : ∀ i x H H' (N : V → Hp → Prop), i < n → Gr tb H1 H → Y i H x H' → (∀ y b H4, Gr tb H H4 → F H4 y b → ok b → N y H4) → g x (wipe σ vs) H' fun σ2 H2 => wipe σ2 vs = wipe σ vs ∧ te σ2 H2 N)
    (hd : ∀ H ys bs, Gr tb H1 H → H D = some (.lst ys) → Paired (F H) ys bs → bs.length = n → (∀ b ∈ bs, ok b) → Qd H) :
    ∃ W : Nat → Nat → Hp → Prop, (∃ m, W 0 m (upd H1 D (.lst []))) ∧ ∀ i m H, W i m H →
      (J.stop i H ∧ Qd H) ∨ (J.go i H ∧ ∃ Nx : Hp → Prop, (∀ H', Nx H' → ∃ m', m' < m ∧ W (i + 1) m' H') ∧ ∀ x H', J.yld i H x H' → g x (wipe σ vs) H' fun σ2 H2 => wipe σ2 vs = wipe σ vs ∧ tYes σ2 H2 fun b H3 =>
        if b = true then te σ2 H3 fun y H4 => ∃ acc, H4 D = some (.lst acc) ∧ acc.length < sizeLine ∧ Nx (upd H4 D (.lst (acc ++ [y]))) else Nx H3) := by
  refine lc_it w (fun i H => Gr tb H1 H ∧ ∃ ys bs, H D = some (.lst ys) ∧ Paired (F H) ys bs ∧ bs.length = i ∧ ∀ b ∈ bs, ok b) ⟨Gr.new hD, [], [], upd_same, .nil, rfl, fun b h => absurd h (by simp)⟩ (fun i H _ p => hG H p.1) (fun i x H H' hi p y => ?_) fun H p => ?_
  · obtain ⟨p1, ys, bs, p2, p3, p4, p5⟩ := p
    refine hs i x H H' _ hi p1 y fun y b H4 g4 f okb => ⟨ys, g4.lst p2, ?_, Gr.putL (GrB.trans p1 g4) hD (g4.lst p2), _, bs ++ [b], upd_same, ?_, by rw [List.length_append, p4]; rfl, fun c hc => ?_⟩
    · rw [p3.length, p4]
      exact Nat.lt_of_le_of_lt (Nat.le_trans (Nat.le_of_lt hi) hz) (by decide)
    · exact Paired.snoc (Paired.mapP p3 fun v b q => hp _ _ _ _ _ (g4.lst p2) (hm _ _ _ _ g4 q)) (hp _ _ _ _ _ (g4.lst p2) f)
    · rcases List.mem_append.mp hc with h | h
      · exact p5 c h
      · rw [List.mem_singleton.mp h]; exact okb
  · obtain ⟨p1, ys, bs, p2, p3, p4, p5⟩ := p
    exact hd H ys bs p1 p2 p3 p4 p5
end
/-- one of a list's numbers -/
theorem pickI {xs : List Int} {d : Int} (d0 : 0 ≤ d) (d1 : d < xs.length) : ∃ z, atI (ivs xs) d = some (.int z) ∧ z ∈ xs := ⟨_, at_ivs d0 d1, gi_mem d0 d1⟩
def spAmount (tb : Addr) (K : PySem.W.Frag) : Sp := fun vs H Q _ => ∃ s k t wv, vs = [.ref s, .int k, .int t, .int wv] ∧ Scr K H s ∧ Sml k ∧ (0 ≤ t ∧ t ≤ 1000) ∧ 0 ≤ wv ∧ ∀ a H', Gr tb H H' → 0 ≤ a → Q (.int a) H'
def spLMarks (tb : Addr) (K : PySem.W.Frag) : Sp := fun vs H Q _ => ∃ s k n wv, vs = [.ref s, .int k, .int n, .int wv] ∧ Scr K H s ∧ Sml k ∧ 0 < n ∧ 0 ≤ wv ∧ ∀ m H', Gr tb H H' → VMk K H' m → Q m H'
def spLVou (tb : Addr) (K : PySem.W.Frag) : Sp := fun vs H Q _ => ∃ s k n wv, vs = [.ref s, .int k, .int n, .int wv] ∧ Scr K H s ∧ Sml k ∧ 0 < n ∧ 0 ≤ wv ∧ ∀ x u H', Gr tb H H' → VouAt K H' (.ref x) u → VouOk u → Q (.ref x) H'
section
variable {P : Program} {w : World} {K : PySem.W.Frag} {mg : Str → Option Value} {base : Heap} {tb : Addr}
theorem sc_law_amount : FnScope ["_law_script", "_law_k", "_law_salt", "_law_worth_here", "_law_how", "_law_some_here"] ["_law_script", "_law_k", "_law_salt", "_law_worth_here"] (defScope s_law_amount) := ⟨rfl, rfl, rfl, by decide +kernel, rfl, by decide +kernel, by decide +kernel⟩
theorem ok_law_amount (T : TX K mg) : Cal P w K mg base 3 "_law_amount" (spAmount tb K) := by
  obtain ⟨fd, F⟩ := T.df_law_amount
  refine cal_of F T.g_law_amount (F.ok (k := 2) sc_law_amount (fun vs H Q E h => ?_) fun cdv A outer s H vs Q E hr h => ?_) (F.bindsN (ps := ["_law_script", "_law_k", "_law_salt", "_law_worth_here"]) fun _ _ _ _ _ _ us hl => match us, hl with | [_, _, _, _], _ => rfl)
  · obtain ⟨s, k, t, wv, rfl, _⟩ := h
    rfl
  have c_law_some : Cal P w K mg base 2 "_law_some" (spSome K) := ok_law_some T
  obtain ⟨s, k, t, wv, rfl, hs, sk, ⟨t0, t1⟩, w0, q⟩ := h
  refine ⟨_, PSs.nox
    (pss_cons (ps_set (i := 4) sc_law_amount.nd rfl (Or.inl rfl) (pe_c c_law_some hr (by decide) rfl (pa_cons (pv 0) (pa_cons (pv 1) (pa_cons (pv 2) (pa_cons pe_int pa_nil))))))
    (pss_cons (ps_set (i := 5) sc_law_amount.nd rfl (Or.inl rfl) (pe_lst (pa_cons (pe_c c_law_some hr (by decide) rfl (pa_cons (pv 0) (pa_cons (pv 1) (pa_cons (pe_op op_add (pv 2) pe_int) (pa_cons pe_int pa_nil))))) (pa_cons (pv 3) (pa_cons (pe_op op_add (pv 3) pe_int) (pa_cons (pe_op op_fdiv (pv 3) pe_int) (pa_cons (pe_op op_fdiv (pv 3) pe_int) pa_nil)))))))
    (pss_cons (ps_expr (pe_bm PySem.F.plainAttrs_list PySem.F.slot_list_append PySem.F.type_list_append mt_append (pv 5) (pa_cons (pe_c c_law_some hr (by decide) rfl (pa_cons (pv 0) (pa_cons (pv 1) (pa_cons (pe_op op_add (pv 2) pe_int) (pa_cons pe_int pa_nil))))) pa_nil)))
    (pss_one (ps_ret (pe_callB (call_min2 rfl) rfl T.f_min B_min (pa_cons pe_int (pa_cons (pe_ix ix_list (pv 5) (pv 4) (fun _ _ => rfl)) pa_nil)))))))), ?_⟩
  refine seq_set ⟨_, rfl, _, rfl, _, rfl, s, k, t, 6, rfl, hs, sk, ⟨t0, by omega⟩, by decide, fun c c0 c1 => ?_⟩
  refine seq_set ⟨_, rfl, _, rfl, _, rfl, _, _, rfl, rfl, s, k, _, 10, rfl, hs, sk, ⟨by omega, by omega⟩, by decide, fun d d0 d1 => ⟨_, rfl, _, rfl, _, _, rfl, rfl, _, rfl, _, _, rfl, rfl, ⟨by decide, by decide⟩, _, rfl, _, _, rfl, rfl, ⟨by decide, by decide⟩, Nat.le_of_lt (small1000 (show 5 ≤ 1000 by decide)), fun p hp => ?_⟩⟩
  have gp : Gr tb H (upd H p (.lst [.int d, .int wv, .int (wv + 1), .int (wv / 2), .int (wv / 5)])) := Gr.new hp
  have hpp : upd H p (.lst [.int d, .int wv, .int (wv + 1), .int (wv / 2), .int (wv / 5)]) p = some (.lst (ivs [d, wv, wv + 1, wv / 2, wv / 5])) := upd_same
  generalize upd H p (.lst [.int d, .int wv, .int (wv + 1), .int (wv / 2), .int (wv / 5)]) = H1 at gp hpp ⊢
  refine ⟨_, rfl, .inl ⟨rfl, _, SqL.of hpp⟩, _, rfl, _, rfl, _, rfl, _, _, rfl, rfl, s, k, _, 1000000, rfl, hs.gr gp, sk, ⟨by omega, by omega⟩, by decide, fun e e0 e1 => ⟨p, _, _, rfl, rfl, hpp, small1000 (show 5 ≤ 1000 by decide), ?_⟩⟩
  have gq : Gr tb H (upd H1 p (.lst (ivs [d, wv, wv + 1, wv / 2, wv / 5] ++ [.int e]))) := gp.putL hp hpp
  obtain ⟨z, ez, hz⟩ := pickI (xs := [d, wv, wv + 1, wv / 2, wv / 5, e]) c0 c1
  refine ⟨_, rfl, _, rfl, p, _, c, _, rfl, rfl, SqL.of upd_same, ez, _, _, rfl, q _ _ gq ?_⟩
  have hz0 : 0 ≤ z := by
    simp only [List.mem_cons, List.not_mem_nil, or_false] at hz
    omega
  split <;> omega
theorem sc_law_marks : FnScope ["_law_script", "_law_k", "_law_kinds", "_law_worth_here", "_law_kind", "_law_least", "_law_bound", "_law_bits"] ["_law_script", "_law_k", "_law_kinds", "_law_worth_here"] (defScope s_law_marks) := ⟨rfl, rfl, rfl, by decide +kernel, rfl, by decide +kernel, by decide +kernel⟩
theorem ok_law_marks (T : TX K mg) : Cal P w K mg base 4 "_law_marks" (spLMarks tb K) := by
  obtain ⟨fd, F⟩ := T.df_law_marks
  refine cal_of F T.g_law_marks (F.ok (k := 3) sc_law_marks (fun vs H Q E h => ?_) fun cdv A outer s H vs Q E hr h => ?_) (F.bindsN (ps := ["_law_script", "_law_k", "_law_kinds", "_law_worth_here"]) fun _ _ _ _ _ _ us hl => match us, hl with | [_, _, _, _], _ => rfl)
  · obtain ⟨s, k, n, wv, rfl, _⟩ := h
    rfl
  have c_law_some : Cal P w K mg base 2 "_law_some" (spSome K) := ok_law_some T
  have c_law_amount : Cal P w K mg base 3 "_law_amount" (spAmount tb K) := ok_law_amount T
  have k_Marks : Mak P w K mg base 1 "Marks" (CMarks K) (spMarksI tb K) [] := ok_Marks T
  obtain ⟨s, k, n, wv, rfl, hs, sk, n0, w0, q⟩ := h
  refine ⟨_, PSs.nox
    (pss_cons (ps_if0 (pt_cmpR op_eq (pe_c c_law_some hr (by decide) rfl (pa_cons (pv 0) (pa_cons (pv 1) (pa_cons pe_int (pa_cons pe_int pa_nil))))) pe_int (nomark _))
      (pss_one (ps_ret pe_non)))
    (pss_cons (ps_set (i := 4) sc_law_marks.nd rfl (Or.inl rfl) pe_non)
    (pss_cons (ps_if0 (pt_cmpR op_eq (pe_c c_law_some hr (by decide) rfl (pa_cons (pv 0) (pa_cons (pv 1) (pa_cons pe_int (pa_cons pe_int pa_nil))))) pe_int (nomark _))
      (pss_one (ps_set (i := 4) sc_law_marks.nd rfl (Or.inl rfl) (pe_c c_law_some hr (by decide) rfl (pa_cons (pv 0) (pa_cons (pv 1) (pa_cons pe_int (pa_cons (pv 2) pa_nil))))))))
    (pss_cons (ps_set (i := 5) sc_law_marks.nd rfl (Or.inl rfl) pe_int)
    (pss_cons (ps_if0 (pt_cmpR op_eq (pe_c c_law_some hr (by decide) rfl (pa_cons (pv 0) (pa_cons (pv 1) (pa_cons pe_int (pa_cons pe_int pa_nil))))) pe_int (nomark _))
      (pss_one (ps_set (i := 5) sc_law_marks.nd rfl (Or.inl rfl) (pe_c c_law_amount hr (by decide) rfl (pa_cons (pv 0) (pa_cons (pv 1) (pa_cons pe_int (pa_cons (pv 3) pa_nil))))))))
    (pss_cons (ps_set (i := 6) sc_law_marks.nd rfl (Or.inl rfl) pe_non)
    (pss_cons (ps_if0 (pt_cmpR op_eq (pe_c c_law_some hr (by decide) rfl (pa_cons (pv 0) (pa_cons (pv 1) (pa_cons pe_int (pa_cons pe_int pa_nil))))) pe_int (nomark _))
      (pss_one (ps_set (i := 6) sc_law_marks.nd rfl (Or.inl rfl) (pe_c c_law_amount hr (by decide) rfl (pa_cons (pv 0) (pa_cons (pv 1) (pa_cons pe_int (pa_cons (pv 3) pa_nil))))))))
    (pss_cons (ps_set (i := 7) sc_law_marks.nd rfl (Or.inl rfl) (pe_c c_law_some hr (by decide) rfl (pa_cons (pv 0) (pa_cons (pv 1) (pa_cons pe_int (pa_cons pe_int pa_nil))))))
    (pss_one (ps_ret (pe_mk k_Marks hr (by decide) rfl (pa_cons (pv 4) (pa_cons (pv 5) (pa_cons (pv 6) (pa_cons (pe_cmpR op_eq (pe_op op_mod (pv 7) pe_int) pe_int (nomark _)) (pa_cons (pe_cmpR op_eq (pe_op op_mod (pv 7) pe_int) pe_int (nomark _)) (pa_cons (pe_cmpR op_eq (pe_op op_mod (pv 7) pe_int) pe_int (nomark _)) pa_nil))))))))))))))))), ?_⟩
  have sm : ∀ d : Int, 0 ≤ d → d ≤ 1000 → Sml d := fun d h0 h1 => ⟨h0, by omega⟩
  refine seq_if0r (tb := tb) (fun _ => True) (fun σ' H1 => σ' = [some (.ref s), some (.int k), some (.int n), some (.int wv), none, none, none, none] ∧ Gr tb H H1)
    (fun R r => ⟨_, rfl, _, rfl, s, k, _, 3, rfl, hs, sk, sm _ (by decide) (by decide), by decide, fun d _ _ => ⟨rfl, _, rfl, r _ _ (GrB.refl _) trivial⟩⟩) (fun H1 g1 _ N hN => q _ _ g1 (.inl rfl)) (fun H1 g1 _ => ⟨rfl, g1⟩) ?_
  rintro σ H1 ⟨rfl, g1⟩
  refine seq_set ?_
  refine seq_if0r (tb := tb) (fun _ => True) (fun σ' H2 => ∃ kd, σ' = [some (.ref s), some (.int k), some (.int n), some (.int wv), some (optV kd), none, none, none] ∧ Gr tb H H2)
    (fun R r => ⟨_, rfl, _, rfl, s, k, _, 3, rfl, hs.gr g1, sk, sm _ (by decide) (by decide), by decide, fun d _ _ => ⟨rfl, _, rfl, r _ _ (GrB.refl _) trivial⟩⟩)
    (fun H2 g2 _ N hN => one_set ⟨_, rfl, _, rfl, _, rfl, s, k, _, n, rfl, hs.gr (g1.trans g2), sk, sm _ (by decide) (by decide), n0, fun d _ _ => hN _ _ ⟨some d, rfl, g1.trans g2⟩⟩) (fun H2 g2 _ => ⟨none, rfl, g1.trans g2⟩) ?_
  rintro σ H2 ⟨kd, rfl, g2⟩
  refine seq_set ?_
  refine seq_if0r (tb := tb) (fun _ => True) (fun σ' H3 => ∃ ls, σ' = [some (.ref s), some (.int k), some (.int n), some (.int wv), some (optV kd), some (.int ls), none, none] ∧ Gr tb H H3)
    (fun R r => ⟨_, rfl, _, rfl, s, k, _, 4, rfl, hs.gr g2, sk, sm _ (by decide) (by decide), by decide, fun d _ _ => ⟨rfl, _, rfl, r _ _ (GrB.refl _) trivial⟩⟩)
    (fun H3 g3 _ N hN => one_set ⟨_, rfl, _, rfl, _, rfl, s, k, _, wv, rfl, hs.gr (g2.trans g3), sk, ⟨by decide, by decide⟩, w0, fun d H4 g4 _ => hN _ _ ⟨d, rfl, (g2.trans g3).trans g4⟩⟩) (fun H3 g3 _ => ⟨0, rfl, g2.trans g3⟩) ?_
  rintro σ H3 ⟨ls, rfl, g3⟩
  refine seq_set ?_
  refine seq_if0r (tb := tb) (fun _ => True) (fun σ' H4 => ∃ mo, σ' = [some (.ref s), some (.int k), some (.int n), some (.int wv), some (optV kd), some (.int ls), some (optV mo), none] ∧ Gr tb H H4 ∧ ∀ x, mo = some x → 0 ≤ x)
    (fun R r => ⟨_, rfl, _, rfl, s, k, _, 3, rfl, hs.gr g3, sk, sm _ (by decide) (by decide), by decide, fun d _ _ => ⟨rfl, _, rfl, r _ _ (GrB.refl _) trivial⟩⟩)
    (fun H4 g4 _ N hN => one_set ⟨_, rfl, _, rfl, _, rfl, s, k, _, wv, rfl, hs.gr (g3.trans g4), sk, ⟨by decide, by decide⟩, w0, fun d H5 g5 d0 => hN _ _ ⟨some d, rfl, (g3.trans g4).trans g5, fun x e => by cases e; exact d0⟩⟩) (fun H4 g4 _ => ⟨none, rfl, g3.trans g4, fun x e => nomatch e⟩) ?_
  rintro σ H4 ⟨mo, rfl, g4, hmo⟩
  refine seq_set ⟨_, rfl, _, rfl, s, k, _, 60, rfl, hs.gr g4, sk, sm _ (by decide) (by decide), by decide, fun b _ _ => ?_⟩
  refine ⟨_, rfl, _, rfl, _, rfl, _, rfl, _, _, rfl, rfl, show (0 : Int) < 5 by decide, rfl, _, rfl, _, _, rfl, rfl, show (0 : Int) < 4 by decide, rfl, _, rfl, _, _, rfl, rfl, show (0 : Int) < 3 by decide, rfl, fun x dx hx hdx ne => ?_⟩
  exact ⟨x, dx, _, _, _, _, _, _, rfl, upd_same, fun H5 g5 h5 => ⟨rfl, q _ _ (g4.trans (Gr.made hx hdx ne g5)) (.inr ⟨⟨kd, ls, mo, _, _, _⟩, ⟨x, dx, rfl, h5⟩, hmo⟩)⟩⟩
theorem sc_law_voucher : FnScope ["_law_script", "_law_k", "_law_kinds", "_law_worth_here", "_law_marks_here", "_law_how", "_law_share"] ["_law_script", "_law_k", "_law_kinds", "_law_worth_here"] (defScope s_law_voucher) := ⟨rfl, rfl, rfl, by decide +kernel, rfl, by decide +kernel, by decide +kernel⟩
theorem ok_law_voucher (T : TX K mg) : Cal P w K mg base 6 "_law_voucher" (spLVou tb K) := by
  obtain ⟨fd, F⟩ := T.df_law_voucher
  refine cal_of F T.g_law_voucher (F.ok (k := 5) sc_law_voucher (fun vs H Q E h => ?_) fun cdv A outer s H vs Q E hr h => ?_) (F.bindsN (ps := ["_law_script", "_law_k", "_law_kinds", "_law_worth_here"]) fun _ _ _ _ _ _ us hl => match us, hl with | [_, _, _, _], _ => rfl)
  · obtain ⟨s, k, n, wv, rfl, _⟩ := h
    rfl
  have c_law_some : Cal P w K mg base 2 "_law_some" (spSome K) := ok_law_some T
  have c_law_amount : Cal P w K mg base 3 "_law_amount" (spAmount tb K) := ok_law_amount T
  have c_law_marks : Cal P w K mg base 4 "_law_marks" (spLMarks tb K) := ok_law_marks T
  have k_Off : Mak P w K mg base 4 "Off" (COff K) (fun vs H Q E => ∃ n, spVouI tb K (.off n) vs H Q E) [] := ok_Off T
  have k_Share : Mak P w K mg base 4 "Share" (CShare K) (fun vs H Q E => ∃ n b, spVouI tb K (.share n b) vs H Q E) [] := ok_Share T
  have k_Cheapest : Mak P w K mg base 4 "Cheapest" (CCheapest K) (fun vs H Q E => ∃ n, spVouI tb K (.cheapest n) vs H Q E) [] := ok_Cheapest T
  have k_Bundle : Mak P w K mg base 4 "Bundle" (CBundle K) (fun vs H Q E => ∃ n c, spVouI tb K (.bundle n c) vs H Q E) [] := ok_Bundle T
  have k_Carriage : Mak P w K mg base 4 "Carriage" (CCarriage K) (spVouI tb K .carriage) [] := ok_Carriage T
  obtain ⟨s, k, n, wv, rfl, hs, sk, n0, w0, q⟩ := h
  refine ⟨_, PSs.nox
    (pss_cons (ps_set (i := 4) sc_law_voucher.nd rfl (Or.inl rfl) (pe_c c_law_marks hr (by decide) rfl (pa_cons (pv 0) (pa_cons (pv 1) (pa_cons (pv 2) (pa_cons (pv 3) pa_nil))))))
    (pss_cons (ps_set (i := 5) sc_law_voucher.nd rfl (Or.inl rfl) (pe_c c_law_some hr (by decide) rfl (pa_cons (pv 0) (pa_cons (pv 1) (pa_cons pe_int (pa_cons pe_int pa_nil))))))
    (pss_cons (ps_if0 (pt_cmpR op_eq (pv 5) pe_int (nomark _))
      (pss_one (ps_ret (pe_mk k_Off hr (by decide) rfl (pa_cons (pe_c c_law_amount hr (by decide) rfl (pa_cons (pv 0) (pa_cons (pv 1) (pa_cons pe_int (pa_cons (pv 3) pa_nil))))) (pa_cons (pv 4) pa_nil))))))
    (pss_cons (ps_if0 (pt_cmpR op_eq (pv 5) pe_int (nomark _))
      (pss_cons (ps_set (i := 6) sc_law_voucher.nd rfl (Or.inl rfl) (pe_ix ix_list (pe_lst (pa_cons pe_int (pa_cons pe_int (pa_cons (pe_op op_add pe_int (pe_c c_law_some hr (by decide) rfl (pa_cons (pv 0) (pa_cons (pv 1) (pa_cons pe_int (pa_cons pe_int pa_nil)))))) pa_nil)))) (pe_c c_law_some hr (by decide) rfl (pa_cons (pv 0) (pa_cons (pv 1) (pa_cons pe_int (pa_cons pe_int pa_nil))))) (fun _ _ => rfl)))
      (pss_one (ps_ret (pe_mk k_Share hr (by decide) rfl (pa_cons (pv 6) (pa_cons (pe_cmpR op_eq (pe_c c_law_some hr (by decide) rfl (pa_cons (pv 0) (pa_cons (pv 1) (pa_cons pe_int (pa_cons pe_int pa_nil))))) pe_int (nomark _)) (pa_cons (pv 4) pa_nil))))))))
    (pss_cons (ps_if0 (pt_cmpR op_eq (pv 5) pe_int (nomark _))
      (pss_one (ps_ret (pe_mk k_Cheapest hr (by decide) rfl (pa_cons (pe_op op_add pe_int (pe_c c_law_some hr (by decide) rfl (pa_cons (pv 0) (pa_cons (pv 1) (pa_cons pe_int (pa_cons (pe_ix ix_list (pe_lst (pa_cons pe_int (pa_cons pe_int pa_nil))) (pe_c c_law_some hr (by decide) rfl (pa_cons (pv 0) (pa_cons (pv 1) (pa_cons pe_int (pa_cons pe_int pa_nil))))) (fun _ _ => rfl)) pa_nil)))))) (pa_cons (pv 4) pa_nil))))))
    (pss_cons (ps_if0 (pt_cmpR op_eq (pv 5) pe_int (nomark _))
      (pss_one (ps_ret (pe_mk k_Bundle hr (by decide) rfl (pa_cons (pe_op op_add pe_int (pe_c c_law_some hr (by decide) rfl (pa_cons (pv 0) (pa_cons (pv 1) (pa_cons pe_int (pa_cons pe_int pa_nil)))))) (pa_cons (pe_c c_law_amount hr (by decide) rfl (pa_cons (pv 0) (pa_cons (pv 1) (pa_cons pe_int (pa_cons (pe_op op_fdiv (pv 3) pe_int) pa_nil))))) (pa_cons (pv 4) pa_nil)))))))
    (pss_one (ps_ret (pe_mk k_Carriage hr (by decide) rfl (pa_cons (pv 4) pa_nil)))))))))), ?_⟩
  have sm : ∀ d : Int, 0 ≤ d → d ≤ 1000 → Sml d := fun d h0 h1 => ⟨h0, by omega⟩
  refine seq_set ⟨_, rfl, _, rfl, _, rfl, _, rfl, s, k, n, wv, rfl, hs, sk, n0, w0, fun m H1 g1 hm => ?_⟩
  refine seq_set ⟨_, rfl, _, rfl, s, k, _, 5, rfl, hs.gr g1, sk, sm _ (by decide) (by decide), by decide, fun c _ _ => ?_⟩
  -- what is made is handed back
  have made : ∀ (so : SortD) (H2 : Hp) (x dx : Addr), Gr tb H1 H2 → SortOk so → H2 x = none → H2 dx = none → dx ≠ x → spVouI tb K so (.ref x :: (sortV so ++ [m])) (upd (upd H2 dx (.own x)) x (.ins (sortC K so) dx [])) (fun v H3 => v = .non ∧ Q (.ref x) H3) E0 := fun so H2 x dx g2 ok hx hdx ne => by
    have hx2 : (upd H2 dx (.own x)) x = none := by rw [upd_ne (Ne.symm ne)]; exact hx
    have gx := (Gr.new (tb := tb) hdx (o := .own x)).trans (Gr.new (tb := tb) hx2 (o := .ins (sortC K so) dx []))
    exact ⟨x, dx, m, rfl, upd_same, hm.gr (g2.trans gx), fun H3 mm M g3 h3 hM okM => ⟨rfl, q x ⟨M, so⟩ H3 (g1.trans (g2.trans (Gr.made hx hdx ne g3))) ⟨x, dx, mm, rfl, h3, hM⟩ ⟨okM, ok⟩⟩⟩
  have tst : ∀ (d : Int) (R : Bool → Hp → Prop), R (c == d) H1 → R (decide (V.int c = V.int d)) H1 := fun d R r => by rw [dec_int]; exact r
  have hs1 := hs.gr g1
  refine seq_if0 (c == 0) (fun R r => ⟨_, rfl, rfl, _, rfl, tst 0 R r⟩) (fun _ => ?_) (fun _ => ?_)
  · exact ⟨_, rfl, _, rfl, _, rfl, s, k, _, wv, rfl, hs1, sk, ⟨by decide, by decide⟩, w0, fun a H2 g2 a0 => ⟨_, rfl, fun x dx hx hdx ne => ⟨a, made (.off a) H2 x dx g2 a0 hx hdx ne⟩⟩⟩
  refine seq_if0 (c == 1) (fun R r => ⟨_, rfl, rfl, _, rfl, tst 1 R r⟩) (fun _ => ?_) (fun _ => ?_)
  · refine seq_set ⟨_, rfl, _, rfl, s, k, _, 1000, rfl, hs1, sk, sm _ (by decide) (by decide), by decide, fun d d0 d1 => ⟨_, _, rfl, rfl, Nat.le_of_lt (small1000 (show 3 ≤ 1000 by decide)), fun p hp => ⟨_, rfl, _, rfl, s, k, _, 3, rfl, hs1.gr (Gr.new (tb := tb) hp), sk, sm _ (by decide) (by decide), by decide, fun e e0 e1 => ?_⟩⟩⟩
    obtain ⟨z, ez, hz⟩ := pickI (xs := [1, 1000, 1 + d]) e0 e1
    have hz1 : 0 ≤ z ∧ z ≤ 1000 := by
      simp only [List.mem_cons, List.not_mem_nil, or_false] at hz
      omega
    refine ⟨p, _, e, _, rfl, rfl, SqL.of upd_same, ez, ?_⟩
    exact ⟨_, rfl, _, rfl, _, rfl, s, k, _, 2, rfl, hs1.gr (Gr.new (tb := tb) hp), sk, sm _ (by decide) (by decide), by decide, fun b _ _ => ⟨rfl, _, rfl, fun x dx hx hdx ne => ⟨z, _, made (.share z _) _ x dx (Gr.new hp) hz1 hx hdx ne⟩⟩⟩
  refine seq_if0 (c == 2) (fun R r => ⟨_, rfl, rfl, _, rfl, tst 2 R r⟩) (fun _ => ?_) (fun _ => ?_)
  · refine ⟨_, rfl, _, rfl, Nat.le_of_lt (small1000 (show 2 ≤ 1000 by decide)), fun p hp => ⟨_, rfl, _, rfl, s, k, _, 2, rfl, hs1.gr (Gr.new (tb := tb) hp), sk, sm _ (by decide) (by decide), by decide, fun e e0 e1 => ?_⟩⟩
    obtain ⟨z, ez, hz⟩ := pickI (xs := [3, 19]) e0 e1
    have hz1 : 0 < z ∧ z ≤ 19 := by
      simp only [List.mem_cons, List.not_mem_nil, or_false] at hz
      omega
    exact ⟨p, _, e, _, rfl, rfl, SqL.of upd_same, ez, s, k, _, z, rfl, hs1.gr (Gr.new (tb := tb) hp), sk, sm _ (by decide) (by decide), hz1.1, fun b b0 b1 => ⟨_, _, rfl, rfl, _, rfl, fun x dx hx hdx ne => ⟨2 + b, made (.cheapest (2 + b)) _ x dx (Gr.new hp) ⟨by omega, by omega⟩ hx hdx ne⟩⟩⟩
  refine seq_if0 (c == 3) (fun R r => ⟨_, rfl, rfl, _, rfl, tst 3 R r⟩) (fun _ => ?_) (fun _ => ?_)
  · exact ⟨_, rfl, _, rfl, s, k, _, 4, rfl, hs1, sk, sm _ (by decide) (by decide), by decide, fun b b0 b1 => ⟨_, _, rfl, rfl, _, rfl, _, rfl, _, rfl, _, _, rfl, rfl, ⟨by decide, by decide⟩, s, k, _, _, rfl, hs1, sk, ⟨by decide, by decide⟩, by omega, fun a H2 g2 a0 => ⟨_, rfl, fun x dx hx hdx ne => ⟨2 + b, a, made (.bundle (2 + b) a) H2 x dx g2 ⟨by omega, by omega, a0⟩ hx hdx ne⟩⟩⟩⟩
  · exact ⟨_, rfl, fun x dx hx hdx ne => made .carriage H1 x dx (GrB.refl _) trivial hx hdx ne⟩
end
end VS
set_option Elab.async false
set_option linter.all false
set_option maxRecDepth 100000
set_option maxHeartbeats 4000000
namespace VS
open PySem PySem.Spec PyProof.Rows L2
theorem paired_ivs : ∀ {ys : List V} {bs : List Int}, Paired (fun v (i : Int) => v = .int i) ys bs → ys = ivs bs
  | _, _, .nil => rfl
  | _, _, .cons h t => by rw [h, paired_ivs t]; rfl
def RulOk (n : Nat) (r : RuleD) : Prop := (0 ≤ r.one ∧ r.one < n) ∧ 0 ≤ r.other ∧ r.other < n
theorem rules_put {H : Hp} {l : Addr} {xs ys : List V} {vs : List V} {rs : List RuleD} (h : Paired (RuleAt H) vs rs) (hl : H l = some (.lst xs)) : Paired (RuleAt (upd H l (.lst ys))) vs rs :=
  Paired.mapP h fun v L ⟨a, e, ha⟩ => ⟨a, e, by rw [upd_ne (fun z => by rw [z, hl] at ha; cases ha)]; exact ha⟩
def spLRules (tb : Addr) (K : PySem.W.Frag) : Sp := fun vs H Q _ => ∃ s n, vs = [.ref s, .int n] ∧ Scr K H s ∧ 0 < n ∧ ∀ H' l vs rs, Gr tb H H' → H' l = some (.lst vs) → Paired (RuleAt H') vs rs → (∀ r ∈ rs, RulOk n.toNat r) → Q (.ref l) H'
def spLWorth (tb : Addr) (K : PySem.W.Frag) : Sp := fun vs H Q _ => ∃ b B n, vs = [b] ∧ BasketAt K H b B ∧ BasketOk n B ∧ ∀ H' wv, Gr tb H H' → 0 ≤ wv → Q (.int wv) H'
def spLTill (tb : Addr) (K : PySem.W.Frag) : Sp := fun vs H Q _ => ∃ s p b bk B ps, vs = [.ref s, .ref p, b, .str bk] ∧ Scr K H s ∧ H p = some (.lst (ps.map optV)) ∧ ParOk ps ∧ (1 ≤ ps.length ∧ ps.length ≤ 6) ∧ BasketAt K H b B ∧ BasketOk ps.length B ∧
  ∀ H' x T, Gr tb H H' → TillAt K H' (.ref x) T → TillOk T → T.parents = ps → 1 ≤ T.vouchers.length → T.vouchers.length ≤ 4 → Q (.ref x) H'
def spLHand (tb : Addr) (K : PySem.W.Frag) : Sp := fun vs H Q _ => ∃ s n, vs = [.ref s, .int n] ∧ Scr K H s ∧ (0 ≤ n ∧ n ≤ 10) ∧ ∀ H' h hd, Gr tb H H' → H' h = some (.lst (ivs hd)) → hd.length = n.toNat → Q (.ref h) H'
def spDrawn (tb : Addr) (K : PySem.W.Frag) : Sp := fun vs H Q _ => ∃ s bk, vs = [.ref s, .str bk] ∧ Scr K H s ∧ ∀ H' t x b h T B hd, Gr tb H H' → H' t = some (.tup [.ref x, .ref b, .ref h]) → TillAt K H' (.ref x) T → TillOk T → (1 ≤ T.vouchers.length ∧ T.vouchers.length ≤ 4) →
  BasketAt K H' (.ref b) B → BasketOk T.parents.length B → B.lines.length ≤ 12 → 0 ≤ B.carriage → ListAt H' (.ref h) hd → hd.length = T.vouchers.length → Q (.ref t) H'
section
variable {P : Program} {w : World} {K : PySem.W.Frag} {mg : Str → Option Value} {base : Heap} {tb : Addr}
theorem sc_law_rules : FnScope ["_law_script", "_law_many", "_law_rules_here", "_law_j", "_law_word"] ["_law_script", "_law_many"] (defScope s_law_rules) := ⟨rfl, rfl, rfl, by decide +kernel, rfl, by decide +kernel, by decide +kernel⟩
theorem ok_law_rules (T : TX K mg) : Cal P w K mg base 3 "_law_rules" (spLRules tb K) := by
  obtain ⟨fd, F⟩ := T.df_law_rules
  refine cal_of F T.g_law_rules (F.ok (k := 2) sc_law_rules (fun vs H Q E h => ?_) fun cdv A outer s H vs Q E hr h => ?_) (F.bindsN (ps := ["_law_script", "_law_many"]) fun _ _ _ _ _ _ us hl => match us, hl with | [_, _], _ => rfl)
  · obtain ⟨s, n, rfl, _⟩ := h
    rfl
  have c_law_some : Cal P w K mg base 2 "_law_some" (spSome K) := ok_law_some T
  obtain ⟨s, n, rfl, hs, n0, q⟩ := h
  refine ⟨_, PSs.nox
    (pss_cons (ps_set (i := 2) sc_law_rules.nd rfl (Or.inl rfl) (pe_lst pa_nil))
    (pss_cons (ps_for PassesOwn.never rfl (pi_range1 rfl T.f_range (pa_cons (pe_c c_law_some hr (by decide) rfl (pa_cons (pv 0) (pa_cons pe_int (pa_cons pe_int (pa_cons pe_int pa_nil))))) pa_nil)) (pg_name (i := 3) sc_law_rules.nd rfl (Or.inl rfl))
      (pss_cons (ps_set (i := 4) sc_law_rules.nd rfl (Or.inl rfl) (pe_ix ix_list (pe_lst (pa_cons pe_str (pa_cons pe_str (pa_cons pe_str pa_nil)))) (pe_c c_law_some hr (by decide) rfl (pa_cons (pv 0) (pa_cons pe_int (pa_cons (pe_op op_add pe_int (pv 3)) (pa_cons pe_int pa_nil))))) (fun _ _ => rfl)))
      (pss_one (ps_expr (pe_bm PySem.F.plainAttrs_list PySem.F.slot_list_append PySem.F.type_list_append mt_append (pv 2) (pa_cons (pe_tup (pa_cons (pv 4) (pa_cons (pe_c c_law_some hr (by decide) rfl (pa_cons (pv 0) (pa_cons pe_int (pa_cons (pe_op op_add pe_int (pv 3)) (pa_cons (pv 1) pa_nil))))) (pa_cons (pe_c c_law_some hr (by decide) rfl (pa_cons (pv 0) (pa_cons pe_int (pa_cons (pe_op op_add pe_int (pv 3)) (pa_cons (pv 1) pa_nil))))) pa_nil)))) pa_nil))))))
    (pss_one (ps_ret (pv 2))))), ?_⟩
  have s5 : Sml 5 := ⟨by decide, by decide⟩
  refine seq_set ⟨Nat.zero_le _, fun l hl => ?_⟩
  have g0 : Gr tb H (upd H l (.lst [])) := Gr.new hl
  refine ⟨_, rfl, s, 5, 1, 4, rfl, hs.gr g0, s5, ⟨by decide, by decide⟩, by decide, fun c c0 c1 => ⟨_, rfl, by omega, by omega, ?_⟩⟩
  refine for_it walk_range (fun i σ H' => ∃ v3 v4 vs rs, σ = [some (.ref s), some (.int n), some (.ref l), v3, v4] ∧ Gr tb H H' ∧ H' l = some (.lst vs) ∧ Paired (RuleAt H') vs rs ∧ rs.length = i ∧ ∀ r ∈ rs, RulOk n.toNat r)
    ⟨none, none, [], [], rfl, g0, upd_same, .nil, rfl, fun r h => absurd h (by simp)⟩ (fun _ _ _ _ _ => trivial) ?_ ?_
  · rintro i _ σ _ H' hi ⟨v3, v4, vs, rs, rfl, g, hl', hp, hlen, hok⟩ ⟨rfl, rfl⟩
    have hs' := hs.gr g
    have lvs := hp.length
    refine ⟨Nat.le_of_lt (small1000 (show 3 ≤ 1000 by decide)), fun p hp2 => ⟨_, rfl, _, rfl, _, _, rfl, rfl, s, 5, _, 3, rfl, hs'.gr (Gr.new (tb := tb) hp2), s5, ⟨by omega, by omega⟩, by decide, fun d d0 d1 => ?_⟩⟩
    have gp : Gr tb H' (upd H' p (.lst [.str "only", .str "never", .str "ahead"])) := Gr.new hp2
    obtain ⟨word, ew⟩ : ∃ z : Str, atI [V.str "only", V.str "never", V.str "ahead"] d = some (.str z) := by
      have h : d = 0 ∨ d = 1 ∨ d = 2 := by omega
      rcases h with rfl | rfl | rfl
      · exact ⟨_, rfl⟩
      · exact ⟨_, rfl⟩
      · exact ⟨_, rfl⟩
    refine ⟨p, _, d, _, rfl, rfl, SqL.of upd_same, ew, ?_⟩
    have hl2 := gp.lst hl'
    have hs2 := hs'.gr gp
    have g2 := g.trans gp
    have hp3 : Paired (RuleAt (upd H' p (.lst [.str "only", .str "never", .str "ahead"]))) vs rs := Paired.mapP hp fun _ _ h => h.gr gp
    generalize upd H' p (.lst [.str "only", .str "never", .str "ahead"]) = H2 at hl2 hs2 g2 hp3 ⊢
    refine ⟨_, rfl, .inl ⟨rfl, _, SqL.of hl2⟩, _, rfl, _, rfl, _, rfl, _, _, rfl, rfl, _, rfl, s, 5, _, n, rfl, hs2, s5, ⟨by omega, by omega⟩, n0, fun a a0 a1 => ⟨_, rfl, _, rfl, _, _, rfl, rfl, _, rfl, s, 5, _, n, rfl, hs2, s5, ⟨by omega, by omega⟩, n0, fun b b0 b1 => ⟨Nat.le_of_lt (small1000 (show 3 ≤ 1000 by decide)), fun t ht => ?_⟩⟩⟩
    have gt : Gr tb H2 (upd H2 t (.tup [.str word, .int a, .int b])) := Gr.new ht
    have hl3 := gt.lst hl2
    refine ⟨l, _, _, rfl, rfl, hl3, small1000 (by omega), ?_⟩
    refine ⟨_, _, _, rs ++ [⟨word, a, b⟩], rfl, (g2.trans gt).putL hl hl3, upd_same, rules_put (Paired.snoc (Paired.mapP hp3 fun _ _ h => h.gr gt) ⟨t, rfl, upd_same⟩) hl3, by rw [List.length_append, hlen]; rfl, fun r hr => ?_⟩
    rcases List.mem_append.mp hr with h | h
    · exact hok r h
    · rw [List.mem_singleton.mp h]
      exact ⟨⟨a0, by show a < (n.toNat : Int); omega⟩, b0, by show b < (n.toNat : Int); omega⟩
  · rintro σ H' ⟨v3, v4, vs, rs, rfl, g, hl', hp, hlen, hok⟩
    exact ⟨_, rfl, q H' l vs rs g hl' hp hok⟩
theorem sc_law_worth : FnScope ["_law_basket_here", "_law_line"] ["_law_basket_here"] (defScope s_law_worth) := ⟨rfl, rfl, rfl, by decide +kernel, rfl, by decide +kernel, by decide +kernel⟩
theorem ok_law_worth (T : TX K mg) : Cal P w K mg base 1 "_law_worth" (spLWorth tb K) := by
  obtain ⟨fd, F⟩ := T.df_law_worth
  refine cal_of F T.g_law_worth (F.ok (k := 0) sc_law_worth (fun vs H Q E h => ?_) fun cdv A outer s H vs Q E hr h => ?_) (F.bindsN (ps := ["_law_basket_here"]) fun _ _ _ _ _ _ us hl => match us, hl with | [_], _ => rfl)
  · obtain ⟨b, B, n, rfl, _⟩ := h
    rfl
  obtain ⟨b, B, n, rfl, hb, bok, q⟩ := h
  refine ⟨_, PSs.nox
    (pss_one (ps_ret (pe_callB (cr_sum rfl) rfl T.f_sum B_sum (pa_cons (pe_lc (own := [("_law_line", 1)]) (g := (gName 1)) (tt := tYes) rfl sc_law_worth.nd (pi_list (pe_fld (pv 0) rfl)) (blkOk_by (own := [("_law_line", 1)]) (N := ["_law_basket_here", "_law_line"]) (sc := defScope s_law_worth) (by decide +kernel)) (fun _ _ _ _ _ => (pg_name (i := 1) sc_law_worth.nd rfl (Or.inl rfl))) (fun _ _ _ _ _ => pts_nil) (fun _ _ _ _ _ => (pe_op op_mul (pe_fl T (pv 1) rfl) (pe_fl T (pv 1) rfl)))) pa_nil)))), ?_⟩
  obtain ⟨a, da, l, vs, rfl, ha, hlv, hpl⟩ := id hb
  have lv := hpl.length
  refine ⟨_, rfl, T.r_Basket_lines ha ⟨_, rfl, ⟨_, SqL.of hlv⟩, fun D hD => ?_⟩⟩
  refine lc_gr (tb := tb) (walk_list (xs := vs)) (ivs (B.lines.map fun L => L.price * L.many)) (by rw [ivs_len, List.length_map]; exact lv.symm) (by rw [lv]; exact Nat.le_trans bok.len (by decide)) hD (fun H' g => SqL.of (g.lst hlv)) ?_ fun H1 g1 hd => ?_
  · rintro i v H' _ y N hi hy g ⟨rfl, hv⟩ kk
    obtain ⟨L, hL, c2, dc, rfl, hc2⟩ := paired_get hpl hv
    obtain ⟨z, hz, rfl⟩ := ivs_of hy
    rw [List.getElem?_map, hL] at hz
    cases hz
    have ok := bok.lines L (List.mem_of_getElem? hL)
    have hc := ok.price
    unfold Coin at hc
    exact ⟨rfl, _, rfl, T.r_Line_price (g.ins hc2) ⟨_, rfl, T.r_Line_many (g.ins hc2) ⟨_, _, rfl, rfl, .inl ⟨by omega, by omega⟩, kk _ (GrB.refl _)⟩⟩⟩
  · refine ⟨D, _, rfl, SqL.of hd, q H1 _ g1 (nn_sum fun x hx => ?_)⟩
    obtain ⟨L, hL, rfl⟩ := List.mem_map.mp hx
    have ok := bok.lines L hL
    exact Int.mul_nonneg ok.price.1 ok.many.1
theorem sc_law_hand : FnScope ["_law_script", "_law_many", "_law_j"] ["_law_script", "_law_many"] (defScope s_law_hand) := ⟨rfl, rfl, rfl, by decide +kernel, rfl, by decide +kernel, by decide +kernel⟩
theorem ok_law_hand (T : TX K mg) : Cal P w K mg base 3 "_law_hand" (spLHand tb K) := by
  obtain ⟨fd, F⟩ := T.df_law_hand
  refine cal_of F T.g_law_hand (F.ok (k := 2) sc_law_hand (fun vs H Q E h => ?_) fun cdv A outer s H vs Q E hr h => ?_) (F.bindsN (ps := ["_law_script", "_law_many"]) fun _ _ _ _ _ _ us hl => match us, hl with | [_, _], _ => rfl)
  · obtain ⟨s, n, rfl, _⟩ := h
    rfl
  have c_law_some : Cal P w K mg base 2 "_law_some" (spSome K) := ok_law_some T
  obtain ⟨s, n, rfl, hs, ⟨n0, n1⟩, q⟩ := h
  refine ⟨_, PSs.nox
    (pss_one (ps_ret (pe_lc (own := [("_law_j", 2)]) (g := (gName 2)) (tt := tYes) rfl sc_law_hand.nd (pi_range1 rfl T.f_range (pa_cons (pv 1) pa_nil)) (blkOk_by (own := [("_law_j", 2)]) (N := ["_law_script", "_law_many", "_law_j"]) (sc := defScope s_law_hand) (by decide +kernel)) (fun _ _ _ _ _ => (pg_name (i := 2) sc_law_hand.nd rfl (Or.inl rfl))) (fun _ _ _ _ _ => pts_nil) (fun _ _ _ _ _ => (pe_ix (ix_l T) (pe_lst (pa_cons pe_int (pa_cons pe_int (pa_cons pe_int (pa_cons pe_int (pa_cons pe_int pa_nil)))))) (pe_c c_law_some hr (by decide) rfl (pa_cons (pv 0) (pa_cons pe_int (pa_cons (pe_op op_add pe_int (pv 2)) (pa_cons pe_int pa_nil))))) (fun _ _ => rfl)))))), ?_⟩
  refine ⟨_, rfl, _, rfl, by omega, by omega, fun D hD => ?_⟩
  refine lc_new (tb := tb) (fun _ v (i : Int) => v = .int i) (fun _ => True) walk_range (by omega) hD (fun _ _ => trivial) (fun _ _ _ _ _ h => h) (fun _ _ _ _ _ _ h => h) ?_ fun H1 ys bs g1 hd hp hl _ => ?_
  · rintro i x H' _ N hi g ⟨rfl, rfl⟩ k
    refine ⟨rfl, Nat.le_of_lt (small1000 (show 5 ≤ 1000 by decide)), fun p hp => ⟨_, rfl, _, rfl, _, _, rfl, rfl, s, 7, _, 5, rfl, hs.gr (g.add hp), ⟨by decide, by decide⟩, ⟨by omega, by omega⟩, by decide, fun d d0 d1 => ?_⟩⟩
    obtain ⟨z, ez, _⟩ := pickI (xs := [1, 1, 2, 0, 3]) d0 d1
    exact ⟨p, _, d, _, rfl, rfl, SqL.of upd_same, ez, k _ z _ (Gr.new hp) rfl trivial⟩
  · rw [paired_ivs hp] at hd
    exact q H1 D bs g1 hd hl
theorem sc_law_till : FnScope ["_law_script", "_law_parents_here", "_law_basket_here", "_law_back", "_law_many", "_law_vouchers", "_law_j"] ["_law_script", "_law_parents_here", "_law_basket_here", "_law_back"] (defScope s_law_till) := ⟨rfl, rfl, rfl, by decide +kernel, rfl, by decide +kernel, by decide +kernel⟩
theorem ok_law_till (T : TX K mg) : Cal P w K mg base 7 "_law_till" (spLTill tb K) := by
  obtain ⟨fd, F⟩ := T.df_law_till
  refine cal_of F T.g_law_till (F.ok (k := 6) sc_law_till (fun vs H Q E h => ?_) fun cdv A outer s H vs Q E hr h => ?_) (F.bindsN (ps := ["_law_script", "_law_parents_here", "_law_basket_here", "_law_back"]) fun _ _ _ _ _ _ us hl => match us, hl with | [_, _, _, _], _ => rfl)
  · obtain ⟨s, p, b, bk, B, ps, rfl, _⟩ := h
    rfl
  have c_law_some : Cal P w K mg base 2 "_law_some" (spSome K) := ok_law_some T
  have c_law_voucher : Cal P w K mg base 6 "_law_voucher" (spLVou tb K) := ok_law_voucher T
  have c_law_worth : Cal P w K mg base 1 "_law_worth" (spLWorth tb K) := ok_law_worth T
  have c_law_rules : Cal P w K mg base 3 "_law_rules" (spLRules tb K) := ok_law_rules T
  have k_Till : Mak P w K mg base 1 "Till" (CTill K) (spTill tb K) [] := ok_Till T
  obtain ⟨s, p, b, bk, B, ps, rfl, hs, hp, po, ⟨l1, l6⟩, hb, bok, q⟩ := h
  refine ⟨_, PSs.nox
    (pss_cons (ps_set (i := 4) sc_law_till.nd rfl (Or.inl rfl) (pe_op op_add pe_int (pe_c c_law_some hr (by decide) rfl (pa_cons (pv 0) (pa_cons pe_int (pa_cons pe_int (pa_cons pe_int pa_nil)))))))
    (pss_cons (ps_setLc (i := 5) (own := [("_law_j", 6)]) (g := (gName 6)) (tt := tYes) rfl sc_law_till.nd rfl rfl (sw_true rfl rfl rfl (by decide +kernel)) (pi_range1 rfl T.f_range (pa_cons (pv 4) pa_nil)) (blkOk_by (own := [("_law_j", 6)]) (N := ["_law_script", "_law_parents_here", "_law_basket_here", "_law_back", "_law_many", "_law_vouchers", "_law_j"]) (sc := defScope s_law_till) (by decide +kernel)) (fun _ _ _ _ _ => (pg_name (i := 6) sc_law_till.nd rfl (Or.inl rfl))) (fun _ _ _ _ _ => pts_nil) (fun _ _ _ _ _ => (pe_c c_law_voucher hr (by decide) rfl (pa_cons (pv 0) (pa_cons (pe_op op_add pe_int (pv 6)) (pa_cons (pe_callB (len_l T) rfl T.f_len B_len (pa_cons (pv 1) pa_nil)) (pa_cons (pe_c c_law_worth hr (by decide) rfl (pa_cons (pv 2) pa_nil)) pa_nil)))))))
    (pss_one (ps_ret (pe_mk k_Till hr (by decide) rfl (pa_cons (pv 1) (pa_cons (pv 5) (pa_cons (pe_c c_law_rules hr (by decide) rfl (pa_cons (pv 0) (pa_cons (pv 4) pa_nil))) (pa_cons (pv 3) pa_nil))))))))), ?_⟩
  refine seq_set ⟨_, rfl, s, 0, 2, 4, rfl, hs, ⟨by decide, by decide⟩, ⟨by decide, by decide⟩, by decide, fun c c0 c1 => ⟨_, _, rfl, rfl, ?_⟩⟩
  refine seq_set ⟨_, rfl, _, rfl, by omega, by omega, fun D hD => ?_⟩
  refine lc_new (tb := tb) (VouAt K) VouOk walk_range (by omega) hD (fun _ _ => trivial) (fun _ _ _ _ g h => h.gr g) ?_ ?_ fun H1 ys us g1 hd hpu hl hok => ?_
  · rintro H' xs ys v u h1 ⟨a, dx, m, e, ha, am, dm, e2, hm⟩
    exact ⟨a, dx, m, e, by rw [upd_ne (fun z => by rw [z, h1] at ha; cases ha)]; exact ha, am, dm, e2, by rw [upd_ne (fun z => by rw [z, h1] at hm; cases hm)]; exact hm⟩
  · rintro i x H' _ N hi g ⟨rfl, rfl⟩ k
    refine ⟨rfl, _, rfl, _, rfl, _, _, rfl, rfl, _, rfl, p, _, rfl, .inl (SqL.of (g.lst hp)), _, rfl, b, B, ps.length, rfl, hb.gr g, bok, fun H2 wv g2 w0 => ?_⟩
    rw [List.length_map]
    exact ⟨s, _, _, wv, rfl, hs.gr (g.trans g2), ⟨by omega, by omega⟩, by omega, w0, fun y u H3 g3 hu ok => k _ u _ (g2.trans g3) hu ok⟩
  refine ⟨_, rfl, _, rfl, _, rfl, _, rfl, s, _, rfl, hs.gr g1, by omega, fun H2 l vs rs g2 hlr hpr hro => ⟨_, rfl, fun x dx hx hdx ne => ?_⟩⟩
  have hx2 : (upd H2 dx (.own x)) x = none := by rw [upd_ne (Ne.symm ne)]; exact hx
  have gx := (Gr.new (tb := tb) hdx (o := .own x)).trans (Gr.new (tb := tb) hx2 (o := .ins (CTill K) dx []))
  refine ⟨x, dx, p, D, l, _, _, _, _, rfl, upd_same, gx.lst ((g1.trans g2).lst hp), gx.lst (g2.lst hd), gx.lst hlr, fun H3 a' b' c' g3 ha' hb' hc' h3 => ⟨rfl, ?_⟩⟩
  have gm := Gr.made hx hdx ne g3
  refine q H3 x ⟨ps, us, rs, bk⟩ ((g1.trans g2).trans gm) ⟨x, dx, a', b', c', ys, vs, rfl, h3, ha', ⟨hb', Paired.mapP hpu fun _ _ h => h.gr (g2.trans gm)⟩, hc', Paired.mapP hpr fun _ _ h => h.gr gm⟩ ⟨po, hok, fun r hr => ?_⟩ rfl (by show 1 ≤ us.length; omega) (by show us.length ≤ 4; omega)
  have := hro r hr
  unfold RulOk at this
  show (0 ≤ r.one ∧ r.one < (us.length : Int)) ∧ 0 ≤ r.other ∧ r.other < (us.length : Int)
  omega
theorem sc_law_drawn : FnScope ["_law_script", "_law_back", "_law_parents_here", "_law_basket_here", "_law_till_here"] ["_law_script", "_law_back"] (defScope s_law_drawn) := ⟨rfl, rfl, rfl, by decide +kernel, rfl, by decide +kernel, by decide +kernel⟩
theorem ok_law_drawn (T : TX K mg) : Cal P w K mg base 8 "_law_drawn" (spDrawn tb K) := by
  obtain ⟨fd, F⟩ := T.df_law_drawn
  refine cal_of F T.g_law_drawn (F.ok (k := 7) sc_law_drawn (fun vs H Q E h => ?_) fun cdv A outer s H vs Q E hr h => ?_) (F.bindsN (ps := ["_law_script", "_law_back"]) fun _ _ _ _ _ _ us hl => match us, hl with | [_, _], _ => rfl)
  · obtain ⟨s, bk, rfl, _⟩ := h
    rfl
  have c_law_parents : Cal P w K mg base 3 "_law_parents" (spParents tb K) := ok_law_parents T
  have c_law_basket : Cal P w K mg base 4 "_law_basket" (spLBasket tb K) := ok_law_basket T
  have c_law_till : Cal P w K mg base 7 "_law_till" (spLTill tb K) := ok_law_till T
  have c_law_hand : Cal P w K mg base 3 "_law_hand" (spLHand tb K) := ok_law_hand T
  obtain ⟨s, bk, rfl, hs, q⟩ := h
  refine ⟨_, PSs.nox
    (pss_cons (ps_set (i := 2) sc_law_drawn.nd rfl (Or.inl rfl) (pe_c c_law_parents hr (by decide) rfl (pa_cons (pv 0) pa_nil)))
    (pss_cons (ps_set (i := 3) sc_law_drawn.nd rfl (Or.inl rfl) (pe_c c_law_basket hr (by decide) rfl (pa_cons (pv 0) (pa_cons (pe_callB call_len_seq rfl T.f_len B_len (pa_cons (pv 2) pa_nil)) pa_nil))))
    (pss_cons (ps_set (i := 4) sc_law_drawn.nd rfl (Or.inl rfl) (pe_c c_law_till hr (by decide) rfl (pa_cons (pv 0) (pa_cons (pv 2) (pa_cons (pv 3) (pa_cons (pv 1) pa_nil))))))
    (pss_one (ps_ret (pe_tup (pa_cons (pv 4) (pa_cons (pv 3) (pa_cons (pe_c c_law_hand hr (by decide) rfl (pa_cons (pv 0) (pa_cons (pe_callB call_len_seq rfl T.f_len B_len (pa_cons (pe_fld (pv 4) rfl) pa_nil)) pa_nil))) pa_nil))))))))), ?_⟩
  refine seq_set ⟨_, rfl, s, rfl, hs, fun ps po l1 l6 p H1 g1 np hp => ?_⟩
  refine seq_set ⟨_, rfl, _, rfl, p, _, rfl, .inl (SqL.of hp), s, _, rfl, hs.gr g1, by rw [List.length_map]; omega, fun H2 y B g2 hB okB lB c0 => ?_⟩
  rw [List.length_map, Int.toNat_natCast] at okB
  refine seq_set ⟨_, rfl, _, rfl, _, rfl, _, rfl, s, p, _, bk, B, ps, rfl, (hs.gr g1).gr g2, g2.lst hp, po, ⟨l1, l6⟩, hB, okB, fun H3 x D g3 hT okT ep v1 v4 => ?_⟩
  obtain ⟨xa, dx, pp, uu, rr, vs, rs, ex, hxa, hpp, ⟨huu, hvs⟩, hrr, hrs⟩ := id hT
  cases ex
  have lvs := hvs.length
  refine ⟨_, rfl, _, rfl, _, rfl, _, rfl, T.r_Till_vouchers hxa ⟨uu, _, rfl, .inl (SqL.of huu), s, _, rfl, ((hs.gr g1).gr g2).gr g3, by omega, fun H4 h hd g4 hh hlen => ⟨Nat.le_of_lt (small1000 (show 3 ≤ 1000 by decide)), fun t ht => ?_⟩⟩⟩
  have gt : Gr tb H4 (upd H4 t (.tup [.ref x, .ref y, .ref h])) := Gr.new ht
  refine q _ t x y h D B hd ((((g1.trans g2).trans g3).trans g4).trans gt) upd_same ((hT.gr g4).gr gt) okT ⟨v1, v4⟩ (((hB.gr g3).gr g4).gr gt) (by rw [ep]; exact okB) lB c0 ⟨h, rfl, gt.lst hh⟩ ?_
  rw [hlen]; omega
end
end VS
set_option Elab.async false
set_option linter.all false
set_option maxRecDepth 100000
set_option maxHeartbeats 4000000
namespace VS
open PySem PySem.Spec PyProof.Rows L2
/-! ### data that is compared -/
def intsD (xs : List Int) : PyData := .list (xs.map .int)
theorem dp_ivs {K : PySem.W.Frag} {H : Hp} : ∀ xs : List Int, DpAll K H (ivs xs) (xs.map .int)
  | [] => .nil
  | x :: r => .cons (.int x) (dp_ivs r)
theorem lay_ints : ∀ xs : List Int, PyData.canLayAll0 (xs.map .int) = true
  | [] => rfl
  | x :: r => by
    rw [List.map_cons, PyData.canLayAll0, lay_ints r]
    rfl
theorem depth_ints : ∀ xs : List Int, PyData.depthAll (xs.map .int) ≤ 1
  | [] => by simp [PyData.depthAll]
  | x :: r => by
    have := depth_ints r
    simp [PyData.depthAll, PyData.depth]
    omega
theorem depth_list (ds : List PyData) (n : Nat) (h : PyData.depthAll ds ≤ n) : (PyData.list ds).depth ≤ n + 1 := by
  simp [PyData.depth]
  omega
theorem ints_shaped (xs : List Int) : SeqAt.shaped (intsD xs) = true := by
  unfold SeqAt.shaped intsD
  have h1 : (PyData.list (xs.map .int)).canLay0 = true := by simpa [PyData.canLay0] using lay_ints xs
  have h2 := depth_list _ 1 (depth_ints xs)
  rw [h1, decide_eq_true (by omega)]
  rfl
theorem eqv_nil {xs : List Int} : PyData.eqv (intsD xs) (intsD []) = xs.isEmpty := by
  cases xs with
  | nil => simp [intsD, PyData.eqv, PyData.eqvAll]
  | cons a r => simp [intsD, PyData.eqv, PyData.eqvAll]
theorem eqv_same {d : PyData} (h : SeqAt.shaped d = true) : PyData.eqv d d = true := SeqAt.eqv_refl d (SeqAt.canLay_of_shaped h)
/-! ### the order that is drawn -/
def spLOrder (tb : Addr) (K : PySem.W.Frag) : Sp := fun vs H Q _ => ∃ s k t b h T B hd, vs = [.ref s, .int k, t, b, h] ∧ Scr K H s ∧ (0 ≤ k ∧ k ≤ 1000) ∧ Shop K tb H t b h T B hd ∧ 1 ≤ T.vouchers.length ∧
  ∀ H' l o, Gr tb H H' → H l = none → H' l = some (.lst (ivs o)) → OrdOk T o → o.length ≤ 12 → faultF T B hd o = none → Q (.ref l) H'
def takeOk' (many : List Int) (line k : Int) : Prop := (0 ≤ line ∧ line < many.length) ∧ 1 ≤ k ∧ k ≤ gi many line
def spLTake (tb : Addr) (K : PySem.W.Frag) : Sp := fun vs H Q _ => ∃ s k m many, vs = [.ref s, .int k, .ref m] ∧ Scr K H s ∧ (0 ≤ k ∧ k ≤ 1000) ∧ H m = some (.lst (ivs many)) ∧ many.length ≤ 60 ∧
  (∀ H', Gr tb H H' → Q .non H') ∧ ∀ H' t line n, Gr tb H H' → H' t = some (.tup [.int line, .int n]) → takeOk' many line n → Q (.ref t) H'
section
variable {P : Program} {w : World} {K : PySem.W.Frag} {mg : Str → Option Value} {base : Heap} {tb : Addr}
theorem sc_law_going : FnScope ["_law_till_here", "_law_basket_here", "_law_hand_here", "_law_order_here", "_law_found"] ["_law_till_here", "_law_basket_here", "_law_hand_here", "_law_order_here"] (defScope s_law_going) := ⟨rfl, rfl, rfl, by decide +kernel, rfl, by decide +kernel, by decide +kernel⟩
theorem ok_law_going (T : TX K mg) (W : ∀ s, Met P w K mg base 3 (sortC K s) "wanted" (spWanted tb K s)) : Cal P w K mg base 7 "_law_going" (spGoes tb K) := by
  obtain ⟨fd, F⟩ := T.df_law_going
  refine cal_of F T.g_law_going (F.ok (k := 6) sc_law_going (fun vs H Q E h => ?_) fun cdv A outer s H vs Q E hr h => ?_) (F.bindsN (ps := ["_law_till_here", "_law_basket_here", "_law_hand_here", "_law_order_here"]) fun _ _ _ _ _ _ us hl => match us, hl with | [_, _, _, _], _ => rfl)
  · obtain ⟨t, b, h, a, D, B, hd, o, rfl, _⟩ := h
    rfl
  have c_fault : Cal P w K mg base 6 "fault" (spFault tb K) := ok_fault T W
  obtain ⟨t, b, h, a, D, B, hd, o, rfl, sh, ha, ho, hl, q⟩ := h
  refine ⟨_, PSs.nox
    (pss_cons (ps_set (i := 4) sc_law_going.nd rfl (Or.inl rfl) (pe_c c_fault hr (by decide) rfl (pa_cons (pv 0) (pa_cons (pv 1) (pa_cons (pv 2) (pa_cons (pv 3) pa_nil))))))
    (pss_one (ps_ret (pe_or (pe_cmp (pc_isN (pv 4))) (pe_one (pe_cmpR op_eq (pe_ix ix_tup (pv 4) pe_int (fun _ _ => rfl)) pe_str (nomark _))))))), ?_⟩
  unfold goesF at q
  refine ⟨_, rfl, _, rfl, _, rfl, _, rfl, _, _, _, a, D, B, hd, o, rfl, sh, ha, ho, hl, fun e H1 g1 => ?_, fun i x e H1 p g1 hp => ?_⟩
  · rw [e] at q
    exact ⟨_, rfl, _, rfl, iteT (q H1 g1)⟩
  · rw [e] at q
    refine ⟨_, rfl, _, rfl, iteF ⟨_, rfl, p, _, 1, _, rfl, rfl, SqT.of hp, atI_nat (j := 1) rfl, rfl, ?_⟩⟩
    rw [dec_str]
    exact q H1 g1
theorem sc_law_take : FnScope ["_law_script", "_law_k", "_law_many", "_law_some_here", "_law_line", "_law_how", "_law_least"] ["_law_script", "_law_k", "_law_many"] (defScope s_law_take) := ⟨rfl, rfl, rfl, by decide +kernel, rfl, by decide +kernel, by decide +kernel⟩
theorem ok_law_take (T : TX K mg) : Cal P w K mg base 3 "_law_take" (spLTake tb K) := by
  obtain ⟨fd, F⟩ := T.df_law_take
  refine cal_of F T.g_law_take (F.ok (k := 2) sc_law_take (fun vs H Q E h => ?_) fun cdv A outer s H vs Q E hr h => ?_) (F.bindsN (ps := ["_law_script", "_law_k", "_law_many"]) fun _ _ _ _ _ _ us hl => match us, hl with | [_, _, _], _ => rfl)
  · obtain ⟨s, k, m, many, rfl, _⟩ := h
    rfl
  have c_law_some : Cal P w K mg base 2 "_law_some" (spSome K) := ok_law_some T
  obtain ⟨s, k, m, many, rfl, hs, ⟨k0, k1⟩, hm, m60, qn, q⟩ := h
  refine ⟨_, PSs.nox
    (pss_cons (ps_setLc (i := 3) (own := [("_law_line", 4)]) (g := (gName 4)) (tt := _) rfl sc_law_take.nd rfl rfl (sw_true rfl rfl rfl (by decide +kernel)) (pi_range1 rfl T.f_range (pa_cons (pe_callB call_len_seq rfl T.f_len B_len (pa_cons (pv 2) pa_nil)) pa_nil)) (blkOk_by (own := [("_law_line", 4)]) (N := ["_law_script", "_law_k", "_law_many", "_law_some_here", "_law_line", "_law_how", "_law_least"]) (sc := defScope s_law_take) (by decide +kernel)) (fun _ _ _ _ _ => (pg_name (i := 4) sc_law_take.nd rfl (Or.inl rfl))) (fun _ _ _ _ _ => pts_one (pt_cmpR op_gt (pe_ix (ix_l T) (pv 2) (pv 4) (fun _ _ => rfl)) pe_int (nomark _))) (fun _ _ _ _ _ => (pv 4)))
    (pss_cons (ps_if0 (pt_cmpR (op_eqD hr.units) (pv 3) (pe_lst pa_nil) (nomark _))
      (pss_one (ps_ret pe_non)))
    (pss_cons (ps_set (i := 4) sc_law_take.nd rfl (Or.inl rfl) (pe_ix ix_list (pv 3) (pe_c c_law_some hr (by decide) rfl (pa_cons (pv 0) (pa_cons (pv 1) (pa_cons pe_int (pa_cons (pe_callB call_len_seq rfl T.f_len B_len (pa_cons (pv 3) pa_nil)) pa_nil))))) (fun _ _ => rfl)))
    (pss_cons (ps_set (i := 5) sc_law_take.nd rfl (Or.inl rfl) (pe_c c_law_some hr (by decide) rfl (pa_cons (pv 0) (pa_cons (pv 1) (pa_cons pe_int (pa_cons pe_int pa_nil))))))
    (pss_cons (ps_if0 (pt_cmpR op_eq (pv 5) pe_int (nomark _))
      (pss_one (ps_ret (pe_tup (pa_cons (pv 4) (pa_cons (pe_ix ix_list (pv 2) (pv 4) (fun _ _ => rfl)) pa_nil))))))
    (pss_cons (ps_set (i := 6) sc_law_take.nd rfl (Or.inl rfl) (pe_op op_add pe_int (pe_op op_fdiv (pe_ix ix_list (pv 2) (pv 4) (fun _ _ => rfl)) pe_int)))
    (pss_cons (ps_if0 (pt_cmpR op_eq (pv 5) pe_int (nomark _))
      (pss_one (ps_ret (pe_tup (pa_cons (pv 4) (pa_cons (pv 6) pa_nil))))))
    (pss_one (ps_ret (pe_tup (pa_cons (pv 4) (pa_cons (pe_op op_add (pv 6) (pe_c c_law_some hr (by decide) rfl (pa_cons (pv 0) (pa_cons (pv 1) (pa_cons pe_int (pa_cons (pe_op op_sub (pe_op op_add (pe_ix ix_list (pv 2) (pv 4) (fun _ _ => rfl)) pe_int) (pv 6)) pa_nil)))))) pa_nil)))))))))))), ?_⟩
  have sk : Sml k := ⟨k0, by omega⟩
  refine seq_set ⟨_, rfl, m, _, rfl, .inl (SqL.of hm), _, rfl, by rw [ivs_len]; omega, by rw [ivs_len]; omega, fun D hD => ?_⟩
  rw [ivs_len, Int.toNat_natCast]
  let pos : Nat → Bool := fun j => decide (many.getD j 0 > 0)
  refine lc_if (tb := tb) walk_range (fun i => ivs (((List.range (min i many.length)).filter pos).map natI)) (by rw [Nat.zero_min]; rfl) (fun i => ?_) hD (fun _ _ => trivial) ?_ fun H1 g1 hd => ?_
  · rw [ivs_len, List.length_map]
    have := List.length_filter_le pos (List.range (min i many.length))
    rw [List.length_range] at this
    omega
  · rintro i x H' _ N N' hi g ⟨rfl, rfl⟩ ky kn
    have e1 : min (i + 1) many.length = i + 1 := by omega
    have e2 : min i many.length = i := by omega
    have hat : atI (ivs many) (0 + (i : Int)) = some (.int (many.getD i 0)) := by
      rw [at_ivs (by omega) (by omega)]
      unfold gi
      rw [show ((0 : Int) + (i : Int)).toNat = i from by omega]
    refine ⟨rfl, _, rfl, _, rfl, m, _, _, _, rfl, rfl, SqL.of (g.lst hm), hat, _, _, rfl, rfl, _, rfl, ?_⟩
    refine if_d (fun hb => ⟨_, rfl, ky _ _ (GrB.refl _) ?_⟩) fun hb => kn _ (GrB.refl _) ?_
    · try dsimp only
      rw [e1, e2, range_filter, if_pos (decide_eq_true hb), List.map_append, ivs_app]
      show _ ++ ivs [natI i] = _
      rw [show natI i = 0 + (i : Int) from (Int.zero_add _).symm]
      rfl
    · try dsimp only
      rw [e1, e2, range_filter, if_neg (by show ¬ decide (many.getD i 0 > 0) = true; rw [decide_eq_false hb]; exact Bool.false_ne_true)]
  rw [Nat.min_self] at hd
  obtain ⟨so, eso⟩ : ∃ so : List Int, so = ((List.range many.length).filter pos).map natI := ⟨_, rfl⟩
  rw [← eso] at hd
  have hso : ∀ z ∈ so, 0 ≤ z ∧ z < many.length ∧ 0 < gi many z := fun z hz => by
    rw [eso] at hz
    obtain ⟨i, hi, rfl⟩ := List.mem_map.mp hz
    obtain ⟨h1, h2⟩ := List.mem_filter.mp hi
    have h1 := List.mem_range.mp h1
    refine ⟨Int.natCast_nonneg i, Int.ofNat_lt.mpr h1, ?_⟩
    have h2 : decide (many.getD i 0 > 0) = true := h2
    exact of_decide_eq_true h2
  -- nothing left
  refine seq_if0r (tb := tb) (fun b => b = false → so ≠ []) (fun σ' H2 => σ' = [some (.ref s), some (.int k), some (.ref m), some (.ref D), none, none, none] ∧ Gr tb H1 H2 ∧ so ≠ [])
    (fun R r => ?_) (fun H2 g2 _ N hN => qn H2 (g1.trans g2)) (fun H2 g2 c => ⟨rfl, g2, c rfl⟩) ?_
  · refine ⟨_, rfl, Nat.zero_le _, fun p hp => ⟨intsD so, intsD [], .lst (SqL.of (Gr.lst (tb := tb) (Gr.new hp) hd)) (dp_ivs so), .lst (SqL.of upd_same) .nil, ints_shaped so, ints_shaped [], _, rfl, ?_⟩⟩
    rw [eqv_nil]
    exact r _ _ (Gr.new hp) fun z e => by rw [e] at z; cases z
  rintro σ H2 ⟨rfl, g2, hne⟩
  have lpos := List.length_pos_iff.mpr hne
  have k2 := g1.trans g2
  have hd2 := g2.lst hd
  have hm2 := k2.lst hm
  have hs2 := hs.gr k2
  -- a line
  refine seq_set ⟨_, rfl, _, rfl, _, rfl, _, rfl, D, _, rfl, .inl (SqL.of hd2), s, k, 3, _, rfl, hs2, sk, ⟨by decide, by decide⟩, by rw [ivs_len]; omega, fun c c0 c1 => ?_⟩
  rw [ivs_len] at c1
  obtain ⟨z, ez, hz⟩ := pickI c0 c1
  obtain ⟨z0, z1, z2⟩ := hso z hz
  have eat := at_ivs z0 z1
  refine ⟨D, _, c, _, rfl, rfl, SqL.of hd2, ez, ?_⟩
  refine seq_set ⟨_, rfl, _, rfl, s, k, 4, 4, rfl, hs2, sk, ⟨by decide, by decide⟩, by decide, fun d _ _ => ?_⟩
  have tst : ∀ (e : Int) (R : Bool → Hp → Prop), R (d == e) H2 → R (decide (V.int d = V.int e)) H2 := fun e R r => by rw [dec_int]; exact r
  refine seq_if0 (d == 0) (fun R r => ⟨_, rfl, rfl, _, rfl, tst 0 R r⟩) (fun _ => ?_) (fun _ => ?_)
  · exact ⟨_, rfl, _, rfl, _, rfl, m, _, z, _, rfl, rfl, SqL.of hm2, eat, Nat.le_of_lt (small1000 (show 2 ≤ 1000 by decide)), fun t ht => q _ t z _ (k2.add ht) upd_same ⟨⟨z0, z1⟩, by omega, Int.le_refl _⟩⟩
  refine seq_set ⟨_, rfl, _, rfl, m, _, z, _, rfl, rfl, SqL.of hm2, eat, _, _, rfl, rfl, ⟨by decide, by decide⟩, _, _, rfl, rfl, ?_⟩
  refine seq_if0 (d == 1) (fun R r => ⟨_, rfl, rfl, _, rfl, tst 1 R r⟩) (fun _ => ?_) (fun _ => ?_)
  · exact ⟨_, rfl, _, rfl, Nat.le_of_lt (small1000 (show 2 ≤ 1000 by decide)), fun t ht => q _ t z _ (k2.add ht) upd_same ⟨⟨z0, z1⟩, by omega, by omega⟩⟩
  · exact ⟨_, rfl, _, rfl, _, rfl, _, rfl, _, rfl, _, rfl, m, _, z, _, rfl, rfl, SqL.of hm2, eat, _, _, rfl, rfl, _, rfl, _, _, rfl, rfl, s, k, 5, _, rfl, hs2, sk, ⟨by decide, by decide⟩, by omega, fun e e0 e1 => ⟨_, _, rfl, rfl, Nat.le_of_lt (small1000 (show 2 ≤ 1000 by decide)), fun t ht => q _ t z _ (k2.add ht) upd_same ⟨⟨z0, z1⟩, by omega, by omega⟩⟩⟩
end
end VS
set_option Elab.async false
set_option linter.all false
set_option maxRecDepth 100000
set_option maxHeartbeats 4000000
namespace VS
open PySem PySem.Spec PyProof.Rows L2
theorem fault_nil {T : TillD} {B : BasketD} {hd : List Int} : faultF T B hd [] = none := by
  refine fault_none bad_nil ?_
  unfold lackF
  rw [List.find?_eq_none]
  intro r _ h
  unfold lackP at h
  simp at h
theorem dropLast_ivs (o : List Int) : (ivs o).dropLast = ivs o.dropLast := by unfold ivs; rw [List.map_dropLast]
section
variable {P : Program} {w : World} {K : PySem.W.Frag} {mg : Str → Option Value} {base : Heap} {tb : Addr}
theorem sc_law_order : FnScope ["_law_script", "_law_k", "_law_till_here", "_law_basket_here", "_law_hand_here", "_law_order_here", "_law_most", "_law_j", "_law_number", "_law_line"] ["_law_script", "_law_k", "_law_till_here", "_law_basket_here", "_law_hand_here"] (defScope s_law_order) := ⟨rfl, rfl, rfl, by decide +kernel, rfl, by decide +kernel, by decide +kernel⟩
theorem ok_law_order (T : TX K mg) (W : ∀ s, Met P w K mg base 3 (sortC K s) "wanted" (spWanted tb K s)) : Cal P w K mg base 8 "_law_order" (spLOrder tb K) := by
  obtain ⟨fd, F⟩ := T.df_law_order
  refine cal_of F T.g_law_order (F.ok (k := 7) sc_law_order (fun vs H Q E h => ?_) fun cdv A outer s H vs Q E hr h => ?_) (F.bindsN (ps := ["_law_script", "_law_k", "_law_till_here", "_law_basket_here", "_law_hand_here"]) fun _ _ _ _ _ _ us hl => match us, hl with | [_, _, _, _, _], _ => rfl)
  · obtain ⟨s, k, t, b, h, D, B, hd, rfl, _⟩ := h
    rfl
  have c_fault : Cal P w K mg base 6 "fault" (spFault tb K) := ok_fault T W
  have c_law_going : Cal P w K mg base 7 "_law_going" (spGoes tb K) := ok_law_going T W
  have c_law_some : Cal P w K mg base 2 "_law_some" (spSome K) := ok_law_some T
  obtain ⟨s, k, t, b, h, D, B, hd, rfl, hs, ⟨k0, k1⟩, sh, v1, q⟩ := h
  refine ⟨_, PSs.nox
    (pss_cons (ps_set (i := 5) sc_law_order.nd rfl (Or.inl rfl) (pe_lst pa_nil))
    (pss_cons (ps_set (i := 6) sc_law_order.nd rfl (Or.inl rfl) pe_int)
    (pss_cons (ps_if0 (PW.pt (pw_and (pt_cmpR op_lt (pe_callB (cr_sum rfl) rfl T.f_sum B_sum (pa_cons (pe_lc (own := [("_law_line", 9)]) (g := (gName 9)) (tt := tYes) rfl sc_law_order.nd (pi_list (pe_fld (pv 3) rfl)) (blkOk_by (own := [("_law_line", 9)]) (N := ["_law_script", "_law_k", "_law_till_here", "_law_basket_here", "_law_hand_here", "_law_order_here", "_law_most", "_law_j", "_law_number", "_law_line"]) (sc := defScope s_law_order) (by decide +kernel)) (fun _ _ _ _ _ => (pg_name (i := 9) sc_law_order.nd rfl (Or.inl rfl))) (fun _ _ _ _ _ => pts_nil) (fun _ _ _ _ _ => (pe_fl T (pv 9) rfl))) pa_nil)) pe_int (nomark _)) (pw_and1 (pt_cmpR op_eq (pe_c c_law_some hr (by decide) rfl (pa_cons (pv 0) (pa_cons pe_int (pa_cons pe_int (pa_cons pe_int pa_nil))))) pe_int (nomark _)))))
      (pss_one (ps_set (i := 6) sc_law_order.nd rfl (Or.inl rfl) pe_int)))
    (pss_cons (ps_for PassesOwn.never rfl (pi_range1 rfl T.f_range (pa_cons (pe_ix ix_list (pe_lst (pa_cons pe_int (pa_cons pe_int pa_nil))) (pe_callTy call_int1 rfl T.f_int B_int (pa_cons (pe_cmpR op_eq (pv 6) pe_int (nomark _)) pa_nil)) (fun _ _ => rfl)) pa_nil)) (pg_name (i := 7) sc_law_order.nd rfl (Or.inl rfl))
      (pss_cons (ps_set (i := 8) sc_law_order.nd rfl (Or.inl rfl) (pe_c c_law_some hr (by decide) rfl (pa_cons (pv 0) (pa_cons (pe_op op_add (pv 1) (pv 7)) (pa_cons pe_int (pa_cons (pe_callB call_len_seq rfl T.f_len B_len (pa_cons (pe_fld (pv 2) rfl) pa_nil)) pa_nil))))))
      (pss_one (ps_if0 (PW.pt (pw_and (pt_cmpR op_lt (pe_callB call_len_seq rfl T.f_len B_len (pa_cons (pv 5) pa_nil)) (pv 6) (nomark _)) (pw_and1 (pt_val (pe_c c_law_going hr (by decide) rfl (pa_cons (pv 2) (pa_cons (pv 3) (pa_cons (pv 4) (pa_cons (pe_op op_cat (pv 5) (pe_lst (pa_cons (pv 8) pa_nil))) pa_nil)))))))))
        (pss_one (ps_expr (pe_bm PySem.F.plainAttrs_list PySem.F.slot_list_append PySem.F.type_list_append mt_append (pv 5) (pa_cons (pv 8) pa_nil))))))))
    (pss_cons (ps_while PassesOwn.never (pt_cmp (pc_notN (pe_c c_fault hr (by decide) rfl (pa_cons (pv 2) (pa_cons (pv 3) (pa_cons (pv 4) (pa_cons (pv 5) pa_nil)))))))
      (pss_one (ps_expr (pe_bm0 PySem.F.plainAttrs_list PySem.F.slot_list_pop PySem.F.type_list_pop mt_pop (pv 5)))))
    (pss_one (ps_ret (pv 5)))))))), ?_⟩
  obtain ⟨ta, dt, pp, uu, rr, vs, rs, rfl, hta, hpp, ⟨huu, hvs⟩, hrr, hrs⟩ := id sh.till
  obtain ⟨ba, db, lb, vls, rfl, hba, hlb, hpl⟩ := id sh.bas
  have lvs := hvs.length
  have lv := hpl.length
  refine seq_set ⟨Nat.zero_le _, fun l hl => ?_⟩
  have g0 : Gr tb H (upd H l (.lst [])) := Gr.new hl
  have hl0 : upd H l (.lst []) l = some (.lst (ivs [])) := upd_same
  generalize upd H l (.lst []) = H1 at g0 hl0 ⊢
  refine seq_set ?_
  refine seq_if0r (tb := tb) (fun _ => True) (fun σ' H2 => ∃ mo : Int, σ' = [some (.ref s), some (.int k), some (.ref ta), some (.ref ba), some h, some (.ref l), some (.int mo), none, none, none] ∧ Gr tb H1 H2)
    (fun R r => ?_) (fun H2 g2 _ N hN => one_set (hN _ _ ⟨8, rfl, g2⟩)) (fun H2 g2 _ => ⟨5, rfl, g2⟩) ?_
  · refine ⟨_, rfl, T.r_Basket_lines (g0.ins hba) ⟨_, rfl, ⟨_, SqL.of (g0.lst hlb)⟩, fun E1 hE => ?_⟩⟩
    refine lc_gr (tb := tb) (walk_list (xs := vls)) (ivs (B.lines.map LineD.many)) (by rw [ivs_len, List.length_map]; exact lv.symm) (by rw [lv]; exact Nat.le_trans sh.bok.len (by decide)) hE (fun H' g => SqL.of (g.lst (g0.lst hlb))) ?_ fun H3 g3 hd3 => ?_
    · rintro i v H' _ y N hi hy g ⟨rfl, hv⟩ kk
      obtain ⟨L, hL, c2, dc, rfl, hc2⟩ := paired_get hpl hv
      obtain ⟨z, hz, rfl⟩ := ivs_of hy
      rw [List.getElem?_map, hL] at hz
      cases hz
      exact ⟨rfl, _, rfl, T.r_Line_many ((g0.trans g).ins hc2) (kk _ (GrB.refl _))⟩
    refine ⟨E1, _, rfl, SqL.of hd3, _, _, rfl, rfl, _, rfl, ?_⟩
    refine if_d (fun _ => ⟨_, rfl, s, 7, 20, 4, rfl, hs.gr (g0.trans g3), ⟨by decide, by decide⟩, ⟨by decide, by decide⟩, by decide, fun d _ _ => ⟨rfl, _, rfl, r _ _ g3 trivial⟩⟩) fun _ => r _ _ g3 trivial
  rintro σ H2 ⟨mo, rfl, g2⟩
  have k2 := g0.trans g2
  have hl2 := g2.lst hl0
  -- how many turns
  refine ⟨Nat.le_of_lt (small1000 (show 2 ≤ 1000 by decide)), fun p hp => ⟨_, rfl, rfl, .inr ⟨_, rfl, ?_⟩⟩⟩
  have gp : Gr tb H2 (upd H2 p (.lst [.int 5, .int 12])) := Gr.new hp
  obtain ⟨N, eN, hN⟩ : ∃ N : Nat, atI [V.int 5, V.int 12] (if decide (V.int mo = V.int 8) = true then 1 else 0) = some (.int (N : Nat)) ∧ N ≤ 12 := by
    cases decide (V.int mo = V.int 8) with
    | true => exact ⟨12, rfl, by decide⟩
    | false => exact ⟨5, rfl, by decide⟩
  refine ⟨p, _, _, _, rfl, rfl, SqL.of upd_same, eN, _, rfl, by omega, by omega, ?_⟩
  rw [Int.toNat_natCast]
  refine for_it walk_range (fun i σ H' => ∃ v7 v8 o, σ = [some (.ref s), some (.int k), some (.ref ta), some (.ref ba), some h, some (.ref l), some (.int mo), v7, v8, none] ∧ Gr tb H H' ∧ H' l = some (.lst (ivs o)) ∧ OrdOk D o ∧ o.length ≤ i)
    ⟨none, none, [], rfl, k2.trans gp, gp.lst hl2, fun v hv => absurd hv (by simp), Nat.le_refl _⟩ (fun _ _ _ _ _ => trivial) ?_ ?_
  · rintro i _ σ _ H' hi ⟨v7, v8, o, rfl, g, hl', ho, hlen⟩ ⟨rfl, rfl⟩
    have hs' := hs.gr g
    refine ⟨_, rfl, _, rfl, _, rfl, _, _, rfl, rfl, _, rfl, T.r_Till_vouchers (g.ins hta) ⟨uu, _, rfl, .inl (SqL.of (g.lst huu)), s, _, 1, _, rfl, hs', ⟨by omega, by omega⟩, ⟨by decide, by decide⟩, by omega, fun v v0 v1 => ?_⟩⟩
    have ho2 : OrdOk D (o ++ [v]) := fun x hx => by
      rcases List.mem_append.mp hx with h | h
      · exact ho x h
      · rw [List.mem_singleton.mp h]; exact ⟨v0, by omega⟩
    dsimp only [gName]
    have keep : ∀ H2, Gr tb H' H2 → ∃ v7 v8 o', [some (V.ref s), some (.int k), some (.ref ta), some (.ref ba), some h, some (.ref l), some (.int mo), some (.int (0 + (i : Int))), some (.int v), none] = [some (.ref s), some (.int k), some (.ref ta), some (.ref ba), some h, some (.ref l), some (.int mo), v7, v8, none] ∧ Gr tb H H2 ∧ H2 l = some (.lst (ivs o')) ∧ OrdOk D o' ∧ o'.length ≤ i + 1 := fun H2 g2 =>
      ⟨_, _, o, rfl, g.trans g2, g2.lst hl', ho, by omega⟩
    refine ⟨_, rfl, l, _, rfl, .inl (SqL.of hl'), _, rfl, _, _, rfl, rfl, _, rfl, ?_⟩
    refine if_d (fun _ => ?_) fun _ => iteF (keep H' (GrB.refl _))
    refine ⟨_, rfl, _, rfl, _, rfl, _, rfl, _, rfl, Nat.le_of_lt (small1000 (show 1 ≤ 1000 by decide)), fun p1 hp1 => ?_⟩
    have nlp : l ≠ p1 := ne_of_none hl' hp1
    refine ⟨l, p1, _, _, rfl, rfl, by rw [upd_ne nlp]; exact hl', upd_same, Nat.le_of_lt (small1000 (by rw [ivs_len]; show _ + 1 ≤ 1000; omega)), fun c hc => ?_⟩
    have gc : Gr tb H' (upd (upd H' p1 (.lst [.int v])) c (.lst (ivs o ++ [.int v]))) := (Gr.new hp1).add hc
    refine ⟨_, _, _, c, D, B, hd, o ++ [v], rfl, sh.gr (g.trans gc), by rw [upd_same, ivs_app]; rfl, ho2, by rw [List.length_append]; show _ + 1 ≤ 1000; omega, fun H3 g3 => ⟨_, rfl, ?_⟩⟩
    have k3 := gc.trans g3
    refine if_b (fun _ => ?_) fun _ => keep H3 k3
    have hl3 := k3.lst hl'
    refine ⟨_, rfl, .inl ⟨rfl, _, SqL.of hl3⟩, _, rfl, l, _, _, rfl, rfl, hl3, small1000 (by rw [ivs_len]; omega), ?_⟩
    exact ⟨_, _, o ++ [v], rfl, (g.trans k3).putL hl hl3, by rw [upd_same, ivs_app]; rfl, ho2, by rw [List.length_append]; show _ + 1 ≤ _; omega⟩
  · rintro σ H' ⟨v7, v8, o, rfl, g, hl', ho, hlen⟩
    refine ⟨fun m σ H'' => ∃ o', m = o'.length ∧ σ = [some (.ref s), some (.int k), some (.ref ta), some (.ref ba), some h, some (.ref l), some (.int mo), v7, v8, none] ∧ Gr tb H H'' ∧ H'' l = some (.lst (ivs o')) ∧ OrdOk D o' ∧ o'.length ≤ 12, ⟨_, o, rfl, rfl, g, hl', ho, by omega⟩, ?_⟩
    rintro m σ H'' ⟨o', rfl, rfl, g', hl'', ho', hlen'⟩
    refine ⟨_, rfl, _, rfl, _, rfl, _, rfl, _, _, _, l, D, B, hd, o', rfl, sh.gr g', hl'', ho', by omega, fun e H3 g3 => ?_, fun i x e H3 p3 g3 hp3 => ?_⟩
    · exact ⟨_, rfl, iteF ⟨_, rfl, q H3 l o' (g'.trans g3) hl (g3.lst hl'') ho' hlen' e⟩⟩
    · have hne : o' ≠ [] := fun z => by rw [z, fault_nil] at e; cases e
      have hl3 := g3.lst hl''
      have lpos := List.length_pos_iff.mpr hne
      have hlast : (ivs o')[(ivs o').length - 1]? = some (.int (gi o' ((o'.length - 1 : Nat) : Int))) := by
        rw [ivs_len]
        exact ivs_get (get_d (by omega) 0)
      refine ⟨_, rfl, iteT ⟨_, fun _ _ z => z, _, rfl, .inl ⟨rfl, _, SqL.of hl3⟩, l, _, _, rfl, rfl, hl3, hlast, ?_⟩⟩
      rw [dropLast_ivs]
      exact ⟨_, by show o'.dropLast.length < o'.length; rw [List.length_dropLast]; omega, o'.dropLast, rfl, rfl, (g'.trans g3).putL hl hl3, upd_same, fun v hv => ho' v ((List.dropLast_sublist o').subset hv), by rw [List.length_dropLast]; omega⟩
end
end VS
set_option Elab.async false
set_option linter.all false
set_option maxRecDepth 100000
set_option maxHeartbeats 4000000
namespace VS
open PySem PySem.Spec PyProof.Rows L2
/-! ### what is told of an account -/
def toldD (A : AccD) : PyData := .list [intsD A.order, intsD A.fallen, intsD A.many, .int A.paid, .int A.owed]
theorem told_shaped (A : AccD) : SeqAt.shaped (toldD A) = true := by
  unfold SeqAt.shaped toldD intsD
  have h1 : (PyData.list [.list (A.order.map .int), .list (A.fallen.map .int), .list (A.many.map .int), .int A.paid, .int A.owed]).canLay0 = true := by
    simp [PyData.canLay0, PyData.canLayAll0, lay_ints]
  have d1 := depth_ints A.order
  have d2 := depth_ints A.fallen
  have d3 := depth_ints A.many
  have h2 : (PyData.list [.list (A.order.map .int), .list (A.fallen.map .int), .list (A.many.map .int), .int A.paid, .int A.owed]).depth ≤ 64 := by
    simp [PyData.depth, PyData.depthAll]
    omega
  rw [h1, decide_eq_true h2]
  rfl
def ToldAt (H : Hp) (p : Addr) (A : AccD) : Prop := ∃ a b c, H p = some (.lst [.ref a, .ref b, .ref c, .int A.paid, .int A.owed]) ∧ H a = some (.lst (ivs A.order)) ∧ H b = some (.lst (ivs A.fallen)) ∧ H c = some (.lst (ivs A.many))
theorem ToldAt.gr {tb : Addr} {H H' : Hp} {p : Addr} {A : AccD} (g : Gr tb H H') : ToldAt H p A → ToldAt H' p A := fun ⟨a, b, c, h1, h2, h3, h4⟩ => ⟨a, b, c, g.lst h1, g.lst h2, g.lst h3, g.lst h4⟩
theorem ToldAt.dp {K : PySem.W.Frag} {H : Hp} {p : Addr} {A : AccD} : ToldAt H p A → Dp K H (.ref p) (toldD A) := fun ⟨a, b, c, h1, h2, h3, h4⟩ =>
  .lst (SqL.of h1) (.cons (.lst (SqL.of h2) (dp_ivs _)) (.cons (.lst (SqL.of h3) (dp_ivs _)) (.cons (.lst (SqL.of h4) (dp_ivs _)) (.cons (.int _) (.cons (.int _) .nil)))))
def spTold (tb : Addr) (K : PySem.W.Frag) : Sp := fun vs H Q _ => ∃ S x m f t b h T B hd shs A, vs = [.ref x] ∧ AccAt K tb S H x m f t b h T B hd shs A ∧ ∀ H' p, Gr tb H H' → ToldAt H' p A → Q (.ref p) H'
def spRefused (tb : Addr) (K : PySem.W.Frag) : Sp := fun vs H Q _ => ∃ S x m f t b h T B hd shs A line k, vs = [.ref x, .int line, .int k] ∧ AccAt K tb S H x m f t b h T B hd shs A ∧ AccOk T B A ∧ ¬ takeOk A line k ∧ ∀ H', Gr tb H H' → Q (.bl true) H'
theorem B_ValueError : bootBuiltins ("ValueError" : Str) = some (.type "ValueError") := by decide +kernel
section
variable {K : PySem.W.Frag} {mg : Str → Option Value}
theorem TX.exb (T : TX K mg) : excB K "NoPieces" = true := (Bool.and_eq_true_iff.mp T.ex).1
theorem TX.kits (T : TX K mg) : PySem.W.kitOne K (NP K) (.ref (He.ga K "NoPieces")) = some true ∧ PySem.W.kitOne K (NP K) (.type "ValueError") = some true ∧ PySem.W.kitOne K (NP K) (.ref (He.ga K "NotLet")) = some false ∧ PySem.W.kitOne K (NP K) (.ref (He.ga K "LineError")) = some false := by
  have h := (Bool.and_eq_true_iff.mp (Bool.and_eq_true_iff.mp T.ex).2).2
  obtain ⟨h1, h⟩ := Bool.and_eq_true_iff.mp h
  obtain ⟨h2, h⟩ := Bool.and_eq_true_iff.mp h
  obtain ⟨h3, h4⟩ := Bool.and_eq_true_iff.mp h
  exact ⟨of_decide_eq_true h1, of_decide_eq_true h2, of_decide_eq_true h3, of_decide_eq_true h4⟩
end
section
variable {P : Program} {w : World} {K : PySem.W.Frag} {mg : Str → Option Value} {base : Heap} {tb : Addr}
theorem sc_law_told : FnScope ["_law_account"] ["_law_account"] (defScope s_law_told) := ⟨rfl, rfl, rfl, by decide +kernel, rfl, by decide +kernel, by decide +kernel⟩
theorem ok_law_told (T : TX K mg) : Cal P w K mg base 1 "_law_told" (spTold tb K) := by
  obtain ⟨fd, F⟩ := T.df_law_told
  refine cal_of F T.g_law_told (F.ok (k := 0) sc_law_told (fun vs H Q E h => ?_) fun cdv A outer s H vs Q E hr h => ?_) (F.bindsN (ps := ["_law_account"]) fun _ _ _ _ _ _ us hl => match us, hl with | [_], _ => rfl)
  · obtain ⟨S, x, m, f, t, b, h, D, B, hd, shs, A, rfl, _⟩ := h
    rfl
  obtain ⟨S, x, m, f, t, b, h, D, B, hd, shs, A, rfl, a, q⟩ := h
  refine ⟨_, PSs.nox
    (pss_one (ps_ret (pe_lst (pa_cons (pe_callTy call_list_of rfl T.f_list B_list (pa_cons (pe_fld (pv 0) rfl) pa_nil)) (pa_cons (pe_callTy call_list_of rfl T.f_list B_list (pa_cons (pe_fld (pv 0) rfl) pa_nil)) (pa_cons (pe_callTy call_list_of rfl T.f_list B_list (pa_cons (pe_fld (pv 0) rfl) pa_nil)) (pa_cons (pe_fld (pv 0) rfl) (pa_cons (pe_fld (pv 0) rfl) pa_nil)))))))), ?_⟩
  obtain ⟨dx, s, o, hx, hs, ho⟩ := a.obj
  have ho := (cut_some ho).2
  refine ⟨_, rfl, T.r_Account_order hx ⟨o, _, rfl, .inl (SqL.of ho), fun l1 hl1 => ?_⟩⟩
  have g1 : Gr tb H (upd H l1 (.lst (ivs A.order))) := Gr.new hl1
  have e1 : upd H l1 (.lst (ivs A.order)) l1 = some (.lst (ivs A.order)) := upd_same
  generalize upd H l1 (.lst (ivs A.order)) = H1 at g1 e1 ⊢
  refine ⟨_, rfl, T.r_Account_fallen (g1.ins hx) ⟨f, _, rfl, .inl (SqL.of (g1.lst a.hf)), fun l2 hl2 => ?_⟩⟩
  have g2 : Gr tb H1 (upd H1 l2 (.lst (ivs A.fallen))) := Gr.new hl2
  have e2 : upd H1 l2 (.lst (ivs A.fallen)) l2 = some (.lst (ivs A.fallen)) := upd_same
  generalize upd H1 l2 (.lst (ivs A.fallen)) = H2 at g2 e2 ⊢
  have k2 := g1.trans g2
  refine ⟨_, rfl, T.r_Account_many (k2.ins hx) ⟨m, _, rfl, .inl (SqL.of (k2.lst a.hm)), fun l3 hl3 => ?_⟩⟩
  have g3 : Gr tb H2 (upd H2 l3 (.lst (ivs A.many))) := Gr.new hl3
  have e3 : upd H2 l3 (.lst (ivs A.many)) l3 = some (.lst (ivs A.many)) := upd_same
  generalize upd H2 l3 (.lst (ivs A.many)) = H3 at g3 e3 ⊢
  have k3 := k2.trans g3
  refine ⟨_, rfl, T.r_Account_paid (k3.ins hx) ⟨_, rfl, T.r_Account_owed (k3.ins hx) ⟨Nat.le_of_lt (small1000 (show 5 ≤ 1000 by decide)), fun p hp => ?_⟩⟩⟩
  have g4 : Gr tb H3 (upd H3 p (.lst [.ref l1, .ref l2, .ref l3, .int A.paid, .int A.owed])) := Gr.new hp
  exact q _ p (k3.trans g4) ⟨l1, l2, l3, upd_same, g4.lst (g3.lst (g2.lst e1)), g4.lst (g3.lst e2), g4.lst e3⟩
theorem sc_law_refused : FnScope ["_law_account", "_law_line", "_law_many", "_law_ahead", "_law_caught", "error"] ["_law_account", "_law_line", "_law_many"] (defScope s_law_refused) := ⟨rfl, rfl, rfl, by decide +kernel, rfl, by decide +kernel, by decide +kernel⟩
theorem ok_law_refused (T : TX K mg) (W : ∀ s, Met P w K mg base 3 (sortC K s) "wanted" (spWanted tb K s)) : Cal P w K mg base 12 "_law_refused" (spRefused tb K) := by
  obtain ⟨fd, F⟩ := T.df_law_refused
  refine cal_of F T.g_law_refused (F.ok (k := 11) sc_law_refused (fun vs H Q E h => ?_) fun cdv A outer s H vs Q E hr h => ?_) (F.bindsN (ps := ["_law_account", "_law_line", "_law_many"]) fun _ _ _ _ _ _ us hl => match us, hl with | [_, _, _], _ => rfl)
  · obtain ⟨S, x, m, f, t, b, h, D, B, hd, shs, A, line, k, rfl, _⟩ := h
    rfl
  have c_law_told : Cal P w K mg base 1 "_law_told" (spTold tb K) := ok_law_told T
  have mt_take_back : MetX P w K mg base 11 (CAccount K) "take_back" (spTake tb K) := ok_Account_take_back T W
  have hC : ExcC K (He.ga K "NoPieces") := exc_of T.exb (He.exc_ok (T.d.fact 153 (by rfl))).2.2.1
  obtain ⟨kt1, kt2, kt3, kt4⟩ := T.kits
  obtain ⟨S, x, m, f, t, b, h, D, B, hd, shs, A, line, k, rfl, a, ok, nt, q⟩ := h
  refine ⟨_, PSs.nox
    (pss_cons (ps_set (i := 3) sc_law_refused.nd rfl (Or.inl rfl) (pe_c c_law_told hr (by decide) rfl (pa_cons (pv 0) pa_nil)))
    (pss_cons (ps_set (i := 4) sc_law_refused.nd rfl (Or.inl rfl) pe_non)
    (pss_cons (ps_try_keep (i := 5) rfl rfl rfl sc_law_refused.nd rfl rfl ⟨rfl, by decide, .inl T.g_TillError⟩ takes0 (fun W pn xe tk _ => pss_one (ps_expr (pe_mtE mt_take_back hr (by decide) (fun σ => passAt tk σ) (pv 0) (pa_cons (pv 1) (pa_cons (pv 2) pa_nil)))))
        (fun a oe cls d pn _ _ => pss_one (ps_set (i := 4) sc_law_refused.nd rfl (Or.inl rfl) (pv 5))))
    (pss_cons (ps_if0 (PW.pt (pw_or (pt_not (pt_val (pe_callB (call_isH hC) rfl T.f_isinstance B_isinstance (pa_cons (pv 4) (pa_cons (pe_glob (v := .ref (He.ga K "NoPieces")) rfl T.g_NoPieces rfl) pa_nil))))) (pw_or1 (pt_not (pt_val (pe_callB (call_isH hC) rfl T.f_isinstance B_isinstance (pa_cons (pv 4) (pa_cons (pe_bltn (v := .ty "ValueError") rfl T.f_ValueError B_ValueError rfl) pa_nil))))))))
      (pss_one (ps_ret pe_bl)))
    (pss_cons (ps_if0 (pt_val (pe_callB (call_isHT hC) rfl T.f_isinstance B_isinstance (pa_cons (pv 4) (pa_cons (pe_tup (pa_cons (pe_glob (v := .ref (He.ga K "NotLet")) rfl T.g_NotLet rfl) (pa_cons (pe_glob (v := .ref (He.ga K "LineError")) rfl T.g_LineError rfl) pa_nil))) pa_nil))))
      (pss_one (ps_ret pe_bl)))
    (pss_one (ps_ret (pe_cmpR (op_eqD hr.units) (pe_c c_law_told hr (by decide) rfl (pa_cons (pv 0) pa_nil)) (pv 3) (nomark _))))))))), ?_⟩
  obtain ⟨dx, s, o, hx, hs, ho⟩ := a.obj
  refine seq_set ⟨_, rfl, S, x, m, f, t, b, h, D, B, hd, shs, A, rfl, a, fun H1 p g1 hp => ?_⟩
  have a1 := a.gr g1
  have hx1 := g1.ins hx
  refine ⟨_, rfl, x, dx, _, rfl, hx1, by kernel_rfl, _, rfl, _, rfl, S, x, m, f, t, b, h, D, B, hd, shs, A, line, k, rfl, a1, ok, fun z => absurd z nt, fun _ => ?_⟩
  refine ⟨true, He.exm_ok (T.d.fact 154 (by rfl)), fun _ e he => ⟨_, rfl, fun he' => ?_⟩, fun z => nomatch z⟩
  have ge : Gr tb H1 (upd H1 e (HeldE (NP K) none e)) := Gr.new he
  have hee : upd H1 e (HeldE (NP K) none e) e = some (HeldE (NP K) none e) := upd_same
  have a2 := a1.gr ge
  have p2 := hp.gr ge
  dsimp only
  generalize upd H1 e (HeldE (NP K) none e) = H2 at ge hee a2 p2 ⊢
  refine seq_if0 false (fun R r => ?_) (fun z => nomatch z) (fun _ => ?_)
  · exact ⟨_, rfl, e, _, _, _, rfl, hee, ClsV.own _, kt1, _, rfl, iteF ⟨_, rfl, e, _, _, _, rfl, hee, ClsV.ty _, kt2, _, rfl, r⟩⟩
  refine seq_if0g (tb := tb) false (fun R r => ?_) (fun _ _ z => nomatch z) (fun H3 g3 _ => ?_)
  · refine ⟨_, rfl, Nat.le_of_lt (small1000 (show 2 ≤ 1000 by decide)), fun tp htp => ⟨e, tp, _, [.ref (He.ga K "NotLet"), .ref (He.ga K "LineError")], false, rfl, ?_, upd_same, .cons (ClsV.own _) (.cons (ClsV.own _) .nil), ?_, _, rfl, r _ (Gr.new htp)⟩⟩
    · rw [upd_ne (ne_of_none hee htp)]; exact hee
    · exact kitAny_cons kt3 (fun _ => kitAny_cons kt4 (fun _ => kitAny_nil) fun z => nomatch z) fun z => nomatch z
  refine ⟨_, rfl, S, x, m, f, t, b, h, D, B, hd, shs, A, rfl, a2.gr g3, fun H4 p4 g4 hp4 => ⟨_, rfl, toldD A, toldD A, hp4.dp, ((p2.gr g3).gr g4).dp, told_shaped A, told_shaped A, ?_⟩⟩
  rw [eqv_same (told_shaped A)]
  exact q H4 (((g1.trans ge).trans g3).trans g4)
end
end VS
set_option Elab.async false
set_option linter.all false
set_option maxRecDepth 100000
set_option maxHeartbeats 4000000
namespace VS
open PySem PySem.Spec PyProof.Rows L2
/-! ### pieces that are not there -/
def StrAt (H : Hp) (v : V) (p : Int × Int) : Prop := ∃ a, v = .ref a ∧ H a = some (.tup [.int p.1, .int p.2])
theorem StrAt.gr {tb : Addr} {H H' : Hp} (g : Gr tb H H') {v : V} {p : Int × Int} : StrAt H v p → StrAt H' v p := fun ⟨a, e, h⟩ => ⟨a, e, g.tup h⟩
theorem str_put {H : Hp} {l : Addr} {xs ys : List V} {vs : List V} {ps : List (Int × Int)} (h : Paired (StrAt H) vs ps) (hl : H l = some (.lst xs)) : Paired (StrAt (upd H l (.lst ys))) vs ps :=
  Paired.mapP h fun v L ⟨a, e, ha⟩ => ⟨a, e, by rw [upd_ne (fun z => by rw [z, hl] at ha; cases ha)]; exact ha⟩
def spAll (tb : Addr) (K : PySem.W.Frag) : Sp := fun vs H Q _ => ∃ S x m f t b h T B hd shs A s k mm, vs = [.ref s, .int k, .ref x, .ref mm] ∧ Scr K H s ∧ (0 ≤ k ∧ k ≤ 1000) ∧ AccAt K tb S H x m f t b h T B hd shs A ∧ AccOk T B A ∧ H mm = some (.lst (ivs A.many)) ∧ A.many.length ≤ 60 ∧
  ∀ H', Gr tb H H' → Q (.bl true) H'
section
variable {P : Program} {w : World} {K : PySem.W.Frag} {mg : Str → Option Value} {base : Heap} {tb : Addr}
theorem sc_law_all_refused : FnScope ["_law_script", "_law_k", "_law_account", "_law_many", "_law_lines", "_law_great", "_law_strange", "_law_line", "_law_turn", "_law_pieces"] ["_law_script", "_law_k", "_law_account", "_law_many"] (defScope s_law_all_refused) := ⟨rfl, rfl, rfl, by decide +kernel, rfl, by decide +kernel, by decide +kernel⟩
theorem ok_law_all_refused (T : TX K mg) (W : ∀ s, Met P w K mg base 3 (sortC K s) "wanted" (spWanted tb K s)) : Cal P w K mg base 13 "_law_all_refused" (spAll tb K) := by
  obtain ⟨fd, F⟩ := T.df_law_all_refused
  refine cal_of F T.g_law_all_refused (F.ok (k := 12) sc_law_all_refused (fun vs H Q E h => ?_) fun cdv A outer s H vs Q E hr h => ?_) (F.bindsN (ps := ["_law_script", "_law_k", "_law_account", "_law_many"]) fun _ _ _ _ _ _ us hl => match us, hl with | [_, _, _, _], _ => rfl)
  · obtain ⟨S, x, m, f, t, b, h, D, B, hd, shs, A, s, k, mm, rfl, _⟩ := h
    rfl
  have c_law_some : Cal P w K mg base 2 "_law_some" (spSome K) := ok_law_some T
  have c_law_refused : Cal P w K mg base 12 "_law_refused" (spRefused tb K) := ok_law_refused T W
  obtain ⟨S, x, m, f, t, b, h, D, B, hd, shs, A, s, k, mm, rfl, hs, ⟨k0, k1⟩, a, ok, hmm, m60, q⟩ := h
  refine ⟨_, PSs.nox
    (pss_cons (ps_set (i := 4) sc_law_all_refused.nd rfl (Or.inl rfl) (pe_callB call_len_seq rfl T.f_len B_len (pa_cons (pv 3) pa_nil)))
    (pss_cons (ps_set (i := 5) sc_law_all_refused.nd rfl (Or.inl rfl) (pe_op op_oneShl pe_int (pe_c c_law_some hr (by decide) rfl (pa_cons (pv 0) (pa_cons (pv 1) (pa_cons pe_int (pa_cons pe_int pa_nil)))))))
    (pss_cons (ps_set (i := 6) sc_law_all_refused.nd rfl (Or.inl rfl) (pe_lst (pa_cons (pe_tup (pa_cons (pe_un un_neg pe_int) (pa_cons pe_int pa_nil))) (pa_cons (pe_tup (pa_cons (pv 4) (pa_cons pe_int pa_nil))) (pa_cons (pe_tup (pa_cons (pe_op op_sub (pe_un un_neg pe_int) (pv 4)) (pa_cons pe_int pa_nil))) (pa_cons (pe_tup (pa_cons (pe_op op_add (pv 5) (pv 4)) (pa_cons pe_int pa_nil))) (pa_cons (pe_tup (pa_cons (pe_un un_neg (pv 5)) (pa_cons pe_int pa_nil))) pa_nil)))))))
    (pss_cons (ps_for PassesOwn.never rfl (pi_range1 rfl T.f_range (pa_cons (pv 4) pa_nil)) (pg_name (i := 7) sc_law_all_refused.nd rfl (Or.inl rfl))
      (pss_cons (ps_expr (pe_bm PySem.F.plainAttrs_list PySem.F.slot_list_extend PySem.F.type_list_extend mt_extend (pv 6) (pa_cons (pe_lst (pa_cons (pe_tup (pa_cons (pv 7) (pa_cons pe_int pa_nil))) (pa_cons (pe_tup (pa_cons (pv 7) (pa_cons (pe_un un_neg pe_int) pa_nil))) (pa_cons (pe_tup (pa_cons (pv 7) (pa_cons (pe_op op_add (pe_ix ix_list (pv 3) (pv 7) (fun _ _ => rfl)) pe_int) pa_nil))) (pa_cons (pe_tup (pa_cons (pv 7) (pa_cons (pe_un un_neg (pv 5)) pa_nil))) (pa_cons (pe_tup (pa_cons (pv 7) (pa_cons (pe_op op_add (pe_ix ix_list (pv 3) (pv 7) (fun _ _ => rfl)) (pv 5)) pa_nil))) pa_nil)))))) pa_nil)))
      (pss_one (ps_expr (pe_bm PySem.F.plainAttrs_list PySem.F.slot_list_append PySem.F.type_list_append mt_append (pv 6) (pa_cons (pe_tup (pa_cons (pe_op op_sub (pv 7) (pv 4)) (pa_cons (pe_ix ix_list (pv 3) (pv 7) (fun _ _ => rfl)) pa_nil))) pa_nil))))))
    (pss_cons (ps_for PassesOwn.never rfl (pi_range1 rfl T.f_range (pa_cons pe_int pa_nil)) (pg_name (i := 8) sc_law_all_refused.nd rfl (Or.inl rfl))
      (pss_cons (ps_asg (pe_ix ix_list (pv 6) (pe_c c_law_some hr (by decide) rfl (pa_cons (pv 0) (pa_cons (pv 1) (pa_cons (pe_op op_add pe_int (pv 8)) (pa_cons (pe_callB call_len_seq rfl T.f_len B_len (pa_cons (pv 6) pa_nil)) pa_nil))))) (fun _ _ => rfl)) (pg_tup rfl (pgs_cons (pg_name (i := 7) sc_law_all_refused.nd rfl (Or.inl rfl)) (pgs_cons (pg_name (i := 9) sc_law_all_refused.nd rfl (Or.inl rfl)) pgs_nil))))
      (pss_one (ps_if0 (pt_not (pt_val (pe_c c_law_refused hr (by decide) rfl (pa_cons (pv 2) (pa_cons (pv 7) (pa_cons (pv 9) pa_nil))))))
        (pss_one (ps_ret pe_bl))))))
    (pss_one (ps_ret pe_bl))))))), ?_⟩
  have sk : Sml k := ⟨k0, by omega⟩
  refine seq_set ⟨_, rfl, mm, _, rfl, .inl (SqL.of hmm), ?_⟩
  rw [ivs_len]
  refine seq_set ⟨_, rfl, _, rfl, s, k, 6, 200, rfl, hs, sk, ⟨by decide, by decide⟩, by decide, fun c c0 c1 => ⟨c.toNat, rfl, by rw [Int.toNat_of_nonneg c0], by omega, ?_⟩⟩
  have gpos : (0 : Int) < 2 ^ c.toNat := Int.pow_pos (by decide)
  generalize (2 : Int) ^ c.toNat = gr at gpos ⊢
  -- the first ones
  refine ⟨_, rfl, Nat.le_of_lt (small1000 (show 2 ≤ 1000 by decide)), fun t1 ht1 => ?_⟩
  have gt1 : Gr tb H (upd H t1 (.tup [.int (-1), .int 1])) := Gr.new ht1
  have et1 : upd H t1 (.tup [.int (-1), .int 1]) t1 = some (.tup [.int (-1), .int 1]) := upd_same
  generalize upd H t1 (.tup [.int (-1), .int 1]) = H1 at gt1 et1 ⊢
  refine ⟨_, rfl, Nat.le_of_lt (small1000 (show 2 ≤ 1000 by decide)), fun t2 ht2 => ?_⟩
  have gt2 : Gr tb H1 (upd H1 t2 (.tup [.int (A.many.length : Int), .int 1])) := Gr.new ht2
  have et2 : upd H1 t2 (.tup [.int (A.many.length : Int), .int 1]) t2 = some (.tup [.int (A.many.length : Int), .int 1]) := upd_same
  generalize upd H1 t2 (.tup [.int (A.many.length : Int), .int 1]) = H2 at gt2 et2 ⊢
  refine ⟨_, rfl, _, rfl, _, _, rfl, rfl, Nat.le_of_lt (small1000 (show 2 ≤ 1000 by decide)), fun t3 ht3 => ?_⟩
  have gt3 : Gr tb H2 (upd H2 t3 (.tup [.int (-1 - (A.many.length : Int)), .int 1])) := Gr.new ht3
  have et3 : upd H2 t3 (.tup [.int (-1 - (A.many.length : Int)), .int 1]) t3 = some (.tup [.int (-1 - (A.many.length : Int)), .int 1]) := upd_same
  generalize upd H2 t3 (.tup [.int (-1 - (A.many.length : Int)), .int 1]) = H3 at gt3 et3 ⊢
  refine ⟨_, rfl, _, rfl, _, _, rfl, rfl, Nat.le_of_lt (small1000 (show 2 ≤ 1000 by decide)), fun t4 ht4 => ?_⟩
  have gt4 : Gr tb H3 (upd H3 t4 (.tup [.int (gr + (A.many.length : Int)), .int 1])) := Gr.new ht4
  have et4 : upd H3 t4 (.tup [.int (gr + (A.many.length : Int)), .int 1]) t4 = some (.tup [.int (gr + (A.many.length : Int)), .int 1]) := upd_same
  generalize upd H3 t4 (.tup [.int (gr + (A.many.length : Int)), .int 1]) = H4 at gt4 et4 ⊢
  refine ⟨_, rfl, _, rfl, Nat.le_of_lt (small1000 (show 2 ≤ 1000 by decide)), fun t5 ht5 => ?_⟩
  have gt5 : Gr tb H4 (upd H4 t5 (.tup [.int (-gr), .int 1])) := Gr.new ht5
  have et5 : upd H4 t5 (.tup [.int (-gr), .int 1]) t5 = some (.tup [.int (-gr), .int 1]) := upd_same
  generalize upd H4 t5 (.tup [.int (-gr), .int 1]) = H5 at gt5 et5 ⊢
  refine ⟨Nat.le_of_lt (small1000 (show 5 ≤ 1000 by decide)), fun l hl => ?_⟩
  have g5 : Gr tb H H5 := (((gt1.trans gt2).trans gt3).trans gt4).trans gt5
  have l0 : H l = none := g5.free l hl
  have g6 := g5.add hl (o := .lst [.ref t1, .ref t2, .ref t3, .ref t4, .ref t5])
  have gl : Gr tb H5 (upd H5 l (.lst [.ref t1, .ref t2, .ref t3, .ref t4, .ref t5])) := Gr.new hl
  have h6 : upd H5 l (.lst [.ref t1, .ref t2, .ref t3, .ref t4, .ref t5]) l = some (.lst [.ref t1, .ref t2, .ref t3, .ref t4, .ref t5]) := upd_same
  generalize upd H5 l (.lst [.ref t1, .ref t2, .ref t3, .ref t4, .ref t5]) = H6 at g6 gl h6 ⊢
  have p0 : Paired (StrAt H6) [.ref t1, .ref t2, .ref t3, .ref t4, .ref t5] [(-1, 1), ((A.many.length : Int), 1), (-1 - (A.many.length : Int), 1), (gr + (A.many.length : Int), 1), (-gr, 1)] :=
    .cons ⟨t1, rfl, gl.tup (gt5.tup (gt4.tup (gt3.tup (gt2.tup et1))))⟩ (.cons ⟨t2, rfl, gl.tup (gt5.tup (gt4.tup (gt3.tup et2)))⟩ (.cons ⟨t3, rfl, gl.tup (gt5.tup (gt4.tup et3))⟩ (.cons ⟨t4, rfl, gl.tup (gt5.tup et4)⟩ (.cons ⟨t5, rfl, gl.tup et5⟩ .nil))))
  have n0 : ∀ p ∈ [((-1 : Int), (1 : Int)), ((A.many.length : Int), 1), (-1 - (A.many.length : Int), 1), (gr + (A.many.length : Int), 1), (-gr, 1)], ¬ takeOk A p.1 p.2 := by
    intro p hp hk
    obtain ⟨⟨q1, q2⟩, q3, q4⟩ := hk
    simp only [List.mem_cons, List.not_mem_nil, or_false] at hp
    rcases hp with rfl | rfl | rfl | rfl | rfl <;> simp only at q1 q2 <;> omega
  clear gt1 gt2 gt3 gt4 gt5 et1 et2 et3 et4 et5 ht1 ht2 ht3 ht4 ht5 gl hl g5
  -- each line's
  refine ⟨_, rfl, _, rfl, by omega, by omega, ?_⟩
  rw [Int.toNat_natCast]
  refine for_it walk_range (fun i σ H' => ∃ v7 vs ps, σ = [some (.ref s), some (.int k), some (.ref x), some (.ref mm), some (.int (A.many.length : Int)), some (.int gr), some (.ref l), v7, none, none] ∧ Gr tb H H' ∧ H' l = some (.lst vs) ∧ Paired (StrAt H') vs ps ∧ ps.length = 5 + 6 * i ∧ ∀ p ∈ ps, ¬ takeOk A p.1 p.2)
    ⟨none, _, _, rfl, g6, h6, p0, rfl, n0⟩ (fun _ _ _ _ _ => trivial) ?_ ?_
  · rintro i _ σ _ G hi ⟨v7, vs, ps, rfl, g, hl', hp, hlen, hno⟩ ⟨rfl, rfl⟩
    have lvs := hp.length
    have ei : (0 : Int) + (i : Int) = (i : Int) := by omega
    have eat : atI (ivs A.many) (0 + (i : Int)) = some (.int (gi A.many (i : Int))) := by rw [ei]; exact at_ivs (by omega) (by omega)
    have hm0 := g.lst hmm
    refine ⟨_, rfl, .inl ⟨rfl, _, SqL.of hl'⟩, ?_⟩
    refine ⟨_, rfl, Nat.le_of_lt (small1000 (show 2 ≤ 1000 by decide)), fun t1 ht1 => ?_⟩
    have gt1 : Gr tb G (upd G t1 (.tup [.int (0 + (i : Int)), .int 0])) := Gr.new ht1
    have et1 : upd G t1 (.tup [.int (0 + (i : Int)), .int 0]) t1 = some (.tup [.int (0 + (i : Int)), .int 0]) := upd_same
    generalize upd G t1 (.tup [.int (0 + (i : Int)), .int 0]) = G1 at gt1 et1 ⊢
    have hm1 := gt1.lst hm0
    refine ⟨_, rfl, _, rfl, Nat.le_of_lt (small1000 (show 2 ≤ 1000 by decide)), fun t2 ht2 => ?_⟩
    have gt2 : Gr tb G1 (upd G1 t2 (.tup [.int (0 + (i : Int)), .int (-1)])) := Gr.new ht2
    have et2 : upd G1 t2 (.tup [.int (0 + (i : Int)), .int (-1)]) t2 = some (.tup [.int (0 + (i : Int)), .int (-1)]) := upd_same
    generalize upd G1 t2 (.tup [.int (0 + (i : Int)), .int (-1)]) = G2 at gt2 et2 ⊢
    have hm2 := gt2.lst hm1
    refine ⟨_, rfl, _, rfl, _, rfl, mm, _, _, _, rfl, rfl, SqL.of hm2, eat, _, _, rfl, rfl, Nat.le_of_lt (small1000 (show 2 ≤ 1000 by decide)), fun t3 ht3 => ?_⟩
    have gt3 : Gr tb G2 (upd G2 t3 (.tup [.int (0 + (i : Int)), .int (gi A.many (i : Int) + 1)])) := Gr.new ht3
    have et3 : upd G2 t3 (.tup [.int (0 + (i : Int)), .int (gi A.many (i : Int) + 1)]) t3 = some (.tup [.int (0 + (i : Int)), .int (gi A.many (i : Int) + 1)]) := upd_same
    generalize upd G2 t3 (.tup [.int (0 + (i : Int)), .int (gi A.many (i : Int) + 1)]) = G3 at gt3 et3 ⊢
    have hm3 := gt3.lst hm2
    refine ⟨_, rfl, _, rfl, _, rfl, Nat.le_of_lt (small1000 (show 2 ≤ 1000 by decide)), fun t4 ht4 => ?_⟩
    have gt4 : Gr tb G3 (upd G3 t4 (.tup [.int (0 + (i : Int)), .int (-gr)])) := Gr.new ht4
    have et4 : upd G3 t4 (.tup [.int (0 + (i : Int)), .int (-gr)]) t4 = some (.tup [.int (0 + (i : Int)), .int (-gr)]) := upd_same
    generalize upd G3 t4 (.tup [.int (0 + (i : Int)), .int (-gr)]) = G4 at gt4 et4 ⊢
    have hm4 := gt4.lst hm3
    refine ⟨_, rfl, _, rfl, _, rfl, mm, _, _, _, rfl, rfl, SqL.of hm4, eat, _, rfl, _, _, rfl, rfl, Nat.le_of_lt (small1000 (show 2 ≤ 1000 by decide)), fun t5 ht5 => ?_⟩
    have gt5 : Gr tb G4 (upd G4 t5 (.tup [.int (0 + (i : Int)), .int (gi A.many (i : Int) + gr)])) := Gr.new ht5
    have et5 : upd G4 t5 (.tup [.int (0 + (i : Int)), .int (gi A.many (i : Int) + gr)]) t5 = some (.tup [.int (0 + (i : Int)), .int (gi A.many (i : Int) + gr)]) := upd_same
    generalize upd G4 t5 (.tup [.int (0 + (i : Int)), .int (gi A.many (i : Int) + gr)]) = G5 at gt5 et5 ⊢
    have hm5 := gt5.lst hm4
    refine ⟨Nat.le_of_lt (small1000 (show 5 ≤ 1000 by decide)), fun e he => ?_⟩
    have ge : Gr tb G5 (upd G5 e (.lst [.ref t1, .ref t2, .ref t3, .ref t4, .ref t5])) := Gr.new he
    have ee : upd G5 e (.lst [.ref t1, .ref t2, .ref t3, .ref t4, .ref t5]) e = some (.lst [.ref t1, .ref t2, .ref t3, .ref t4, .ref t5]) := upd_same
    generalize upd G5 e (.lst [.ref t1, .ref t2, .ref t3, .ref t4, .ref t5]) = G6 at ge ee ⊢
    have gg : Gr tb G G6 := ((((gt1.trans gt2).trans gt3).trans gt4).trans gt5).trans ge
    have hl6 := gg.lst hl'
    refine ⟨l, e, _, _, rfl, rfl, hl6, ee, Nat.le_of_lt (small1000 (by show _ + 5 ≤ 1000; omega)), ?_⟩
    have g7 : Gr tb H (upd G6 l (.lst (vs ++ [.ref t1, .ref t2, .ref t3, .ref t4, .ref t5]))) := (g.trans gg).putL l0 hl6
    have h7 : upd G6 l (.lst (vs ++ [.ref t1, .ref t2, .ref t3, .ref t4, .ref t5])) l = some (.lst (vs ++ [.ref t1, .ref t2, .ref t3, .ref t4, .ref t5])) := upd_same
    have p7 : Paired (StrAt (upd G6 l (.lst (vs ++ [.ref t1, .ref t2, .ref t3, .ref t4, .ref t5])))) (vs ++ [.ref t1, .ref t2, .ref t3, .ref t4, .ref t5]) (ps ++ [(0 + (i : Int), 0), (0 + (i : Int), -1), (0 + (i : Int), gi A.many (i : Int) + 1), (0 + (i : Int), -gr), (0 + (i : Int), gi A.many (i : Int) + gr)]) := by
      refine str_put (paired_app (Paired.mapP hp fun _ _ => StrAt.gr gg) ?_) hl6
      exact .cons ⟨t1, rfl, ge.tup (gt5.tup (gt4.tup (gt3.tup (gt2.tup et1))))⟩ (.cons ⟨t2, rfl, ge.tup (gt5.tup (gt4.tup (gt3.tup et2)))⟩ (.cons ⟨t3, rfl, ge.tup (gt5.tup (gt4.tup et3))⟩ (.cons ⟨t4, rfl, ge.tup (gt5.tup et4)⟩ (.cons ⟨t5, rfl, ge.tup et5⟩ .nil))))
    generalize upd G6 l (.lst (vs ++ [.ref t1, .ref t2, .ref t3, .ref t4, .ref t5])) = G7 at g7 h7 p7 ⊢
    have hm7 := g7.lst hmm
    refine ⟨_, rfl, .inl ⟨rfl, _, SqL.of h7⟩, _, rfl, _, rfl, _, _, rfl, rfl, _, rfl, _, rfl, mm, _, _, _, rfl, rfl, SqL.of hm7, eat, Nat.le_of_lt (small1000 (show 2 ≤ 1000 by decide)), fun t6 ht6 => ?_⟩
    have gt6 : Gr tb G7 (upd G7 t6 (.tup [.int (0 + (i : Int) - (A.many.length : Int)), .int (gi A.many (i : Int))])) := Gr.new ht6
    have et6 : upd G7 t6 (.tup [.int (0 + (i : Int) - (A.many.length : Int)), .int (gi A.many (i : Int))]) t6 = some (.tup [.int (0 + (i : Int) - (A.many.length : Int)), .int (gi A.many (i : Int))]) := upd_same
    generalize upd G7 t6 (.tup [.int (0 + (i : Int) - (A.many.length : Int)), .int (gi A.many (i : Int))]) = G8 at gt6 et6 ⊢
    have h8 := gt6.lst h7
    refine ⟨l, _, _, rfl, rfl, h8, small1000 (by rw [List.length_append]; show _ + 5 ≤ 1000; omega), ?_⟩
    refine ⟨_, _, (ps ++ [(0 + (i : Int), 0), (0 + (i : Int), -1), (0 + (i : Int), gi A.many (i : Int) + 1), (0 + (i : Int), -gr), (0 + (i : Int), gi A.many (i : Int) + gr)]) ++ [(0 + (i : Int) - (A.many.length : Int), gi A.many (i : Int))], rfl, (g7.trans gt6).putL l0 h8, upd_same, str_put (Paired.snoc (Paired.mapP p7 fun _ _ => StrAt.gr gt6) ⟨t6, rfl, et6⟩) h8, ?_, fun p hp2 hk => ?_⟩
    · rw [List.length_append, List.length_append, hlen]; show 5 + 6 * i + 5 + 1 = _; omega
    · rcases List.mem_append.mp hp2 with h | h
      · rcases List.mem_append.mp h with h | h
        · exact hno p h hk
        · obtain ⟨⟨q1, q2⟩, q3, q4⟩ := hk
          simp only [List.mem_cons, List.not_mem_nil, or_false] at h
          rcases h with rfl | rfl | rfl | rfl | rfl <;> simp only [ei] at q1 q2 q3 q4 <;> omega
      · obtain ⟨⟨q1, q2⟩, q3, q4⟩ := hk
        rw [List.mem_singleton.mp h] at q1
        simp only at q1
        omega
  · rintro σ G ⟨v7, vs, ps, rfl, g, hl', hp, hlen, hno⟩
    have lvs := hp.length
    refine ⟨_, rfl, by decide, by decide, ?_⟩
    refine for_it walk_range (fun i σ H' => ∃ v7 v8 v9, σ = [some (.ref s), some (.int k), some (.ref x), some (.ref mm), some (.int (A.many.length : Int)), some (.int gr), some (.ref l), v7, v8, v9] ∧ Gr tb G H')
      ⟨v7, none, none, rfl, GrB.refl _⟩ (fun _ _ _ _ _ => trivial) ?_ ?_
    · rintro i _ σ _ H' hi ⟨v7, v8, v9, rfl, g'⟩ ⟨rfl, rfl⟩
      have gG := g.trans g'
      have hl2 := g'.lst hl'
      refine ⟨_, rfl, _, rfl, _, rfl, _, rfl, _, _, rfl, rfl, _, rfl, l, _, rfl, .inl (SqL.of hl2), s, k, _, _, rfl, hs.gr gG, sk, ⟨by omega, by omega⟩, by omega, fun d d0 d1 => ?_⟩
      obtain ⟨y, ey, hy⟩ := at_paired (Paired.mapP hp fun _ _ => StrAt.gr g') d0 (by omega) ((0 : Int), (0 : Int))
      obtain ⟨ty, rfl, hty⟩ := hy
      have hin : ps.getD d.toNat (0, 0) ∈ ps := List.mem_of_getElem? (get_d (by omega) (0, 0))
      refine ⟨l, _, d, _, rfl, rfl, SqL.of hl2, ey, ty, _, rfl, SqT.of hty, rfl, _, _, rfl, _, _, rfl, rfl, ?_⟩
      dsimp only
      refine if0_gr (tb := tb) false (fun R r => ⟨_, rfl, _, rfl, _, rfl, S, x, m, f, t, b, h, D, B, hd, shs, A, _, _, rfl, a.gr gG, ok, hno _ hin, fun H2 g2 => ⟨_, rfl, r H2 g2⟩⟩) (fun _ _ z => nomatch z) (fun H2 g2 _ => ⟨_, _, _, rfl, g'.trans g2⟩)
    · rintro σ H' ⟨v7, v8, v9, rfl, g'⟩
      exact q H' (g.trans g')
end
end VS
set_option Elab.async false
set_option linter.all false
set_option maxRecDepth 100000
set_option maxHeartbeats 4000000
namespace VS
open PySem PySem.Spec PyProof.Rows L2
/-- a for that may break: M holds at each turn, and what M leads to is proved once -/
theorem for_itm {J : It} {n : Nat} {G : Hp → Prop} {Y : Nat → Hp → V → Hp → Prop} (w : Walk J n G Y) {g : TG} {tb : TS} {D : Ends} {σ : L2.St} {H : Hp} (M : L2.St → Hp → Prop) (h0 : M σ H) (hG : ∀ σ H, M σ H → G H) (hd : ∀ σ H, M σ H → D.nx σ H)
    (hs : (∀ σ H, M σ H → D.nx σ H) → ∀ i x σ H H', i < n → M σ H → Y i H x H' → g x σ H' fun σ2 H2 => tb { D with nx := M, ct := M, bk := D.nx } σ2 H2) :
    ∃ W : Nat → Nat → L2.St → Hp → Prop, (∃ m, W 0 m σ H) ∧ ∀ i m σ H, W i m σ H →
      (J.stop i H ∧ D.nx σ H) ∨ (J.go i H ∧ ∃ N : L2.St → Hp → Prop, (∀ σ' H', N σ' H' → ∃ m', m' < m ∧ W (i + 1) m' σ' H') ∧ ∀ x H', J.yld i H x H' → g x σ H' fun σ2 H2 => tb { D with nx := N, ct := N, bk := D.nx } σ2 H2) :=
  for_it w (fun _ => M) h0 (fun _ σ H _ p => hG σ H p) (hs hd) hd
theorem cut_nil (H : Hp) : cut [] H = H := funext fun b => by unfold cut; rw [if_neg (by simp)]
/-- a heap that grew, without what is new -/
theorem gr_from {tb : Addr} {S : List Addr} {H H' : Hp} (g : Gr tb H H') (n : ∀ s ∈ S, H s = none) (k : Kind S H') : Gr tb H (cut S H') := by
  have := gr_wide (S := []) (S' := S) g (fun s hs => .inr (n s hs)) k
  rw [cut_nil] at this
  exact this
/-- the other account stays -/
theorem AccAt.other {K : PySem.W.Frag} {tb : Addr} {S D : List Addr} {H H' : Hp} {x m f : Addr} {t b : V} {h : Addr} {T : TillD} {B : BasketD} {hd shs : List Int} {A : AccD} (a : AccAt K tb S H x m f t b h T B hd shs A) (g : GrB tb D H H') (sub : ∀ s ∈ D, s ∈ S) (nx : x ∉ D) (nm : m ∉ D) (nf : f ∉ D) (k : Kind S H') :
    AccAt K tb S H' x m f t b h T B hd shs A := by
  obtain ⟨dx, s, o, hx, hs, ho⟩ := a.obj
  have gw := gr_cut2 g sub k
  exact ⟨a.mx, a.mm, a.mf, a.ne, ⟨dx, s, o, g.ins hx nx, gw.lst hs, gw.lst ho⟩, g.lst a.hm nm, g.lst a.hf nf, a.shop.gr gw, k⟩
def spLaw (tb : Addr) (K : PySem.W.Frag) : Sp := fun vs H Q _ => ∃ s, vs = [.ref s] ∧ Scr K H s ∧ LamX.TabS H tb lamQ ∧ ∀ H', Q (.bl true) H'
section
variable {P : Program} {w : World} {K : PySem.W.Frag} {mg : Str → Option Value} {base : Heap} {tb : Addr}
theorem sc_law : FnScope ["_law_script", "_law_till_here", "_law_basket_here", "_law_hand_here", "_law_order_here", "_law_account", "_law_other", "_law_k", "_law_many", "_law_taken", "_law_line"] ["_law_script"] (defScope s_law) := ⟨rfl, rfl, rfl, by decide +kernel, rfl, by decide +kernel, by decide +kernel⟩
theorem ok_law (T : TX K mg) (W : ∀ s, Met P w K mg base 3 (sortC K s) "wanted" (spWanted tb K s)) {f : Addr} {fd : FuncData} (F : FunD K "law" "law" (defArgs s_law) (defBody s_law) (defScope s_law) [] [] f fd) : FnOk P w K mg base CX0 14 f fd ["_law_script"] (spLaw tb K) := by
  refine F.ok (k := 13) sc_law (fun vs H Q E h => ?_) fun cdv A outer s H vs Q E hr h => ?_
  · obtain ⟨s, rfl, _⟩ := h
    rfl
  have c_law_some : Cal P w K mg base 2 "_law_some" (spSome K) := ok_law_some T
  have c_law_drawn : Cal P w K mg base 8 "_law_drawn" (spDrawn tb K) := ok_law_drawn T
  have c_law_order : Cal P w K mg base 8 "_law_order" (spLOrder tb K) := ok_law_order T W
  have c_law_all_refused : Cal P w K mg base 13 "_law_all_refused" (spAll tb K) := ok_law_all_refused T W
  have c_law_take : Cal P w K mg base 3 "_law_take" (spLTake tb K) := ok_law_take T
  have c_law_told : Cal P w K mg base 1 "_law_told" (spTold tb K) := ok_law_told T
  have k_Account : Mak P w K mg base 8 "Account" (CAccount K) (spAccount tb K) [] := ok_Account T W
  have mt_take_back : MetX P w K mg base 11 (CAccount K) "take_back" (spTake tb K) := ok_Account_take_back T W
  obtain ⟨s, rfl, hs, tabs, q⟩ := h
  refine ⟨_, PSs.nox
    (pss_cons (ps_asg (pe_c c_law_drawn hr (by decide) rfl (pa_cons (pv 0) (pa_cons (pe_ix ix_list (pe_lst (pa_cons pe_str (pa_cons pe_str pa_nil))) (pe_c c_law_some hr (by decide) rfl (pa_cons (pv 0) (pa_cons pe_int (pa_cons pe_int (pa_cons pe_int pa_nil))))) (fun _ _ => rfl)) pa_nil))) (pg_tup rfl (pgs_cons (pg_name (i := 1) sc_law.nd rfl (Or.inl rfl)) (pgs_cons (pg_name (i := 2) sc_law.nd rfl (Or.inl rfl)) (pgs_cons (pg_name (i := 3) sc_law.nd rfl (Or.inl rfl)) pgs_nil)))))
    (pss_cons (ps_set (i := 4) sc_law.nd rfl (Or.inl rfl) (pe_c c_law_order hr (by decide) rfl (pa_cons (pv 0) (pa_cons pe_int (pa_cons (pv 1) (pa_cons (pv 2) (pa_cons (pv 3) pa_nil)))))))
    (pss_cons (ps_set (i := 5) sc_law.nd rfl (Or.inl rfl) (pe_mk k_Account hr (by decide) rfl (pa_cons (pv 1) (pa_cons (pv 2) (pa_cons (pv 3) (pa_cons (pv 4) pa_nil))))))
    (pss_cons (ps_set (i := 6) sc_law.nd rfl (Or.inl rfl) (pe_mk k_Account hr (by decide) rfl (pa_cons (pv 1) (pa_cons (pv 2) (pa_cons (pv 3) (pa_cons (pv 4) pa_nil))))))
    (pss_cons (ps_for PassesOwn.never rfl (pi_range2 rfl T.f_range (pa_cons pe_int (pa_cons (pe_op op_add pe_int (pe_callB (call_max2 rfl) rfl T.f_max B_max (pa_cons pe_int (pa_cons (pe_callB (call_min2 rfl) rfl T.f_min B_min (pa_cons pe_int (pa_cons (pe_op op_sub (pe_callB call_len_seq rfl T.f_len B_len (pa_cons (pv 0) pa_nil)) pe_int) pa_nil))) pa_nil)))) pa_nil))) (pg_name (i := 7) sc_law.nd rfl (Or.inl rfl))
      (pss_cons (ps_setLc (i := 8) (own := [("_law_line", 10)]) (g := (gName 10)) (tt := tYes) rfl sc_law.nd rfl rfl (sw_true rfl rfl rfl (by decide +kernel)) (pi_list (pe_fld (pv 5) rfl)) (blkOk_by (own := [("_law_line", 10)]) (N := ["_law_script", "_law_till_here", "_law_basket_here", "_law_hand_here", "_law_order_here", "_law_account", "_law_other", "_law_k", "_law_many", "_law_taken", "_law_line"]) (sc := defScope s_law) (by decide +kernel)) (fun _ _ _ _ _ => (pg_name (i := 10) sc_law.nd rfl (Or.inl rfl))) (fun _ _ _ _ _ => pts_nil) (fun _ _ _ _ _ => (pv 10)))
      (pss_cons (ps_if0 (pt_not (pt_val (pe_c c_law_all_refused hr (by decide) rfl (pa_cons (pv 0) (pa_cons (pv 7) (pa_cons (pv 5) (pa_cons (pv 8) pa_nil)))))))
        (pss_one (ps_ret pe_bl)))
      (pss_cons (ps_set (i := 9) sc_law.nd rfl (Or.inl rfl) (pe_c c_law_take hr (by decide) rfl (pa_cons (pv 0) (pa_cons (pv 7) (pa_cons (pv 8) pa_nil)))))
      (pss_cons (ps_if0 (pt_cmp (pc_isN (pv 9)))
        (pss_one ps_break))
      (pss_cons (ps_if0 (pt_cmpR op_ne (pe_mtX mt_take_back hr (by decide) (pv 5) (pa_cons (pe_ix ix_tup (pv 9) pe_int (fun _ _ => rfl)) (pa_cons (pe_ix ix_tup (pv 9) pe_int (fun _ _ => rfl)) pa_nil))) (pe_mtX mt_take_back hr (by decide) (pv 6) (pa_cons (pe_ix ix_tup (pv 9) pe_int (fun _ _ => rfl)) (pa_cons (pe_ix ix_tup (pv 9) pe_int (fun _ _ => rfl)) pa_nil))) (nomark _))
        (pss_one (ps_ret pe_bl)))
      (pss_one (ps_if0 (pt_cmpR (op_neD hr.units) (pe_c c_law_told hr (by decide) rfl (pa_cons (pv 5) pa_nil)) (pe_c c_law_told hr (by decide) rfl (pa_cons (pv 6) pa_nil)) (nomark _))
        (pss_one (ps_ret pe_bl))))))))))
    (pss_one (ps_ret (pe_c c_law_all_refused hr (by decide) rfl (pa_cons (pv 0) (pa_cons pe_int (pa_cons (pv 5) (pa_cons (pe_lc (own := [("_law_line", 10)]) (g := (gName 10)) (tt := tYes) rfl sc_law.nd (pi_list (pe_fld (pv 5) rfl)) (blkOk_by (own := [("_law_line", 10)]) (N := ["_law_script", "_law_till_here", "_law_basket_here", "_law_hand_here", "_law_order_here", "_law_account", "_law_other", "_law_k", "_law_many", "_law_taken", "_law_line"]) (sc := defScope s_law) (by decide +kernel)) (fun _ _ _ _ _ => (pg_name (i := 10) sc_law.nd rfl (Or.inl rfl))) (fun _ _ _ _ _ => pts_nil) (fun _ _ _ _ _ => (pv 10))) pa_nil)))))))))))), ?_⟩
  -- what is drawn
  refine ⟨_, rfl, Nat.le_of_lt (small1000 (show 2 ≤ 1000 by decide)), fun p hp => ⟨_, rfl, s, 0, 3, 2, rfl, hs.gr (Gr.new (tb := tb) hp), ⟨by decide, by decide⟩, ⟨by decide, by decide⟩, by decide, fun d d0 d1 => ?_⟩⟩
  obtain ⟨bk, eb⟩ : ∃ z : Str, atI [V.str "again", V.str "shares"] d = some (.str z) := by
    have h : d = 0 ∨ d = 1 := by omega
    rcases h with rfl | rfl
    · exact ⟨_, rfl⟩
    · exact ⟨_, rfl⟩
  have gp : Gr tb H (upd H p (.lst [.str "again", .str "shares"])) := Gr.new hp
  refine ⟨p, _, d, _, rfl, rfl, SqL.of upd_same, eb, s, bk, rfl, hs.gr gp, fun H1 t x b h D B hd g1 ht hT okT hv hB okB lB c0 hh hlen => ⟨t, _, rfl, SqT.of ht, rfl, _, _, rfl, _, _, rfl, _, _, rfl, rfl, ?_⟩⟩
  have k1 := gp.trans g1
  have hs1 := hs.gr k1
  have sh1 : Shop K tb H1 (.ref x) (.ref b) (.ref h) D B hd := ⟨hT, hB, hh, okT, okB, c0, hlen, k1.tab tabs⟩
  -- the order
  refine ⟨_, rfl, _, rfl, _, rfl, _, rfl, s, 8, _, _, _, D, B, hd, rfl, hs1, ⟨by decide, by decide⟩, sh1, hv.1, fun H2 l o g2 nl hl ho lo hfa => ?_⟩
  have sh2 := sh1.gr g2
  have hs2 := hs1.gr g2
  -- the account
  refine ⟨_, rfl, _, rfl, _, rfl, _, rfl, fun x1 dx1 hx1 hdx1 ne1 => ?_⟩
  have hx1' : (upd H2 dx1 (.own x1)) x1 = none := by rw [upd_ne (Ne.symm ne1)]; exact hx1
  have gm1 : Gr tb H2 (upd (upd H2 dx1 (.own x1)) x1 (.ins (CAccount K) dx1 [])) := (Gr.new hdx1).trans (Gr.new hx1')
  have kd1 : Kind [x1] (upd (upd H2 dx1 (.own x1)) x1 (.ins (CAccount K) dx1 [])) := fun s hs => by
    rw [List.mem_singleton.mp hs]
    exact ⟨_, upd_same, (fun _ z => nomatch z), (fun _ z => nomatch z)⟩
  have gf1 := gr_from gm1 (S := [x1]) (fun s hs => by rw [List.mem_singleton.mp hs]; exact hx1) kd1
  refine ⟨[x1], x1, dx1, _, _, _, l, D, B, hd, o, rfl, upd_same, by simp, kd1, sh2.gr gf1, gf1.lst hl, ho, by omega, hfa, fun H3 m1 f1 h1 g3 nm1 nf1 a1 => ⟨rfl, ?_⟩⟩
  have g23 : Gr tb H2 H3 := Gr.made hx1 hdx1 ne1 g3
  have m10 : H2 m1 = none := gm1.free _ nm1
  have f10 : H2 f1 = none := gm1.free _ nf1
  -- the other one
  refine ⟨_, rfl, _, rfl, _, rfl, _, rfl, fun x2 dx2 hx2 hdx2 ne2 => ?_⟩
  have hx2' : (upd H3 dx2 (.own x2)) x2 = none := by rw [upd_ne (Ne.symm ne2)]; exact hx2
  have gm2 : Gr tb H3 (upd (upd H3 dx2 (.own x2)) x2 (.ins (CAccount K) dx2 [])) := (Gr.new hdx2).trans (Gr.new hx2')
  have kd2 : Kind [x2, f1, m1, x1] (upd (upd H3 dx2 (.own x2)) x2 (.ins (CAccount K) dx2 [])) := fun s hs => by
    rcases List.mem_cons.mp hs with rfl | hs
    · exact ⟨_, upd_same, (fun _ z => nomatch z), (fun _ z => nomatch z)⟩
    · obtain ⟨o, ho, w1, w2⟩ := a1.kind s hs
      exact ⟨o, gm2.get ho w1, w1, w2⟩
  have new2 : ∀ s ∈ [x2, f1, m1, x1], H2 s = none := fun s hs => by
    simp only [List.mem_cons, List.not_mem_nil, or_false] at hs
    rcases hs with rfl | rfl | rfl | rfl
    · exact g23.free _ hx2
    · exact f10
    · exact m10
    · exact hx1
  have gf2 := gr_from (g23.trans gm2) new2 kd2
  refine ⟨[x2, f1, m1, x1], x2, dx2, _, _, _, l, D, B, hd, o, rfl, upd_same, by simp, kd2, sh2.gr gf2, gf2.lst hl, ho, by omega, hfa, fun H4 m2 f2 h2 g4 nm2 nf2 a2 => ⟨rfl, ?_⟩⟩
  have g34 : Gr tb H3 H4 := Gr.made hx2 hdx2 ne2 g4
  have m20 : H3 m2 = none := gm2.free _ nm2
  have f20 : H3 f2 = none := gm2.free _ nf2
  have w1 : AccAt K tb [f2, m2, x2, f1, m1, x1] H4 x1 m1 f1 (.ref x) (.ref b) h1 D B hd (shs0 D B o) (acc0 D B o) := a1.wide g34 (fun s hs => by
      simp only [List.mem_cons, List.not_mem_nil, or_false] at hs ⊢
      rcases hs with h | h | h <;> simp [h]) (fun s hs => by
      simp only [List.mem_cons, List.not_mem_nil, or_false] at hs ⊢
      rcases hs with rfl | rfl | rfl | h | h | h
      · exact .inr f20
      · exact .inr m20
      · exact .inr hx2
      · exact .inl (.inl h)
      · exact .inl (.inr (.inl h))
      · exact .inl (.inr (.inr h))) a2.kind
  -- none of the one is the other's
  obtain ⟨_, _, _, hx1a, _, _⟩ := a1.obj
  have dis : ∀ u ∈ [x1, m1, f1], ∀ v ∈ [x2, m2, f2], u ≠ v := by
    have some1 : ∀ u ∈ [x1, m1, f1], ∃ o, H3 u = some o := fun u hu => by
      simp only [List.mem_cons, List.not_mem_nil, or_false] at hu
      rcases hu with rfl | rfl | rfl
      · exact ⟨_, hx1a⟩
      · exact ⟨_, a1.hm⟩
      · exact ⟨_, a1.hf⟩
    intro u hu v hv e
    obtain ⟨o, ho⟩ := some1 u hu
    simp only [List.mem_cons, List.not_mem_nil, or_false] at hv
    rcases hv with rfl | rfl | rfl
    · rw [e, hx2] at ho; cases ho
    · rw [e, m20] at ho; cases ho
    · rw [e, f20] at ho; cases ho
  have hsc : Scr K (cut [f2, m2, x2, f1, m1, x1] H4) s := hs2.gr (gr_from (g23.trans g34) (fun s hs => by
    simp only [List.mem_cons, List.not_mem_nil, or_false] at hs
    rcases hs with rfl | rfl | rfl | rfl | rfl | rfl
    · exact g23.free _ f20
    · exact g23.free _ m20
    · exact g23.free _ hx2
    · exact f10
    · exact m10
    · exact hx1) a2.kind)
  clear hx1a gf1 gf2 kd1 kd2 gm1 gm2
  -- the turns
  obtain ⟨ns, hns, ns63⟩ := hsc
  have scr : ∀ {H' : Hp}, Gr tb (cut [f2, m2, x2, f1, m1, x1] H4) H' → Scr K H' s := fun g => Scr.gr g ⟨ns, hns, ns63⟩
  have hs4 : SqL K H4 s (ivs ns) := gr_cut.seq (tb := tb) hns
  have sub1 : ∀ u ∈ [x1, m1, f1], u ∈ [f2, m2, x2, f1, m1, x1] := fun u hu => by
    simp only [List.mem_cons, List.not_mem_nil, or_false] at hu ⊢
    rcases hu with h | h | h <;> simp [h]
  have sub2 : ∀ u ∈ [x2, m2, f2], u ∈ [f2, m2, x2, f1, m1, x1] := fun u hu => by
    simp only [List.mem_cons, List.not_mem_nil, or_false] at hu ⊢
    rcases hu with h | h | h <;> simp [h]
  refine ⟨_, rfl, s, _, rfl, .inl hs4, _, _, rfl, rfl, _, _, rfl, _, _, rfl, _, _, rfl, rfl, _, _, rfl, ?_⟩
  rw [ivs_len]
  have bd : (4 : Int) ≤ (if (if (ns.length : Int) - 16 < 12 then (ns.length : Int) - 16 else 12) > 4 then (if (ns.length : Int) - 16 < 12 then (ns.length : Int) - 16 else 12) else 4) ∧ (if (if (ns.length : Int) - 16 < 12 then (ns.length : Int) - 16 else 12) > 4 then (if (ns.length : Int) - 16 < 12 then (ns.length : Int) - 16 else 12) else 4) ≤ (12 : Int) := by
    constructor <;> (repeat' split) <;> omega
  generalize (if (if (ns.length : Int) - 16 < 12 then (ns.length : Int) - 16 else 12) > 4 then (if (ns.length : Int) - 16 < 12 then (ns.length : Int) - 16 else 12) else 4) = N at bd ⊢
  refine ⟨⟨by decide, by decide, by omega, by omega⟩, ?_⟩
  refine for_itm walk_range (fun σ H' => ∃ v7 v8 v9 A, σ = [some (.ref s), some (.ref x), some (.ref b), some (.ref h), some (.ref l), some (.ref x1), some (.ref x2), v7, v8, v9, none] ∧
      AccAt K tb [f2, m2, x2, f1, m1, x1] H' x1 m1 f1 (.ref x) (.ref b) h1 D B hd (shs0 D B o) A ∧ AccAt K tb [f2, m2, x2, f1, m1, x1] H' x2 m2 f2 (.ref x) (.ref b) h2 D B hd (shs0 D B o) A ∧ AccOk D B A ∧ Gr tb (cut [f2, m2, x2, f1, m1, x1] H4) (cut [f2, m2, x2, f1, m1, x1] H'))
    ⟨none, none, none, _, rfl, w1, a2, acc0_ok okB ho (by omega), GrB.refl _⟩ (fun _ _ _ => trivial) ?_ ?_
  · rintro σ H' ⟨v7, v8, v9, A, rfl, e1, e2, ok, gS⟩
    have m60 : A.many.length ≤ 60 := by rw [ok.mlen]; exact okB.len
    obtain ⟨dx, sl, ol, hx, _, _⟩ := e1.obj
    refine ⟨_, rfl, _, rfl, _, rfl, T.r_Account_many hx ⟨m1, rfl, ⟨_, SqL.of e1.hm⟩, fun E1 hE => ?_⟩⟩
    refine lc_gr (tb := tb) (walk_list (xs := ivs A.many)) (ivs A.many) rfl (by rw [ivs_len]; omega) hE (fun H' g => SqL.of (g.lst e1.hm)) ?_ fun H5 g5 hd5 => ?_
    · rintro i v H'' _ y N2 hi hy g ⟨rfl, hv⟩ kk
      rw [hv] at hy
      cases hy
      exact ⟨rfl, _, rfl, kk _ (GrB.refl _)⟩
    · exact ⟨_, _, _, _, _, _, _, D, B, hd, _, A, s, 15, E1, rfl, scr (gS.trans (gr_cut.trans g5)), ⟨by decide, by decide⟩, e1.gr g5, ok, hd5, m60, fun H6 _ => q H6⟩
  · rintro fin i _ σ _ H' hi ⟨v7, v8, v9, A, rfl, e1, e2, ok, gS⟩ ⟨rfl, rfl⟩
    have m60 : A.many.length ≤ 60 := by rw [ok.mlen]; exact okB.len
    obtain ⟨dx, sl, ol, hx, _, _⟩ := e1.obj
    have hiN : i < 12 := by omega
    -- many
    refine ⟨_, rfl, T.r_Account_many hx ⟨m1, rfl, ⟨_, SqL.of e1.hm⟩, fun E1 hE => ?_⟩⟩
    refine lc_gr (tb := tb) (walk_list (xs := ivs A.many)) (ivs A.many) rfl (by rw [ivs_len]; omega) hE (fun H' g => SqL.of (g.lst e1.hm)) ?_ fun H5 g5 hd5 => ?_
    · rintro j v H'' _ y N2 hj hy g ⟨rfl, hv⟩ kk
      rw [hv] at hy
      cases hy
      exact ⟨rfl, _, rfl, kk _ (GrB.refl _)⟩
    dsimp only [gName]
    have scr5 : Scr K H5 s := scr (gS.trans (gr_cut.trans g5))
    refine seq_if0g (tb := tb) false (fun R r => ?_) (fun _ _ z => nomatch z) (fun H6 g6 _ => ?_)
    · exact ⟨_, rfl, _, rfl, _, rfl, _, rfl, _, _, _, _, _, _, _, D, B, hd, _, A, s, _, E1, rfl, scr5, ⟨by omega, by omega⟩, e1.gr g5, ok, hd5, m60, fun H7 g7 => ⟨_, rfl, r H7 g7⟩⟩
    have k6 := g5.trans g6
    -- taken
    refine ⟨_, rfl, _, rfl, _, rfl, s, _, E1, A.many, rfl, scr5.gr g6, ⟨by omega, by omega⟩, g6.lst hd5, m60, fun H7 g7 => ?_, fun H7 t7 line n g7 ht7 tk => ?_⟩
    · dsimp only [gName]
      refine seq_if0 true (fun R r => ⟨_, rfl, _, rfl, r⟩) (fun _ => ?_) (fun z => nomatch z)
      have k7 := k6.trans g7
      exact fin _ _ ⟨_, _, _, A, rfl, e1.gr k7, e2.gr k7, ok, gS.trans (gr_cut2 (D := []) k7 (fun b hb => absurd hb (by simp)) (e1.gr k7).kind)⟩
    · have k7 := k6.trans g7
      have tk : takeOk A line n := tk
      have c1 := e1.gr k7
      have c2 := e2.gr k7
      have gS7 := gS.trans (gr_cut2 (D := []) k7 (fun b hb => absurd hb (by simp)) c1.kind)
      obtain ⟨dx1', s1', o1', hx1', _, _⟩ := c1.obj
      dsimp only [gName]
      refine seq_if0 false (fun R r => ⟨_, rfl, _, rfl, r⟩) (fun z => nomatch z) (fun _ => ?_)
      have at0 : atI [V.int line, V.int n] 0 = some (.int line) := atI_nat (j := 0) rfl
      have at1 : atI [V.int line, V.int n] 1 = some (.int n) := atI_nat (j := 1) rfl
      have nin1 : ∀ v ∈ [x2, m2, f2], v ∉ [x1, m1, f1] := fun v hv hu => dis v hu v hv rfl
      have nin2 : ∀ u ∈ [x1, m1, f1], u ∉ [x2, m2, f2] := fun u hu hv => dis u hu u hv rfl
      have tn : ∀ {G : Hp} {z : V} {q : List V} {y m f : Addr} {th : Addr} {AA : AccD}, G t7 = some (.tup q) → AccAt K tb [f2, m2, x2, f1, m1, x1] G y m f (.ref x) (.ref b) th D B hd (shs0 D B o) AA → t7 ∉ [y, m, f] := fun h a hm => by
        obtain ⟨_, _, _, w, _, _⟩ := a.obj
        simp only [List.mem_cons, List.not_mem_nil, or_false] at hm
        rcases hm with e | e | e
        · rw [← e, h] at w; cases w
        · have w := a.hm; rw [← e, h] at w; cases w
        · have w := a.hf; rw [← e, h] at w; cases w
      refine ⟨_, rfl, x1, dx1', _, rfl, hx1', by kernel_rfl, _, rfl, t7, _, 0, _, rfl, rfl, SqT.of ht7, at0, _, rfl, t7, _, 1, _, rfl, rfl, SqT.of ht7, at1, _, x1, m1, f1, _, _, h1, D, B, hd, _, A, line, n, rfl, c1, ok, fun _ H8 g8 d1 => ?_, fun z => absurd tk z⟩
      have d2 := c2.other g8 sub1 (nin1 _ (by simp)) (nin1 _ (by simp)) (nin1 _ (by simp)) d1.kind
      have ht8 := g8.tup ht7 (tn (z := .non) ht7 c1)
      obtain ⟨dx2', s2', o2', hx2', _, _⟩ := d2.obj
      refine ⟨_, rfl, x2, dx2', _, rfl, hx2', by kernel_rfl, _, rfl, t7, _, 0, _, rfl, rfl, SqT.of ht8, at0, _, rfl, t7, _, 1, _, rfl, rfl, SqT.of ht8, at1, _, x2, m2, f2, _, _, h2, D, B, hd, _, A, line, n, rfl, d2, ok, fun _ H9 g9 b2 => ?_, fun z => absurd tk z⟩
      have b1 := d1.other g9 sub2 (nin2 _ (by simp)) (nin2 _ (by simp)) (nin2 _ (by simp)) b2.kind
      have gS9 := (gS7.trans (gr_cut2 g8 sub1 d1.kind)).trans (gr_cut2 g9 sub2 b2.kind)
      refine ⟨rfl, _, rfl, ?_⟩
      rw [decide_eq_true rfl]
      refine iteF ?_
      dsimp only
      refine if0_gr (tb := tb) false (fun R r => ?_) (fun _ _ z => nomatch z) (fun H10 g10 _ => ?_)
      · refine ⟨_, rfl, _, x1, m1, f1, _, _, h1, D, B, hd, _, _, rfl, b1, fun Ha pa ga ha => ?_⟩
        refine ⟨_, rfl, _, x2, m2, f2, _, _, h2, D, B, hd, _, _, rfl, b2.gr ga, fun Hb pb gb hb => ?_⟩
        refine ⟨_, _, (ha.gr gb).dp, hb.dp, told_shaped _, told_shaped _, _, rfl, ?_⟩
        rw [eqv_same (told_shaped _)]
        exact r Hb (ga.trans gb)
      · exact ⟨_, _, _, _, rfl, b1.gr g10, b2.gr g10, take_ok ok tk, gS9.trans (gr_cut2 (D := []) g10 (fun b hb => absurd hb (by simp)) (b1.gr g10).kind)⟩
end
end VS
set_option Elab.async false
set_option linter.all false
set_option maxRecDepth 100000
set_option maxHeartbeats 4000000
namespace VS
open PySem PySem.Spec PySem.Calls PyProof.Rows L2
/-! ### set(xs) of a list of ints, with its members -/
abbrev set0 (w : World) : Obj := { cls := .type "set", dict := none, data := .set #[] 0 (.fresh 0 0 (!w.params.followText "set-order")) }
section
variable {P : Program} {w : World} {A : Around} {E : Value → Shared → Prop} {s : Shared}
theorem ints_at {items : Array Value} {ns : List Int} (hi : IntsAre items.toList ns) (hz : items.size = ns.length) (i : Nat) (v : Value) (hv : items[i]? = some v) : ∃ k t, ns[i]? = some k ∧ v = .int k t := by
  have hlt : i < ns.length := by rw [← hz]; exact (Array.getElem?_eq_some_iff.mp hv).1
  obtain ⟨t, e⟩ := PyProof.Rows.IntsAre.int_at hi i v (by rw [Array.getElem?_toList]; exact hv)
  refine ⟨ns[i], t, List.getElem?_eq_getElem hlt, ?_⟩
  rw [e, List.getD_eq_getElem?_getD, List.getElem?_eq_getElem hlt]
  rfl
theorem set_of_list {l : Addr} {items : Array Value} (ns : List Int) {Q : Value → Shared → Prop} (hh : A.handled = none) (hl : s.heap.IsList l items) (hi : IntsAre items.toList ns) (hb : ns.length + 1 < scanBound)
    (h : ∀ (h' : Heap) (tk c : Nat), SetR w h' s.heap.objs.size (fun j => decide (j ∈ ns)) c → c ≤ ns.length → (∀ b o, s.heap.get? b = some o → h'.get? b = some o) → Q (.ref s.heap.objs.size) { s with heap := h', toks := tk }) :
    wpAny (model P w) A (call (.type "set") [.ref l]) Q E s := by
  have hz : items.size = ns.length := (Array.length_toList ..).symm.trans (IntsAre.length hi)
  have fresh : (s.heap.push (set0 w)).get? s.heap.objs.size = some (set0 w) := Heap.get?_push_size _ rfl
  have kept : ∀ {b o}, s.heap.get? b = some o → (s.heap.push (set0 w)).get? b = some o := fun e => Heap.get?_push_of_some _ e
  obtain ⟨_, _, hmro⟩ := PySem.F.called_set.mro
  have f1 := PySem.F.called_set.made
  have f2 := PySem.F.called_set.sub
  have f3 := PySem.F.called_set.notType
  have f4 := PySem.F.called_set.canCreate
  have f5 := PySem.F.typeCall_set_1 (.ref l)
  have f6 := PySem.F.called_set.init.lookup
  have f7 := PySem.F.called_set.init.bind (.ref s.heap.objs.size)
  refine wpAny_call (codeAny_of_tree (wpAny_pure ⟨Code.quiet_builtin _ (by decide +kernel), codeAny_builtin PySem.F.entry_type_call ?_⟩))
  rw [Around.under_plain (weight_type_call_type "set" [.ref l] []) rfl]
  repeat (any_goals (first | assumption | wp_step))
  refine codeAny_mono (code_set_led1 (.ref l) (E := E) (Q₁ := fun v s1 => v = .ref s.heap.objs.size ∧ s1 = { s with heap := s.heap.push (set0 w) }) ⟨rfl, rfl⟩) fun r s1 hr => ?_
  cases r with
  | error e => exact hr
  | ok f =>
    cases f with
    | next => exact hr.elim
    | brk => exact hr.elim
    | cont => exact hr.elim
    | ret v =>
      obtain ⟨rfl, rfl⟩ := hr
      have ty : Shared.TypeIs { s with heap := s.heap.push (set0 w) } (.ref s.heap.objs.size) "set" := ⟨_, fresh, rfl⟩
      repeat (any_goals (first | assumption | wp_step))
      refine codeAny_mono (codeAny_call_builtin (R := wants (fun v s2 => v = .none ∧ ∃ h' tk c, s2 = { s with heap := h', toks := tk } ∧ SetR w h' s.heap.objs.size (fun j => decide (j ∈ ns)) c ∧ c ≤ ns.length ∧ ∀ b o, s.heap.get? b = some o → h'.get? b = some o) E)
        PySem.F.called_set.init.plain PySem.F.entry_set_init (check_set_init_1 ty ?_)) fun r2 s2 hr2 => ?_
      · obtain ⟨⟨oc, od, oda, osl⟩, ol, oc', n, od'⟩ := hl
        simp only at oc' od'
        subst oc' od'
        have lt : l < s.heap.objs.size := Heap.lt_size ol
        have sz : (s.heap.push (set0 w)).objs.size = s.heap.objs.size + 1 := Heap.size_push ..
        have il : (s.heap.push (set0 w)).IsList l items := ⟨_, kept ol, rfl, n, rfl⟩
        have ol' := kept ol
        have g1 := PySem.F.sub_list_set
        have g2 := PySem.F.sub_list_frozenset
        have g3 : (Value.type "list" == Value.type "dict") = false := by decide
        unfold Builtin.«set.__init__» noKeywords Builtin.Frozenset.updateFrom
        generalize hit : pyIter = it
        wp_walk
        subst hit
        refine wpAny_pyIter_list il (wpAny_bind (wpAny_runValue ?_))
        have ne1 : l ≠ (s.heap.push (set0 w)).objs.size := by rw [sz]; exact Nat.ne_of_lt (Nat.lt_succ_of_lt lt)
        have out : s.heap.objs.size ∉ [(s.heap.push (set0 w)).objs.size, l] := by
          simp only [List.mem_cons, List.not_mem_nil, or_false, not_or]
          exact ⟨by rw [sz]; exact Nat.ne_of_lt (Nat.lt_succ_self _), Nat.ne_of_gt lt⟩
        refine set_update_ints ((Walks.list (by simp [hh]) _ l ne1 items).toS) s.heap.objs.size out ns hz hb (ints_at hi hz) (items.size - 0) 0 _ (by omega) (Nat.zero_le _) ⟨⟨_, Heap.get?_push_size _ rfl, rfl, rfl⟩, il.push _⟩ ⟨0, Nat.le_refl 0, setR_new_at (Heap.get?_push_of_some _ fresh)⟩ ?_
        rintro ⟨h', gn, dr, tk, os⟩ c mv hc hS
        have q1 : gn = s.gens := mv.gens
        have q2 : dr = s.drawn := mv.drawn
        have q3 : os = s.os := mv.os
        subst q1 q2 q3
        show wpAny _ _ _ _ _ _
        refine wpAny_pure ?_
        show wpAny _ _ (ret Value.none) _ _ _
        refine wpAny_pure ⟨rfl, h', tk, c, rfl, hS, by omega, fun b o e => mv.heap b o ?_ (Heap.get?_push_of_some _ (kept e))⟩
        have z := Heap.lt_size e
        simp only [List.mem_cons, List.not_mem_nil, or_false, not_or]
        exact ⟨Nat.ne_of_lt z, by rw [sz]; exact Nat.ne_of_lt (Nat.lt_succ_of_lt z)⟩
      · cases r2 with
        | error e => exact hr2
        | ok f2 =>
          cases f2 with
          | next => exact hr2.elim
          | brk => exact hr2.elim
          | cont => exact hr2.elim
          | ret v =>
            obtain ⟨rfl, h', tk, c, rfl, hS, hc, hk⟩ := hr2
            repeat (any_goals (first | assumption | wp_step))
            exact h _ _ _ hS hc hk
end
/-- set(xs), xs a list of fewer than 64 ints -/
def rSetL (K : PySem.W.Frag) (w : World) : List V → Hp → VK → Prop := fun xs H Q => ∃ (l : Addr) (ns : List Int), xs = [.ref l] ∧ SqL K H l (ns.map V.int) ∧ ns.length < 64 ∧ ∀ p c, H p = none → c ≤ ns.length → Q (.ref p) (upd H p (SetO w p (fun j => decide (j ∈ ns)) c))
theorem call_setL {X : Cx} (hc : X.calm = true) : CallR X (.type "set") (rSetL X.K X.w) := by
  intro pins s σ H xs us Q I r h
  obtain ⟨l, ns, rfl, hs, h64, q⟩ := h
  obtain ⟨u, rfl, rx⟩ := vals1 r
  cases rx
  obtain ⟨its, rv, pl, _⟩ := I.list hs
  refine set_of_list ns (I.ok.hd hc) pl.isList (by simpa using ints_of_vals rv) (by unfold scanBound; omega) fun h' tk c R hcn k => ?_
  have hn : H s.heap.objs.size = none := I.hok.fresh (Nat.le_refl _)
  exact ⟨.ref _, upd H s.heap.objs.size (SetO X.w s.heap.objs.size (fun j => decide (j ∈ ns)) c), I.laid (t' := tk) k (Nat.le_refl _) (setO_new R), rfl, q _ c hn hcn⟩
end VS
set_option Elab.async false
set_option linter.all false
set_option maxRecDepth 100000
set_option maxHeartbeats 4000000
namespace VS
open PySem PySem.Spec PyProof.Rows L2
theorem sorted_uniq : ∀ {a b : List Int}, a.Pairwise (· < ·) → b.Pairwise (· < ·) → (∀ k, k ∈ a ↔ k ∈ b) → a = b
  | [], [], _, _, _ => rfl
  | [], y :: b, _, _, h => absurd ((h y).mpr (List.mem_cons_self ..)) (by simp)
  | x :: a, [], _, _, h => absurd ((h x).mp (List.mem_cons_self ..)) (by simp)
  | x :: a, y :: b, ha, hb, h => by
    obtain ⟨ha1, ha2⟩ := List.pairwise_cons.mp ha
    obtain ⟨hb1, hb2⟩ := List.pairwise_cons.mp hb
    have e : x = y := by
      rcases List.mem_cons.mp ((h x).mp (List.mem_cons_self ..)) with e | e
      · exact e
      · rcases List.mem_cons.mp ((h y).mpr (List.mem_cons_self ..)) with e2 | e2
        · exact e2.symm
        · have := hb1 x e; have := ha1 y e2; omega
    subst e
    refine congrArg (x :: ·) (sorted_uniq ha2 hb2 fun k => ⟨fun hk => ?_, fun hk => ?_⟩)
    · rcases List.mem_cons.mp ((h k).mp (List.mem_cons_of_mem _ hk)) with e | e
      · have := ha1 k hk; omega
      · exact e
    · rcases List.mem_cons.mp ((h k).mpr (List.mem_cons_of_mem _ hk)) with e | e
      · have := hb1 k hk; omega
      · exact e
theorem rngI_succ (n : Nat) : rngI (n + 1) = rngI n ++ [natI n] := by unfold rngI; rw [List.range_succ, List.map_append]; rfl
theorem rngI_lt : ∀ n, (rngI n).Pairwise (· < ·)
  | 0 => .nil
  | n + 1 => by
    rw [rngI_succ, List.pairwise_append]
    refine ⟨rngI_lt n, List.pairwise_singleton .., fun x hx y hy => ?_⟩
    rw [List.mem_singleton.mp hy]
    exact (rngI_mem.mp hx).2
theorem lines_of {os ns : List Int} (ho : ∀ x ∈ os, 0 ≤ x ∧ x < 60) (h1 : ns.Pairwise (· < ·)) (h2 : ∀ k : Int, k ∈ ns ↔ decide (k ∈ os) = true) : ns = linesF os := by
  refine sorted_uniq h1 ((rngI_lt 60).sublist (List.filter_sublist ..)) fun k => ?_
  rw [h2 k, decide_eq_true_iff]
  unfold linesF
  rw [List.mem_filter, rngI_mem, List.contains_iff_mem]
  exact ⟨fun h => ⟨ho k h, h⟩, fun h => h.2⟩
theorem plc_mem {os : List Int} {n : Nat} {l z : Int} (h : z ∈ plcF os n l) : 0 ≤ z ∧ z < n := rngI_mem.mp (List.mem_filter.mp h).1
theorem plc_len (os : List Int) (n : Nat) (l : Int) : (plcF os n l).length ≤ n := by
  have := List.length_filter_le (fun a => gi os a == l) (rngI n)
  rw [rngI_len] at this
  exact this
section
variable {P : Program} {w : World} {K : PySem.W.Frag} {mg : Str → Option Value} {base : Heap} {tb : Addr}
theorem sc_Share_wanted : FnScope ["self", "prices", "owners", "told", "line", "places", "own", "at", "part"] ["self", "prices", "owners"] (defScope s_Share_wanted) := ⟨rfl, rfl, rfl, by decide +kernel, rfl, by decide +kernel, by decide +kernel⟩
theorem ok_Share_wanted (T : TX K mg) (n : Int) (bb : Bool) : Met P w K mg base 3 (CShare K) "wanted" (spWanted tb K (.share n bb)) := by
  obtain ⟨fd, F⟩ := T.df_Share_wanted
  refine met_of T.c_Share T.m_Share_wanted (F.ok (k := 2) sc_Share_wanted (fun vs H Q E h => ?_) fun cdv A outer s H vs Q E hr h => ?_) (F.bindsN (ps := ["self", "prices", "owners"]) fun _ _ _ _ _ _ us hl => match us, hl with | [_, _, _], _ => rfl)
  · obtain ⟨a, dx, m, p, o, ps, os, rfl, _⟩ := h
    rfl
  have c_dealt : Cal P w K mg base 1 "dealt" (spDealt tb) := ok_dealt T
  obtain ⟨a, dx, m, p, o, ps, os, rfl, ha, hp, ho, hl, h60, ⟨hn, hs⟩, hx, hk, ht, q⟩ := h
  refine ⟨_, PSs.nox
    (pss_cons (ps_if0 (pt_not (pt_val (pe_fld (pv 0) rfl)))
      (pss_one (ps_ret (pe_c c_dealt hr (by decide) rfl (pa_cons (pe_op op_fdiv (pe_op op_mul (pe_callB (cr_sum rfl) rfl T.f_sum B_sum (pa_cons (pv 1) pa_nil)) (pe_fld (pv 0) rfl)) pe_int) (pa_cons (pv 1) pa_nil))))))
    (pss_cons (ps_set (i := 3) sc_Share_wanted.nd rfl (Or.inl rfl) (pe_op op_rep (pe_lst (pa_cons pe_int pa_nil)) (pe_callB call_len_seq rfl T.f_len B_len (pa_cons (pv 1) pa_nil))))
    (pss_cons (ps_for PassesOwn.never rfl (pi_list (pe_callB (cr_sortedSet rfl) rfl T.f_sorted B_sorted (pa_cons (pe_callTy (call_setL rfl) rfl T.f_set B_set (pa_cons (pv 2) pa_nil)) pa_nil))) (pg_name (i := 4) sc_Share_wanted.nd rfl (Or.inr rfl))
      (pss_cons (ps_setLc (i := 5) (own := [("at", 7)]) (g := (gName 7)) (tt := _) rfl sc_Share_wanted.nd rfl rfl (sw_true rfl rfl rfl (by decide +kernel)) (pi_range1 rfl T.f_range (pa_cons (pe_callB call_len_seq rfl T.f_len B_len (pa_cons (pv 1) pa_nil)) pa_nil)) (blkOk_by (own := [("at", 7)]) (N := ["self", "prices", "owners", "told", "line", "places", "own", "at", "part"]) (sc := defScope s_Share_wanted) (by decide +kernel)) (fun _ _ _ _ _ => (pg_name (i := 7) sc_Share_wanted.nd rfl (Or.inl rfl))) (fun _ _ _ _ _ => pts_one (pt_cmpR op_eq (pe_ix (ix_l T) (pv 2) (pv 7) (fun _ _ => rfl)) (pv 4) (nomark _))) (fun _ _ _ _ _ => (pv 7)))
      (pss_cons (ps_setLc (i := 6) (own := [("at", 7)]) (g := (gName 7)) (tt := tYes) rfl sc_Share_wanted.nd rfl rfl (sw_true rfl rfl rfl (by decide +kernel)) (pi_list (pv 5)) (blkOk_by (own := [("at", 7)]) (N := ["self", "prices", "owners", "told", "line", "places", "own", "at", "part"]) (sc := defScope s_Share_wanted) (by decide +kernel)) (fun _ _ _ _ _ => (pg_name (i := 7) sc_Share_wanted.nd rfl (Or.inl rfl))) (fun _ _ _ _ _ => pts_nil) (fun _ _ _ _ _ => (pe_ix (ix_l T) (pv 1) (pv 7) (fun _ _ => rfl))))
      (pss_one (ps_for PassesOwn.never rfl (pi_zip rfl T.f_zip (pa_cons (pv 5) (pa_cons (pe_c c_dealt hr (by decide) rfl (pa_cons (pe_op op_fdiv (pe_op op_mul (pe_callB (cr_sum rfl) rfl T.f_sum B_sum (pa_cons (pv 6) pa_nil)) (pe_fld (pv 0) rfl)) pe_int) (pa_cons (pv 6) pa_nil))) pa_nil))) (pg_tup rfl (pgs_cons (pg_name (i := 7) sc_Share_wanted.nd rfl (Or.inl rfl)) (pgs_cons (pg_name (i := 8) sc_Share_wanted.nd rfl (Or.inl rfl)) pgs_nil)))
        (pss_one (ps_asg (pv 8) (pg_sub (pv 3) (pv 7) set_list))))))))
    (pss_one (ps_ret (pv 3)))))), ?_⟩
  have s0 := nn_sum hn
  have hk : 0 ≤ n ∧ n ≤ 1000 := hk
  refine seq_if0 (!bb) (fun R r => ⟨_, rfl, T.r_Share_by_line ha ⟨_, rfl, r⟩⟩) (fun hb => ?_) (fun hb => ?_)
  · cases bb with
    | true => cases hb
    | false =>
      have sl := share_le s0 hk.1 hk.2
      exact ⟨_, rfl, p, ps, rfl, SqL.of hp, _, rfl, T.r_Share_share ha ⟨_, _, rfl, rfl, .inr ⟨by omega, by omega⟩, _, _, rfl, rfl, ⟨by decide, by decide⟩, _, rfl, _, p, ps, rfl, hp, by omega, ⟨sl.1, by omega⟩, by omega, q⟩⟩
  cases bb with
  | false => cases hb
  | true =>
  -- told
  refine seq_set ⟨Nat.le_of_lt (small1000 (by decide)), fun z hz => ?_⟩
  have nz := ne_of_none hp hz
  refine ⟨_, rfl, p, _, rfl, .inl (SqL.of (by rw [upd_ne nz]; exact hp)), z, _, _, rfl, rfl, upd_same, by omega, by rw [ivs_len]; omega, ?_, fun f hf => ?_⟩
  · rw [ivs_len]
    exact Nat.le_of_lt (small1000 (by simp; omega))
  have g0 : Gr tb H (upd (upd H z (.lst [.int 0])) f (.lst (List.replicate ((ivs ps).length : Int).toNat [V.int 0]).flatten)) := (Gr.new hz).add hf
  have f0 : H f = none := GrB.free (S := []) (tb := tb) (Gr.new hz) f hf
  have hf0 : upd (upd H z (.lst [.int 0])) f (.lst (List.replicate ((ivs ps).length : Int).toNat [V.int 0]).flatten) f = some (.lst (ivs (zerosI ps.length))) := by
    rw [upd_same, ivs_len, Int.toNat_natCast, zeros_ivs]
  generalize upd (upd H z (.lst [.int 0])) f (.lst (List.replicate ((ivs ps).length : Int).toNat [V.int 0]).flatten) = H1 at g0 hf0 ⊢
  -- the lines
  refine ⟨_, rfl, o, os, rfl, SqL.of (g0.lst ho), by omega, fun sp c hsp hc => ?_⟩
  have gs : Gr tb H1 (upd H1 sp (SetO w sp (fun j => decide (j ∈ os)) c)) := Gr.new hsp
  refine ⟨sp, _, c, rfl, upd_same, by omega, fun ns lp hns hmem hlen hlp => ?_⟩
  obtain rfl := lines_of hx hns hmem
  have g1 := gs.trans (Gr.new (tb := tb) hlp (o := .lst ((linesF os).map V.int)))
  have hlp1 : upd (upd H1 sp (SetO w sp (fun j => decide (j ∈ os)) c)) lp (.lst ((linesF os).map V.int)) lp = some (.lst (ivs (linesF os))) := upd_same
  have nlf : lp ≠ f := Ne.symm (ne_of_none (gs.lst hf0) hlp)
  obtain ⟨H2, hH2⟩ : ∃ H2, H2 = upd (upd H1 sp (SetO w sp (fun j => decide (j ∈ os)) c)) lp (.lst ((linesF os).map V.int)) := ⟨_, rfl⟩
  rw [← hH2] at g1 hlp1
  refine ⟨lp, rfl, ?_⟩
  erw [← hH2]
  clear hH2
  have g2 := g0.trans g1
  have hf2 := g1.lst hf0
  have back : ∀ {H'}, GrB tb [f] H2 H' → Gr tb H H' := fun g => g.back g2 fun s hs => by rw [List.mem_singleton.mp hs]; exact f0
  have lent : ∀ {t} {l : List Int}, t.length = ps.length → (l.foldl (shStep n ps os) t).length = ps.length := fun {t} {l} ht => by
    induction l generalizing t with
    | nil => exact ht
    | cons g r ih => rw [List.foldl_cons]; exact ih (by unfold shStep; rw [scat_len]; exact ht)
  refine ⟨⟨_, SqL.of hlp1⟩, ?_⟩
  refine for_it (walk_list (xs := ivs (linesF os))) (fun i σ H' => ∃ v4 v5 v6 v7 v8, σ = [some (.ref a), some (.ref p), some (.ref o), some (.ref f), v4, v5, v6, v7, v8] ∧ GrB tb [f] H2 H' ∧ H' f = some (.lst (ivs (((linesF os).take i).foldl (shStep n ps os) (zerosI ps.length)))))
    ⟨none, none, none, none, none, rfl, GrB.refl _, hf2⟩ (fun i σ H' _ ⟨_, _, _, _, _, _, g, _⟩ => SqL.of (g.lst hlp1 (by simpa using nlf))) ?_ ?_
  · rintro i y σ _ H' hi ⟨v4, v5, v6, v7, v8, rfl, g, hf'⟩ ⟨rfl, hy⟩
    obtain ⟨l, hl2, rfl⟩ := ivs_of hy
    have hp' : H' p = some (.lst (ivs ps)) := (back g).lst hp
    have ho' : H' o = some (.lst (ivs os)) := (back g).lst ho
    have lt0 := lent (t := zerosI ps.length) (l := (linesF os).take i) List.length_replicate
    rw [foldl_snoc hl2]
    generalize ((linesF os).take i).foldl (shStep n ps os) (zerosI ps.length) = t0 at hf' lt0 ⊢
    have pln := plc_len os ps.length l
    have on := own_nn (pl := plcF os ps.length l) hn
    have os0 := nn_sum on
    have ole := own_le (pl := plcF os ps.length l) hn
    have sl := share_le os0 hk.1 hk.2
    have big : (ownP ps (plcF os ps.length l)).sum < 2 ^ 63 := by
      have : ps.sum * ((plcF os ps.length l).length : Int) ≤ 1125899906842624 * ((plcF os ps.length l).length : Int) := Int.mul_le_mul_of_nonneg_right (by omega) (by omega)
      omega
    -- places
    refine ⟨_, rfl, p, _, rfl, .inl (SqL.of hp'), _, rfl, by rw [ivs_len]; omega, by rw [ivs_len]; omega, fun D hD => ?_⟩
    rw [ivs_len, Int.toNat_natCast]
    refine lc_if (tb := tb) walk_range (fun j => ivs (plcF os (min j ps.length) l)) (by rw [Nat.zero_min]; rfl) (fun j => by rw [ivs_len]; have := plc_len os (min j ps.length) l; omega) hD (fun _ _ => trivial) ?_ fun H3 g3 hd => ?_
    · rintro j x H'' _ N N' hj g' ⟨rfl, rfl⟩ ky kn
      have e1 : min (j + 1) ps.length = j + 1 := by omega
      have e2 : min j ps.length = j := by omega
      have ej : (0 : Int) + (j : Int) = natI j := Int.zero_add _
      have es : plcF os (j + 1) l = if (gi os (natI j) == l) = true then plcF os j l ++ [natI j] else plcF os j l := by
        unfold plcF
        rw [rngI_succ, List.filter_append]
        cases h : (gi os (natI j) == l) with
        | true => simp [h]
        | false => simp [h]
      refine ⟨rfl, _, rfl, _, rfl, o, _, _, _, rfl, rfl, SqL.of (g'.lst ho'), at_ivs (by omega) (by omega), _, rfl, rfl, _, rfl, ?_⟩
      rw [dec_int, ej]
      refine if_b (fun hb => ⟨_, rfl, ky _ _ (GrB.refl _) ?_⟩) fun hb => kn _ (GrB.refl _) ?_
      · try dsimp only
        rw [e1, e2, es, if_pos hb, ivs_app]
        show _ ++ [V.int (natI j)] = _ ++ [V.int (0 + (j : Int))]
        rw [ej]
      · try dsimp only
        rw [e1, e2, es, if_neg (by rw [hb]; exact Bool.false_ne_true)]
    rw [Nat.min_self] at hd
    have hf3 := g3.lst hf'
    have hp3 := g3.lst hp'
    -- own
    refine ⟨_, rfl, D, rfl, ⟨_, SqL.of hd⟩, fun D2 hD2 => ?_⟩
    refine lc_gr (tb := tb) (walk_list (xs := ivs (plcF os ps.length l))) (ivs (ownP ps (plcF os ps.length l))) (by rw [ivs_len, ivs_len, own_len]) (by rw [ivs_len]; omega) hD2 (fun H'' g => SqL.of (g.lst hd)) ?_ fun H4 g4 hd2 => ?_
    · rintro j x H'' _ y N hj hy g' ⟨rfl, hx⟩ k
      obtain ⟨z, hz, rfl⟩ := ivs_of hx
      obtain ⟨z0, z1⟩ := plc_mem (List.mem_of_getElem? hz)
      rw [own_get hz hy] at k
      exact ⟨rfl, _, rfl, _, rfl, p, _, z, _, rfl, rfl, SqL.of (g'.lst hp3), at_ivs z0 z1, k _ (GrB.refl _)⟩
    have hf4 := g4.lst hf3
    have hd4 := g4.lst hd
    -- the parts
    refine ⟨_, rfl, _, rfl, D2, _, rfl, SqL.of hd2, _, rfl, T.r_Share_share ((back (g.trans (Gr.of (g3.trans g4)))).ins ha) ⟨_, _, rfl, rfl, .inr ⟨by omega, by omega⟩, _, _, rfl, rfl, ⟨by decide, by decide⟩, _, rfl, _, D2, _, rfl, hd2, by rw [own_len]; omega, ⟨sl.1, by omega⟩, big, fun d H5 g5 nd hd5 => ?_⟩⟩
    have hf5 := g5.lst hf4
    have hdp := g5.lst hd4
    have nfd : d ≠ f := Ne.symm (ne_of_none hf4 nd)
    have nfD : D ≠ f := Ne.symm (ne_of_none hf' hD)
    have gg : GrB tb [f] H2 H5 := g.trans (Gr.of ((g3.trans g4).trans g5))
    refine ⟨D, d, _, _, rfl, SqL.of hdp, SqL.of hd5, ?_⟩
    refine for_it (walk_zip (xs := ivs (plcF os ps.length l)) (ys := ivs (dealtF ((ownP ps (plcF os ps.length l)).sum * n / 1000) (ownP ps (plcF os ps.length l)))) rfl) (fun j σ H' => ∃ v7 v8, σ = [some (.ref a), some (.ref p), some (.ref o), some (.ref f), some (.int l), some (.ref D), some (.ref D2), v7, v8] ∧ GrB tb [f] H5 H' ∧ H' f = some (.lst (ivs (scatF t0 (((plcF os ps.length l).zip (dealtF ((ownP ps (plcF os ps.length l)).sum * n / 1000) (ownP ps (plcF os ps.length l)))).take j)))))
      ⟨v7, v8, rfl, GrB.refl _, hf5⟩ (fun i σ H' _ ⟨_, _, _, g, _⟩ => ⟨SqL.of (g.lst hdp (by simpa using nfD)), SqL.of (g.lst hd5 (by simpa using nfd))⟩) ?_ ?_
    · rintro j y σ H' _ hj ⟨v7, v8, rfl, g', hf'⟩ ⟨t, x1, x2, rfl, ht', rfl, e1, e2⟩
      obtain ⟨z1, hz1, rfl⟩ := ivs_of e1
      obtain ⟨z2, hz2, rfl⟩ := ivs_of e2
      obtain ⟨m0, m1⟩ := plc_mem (List.mem_of_getElem? hz1)
      refine ⟨t, _, rfl, .inl (.inl upd_same), rfl, _, _, rfl, _, _, rfl, rfl, ?_⟩
      refine ⟨_, rfl, _, rfl, _, rfl, set_in (g'.add ht') (by rw [upd_ne (ne_of_none hf' ht')]; exact hf') m0 (by rw [scat_len, lt0]; exact m1) fun H6 g6 h6 => ⟨_, _, rfl, g6, ?_⟩⟩
      rw [scat_snoc (zip_get hz1 hz2)]
      exact h6
    · rintro σ H' ⟨v7, v8, rfl, g', hf'⟩
      refine ⟨_, _, _, _, _, rfl, gg.trans g', ?_⟩
      rw [ivs_len, ivs_len, List.take_of_length_le (by rw [List.length_zip]; exact Nat.le_refl _)] at hf'
      exact hf'
  · rintro σ H' ⟨v4, v5, v6, v7, v8, rfl, g, hf'⟩
    rw [ivs_len, List.take_length] at hf'
    exact ⟨_, rfl, q f H' (back g) f0 hf'⟩
end
end VS
set_option Elab.async false
set_option linter.all false
set_option maxRecDepth 100000
set_option maxHeartbeats 4000000
namespace VS
open PySem PySem.Spec PySem.Calls PyProof.Rows L2
section
variable {X : Cx} {pins : List (Addr × Obj)} {σ : L2.St} {H : Hp} {s : Shared}
abbrev lamOb (X : Cx) (params : Arguments) (body : Expr) (scope : Scope) (pm : Value) (c' : Addr) (ctv : Value) : Obj :=
  PySem.W.kla_obj "<lambda>" (X.env.qual ++ "<lambda>") params body scope (cloFrom X.env.cells scope.names []) pm c' ctv
/-- the lambda is made; the heap grows by its code object at most -/
theorem lam_made {tb c : Addr} {params : Arguments} {body : Expr} {scope : Scope} {pos : Pos} {E : Value → Shared → Prop} {Q : Value → Shared → Prop} (I : Inv X pins σ H s) (TB : LamX.TabB X.base X.mg c tb) (hcode : X.env.code = .ref c) (hq : X.env.qual ++ "<lambda>" = lamQ) (hT : LamX.TabS H tb lamQ)
    (hdef : defaultsOf params X.env = ([], [])) (hfree : ∀ y ∈ scope.names, y.2 = .free → ∃ c, X.env.cells.lookup y.1 = some c)
    (h : ∀ (f c' : Addr) (pm ctv : Value) (H1 : Hp) (s' : Shared), Inv X pins σ H1 s' → Gr tb H H1 → s'.heap.get? f = some (lamOb X params body scope pm c' ctv) → H1 c' = some (LamX.CodeO c' (X.env.qual ++ "<lambda>")) → Q (.ref f) s') :
    wpAny (model X.prog X.w) X.A (eval (.Lambda params body scope pos) X.env) Q E s := by
  obtain ⟨ps, hP, ht, ha⟩ := id hT
  have oP : s.heap.get? tb = some { cls := .none, data := .fields ps } := I.hok tb _ hP
  have bP := TB.bm.keeps I.bk
  refine PySem.W.kla_eval hdef ?_
  cases hc : codeAmong pos ps.toList with
  | some cv =>
    obtain ⟨c', rfl, hco⟩ := ha pos cv hc
    refine PySem.W.kla_makeFunctionHit (mg := X.mg) (c := c) (P := tb) (ps := ps) (closure_ok hfree) I.ok.glob (I.mod.glob.keeps I.bk) hcode (TB.code.keeps I.bk) oP ht hc bP fun ctv h' tk hx hsz => ?_
    exact h h'.objs.size c' _ ctv H _ (I.kept fun b o e => Heap.get?_push_of_some _ (hx b o e)) (GrB.refl _) (Heap.get?_push_size _ rfl) (by rw [hq]; exact hco)
  | none =>
    refine PySem.W.kla_makeFunction (mg := X.mg) (c := c) (P := tb) (ps := ps) (closure_ok hfree) I.ok.glob (I.mod.glob.keeps I.bk) hcode (TB.code.keeps I.bk) oP ht hc TB.gP bP fun c' ctv h' tk hx hge hlt hrec htb => ?_
    obtain ⟨_, oc, vs, t, e2, hoc, hd, hv⟩ := hrec
    cases e2
    have nC : H c' = none := I.hok.fresh hge
    have I1 := LamX.inv_table (t' := tk) (more := #[rawInt pos.line, rawInt pos.col, .ref c']) (h' := h'.push (lamOb X params body scope ((X.mg "__name__").getD .none) c' ctv)) I hP
      (fun b o hb e => Heap.get?_push_of_some _ (hx b o hb e)) (Heap.get?_push_of_some _ htb) hge ⟨oc, vs, t, Heap.get?_push_of_some _ hoc, hd, hv⟩
    have old : ∀ {b o}, H b = some o → (∀ q, o ≠ .tbl q) → upd (upd H tb (.tbl (ps ++ #[rawInt pos.line, rawInt pos.col, .ref c']))) c' (LamX.CodeO c' (X.env.qual ++ "<lambda>")) b = some o := fun {b o} e n => by
      rw [upd_ne (ne_of_none e nC), upd_ne (fun z => by rw [z, hP] at e; exact n ps (Option.some.inj e).symm)]
      exact e
    refine h h'.objs.size c' _ ctv _ _ I1 ⟨fun b o e _ n => old e n, fun b e => ?_, fun _ => ?_⟩ (Heap.get?_push_size _ rfl) upd_same
    · by_cases e1 : b = c'
      · rw [e1]; exact nC
      · rw [upd_ne e1] at e
        by_cases e2 : b = tb
        · rw [e2, upd_same] at e; cases e
        · rw [upd_ne e2] at e; exact e
    · have eL : (ps ++ #[rawInt pos.line, rawInt pos.col, .ref c']).toList = ps.toList ++ [rawInt pos.line, rawInt pos.col, .ref c'] := by simp
      refine ⟨_, by rw [upd_ne (ne_of_none hP nC), upd_same], by rw [eL]; exact PySem.TriplesOk_snoc _ _ _ _ ht, fun p' cv hcv => ?_⟩
      rw [eL] at hcv
      rcases LamX.among_app _ ht hcv with z | z
      · obtain ⟨c0, q1, q2⟩ := ha p' cv z
        exact ⟨c0, q1, old q2 LamX.codeO_ne⟩
      · exact ⟨c', z, by rw [upd_same, hq]⟩
/-- what the key's function is: x and at by names, one parameter -/
structure KeyS (scope : Scope) (x a : Str) : Prop where
  kind : scope.kind = .function
  co : scope.isCoroutine = false
  gen : scope.isGenerator = false
  nocell : ∀ y ∈ scope.names, y.2 ≠ .cell
  fr : scope.names.lookup x = some .free
  loc : scope.names.lookup a = some .local
theorem key_turn {f c' p cl : Addr} {params : Arguments} {scope : Scope} {pm ctv : Value} {x a : Str} {p1 p2 p3 p4 p5 p6 : Pos} {x1 : Nat} {k : Nat} {items : Array Value} {ps : List Int} {qual : Str} {clo : List (Str × Addr)} {i : Int} {t : Tok} {A : Around} {P : Program} {w : World} {h : Heap} {tk : Nat}
    (L : KeyS scope x a) (hf : h.get? f = some (PySem.W.kla_obj "<lambda>" qual params (.Tuple [.UnaryOp .USub (.Subscript (.Name x p1) (.Name a p2) p3) p4, .Name a p5] x1 p6) scope clo pm c' ctv))
    (hco : ∃ (oc : Obj) (vs : Array Value) (t : Tok), h.get? c' = some oc ∧ oc.data = .fields vs ∧ vs[1]? = some (.str qual t)) (nl : h.NoLimit) (hr : A.depth < recursionLimit)
    (hbind : bindArgs (PySem.W.kla_fn "<lambda>" qual params (.Tuple [.UnaryOp .USub (.Subscript (.Name x p1) (.Name a p2) p3) p4, .Name a p5] x1 p6) scope clo pm (.ref c') ctv) ⟨[.int i t], []⟩ = pure [(a, .int i t)])
    (hc : clo.lookup x = some cl) (hcell : h.IsCell cl (some (.ref p))) (hl : h.IsList p items) (hi : IntsAre items.toList ps) (i0 : 0 ≤ i) (i1 : i < ps.length) (h60 : ps.length ≤ 60)
    (dx : (x == ("__debug__" : Str)) = false) (cx : (x == ("__classdict__" : Str)) = false) (da : (a == ("__debug__" : Str)) = false) :
    wpAny (model P w) A (call (.ref f) [.int i t]) (PySem.W.KeyPure (keyD ps i) { s with heap := h, toks := tk }) (fun _ _ => False) { s with heap := h, toks := tk } := by
  obtain ⟨oc, vs, tq, o1, o2, o3⟩ := hco
  refine wpAny_call (PySem.W.kla_callFunE hr hf rfl L.co L.gen rfl ⟨c', oc, vs, tq, rfl, o1, o2, o3⟩ ?_)
  rw [hbind]
  refine wpAny_pure (wpAny_newFunctionEnv L.nocell (fun y hy => by rw [List.mem_singleton.mp hy]; exact L.loc) (fun h₁ hns hsb => ⟨nl.fresh _ hsb, ?_⟩) L.kind)
  have kp : ∀ b o, h.get? b = some o → h₁.get? b = some o := fun b o e => hsb.extBut b o (Nat.ne_of_lt (Heap.lt_size e)) (Heap.get?_push_of_some _ e)
  obtain ⟨oL, hoL, hcL, nL, hdL⟩ := hl
  have hl1 : h₁.IsList p items := ⟨oL, kp _ _ hoL, hcL, nL, hdL⟩
  have hcell1 : h₁.IsCell cl (some (.ref p)) := by
    obtain ⟨o, q1, q2⟩ := hcell
    exact ⟨o, kp _ _ q1, q2⟩
  have hz : items.size = ps.length := (Array.length_toList ..).symm.trans (IntsAre.length hi)
  obtain ⟨v, hv⟩ : ∃ v, items[i.toNat]? = some v := ⟨_, Array.getElem?_eq_getElem (by omega)⟩
  obtain ⟨t2, ev⟩ := PyProof.Rows.IntsAre.int_at hi i.toNat v (by rw [Array.getElem?_toList]; exact hv)
  subst ev
  refine PySem.W.kla_codeExpr ?_
  have hlk : (([(a, Value.int i t)] : List (Str × Value)).reverse.lookup a) = some (.int i t) := by simp
  have gd : ps.getD i.toNat 0 = gi ps i := rfl
  refine wpAny_Tuple_spliced ?_
  show wpAny _ _ (spliced ((false, _) :: (false, _) :: [])) _ _ _
  refine Calls.spliced_cons (UnaryOp_ (Subscript_ (wpAny_Name (wpAny_loadName_free L.kind L.fr hc hcell1 ?_ cx) dx)))
  refine wpAny_Name (wpAny_loadName_local L.kind L.loc hns hlk ?_) da
  refine item_listR hl1 i0 (by omega) hv (neg_int ?_) rfl
  refine Calls.spliced_cons (wpAny_Name (wpAny_loadName_local L.kind L.loc hns hlk ?_) da)
  refine Calls.spliced_nil ⟨Nat.le_of_lt (small1000 (show 2 ≤ 1000 by decide)), ?_⟩
  refine ⟨_, _, rfl, fun b o e => Heap.get?_push_of_some _ (kp b o e), ?_⟩
  rw [gd]
  exact Reads.tuple (as := [] ++ ([] ++ [])) (Heap.get?_push_size _ rfl) rfl rfl (ReadsAll.cons (Reads.int _ _) (ReadsAll.cons (Reads.int _ _) ReadsAll.nil))
end
end VS
set_option Elab.async false
set_option linter.all false
set_option maxRecDepth 100000
set_option maxHeartbeats 4000000
namespace VS
open PySem PySem.Spec PySem.Calls PyProof.Rows L2
/-! ### sorted(range(n), key=lambda at: (-prices[at], at)) -/
def tSortLam (tb : Addr) (ta : TE) : TE := fun σ H Q => ta σ H fun x H1 => ∃ ps pl, x = .int (ps.length : Nat) ∧ σ[0]? = some (some (.ref pl)) ∧ H1 pl = some (.lst (ivs ps)) ∧ ps.length ≤ 60 ∧ LamX.TabS H1 tb lamQ ∧
  ∀ H2 l, Gr tb H1 H2 → H2 l = none → Q (.ref l) (upd H2 l (.lst (ivs (placesF ps))))
theorem keys_alike (ps : List Int) (bs : List Int) : PySem.W.AllAlike (bs.map (keyD ps)) := by
  intro d hd e he
  obtain ⟨a, _, rfl⟩ := List.mem_map.mp hd
  obtain ⟨b, _, rfl⟩ := List.mem_map.mp he
  simp [keyD, PySem.W.alike, PySem.W.alikeAll]
theorem keys_sortable (ps : List Int) (bs : List Int) : PySem.W.Sortable (bs.map (keyD ps)) := .inl fun d hd => by
  obtain ⟨a, _, rfl⟩ := List.mem_map.mp hd
  exact ⟨_, _, rfl⟩
theorem key_depth (ps : List Int) (b : Int) : (keyD ps b).depth ≤ 3 := by simp [keyD, PyData.depth, PyData.depthAll]
theorem rngI_get {n i : Nat} (h : i < n) : (rngI n)[i]? = some (i : Int) := by
  unfold rngI natI
  rw [List.getElem?_map, List.getElem?_range h]
  rfl
theorem vals_each : ∀ {vs : List Value} {bs : List Int}, PySem.W.EachIs (fun v (b : Int) => ∃ t, v = Value.int b t) vs bs → Vals (ivs bs) vs
  | _, _, .nil => .nil
  | _, _, .cons h t => .cons h (vals_each t)
theorem each_of {vs : List Value} {bs : List Int} (hl : vs.length = bs.length) (h : ∀ (i : Nat) (v : Value) (b : Int), vs[i]? = some v → bs[i]? = some b → ∃ t, v = Value.int b t) : PySem.W.EachIs (fun v (b : Int) => ∃ t, v = Value.int b t) vs bs :=
  PySem.W.EachIs.of_zip hl fun p hp => by
    obtain ⟨i, hi⟩ := List.mem_iff_getElem?.mp hp
    rw [List.getElem?_zip_eq_some] at hi
    exact h i _ _ hi.1 hi.2
theorem pe_sortLam {X : Cx} {tb c : Addr} {j : Nat} {a : Expr} {ta : TE} {p q1 q2 pos lpos kpos p1 p2 p3 p4 p5 p6 : Pos} {x1 : Nat} {params : Arguments} {scope : Scope} (TB : LamX.TabB X.base X.mg c tb) (hcode : X.env.code = .ref c) (hq : X.env.qual ++ "<lambda>" = lamQ) (hr : Room j X.A) (hc : X.calm = true)
    (hgs : Gl X "sorted") (hms : X.mg "sorted" = none) (hgr : Gl X "range") (hmr : X.mg "range" = none) (ha : PE X a ta) (L : KeyS scope ("prices" : Str) ("at" : Str)) (hfr : ∀ y ∈ scope.names, y.2 = .free → X.env.scope.names.lookup y.1 = some .cell ∨ X.env.scope.names.lookup y.1 = some .free) (hdef : defaultsOf params X.env = ([], []))
    (hN : X.N[0]? = some ("prices" : Str)) (hk : X.env.kindOf ("prices" : Str) = some .cell)
    (hbind : ∀ (qual : Str) (clo : List (Str × Addr)) (pm cv ctv : Value) (i : Int) (t : Tok), bindArgs (PySem.W.kla_fn "<lambda>" qual params (.Tuple [.UnaryOp .USub (.Subscript (.Name "prices" p1) (.Name "at" p2) p3) p4, .Name "at" p5] x1 p6) scope clo pm cv ctv) ⟨[Value.int i t], []⟩ = pure [(("at" : Str), Value.int i t)])
    (na : starEach [a] X.env = (false, eval a X.env) :: starEach [] X.env := by rfl) :
    PE X (.Call (.Name "sorted" p) [.Call (.Name "range" q1) [a] [] q2] [⟨some "key", .Lambda params (.Tuple [.UnaryOp .USub (.Subscript (.Name "prices" p1) (.Name "at" p2) p3) p4, .Name "at" p5] x1 p6) scope lpos, kpos⟩] pos) (tSortLam tb ta) := by
  refine ⟨fun pins s σ H Q I h => wpAny_Call_Name_kw (ld_blt I hgs hms B_sorted (callWith_kw ?_ rfl rfl rfl rfl))⟩
  show wpAny _ _ (spliced ((false, eval (.Call (.Name "range" q1) [a] [] q2) X.env) :: [])) _ _ s
  refine Calls.spliced_cons (Call_ (ld_blt I hgr hmr boot_range (callWith_type1 (one_arg ha I h (fun v s2 x H2 I2 r q => ?_) na) na)))
  obtain ⟨ps, pl, rfl, hσ, hpl, h60, hT, q⟩ := q
  obtain ⟨t, rfl⟩ := r
  refine call_range_1 (Calls.spliced_nil ?_)
  have I3 := ClX.pin_new (t' := s2.toks + 1 + 1) I2 (fun _ _ z => Heap.get?_push_of_some _ z) (Nat.le_refl _) (Heap.get?_push_size s2.heap (o := { cls := .type "range", data := .fields #[.int 0 s2.toks, .int (ps.length : Nat) t, .int 1 (s2.toks + 1)] }) rfl) (fun v z => nomatch z)
  have hfree : ∀ y ∈ scope.names, y.2 = .free → ∃ c, X.env.cells.lookup y.1 = some c := fun y hy e => I.ok.has _ (hfr y hy e)
  have hcl : ∀ cl, X.env.cells.lookup ("prices" : Str) = some cl → (cloFrom X.env.cells scope.names []).lookup ("prices" : Str) = some cl := fun cl hc => by
    have hm : (("prices" : Str), NameKind.free) ∈ scope.names := PySem.mem_of_lookup L.fr
    obtain ⟨c3, e3⟩ := mem_lookup (cloFrom_has (cells := X.env.cells) (acc := []) hm)
    rcases cloFrom_mem (PySem.mem_of_lookup e3) with z | ⟨_, h2⟩
    · cases z
    · have e4 : c3 = cl := by
        rw [h2, hc] <;> rfl
      rw [e3, e4]
  -- the key
  show wpAny _ _ (evalAll ((do let v ← eval (.Lambda params _ scope lpos) X.env; standAt pos; pure v) :: [])) _ _ _
  refine wpAny_evalAll_cons (wpAny_bind (lam_made I3 TB hcode hq hT hdef hfree fun f c' pm ctv H3 s4 I4 g4 hf hco => wpAny_bind (wpAny_standAt (wpAny_pure (wpAny_evalAll_nil ?_)))))
  -- what is known there
  obtain ⟨hr0, _⟩ := I4.pin _ (List.mem_append.mpr (.inr (List.mem_cons_self ..)))
  have hr0 : s4.heap.get? s2.heap.objs.size = some { cls := .type "range", data := .fields #[.int 0 s2.toks, .int (ps.length : Nat) t, .int 1 (s2.toks + 1)] } := hr0
  have isR : IsRange s4.heap s2.heap.objs.size 0 (ps.length : Nat) 1 s2.toks t (s2.toks + 1) := hr0
  obtain ⟨⟨oc, vs, tq, o1, o2, o3⟩, _, _⟩ := I4.hok c' _ hco
  have hpl4 := g4.lst hpl
  obtain ⟨its, rv, plst, _⟩ := I4.list (SqL.of hpl4)
  have hi : IntsAre its.toArray.toList ps := by simpa using ints_of_vals rv
  obtain ⟨cl, hcl2, hcell⟩ : ∃ cl, X.env.cells.lookup ("prices" : Str) = some cl ∧ s4.heap.IsCell cl (some (.ref pl)) := by
    obtain ⟨m, _, hl⟩ := I4.loc
    obtain ⟨u, ru, lk⟩ := hl 0 "prices" _ hN hσ (.inr (.inl hk))
    cases (show u = Value.ref pl from ru)
    rcases lk with ⟨z, _⟩ | ⟨_, cl, e, z⟩
    · rw [hk] at z; cases z
    · exact ⟨cl, e, z⟩
  -- sorted
  show wpAny _ _ (call (.builtin "sorted") [.ref s2.heap.objs.size] [(Str.ofString "key", .ref f)]) _ _ s4
  refine call_function_entry_kw kind_sorted plain_sorted entry_sorted (PyProof.Rows.ksk_s1 _ _) ?_
  unfold Builtin.«sorted»
  refine wpAny_bind (m := checkCount "sorted" 1 1 _) (wpAny_pure ?_)
  refine wpAny_bind (collect_range (n := ps.length) (by show X.A.handled = none; exact hr.hd) isR (small_one (by omega) (by omega) (by omega) (by omega)) (by rw [rangeSize_one]; split <;> omega) (by omega) fun h5 tk acc k5 hacc => ?_)
  have hz : acc.size = ps.length := hacc.1
  have hvs : acc.toList.length = ps.length := by rw [Array.length_toList]; exact hz
  refine wpAny_bind (wpAny_newList ?_ (by rw [hvs]; exact Nat.le_of_lt (small1000 (by omega))))
  have each : PySem.W.EachIs (fun v (b : Int) => ∃ t, v = Value.int b t) acc.toList (rngI ps.length) := each_of (by rw [hvs, rngI_len]) fun i v b hv hb => by
    have hlt : i < ps.length := by rw [← hvs]; exact (List.getElem?_eq_some_iff.mp hv).1
    rw [rngI_get hlt] at hb
    cases hb
    obtain ⟨t, e⟩ := hacc.2 i v (by rw [← Array.getElem?_toList]; exact hv)
    exact ⟨t, by rw [e]; congr 1; omega⟩
  have onew : (h5.push (seqObj "list" acc.toList.toArray 0)).get? h5.objs.size = some (seqObj "list" acc.toList.toArray 0) := Heap.get?_push_size _ rfl
  have k6 : ∀ b o, s4.heap.get? b = some o → (h5.push (seqObj "list" acc.toList.toArray 0)).get? b = some o := fun b o e => Heap.get?_push_of_some _ (k5 b o e)
  refine wpAny_bind (wpAny_holding (wpAny_call_entry_kw slot_list_sort ⟨_, onew, rfl⟩ entry_list_sort ?body (PyProof.Rows.ksk_l1 _ _)))
  rw [PyProof.Rows.ksk_t1]
  have un : ∀ d, d ∈ (rngI ps.length).map (keyD ps) → X.A.in1.in1.units + d.depth < cLine := fun d hd => by
    obtain ⟨b, _, rfl⟩ := List.mem_map.mp hd
    have := key_depth ps b
    have := hr.un
    show X.A.units + 1 + 1 + _ < _
    omega
  refine PySem.W.keyH_tree (vs := acc.toList) (kz := (rngI ps.length).map (keyD ps)) (s := { s4 with heap := h5.push (seqObj "list" acc.toList.toArray 0), toks := tk }) onew (by rw [List.length_map, rngI_len, hvs]) (by rw [hvs]; exact Nat.le_of_lt (small1000 (by omega))) (keys_alike ps _) (keys_sortable ps _) un (fun i v k hv hk h tk' kb => ?_) fun h7 tk7 out c7 kb hD ko => ?_
  · have hlt : i < ps.length := by rw [← hvs]; exact (List.getElem?_eq_some_iff.mp hv).1
    rw [List.getElem?_map, rngI_get hlt] at hk
    cases hk
    obtain ⟨t', ev⟩ := hacc.2 i v (by rw [← Array.getElem?_toList]; exact hv)
    have ev : v = .int (i : Int) t' := by rw [ev]; congr 1; omega
    subst ev
    have kk : ∀ b o, s4.heap.get? b = some o → h.get? b = some o := fun b o e => kb b o (Nat.ne_of_lt (Heap.lt_size (k5 b o e))) (k6 b o e)
    obtain ⟨oL, w1, w2, n, w3⟩ := plst.isList
    obtain ⟨oc2, w4, w5⟩ := hcell
    exact key_turn (k := 0) (s := { s4 with heap := h, toks := tk' }) (A := X.A.in1.in1) L (kk _ _ hf) ⟨oc, vs, tq, kk _ _ o1, o2, o3⟩ (I4.nolimit.keeps kk) hr.depth (hbind _ _ _ _ _ _ _) (hcl cl hcl2) ⟨oc2, kk _ _ w4, w5⟩ ⟨oL, kk _ _ w1, w2, n, w3⟩ hi (by omega) (by omega) h60 (by decide) (by decide) (by decide)
  · refine ⟨_, rfl, wpAny_pure ⟨_, rfl, ?_⟩⟩
    have kk : ∀ b o, s4.heap.get? b = some o → h7.get? b = some o := fun b o e => kb b o (Nat.ne_of_lt (Heap.lt_size (k5 b o e))) (k6 b o e)
    have gone : s4.heap.get? h5.objs.size = none := by
      cases e : s4.heap.get? h5.objs.size with
      | none => rfl
      | some o => exact absurd (Heap.lt_size (k5 _ _ e)) (Nat.lt_irrefl _)
    have ro := PySem.W.keyedOut_each (keyD ps) ko each
    have hl : (placesF ps).length ≤ sizeLine := by rw [places_len]; exact Nat.le_of_lt (small1000 (by omega))
    have hn : H3 h5.objs.size = none := I4.hok.gone gone
    have I5 : Inv X pins σ H3 s4 := I4.pins_of fun p hp => I4.pin p (List.mem_append.mpr (.inr (List.mem_cons_of_mem _ hp)))
    refine ⟨.ref h5.objs.size, upd H3 h5.objs.size (.lst (ivs (placesF ps))), I5.laidN (t' := tk7) kk gone hn ⟨by rw [ivs_len]; exact hl, out, c7, vals_each ro, hD⟩, rfl, q H3 _ g4 hn⟩
end VS
set_option Elab.async false
set_option linter.all false
set_option maxRecDepth 100000
set_option maxHeartbeats 4000000
namespace VS
open PySem PySem.Spec PyProof.Rows L2
theorem small_many {b c : Int} (hb : -1000 ≤ b) (hb' : b ≤ 1000) (hc : 2 ≤ c) (hc' : c ≤ 100) : Builtin.Range.small 0 b c = true := by
  have hs : 0 ≤ Builtin.Range.rangeSize 0 b c ∧ Builtin.Range.rangeSize 0 b c ≤ 1001 := by
    unfold Builtin.Range.rangeSize
    rw [if_pos (by omega)]
    split
    · have h0 : 0 ≤ (b - 0 - 1) / c := Int.ediv_nonneg (by omega) (by omega)
      have h1 : (b - 0 - 1) / c ≤ b - 0 - 1 := Int.ediv_le_self _ (by omega)
      omega
    · omega
  unfold Builtin.Range.small
  generalize Builtin.Range.rangeSize 0 b c = n at hs
  simp only [Builtin.Range.rangeFitsLong, Bool.and_eq_true, Bool.or_eq_true, decide_eq_true_eq, beq_iff_eq, show c > 0 by omega, if_true]
  omega
section
variable {J : It} {n : Nat} {G : Hp → Prop} {Y : Nat → Hp → V → Hp → Prop} {tb : Addr} {g : TG} {te : TE} {vs : List Nat} {σ : L2.St} {H1 : Hp} {D : Addr} {Qd : Hp → Prop}
/-- no test; the elements are new objects that tell bs, none of them the new list itself -/
theorem lc_relD {β : Type} (F : Hp → V → β → Prop) (w : Walk J n G Y) (bs : List β) (hn : bs.length = n) (hz : n ≤ 100000) (hD : H1 D = none) (hG : ∀ H, Gr tb H1 H → G H)
    (hm : ∀ H H' v b, Gr tb H H' → F H v b → F H' v b) (hp : ∀ H xs ys v b, H D = some (.lst xs) → F H v b → F (upd H D (.lst ys)) v b)
    (hs : ∀ i x H H' (b : β) (N : V → Hp → Prop), i < n → bs[i]? = some b → Gr tb H1 H → (∃ xs, H D = some (.lst xs)) → Y i H x H' → (∀ y H4, Gr tb H H4 → F H4 y b → N y H4) → g x (wipe σ vs) H' fun σ2 H2 => wipe σ2 vs = wipe σ vs ∧ te σ2 H2 N)
    (hd : ∀ H ys, Gr tb H1 H → H D = some (.lst ys) → Paired (F H) ys bs → Qd H) :
    ∃ W : Nat → Nat → Hp → Prop, (∃ m, W 0 m (upd H1 D (.lst []))) ∧ ∀ i m H, W i m H →
      (J.stop i H ∧ Qd H) ∨ (J.go i H ∧ ∃ Nx : Hp → Prop, (∀ H', Nx H' → ∃ m', m' < m ∧ W (i + 1) m' H') ∧ ∀ x H', J.yld i H x H' → g x (wipe σ vs) H' fun σ2 H2 => wipe σ2 vs = wipe σ vs ∧ tYes σ2 H2 fun b H3 =>
        if b = true then te σ2 H3 fun y H4 => ∃ acc, H4 D = some (.lst acc) ∧ acc.length < sizeLine ∧ Nx (upd H4 D (.lst (acc ++ [y]))) else Nx H3) := by
  refine lc_it w (fun i H => Gr tb H1 H ∧ ∃ ys, H D = some (.lst ys) ∧ Paired (F H) ys (bs.take i)) ⟨Gr.new hD, [], upd_same, .nil⟩ (fun i H _ p => hG H p.1) (fun i x H H' hi p y => ?_) fun H p => ?_
  · obtain ⟨p1, ys, p2, p3⟩ := p
    have hg : bs[i]? = some bs[i] := List.getElem?_eq_getElem (by omega)
    refine hs i x H H' bs[i] _ hi hg p1 ⟨ys, p2⟩ y fun y H4 g4 f => ⟨ys, g4.lst p2, ?_, Gr.putL (GrB.trans p1 g4) hD (g4.lst p2), _, upd_same, ?_⟩
    · rw [p3.length, List.length_take]
      exact Nat.lt_of_le_of_lt (Nat.le_trans (Nat.min_le_left _ _) (Nat.le_trans (Nat.le_of_lt hi) hz)) (by decide)
    · rw [take_snoc hg]
      exact Paired.snoc (Paired.mapP p3 fun v b q => hp _ _ _ _ _ (g4.lst p2) (hm _ _ _ _ g4 q)) (hp _ _ _ _ _ (g4.lst p2) f)
  · obtain ⟨p1, ys, p2, p3⟩ := p
    rw [List.take_of_length_le (Nat.le_of_eq hn)] at p3
    exact hd H ys p1 p2 p3
end
theorem cut_at (ps : List Int) (many : Int) (i : Nat) : cutI (placesF ps) (some ((i : Int) * many)) (some ((i : Int) * many + many)) = grpF ps many i := rfl
section
variable {P : Program} {w : World} {K : PySem.W.Frag} {mg : Str → Option Value} {base : Heap} {tb c : Addr}
theorem sc_groups_of : FnScope ["prices", "many", "places", "at"] ["prices", "many"] (defScope s_groups_of) := ⟨rfl, rfl, rfl, by decide +kernel, rfl, by decide +kernel, by decide +kernel⟩
theorem ok_groups_of (T : TX K mg) (hcT : c = (He.cT K ("groups_of", none)).1) (TB : LamX.TabB base mg c tb) : Cal P w K mg base 2 "groups_of" (spGroups tb) := by
  obtain ⟨fd, F⟩ := T.df_groups_of
  have b := F.bindsN (ps := ["prices", "many"]) fun _ _ _ _ _ _ us hl => match us, hl with | [_, _], _ => rfl
  refine cal_of F T.g_groups_of ?_ b
  obtain ⟨oc, od, dV, kV, doc, pm, an, cdv, ct, osl, rfl, lk, hcd, _, _⟩ := F.ex
  have ec : cdv = .ref c := by
    obtain ⟨c0, e0⟩ := He.codeIn_ref hcd
    rw [e0, hcT]
    exact congrArg Value.ref (He.codeOf_eq (p := ("groups_of", none)) lk e0).symm
  subst ec
  refine fn_of (k := 1) lk hcd sc_groups_of (fun vs H Q E h => ?_) fun A outer s H vs Q E hr h => ?_
  · obtain ⟨a, ps, many, rfl, _⟩ := h
    rfl
  obtain ⟨a, ps, many, rfl, ha, h60, m2, m100, tabs, q⟩ := h
  refine ⟨_, PSs.nox
    (pss_cons (ps_set (i := 2) sc_groups_of.nd rfl (Or.inr rfl) (pe_sortLam TB rfl rfl hr rfl rfl T.f_sorted rfl T.f_range (pe_callB call_len_seq rfl T.f_len B_len (pa_cons (pv 0) pa_nil)) ⟨rfl, rfl, rfl, by decide +kernel, rfl, rfl⟩ (fun y hy e => by
        rcases List.mem_cons.mp hy with rfl | hy
        · cases e
        · rw [List.mem_singleton.mp hy]; exact .inl rfl) rfl rfl rfl (fun _ _ _ _ _ _ _ => rfl)))
    (pss_one (ps_ret (pe_lc (own := [("at", 3)]) (g := gName 3) (tt := tYes) rfl sc_groups_of.nd (pi_range3 rfl T.f_range (pa_cons pe_int (pa_cons (pe_op op_add (pe_op op_sub (pe_callB call_len_seq rfl T.f_len B_len (pa_cons (pv 2) pa_nil)) (pv 1)) pe_int) (pa_cons (pv 1) pa_nil)))) (blkOk_by (own := [("at", 3)]) (N := ["prices", "many", "places", "at"]) (sc := defScope s_groups_of) (by decide +kernel)) (fun _ _ _ _ _ => (pg_name (i := 3) sc_groups_of.nd rfl (Or.inl rfl))) (fun _ _ _ _ _ => pts_nil) (fun _ _ _ _ _ => (pe_slice (sl_l T) (pv 2) (po_some (pv 3)) (po_some (pe_op op_add (pv 3) (pv 1))))))))), ?_⟩
  refine seq_set ⟨_, rfl, a, _, rfl, .inl (SqL.of ha), ps, a, by rw [ivs_len], rfl, ha, h60, tabs, fun H1 l g1 nl => ?_⟩
  have g2 : Gr tb H (upd H1 l (.lst (ivs (placesF ps)))) := g1.add nl
  have hl : upd H1 l (.lst (ivs (placesF ps))) l = some (.lst (ivs (placesF ps))) := upd_same
  generalize upd H1 l (.lst (ivs (placesF ps))) = H2 at g2 hl ⊢
  have rg : RgC 0 ((ps.length : Int) - many + 1) many (grpN ps.length many) := by
    refine ⟨by omega, by omega, ?_, ?_⟩
    · exact small_many (by omega) (by omega) m2 m100
    · unfold grpN Builtin.Range.rangeSize
      rw [if_pos (by omega)]
      split
      · have : 0 ≤ ((ps.length : Int) - many + 1 - 0 - 1) / many := Int.ediv_nonneg (by omega) (by omega)
        omega
      · rfl
  refine ⟨_, rfl, l, _, rfl, .inl (SqL.of hl), _, rfl, _, _, rfl, rfl, _, _, rfl, rfl, _, rfl, 0, _, many, grpN ps.length many, ?_, rg, fun D hD => ?_⟩
  · rw [ivs_len, places_len]
  have gN := grpN_le (n := ps.length) m2
  refine lc_relD (tb := tb) (fun H' v g => ∃ b, v = .ref b ∧ H b = none ∧ b ≠ D ∧ H' b = some (.lst (ivs g))) walk_rangeC (groupsF ps many) (by unfold groupsF; rw [List.length_map, List.length_range]) (by omega) hD (fun _ _ => trivial)
    (fun Ha Hb v g gg ⟨b, e, n, d, h⟩ => ⟨b, e, n, d, gg.lst h⟩) (fun Ha xs ys v g h1 ⟨b, e, n, d, h⟩ => ⟨b, e, n, d, by rw [upd_ne d]; exact h⟩) ?_ fun H3 ys g3 hd hys => ?_
  · rintro i x H' _ g N hi hg gg ⟨xs, hxs⟩ ⟨rfl, rfl⟩ k
    have eg : g = grpF ps many i := by
      unfold groupsF at hg
      rw [List.getElem?_map, List.getElem?_range hi] at hg
      exact (Option.some.inj hg).symm
    subst eg
    refine ⟨rfl, _, rfl, _, rfl, _, rfl, _, rfl, _, rfl, _, _, rfl, rfl, _, rfl, l, _, rfl, SqL.of (gg.lst hl), fun e he => ?_⟩
    rw [cutV_ivs, show (0 : Int) + (i : Int) * many = (i : Int) * many from Int.zero_add _]
    exact k _ _ (Gr.new he) ⟨e, rfl, (g2.trans gg).free e he, Ne.symm (ne_of_none hxs he), upd_same⟩
  · exact q H3 D ys (g2.trans g3) (g2.free D hD) hd (Paired.mapP hys fun v g ⟨b, e, n, _, h⟩ => ⟨b, e, n, h⟩)
end
end VS
set_option Elab.async false
set_option linter.all false
set_option maxRecDepth 100000
set_option maxHeartbeats 0
namespace VS
open PySem PySem.Spec PyProof.Rows L2
section
variable {P : Program} {w : World} {K : PySem.W.Frag} {mg : Str → Option Value} {base : Heap} {tb c : Addr}
/-- what each sort wants -/
theorem ok_wanted (T : TX K mg) (hcT : c = (He.cT K ("groups_of", none)).1) (TB : LamX.TabB base mg c tb) (s : SortD) : Met P w K mg base 3 (sortC K s) "wanted" (spWanted tb K s) := by
  cases s with
  | off n => exact ok_Off_wanted T n
  | share n b => exact ok_Share_wanted T n b
  | cheapest n => exact ok_Cheapest_wanted T (ok_groups_of T hcT TB) n
  | bundle n p => exact ok_Bundle_wanted T (ok_groups_of T hcT TB) n p
  | carriage => exact ok_Carriage_wanted T
end
abbrev gT (K : PySem.W.Frag) : Addr × Addr := He.cT K ("groups_of", none)
theorem law_at {w : World} {K : PySem.W.Frag} {h : Heap} {mg : Str → Option Value} {fa : Addr} (KX : K.In h) (G : h.Ns mainGlobals mg) (hmg : mg ("law" : Str) = some (.ref fa)) (c : SaysV w h K) :
    LamX.LawAtS RL w K CX0 14 63 "_law_script" mg fa h := by
  have T : TX K mg := ⟨c.t.d, c.more, ⟨h, KX, G⟩⟩
  obtain ⟨fd, F⟩ := T.df_law
  have e := hmg.symm.trans T.g_law
  cases e
  have hm : ((("groups_of", none) : He.Defn)) ∈ tf := List.mem_cons_self ..
  refine ⟨fd, [gT K], spLaw (gT K).2 K, fun p hp => ?_, fun p hp => ?_, fun p hp => ?_, fun s u => ?_, fun H a ns hl _ hT hs => ?_, fun base Kb Gb hTB => ?_⟩
  · rw [List.mem_singleton.mp hp]; exact c.empty _ hm
  · rw [List.mem_singleton.mp hp]; exact c.out _ hm
  · rw [List.mem_singleton.mp hp]; exact PySem.W.codeHd_of_K KX (c.hd _ hm)
  · exact FunD.bindsA (ps := ["_law_script"]) F (fun _ _ _ _ _ _ us hl => match us, hl with | [_], _ => rfl) s [u] rfl
  · exact ⟨a, rfl, ⟨ns, hs, hl⟩, LamX.TabS.nil (hT _ (List.mem_singleton.mpr rfl)), fun _ => rfl⟩
  · exact ok_law T (ok_wanted T rfl (hTB _ (List.mem_singleton.mpr rfl))) F
end VS
open PySem PySem.W PySem.Calls PyProof.Rows
theorem PySem.Challenge.cw_voucherstack_k36_pieces_that_are_not_the_holds : PySem.Challenge.rw_voucherstack_k36_pieces_that_are_not_the.Holds := by
  w_on; o_law
  refine HandSHeadRun.head_any (r := VS.R) (q := view VS.R.prog [66]) (H := VS.hkV) (ob := VS.obV) (M := 20000) (loose := VS.names) (d := HandSHeadRun.topDef VS.R.prog 66) (kwd := []) VS.obV_eq
    (by kernel_rfl) (fun s => by kernel_rfl) VS.run (by kernel_rfl) (by kernel_rfl) (by kernel_rfl) (by rfl) (by first | assumption | decide +kernel) (by decide +kernel) ⟨rfl, rfl, rfl, rfl, rfl, by decide +kernel⟩ ?hw ?hc
  case hw => w_witness2
  case hc =>
    refine LamX.walk_ofTsE (l := VS.RL) (n := 63) (k := 14) (x := "_law_script") (CX := fun _ => L2.CX0) rfl (by decide) (by kernel_rfl) ⟨rfl, by decide, by decide⟩ ?F (fun _ _ _ _ _ z => z)
    intro w mg fa h Y G hmg0
    obtain ⟨K, KX, c⟩ := Y
    have hmg : mg ("law" : PySem.Str) = some (.ref fa) := by
      have e : (HandSHeadRun.topDef VS.R.prog 66).name = ("law" : PySem.Str) := by kernel_rfl
      rw [← e]
      exact hmg0
    exact ⟨K, KX, VS.law_at KX G hmg c⟩
